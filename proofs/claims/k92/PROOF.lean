import PyProof.Rows.All
import Wide.All
import OpenK.AllK
import Wide.FinOn
import HandS.ForMost
import HandS.ForExc
import HandS.Codes
import HandS.TupAny
import HandS.More
import HandS.Conv
import HandS.Deep
import HandS.Zip
import HandS.Star
import HandS.SortRule
import HandS.SortInts
import HandS.Flow
import HandS.Iter
import HandS.NoneIn
import KE.KDictKeyed
import KE.KDictDisplayH
import KE.GoesDict
import KE.GoesZip
import KE.GoesMore
import KE.DataCmp
import KE.SortData
import PyProof.InstSpecial
import PySem.Challenge.RW_yardsort_k92_whole_never_both
import HandS.HeadHook3
set_option autoImplicit false
set_option linter.all false
/-! K92M: the plain law, in core Lean: yards, situations, moves, ways; a closed list excludes a way; a way stays a way when a wagon is taken away. -/
namespace K92

abbrev Move := Int × Int × Int × Int
/-- a situation -/
structure Sit where
  came : Nat
  held : List (List Int)
  gone : List Int
  deriving DecidableEq
/-- a yard: the codes of the letters, the bounds (0: none), the links -/
structure Yd where
  kinds : List Nat
  bounds : List Nat
  links : List (Int × Int)
  deriving DecidableEq

/-- s 115, q 113, d 100, i 105, o 111 -/
def outsOf (k : Nat) : List Int := if k = 115 then [1] else if k = 113 then [0] else if k = 100 then [0, 1] else if k = 105 then [0, 1] else if k = 111 then [1] else []
def insOf (k : Nat) : List Int := if k = 115 then [1] else if k = 113 then [1] else if k = 100 then [0, 1] else if k = 105 then [1] else if k = 111 then [0, 1] else []

/-- the wagon at an end, and the rest -/
def popEnd (e : Int) (l : List Int) : Option (Int × List Int) :=
  if e = 0 then (match l with | [] => none | x :: r => some (x, r)) else (l.getLast?).map fun x => (x, l.dropLast)
def putEnd (e : Int) (w : Int) (l : List Int) : List Int := if e = 0 then w :: l else l ++ [w]

def src (Y : Yd) (row : List Int) (S : Sit) (s se : Int) : Option (Int × Sit) :=
  if s < 0 then (if se = 0 then (row[S.came]?).map fun w => (w, { S with came := S.came + 1 }) else none)
  else if se ∈ outsOf (Y.kinds.getD s.toNat 0) then (popEnd se (S.held.getD s.toNat [])).map fun p => (p.1, { S with held := S.held.set s.toNat p.2 }) else none
/-- L: how many the target holds ahead of the move -/
def tgt (Y : Yd) (w : Int) (L : Nat) (S : Sit) (t te : Int) : Option Sit :=
  if t < 0 then (if te = 0 then some { S with gone := S.gone ++ [w] } else none)
  else if te ∈ insOf (Y.kinds.getD t.toNat 0) ∧ ¬ (0 < Y.bounds.getD t.toNat 0 ∧ Y.bounds.getD t.toNat 0 ≤ L) then
    some { S with held := S.held.set t.toNat (putEnd te w (S.held.getD t.toNat [])) } else none
def made (Y : Yd) (row : List Int) (S : Sit) (m : Move) : Option Sit :=
  if (m.1, m.2.2.1) ∈ Y.links then (src Y row S m.1 m.2.1).bind fun p => tgt Y p.1 (S.held.getD m.2.2.1.toNat []).length p.2 m.2.2.1 m.2.2.2 else none

def upTo (n : Nat) : List Int := (List.range n).map fun i => ((i : Nat) : Int) + 1
theorem upTo_length (n : Nat) : (upTo n).length = n := by simp [upTo]
theorem upTo_succ (n : Nat) : upTo (n + 1) = upTo n ++ [((n : Nat) : Int) + 1] := by simp [upTo, List.range_succ]
theorem mem_upTo {n : Nat} {x : Int} : x ∈ upTo n ↔ 1 ≤ x ∧ x ≤ n := by
  simp only [upTo, List.mem_map, List.mem_range]
  constructor
  · rintro ⟨i, hi, rfl⟩; omega
  · rintro ⟨h1, h2⟩
    exact ⟨(x - 1).toNat, by omega, by omega⟩
def live (S : Sit) : Bool := decide (S.gone = upTo S.gone.length)
theorem live_iff {S : Sit} : live S = true ↔ S.gone = upTo S.gone.length := by simp [live]

def first (Y : Yd) : Sit := ⟨0, Y.kinds.map fun _ => [], []⟩
inductive Reach (Y : Yd) (row : List Int) : Sit → Prop where
  | init : Reach Y row (first Y)
  | step {S S' : Sit} {m : Move} : Reach Y row S → made Y row S m = some S' → Reach Y row S'
def Way (Y : Yd) (row : List Int) : Prop := ∃ S, Reach Y row S ∧ S.gone = upTo row.length

theorem upTo_prefix {l : List Int} {w : Int} (h : l ++ [w] = upTo (l ++ [w]).length) : l = upTo l.length := by
  rw [List.length_append, List.length_singleton, upTo_succ] at h
  exact (List.append_inj h (by rw [upTo_length])).1
theorem src_gone {Y : Yd} {row : List Int} {S S' : Sit} {s se w : Int} (h : src Y row S s se = some (w, S')) : S'.gone = S.gone := by
  unfold src at h
  split at h
  · split at h
    · cases e : row[S.came]? with
      | none => rw [e] at h; cases h
      | some x =>
        rw [e] at h
        simp only [Option.map_some, Option.some.injEq, Prod.mk.injEq] at h
        rw [← h.2]
    · cases h
  · split at h
    · cases e : popEnd se (S.held.getD s.toNat []) with
      | none => rw [e] at h; cases h
      | some x =>
        rw [e] at h
        simp only [Option.map_some, Option.some.injEq, Prod.mk.injEq] at h
        rw [← h.2]
    · cases h
theorem made_parts {Y : Yd} {row : List Int} {S S' : Sit} {m : Move} (h : made Y row S m = some S') : (m.1, m.2.2.1) ∈ Y.links ∧ ∃ w S1, src Y row S m.1 m.2.1 = some (w, S1) ∧ tgt Y w (S.held.getD m.2.2.1.toNat []).length S1 m.2.2.1 m.2.2.2 = some S' := by
  unfold made at h
  split at h
  · rename_i hl
    cases e : src Y row S m.1 m.2.1 with
    | none => rw [e] at h; cases h
    | some p =>
      rw [e] at h
      exact ⟨hl, p.1, p.2, rfl, h⟩
  · cases h
theorem made_of {Y : Yd} {row : List Int} {S S1 S' : Sit} {m : Move} {w : Int} (hl : (m.1, m.2.2.1) ∈ Y.links) (h1 : src Y row S m.1 m.2.1 = some (w, S1)) (h2 : tgt Y w (S.held.getD m.2.2.1.toNat []).length S1 m.2.2.1 m.2.2.2 = some S') : made Y row S m = some S' := by
  unfold made
  rw [if_pos hl, h1]
  exact h2
theorem tgt_gone {Y : Yd} {w : Int} {L : Nat} {S S' : Sit} {t te : Int} (h : tgt Y w L S t te = some S') : S'.gone = S.gone ∨ S'.gone = S.gone ++ [w] := by
  unfold tgt at h
  split at h
  · split at h
    · cases h; exact .inr rfl
    · cases h
  · split at h
    · cases h; exact .inl rfl
    · cases h
theorem made_live {Y : Yd} {row : List Int} {S S' : Sit} {m : Move} (h : made Y row S m = some S') (l : live S' = true) : live S = true := by
  obtain ⟨_, w, S1, h1, h2⟩ := made_parts h
  rw [live_iff] at l ⊢
  have e1 := src_gone h1
  rcases tgt_gone h2 with e | e
  · rw [e, e1] at l; exact l
  · rw [e, e1] at l; exact upTo_prefix l
theorem live_upTo {S : Sit} {n : Nat} (h : S.gone = upTo n) : live S = true := by
  rw [live_iff, h, upTo_length]

/-- a closed list of situations: no way ([243]) -/
theorem closed_noway {Y : Yd} {row : List Int} {known : Sit → Prop} (h0 : known (first Y)) (hg : ∀ S, known S → S.gone.length ≠ row.length)
    (hs : ∀ S, known S → ∀ m S', made Y row S m = some S' → live S' = true → known S') : ¬ Way Y row := by
  rintro ⟨S, hr, he⟩
  have key : ∀ S, Reach Y row S → live S = true → known S := by
    intro S hr
    induction hr with
    | init => exact fun _ => h0
    | step r h ih => exact fun l => hs _ (ih (made_live h l)) _ _ h l
  exact hg S (key S hr (live_upTo he)) (by rw [he, upTo_length])

/-! ### a wagon is taken away -/
def dec (w x : Int) : Int := if w < x then x - 1 else x
def rem (w : Int) (l : List Int) : List Int := (l.filter fun x => decide (x ≠ w)).map (dec w)
theorem rem_nil (w : Int) : rem w [] = [] := rfl
theorem rem_append (w : Int) (a b : List Int) : rem w (a ++ b) = rem w a ++ rem w b := by simp [rem]
theorem rem_self (w : Int) (l : List Int) : rem w (w :: l) = rem w l := by simp [rem]
theorem rem_other {w x : Int} (h : x ≠ w) (l : List Int) : rem w (x :: l) = dec w x :: rem w l := by simp [rem, h]
theorem rem_one_self (w : Int) : rem w [w] = [] := by simp [rem]
theorem rem_one {w x : Int} (h : x ≠ w) : rem w [x] = [dec w x] := by simp [rem, h]
theorem rem_length (w : Int) (l : List Int) : (rem w l).length ≤ l.length := by
  unfold rem
  rw [List.length_map]
  exact List.length_filter_le _ _
def remS (w : Int) (row : List Int) (S : Sit) : Sit := ⟨(rem w (row.take S.came)).length, S.held.map (rem w), rem w S.gone⟩

theorem getD_map_rem (w : Int) (L : List (List Int)) (i : Nat) : (L.map (rem w)).getD i [] = rem w (L.getD i []) := by
  rw [List.getD_eq_getElem?_getD, List.getD_eq_getElem?_getD, List.getElem?_map]
  cases L[i]? with
  | none => rfl
  | some x => rfl
theorem set_getD_self (L : List (List Int)) (i : Nat) : L.set i (L.getD i []) = L := by
  by_cases h : i < L.length
  · rw [List.getD_eq_getElem?_getD, List.getElem?_eq_getElem h]
    exact List.set_getElem_self h
  · exact List.set_eq_of_length_le (by omega)
theorem last_split {l : List Int} {x : Int} (h : l.getLast? = some x) : l = l.dropLast ++ [x] := by
  have hn : l ≠ [] := by intro z; rw [z] at h; cases h
  rw [List.getLast?_eq_some_getLast hn] at h
  rw [← Option.some.inj h]
  exact (List.dropLast_concat_getLast hn).symm
theorem rem_popEnd_self {w e : Int} {l l' : List Int} (h : popEnd e l = some (w, l')) : rem w l = rem w l' := by
  unfold popEnd at h
  split at h
  · cases l with
    | nil => cases h
    | cons x r =>
      simp only [Option.some.injEq, Prod.mk.injEq] at h
      obtain ⟨rfl, rfl⟩ := h
      exact rem_self _ _
  · cases e : l.getLast? with
    | none => rw [e] at h; cases h
    | some x =>
      rw [e] at h
      simp only [Option.map_some, Option.some.injEq, Prod.mk.injEq] at h
      obtain ⟨rfl, rfl⟩ := h
      have q : l = l.dropLast ++ [x] := by
        exact (last_split e)
      rw [q, rem_append, rem_one_self, List.append_nil]
      simp
theorem rem_popEnd {w e x : Int} {l l' : List Int} (hx : x ≠ w) (h : popEnd e l = some (x, l')) : popEnd e (rem w l) = some (dec w x, rem w l') := by
  unfold popEnd at h ⊢
  split at h
  · rename_i e0
    rw [if_pos e0]
    cases l with
    | nil => cases h
    | cons y r =>
      simp only [Option.some.injEq, Prod.mk.injEq] at h
      obtain ⟨rfl, rfl⟩ := h
      rw [rem_other hx]
  · rename_i e0
    rw [if_neg e0]
    cases e : l.getLast? with
    | none => rw [e] at h; cases h
    | some y =>
      rw [e] at h
      simp only [Option.map_some, Option.some.injEq, Prod.mk.injEq] at h
      obtain ⟨rfl, rfl⟩ := h
      have q : l = l.dropLast ++ [y] := by
        exact (last_split e)
      have q2 : rem w l = rem w l.dropLast ++ [dec w y] := by
        rw [← rem_one hx, ← rem_append, ← q]
      rw [q2]
      simp
theorem rem_putEnd_self (w e : Int) (l : List Int) : rem w (putEnd e w l) = rem w l := by
  unfold putEnd
  split
  · exact rem_self _ _
  · rw [rem_append, rem_one_self, List.append_nil]
theorem rem_putEnd {w e x : Int} (h : x ≠ w) (l : List Int) : rem w (putEnd e x l) = putEnd e (dec w x) (rem w l) := by
  unfold putEnd
  split
  · exact rem_other h _
  · rw [rem_append, rem_one h]

theorem take_succ_of {row : List Int} {i : Nat} {x : Int} (h : row[i]? = some x) : row.take (i + 1) = row.take i ++ [x] := by
  rw [List.take_succ, h]; rfl
theorem rem_at {w x : Int} {row : List Int} {i : Nat} (hx : x ≠ w) (h : row[i]? = some x) : (rem w row)[(rem w (row.take i)).length]? = some (dec w x) := by
  have hi : i < row.length := (List.getElem?_eq_some_iff.mp h).1
  have q : row = row.take i ++ (x :: row.drop (i + 1)) := by
    have e : row.drop i = x :: row.drop (i + 1) := by
      rw [List.drop_eq_getElem_cons hi]
      rw [List.getElem?_eq_getElem hi] at h
      rw [Option.some.inj h]
    rw [← e, List.take_append_drop]
  have : rem w row = rem w (row.take i) ++ (dec w x :: rem w (row.drop (i + 1))) := by
    rw [← rem_other hx, ← rem_append, ← q]
  rw [this, List.getElem?_append_right (Nat.le_refl _), Nat.sub_self]
  rfl

theorem remS_gone (w : Int) (row : List Int) (S : Sit) : (remS w row S).gone = rem w S.gone := rfl
/-- the source's half -/
theorem src_rem_self {Y : Yd} {row : List Int} {S S1 : Sit} {s se w : Int} (h : src Y row S s se = some (w, S1)) : remS w row S1 = remS w row S := by
  unfold src at h
  split at h
  · split at h
    · cases e : row[S.came]? with
      | none => rw [e] at h; cases h
      | some x =>
        rw [e] at h
        simp only [Option.map_some, Option.some.injEq, Prod.mk.injEq] at h
        obtain ⟨rfl, rfl⟩ := h
        unfold remS
        simp only [take_succ_of e, rem_append, rem_one_self, List.append_nil]
    · cases h
  · split at h
    · cases e : popEnd se (S.held.getD s.toNat []) with
      | none => rw [e] at h; cases h
      | some p =>
        rw [e] at h
        simp only [Option.map_some, Option.some.injEq, Prod.mk.injEq] at h
        obtain ⟨rfl, rfl⟩ := h
        have q := rem_popEnd_self (w := p.1) (l' := p.2) e
        unfold remS
        simp only [Sit.mk.injEq, and_true, true_and]
        rw [List.map_set, ← q, ← getD_map_rem, set_getD_self]
    · cases h
theorem src_rem {Y : Yd} {row : List Int} {S S1 : Sit} {s se w x : Int} (hx : x ≠ w) (h : src Y row S s se = some (x, S1)) : src Y (rem w row) (remS w row S) s se = some (dec w x, remS w row S1) := by
  unfold src at h ⊢
  split at h
  · rename_i hs
    rw [if_pos hs]
    split at h
    · rename_i h0
      rw [if_pos h0]
      cases e : row[S.came]? with
      | none => rw [e] at h; cases h
      | some y =>
        rw [e] at h
        simp only [Option.map_some, Option.some.injEq, Prod.mk.injEq] at h
        obtain ⟨rfl, rfl⟩ := h
        show ((rem w row)[(rem w (row.take S.came)).length]?).map _ = _
        rw [rem_at hx e]
        unfold remS
        simp only [Option.map_some, take_succ_of e, rem_append, rem_one hx, List.length_append, List.length_singleton]
    · cases h
  · rename_i hs
    rw [if_neg hs]
    split at h
    · rename_i hi
      rw [if_pos hi]
      cases e : popEnd se (S.held.getD s.toNat []) with
      | none => rw [e] at h; cases h
      | some p =>
        rw [e] at h
        simp only [Option.map_some, Option.some.injEq, Prod.mk.injEq] at h
        obtain ⟨rfl, rfl⟩ := h
        have q := rem_popEnd (w := w) (l' := p.2) hx e
        show (popEnd se ((S.held.map (rem w)).getD s.toNat [])).map _ = _
        rw [getD_map_rem, q]
        unfold remS
        simp only [Option.map_some, List.map_set]
    · cases h
/-- the target's half -/
theorem tgt_rem_self {Y : Yd} {row : List Int} {S S' : Sit} {t te w : Int} {L : Nat} (h : tgt Y w L S t te = some S') : remS w row S' = remS w row S := by
  unfold tgt at h
  split at h
  · split at h
    · cases h
      unfold remS
      simp only [rem_append, rem_one_self, List.append_nil]
    · cases h
  · split at h
    · cases h
      unfold remS
      simp only [Sit.mk.injEq, and_true, true_and]
      rw [List.map_set, rem_putEnd_self, ← getD_map_rem, set_getD_self]
    · cases h
theorem tgt_rem {Y : Yd} {row : List Int} {S S' : Sit} {t te w x : Int} {L L' : Nat} (hx : x ≠ w) (hL : L' ≤ L) (h : tgt Y x L S t te = some S') : tgt Y (dec w x) L' (remS w row S) t te = some (remS w row S') := by
  unfold tgt at h ⊢
  split at h
  · rename_i ht
    rw [if_pos ht]
    split at h
    · rename_i h0
      rw [if_pos h0]
      cases h
      unfold remS
      simp only [rem_append, rem_one hx]
    · cases h
  · rename_i ht
    rw [if_neg ht]
    split at h
    · rename_i hc
      rw [if_pos ⟨hc.1, fun z => hc.2 ⟨z.1, Nat.le_trans z.2 hL⟩⟩]
      cases h
      unfold remS
      simp only [List.map_set, rem_putEnd hx, getD_map_rem]
    · cases h
theorem made_rem {Y : Yd} {row : List Int} {S S' : Sit} {m : Move} (w : Int) (h : made Y row S m = some S') : remS w row S' = remS w row S ∨ made Y (rem w row) (remS w row S) m = some (remS w row S') := by
  obtain ⟨hl, x, S1, h1, h2⟩ := made_parts h
  by_cases hx : x = w
  · subst hx
    exact .inl ((tgt_rem_self h2).trans (src_rem_self h1))
  · refine .inr (made_of hl (src_rem hx h1) (tgt_rem hx ?_ h2))
    show ((S.held.map (rem w)).getD _ []).length ≤ _
    rw [getD_map_rem]
    exact rem_length _ _
theorem remS_first (w : Int) (Y : Yd) (row : List Int) : remS w row (first Y) = first Y := by
  unfold remS first
  simp [rem_nil]
theorem reach_rem {Y : Yd} {row : List Int} {S : Sit} (w : Int) (h : Reach Y row S) : Reach Y (rem w row) (remS w row S) := by
  induction h with
  | init => rw [remS_first]; exact .init
  | step r h ih =>
    rcases made_rem w h with e | e
    · rw [e]; exact ih
    · exact .step ih e

theorem rem_upTo_big {w : Int} : ∀ n : Nat, (n : Int) < w → rem w (upTo n) = upTo n := by
  intro n
  induction n with
  | zero => intro _; rfl
  | succ n ih =>
    intro h
    rw [upTo_succ, rem_append, ih (by omega), rem_one (by omega)]
    congr 2
    unfold dec
    rw [if_neg (by omega)]
theorem rem_upTo {w : Int} : ∀ n : Nat, 1 ≤ w → w ≤ n → rem w (upTo n) = upTo (n - 1) := by
  intro n
  induction n with
  | zero => intro h1 h2; omega
  | succ n ih =>
    intro h1 h2
    rw [upTo_succ, rem_append]
    by_cases e : w = n + 1
    · subst e
      rw [rem_one_self, List.append_nil]
      exact rem_upTo_big n (by omega)
    · rw [ih h1 (by omega), rem_one (by omega)]
      have : n + 1 - 1 = (n - 1) + 1 := by omega
      rw [this, upTo_succ]
      congr 2
      unfold dec
      rw [if_pos (by omega)]
      omega

/-- a row: each of 1 to n once -/
def IsRow (row : List Int) : Prop := row.Perm (upTo row.length)
theorem rem_perm {w : Int} {a b : List Int} (h : a.Perm b) : (rem w a).Perm (rem w b) := (h.filter _).map _
theorem IsRow.mem {row : List Int} (h : IsRow row) {x : Int} : x ∈ row ↔ 1 ≤ x ∧ x ≤ row.length := by
  rw [List.Perm.mem_iff h, mem_upTo]
theorem IsRow.rem_len {row : List Int} (h : IsRow row) {w : Int} (h1 : 1 ≤ w) (h2 : w ≤ row.length) : (rem w row).length = row.length - 1 := by
  have p := (rem_perm (w := w) h).length_eq
  rw [rem_upTo _ h1 h2, upTo_length] at p
  exact p
theorem IsRow.rem {row : List Int} (h : IsRow row) {w : Int} (h1 : 1 ≤ w) (h2 : w ≤ row.length) : IsRow (rem w row) := by
  have p := rem_perm (w := w) h
  rw [rem_upTo _ h1 h2] at p
  unfold IsRow
  rw [h.rem_len h1 h2]
  exact p
/-- a way of a row is one of the row without a wagon ([29]) -/
theorem Way.rem {Y : Yd} {row : List Int} (h : Way Y row) (hr : IsRow row) {w : Int} (h1 : 1 ≤ w) (h2 : w ≤ row.length) : Way Y (rem w row) := by
  obtain ⟨S, r, e⟩ := h
  refine ⟨remS w row S, reach_rem w r, ?_⟩
  rw [remS_gone, e, rem_upTo _ h1 h2, hr.rem_len h1 h2]

/-! ### a wagon is put in -/
def inc (w x : Int) : Int := if w ≤ x then x + 1 else x
theorem dec_inc (w x : Int) : dec w (inc w x) = x := by unfold dec inc; split <;> split <;> omega
theorem inc_ne (w x : Int) : inc w x ≠ w := by unfold inc; split <;> omega
theorem rem_map_inc (w : Int) : ∀ l : List Int, rem w (l.map (inc w)) = l
  | [] => rfl
  | x :: r => by
    rw [List.map_cons, rem_other (inc_ne w x), dec_inc, rem_map_inc w r]
def putAt (w : Int) (i : Nat) (l : List Int) : List Int := (l.map (inc w)).take i ++ w :: (l.map (inc w)).drop i
theorem rem_putAt (w : Int) (i : Nat) (l : List Int) : rem w (putAt w i l) = l := by
  unfold putAt
  rw [rem_append, rem_self, ← rem_append, List.take_append_drop, rem_map_inc]
theorem putAt_length (w : Int) (i : Nat) (l : List Int) : (putAt w i l).length = l.length + 1 := by
  unfold putAt
  simp only [List.length_append, List.length_cons, List.length_take, List.length_drop, List.length_map]
  omega
theorem inc_upTo {w : Int} : ∀ n : Nat, 1 ≤ w → w ≤ n + 1 → (w :: (upTo n).map (inc w)).Perm (upTo (n + 1)) := by
  intro n
  induction n with
  | zero =>
    intro h1 h2
    have e : w = 1 := by omega
    subst e
    exact .refl _
  | succ n ih =>
    intro h1 h2
    by_cases e : w = n + 2
    · have big : ∀ m : Nat, (m : Int) < w → (upTo m).map (inc w) = upTo m := by
        intro m
        induction m with
        | zero => intro _; rfl
        | succ m ihm =>
          intro h
          rw [upTo_succ, List.map_append, ihm (by omega)]
          congr 1
          simp only [List.map_cons, List.map_nil, List.cons.injEq, and_true]
          unfold inc
          rw [if_neg (by omega)]
      rw [big (n + 1) (by omega), upTo_succ (n + 1), e]
      have : ((n + 1 : Nat) : Int) + 1 = (n : Int) + 2 := by omega
      rw [this]
      exact (List.perm_append_singleton _ _).symm
    · rw [upTo_succ n, List.map_append, upTo_succ (n + 1)]
      have q : ([((n : Nat) : Int) + 1].map (inc w)) = [((n + 1 : Nat) : Int) + 1] := by
        simp only [List.map_cons, List.map_nil, List.cons.injEq, and_true]
        unfold inc
        rw [if_pos (by omega)]
        omega
      rw [q]
      exact (ih h1 (by omega)).append_right _
theorem IsRow.putAt {row : List Int} (h : IsRow row) {w : Int} (i : Nat) (h1 : 1 ≤ w) (h2 : w ≤ row.length + 1) : IsRow (putAt w i row) := by
  unfold IsRow
  rw [putAt_length]
  have p1 : (K92.putAt w i row).Perm (w :: row.map (inc w)) := by
    unfold K92.putAt
    refine List.perm_middle.trans ?_
    rw [List.take_append_drop]
  exact p1.trans (((h.map (inc w)).cons w).trans (inc_upTo _ h1 h2))
theorem Way.of_putAt {Y : Yd} {row : List Int} {w : Int} {i : Nat} (h : Way Y (putAt w i row)) (hr : IsRow row) (h1 : 1 ≤ w) (h2 : w ≤ row.length + 1) : Way Y row := by
  have q := h.rem (hr.putAt i h1 h2) h1 (by rw [putAt_length]; omega)
  rw [rem_putAt] at q
  exact q

/-! ### well formed yards and situations -/
def letters : List Nat := [115, 113, 100, 105, 111]
structure YOk (Y : Yd) : Prop where
  len : Y.bounds.length = Y.kinds.length
  few : Y.kinds.length ≤ 8
  let_ : ∀ k ∈ Y.kinds, k ∈ letters
  bnd : ∀ b ∈ Y.bounds, b ≤ 6
  lnk : ∀ l ∈ Y.links, -1 ≤ l.1 ∧ l.1 < Y.kinds.length ∧ -1 ≤ l.2 ∧ l.2 < Y.kinds.length
  nd : Y.links.Nodup
  many : Y.links.length ≤ 100
def total (L : List (List Int)) : Nat := (L.map List.length).sum
structure WFS (Y : Yd) (row : List Int) (S : Sit) : Prop where
  held : S.held.length = Y.kinds.length
  came : S.came ≤ row.length
  few : row.length ≤ 60
  sum : S.gone.length + total S.held = S.came
theorem total_le {L : List (List Int)} {l : List Int} (h : l ∈ L) : l.length ≤ total L := by
  unfold total
  induction L with
  | nil => cases h
  | cons a r ih =>
    rw [List.map_cons, List.sum_cons]
    rcases List.mem_cons.mp h with e | e
    · rw [e]; omega
    · have := ih e; omega
theorem total_set : ∀ {L : List (List Int)} {i : Nat} {l l' : List Int}, L[i]? = some l → total (L.set i l') + l.length = total L + l'.length
  | [], _, _, _, h => by simp at h
  | a :: r, 0, l, l', h => by
    simp only [List.getElem?_cons_zero, Option.some.injEq] at h
    subst h
    unfold total
    simp only [List.set_cons_zero, List.map_cons, List.sum_cons]
    omega
  | a :: r, i + 1, l, l', h => by
    have ih := total_set (L := r) (i := i) (l := l) (l' := l') (by simpa using h)
    unfold total at ih ⊢
    simp only [List.set_cons_succ, List.map_cons, List.sum_cons]
    omega
theorem popEnd_length {e w : Int} {l l' : List Int} (h : popEnd e l = some (w, l')) : l.length = l'.length + 1 := by
  unfold popEnd at h
  split at h
  · cases l with
    | nil => cases h
    | cons x r =>
      simp only [Option.some.injEq, Prod.mk.injEq] at h
      rw [← h.2]
      rfl
  · cases e : l.getLast? with
    | none => rw [e] at h; cases h
    | some x =>
      rw [e] at h
      simp only [Option.map_some, Option.some.injEq, Prod.mk.injEq] at h
      have q := last_split e
      rw [← h.2]
      have := congrArg List.length q
      rw [List.length_append, List.length_singleton] at this
      exact this
theorem putEnd_length (e w : Int) (l : List Int) : (putEnd e w l).length = l.length + 1 := by
  unfold putEnd
  split <;> simp
theorem popEnd_some {e w : Int} {l l' : List Int} (h : popEnd e l = some (w, l')) : l ≠ [] := by
  intro z
  have := popEnd_length h
  rw [z] at this
  cases this
theorem first_wf {Y : Yd} {row : List Int} (h : row.length ≤ 60) : WFS Y row (first Y) := by
  refine ⟨by simp [first], Nat.zero_le _, h, ?_⟩
  unfold first total
  simp only [List.length_nil, List.map_map]
  induction Y.kinds with
  | nil => rfl
  | cons a r ih => simpa using ih
theorem getD_of_ne {L : List (List Int)} {i : Nat} (h : L.getD i [] ≠ []) : L[i]? = some (L.getD i []) := by
  rw [List.getD_eq_getElem?_getD] at h ⊢
  cases e : L[i]? with
  | none => rw [e] at h; exact absurd rfl h
  | some x => rfl
theorem src_wf {Y : Yd} {row : List Int} {S S1 : Sit} {s se w : Int} (wf : WFS Y row S) (h : src Y row S s se = some (w, S1)) : S1.held.length = Y.kinds.length ∧ S1.came ≤ row.length ∧ S1.gone.length + total S1.held + 1 = S1.came := by
  obtain ⟨w1, w2, w3, w4⟩ := wf
  unfold src at h
  split at h
  · split at h
    · cases e : row[S.came]? with
      | none => rw [e] at h; cases h
      | some x =>
        rw [e] at h
        simp only [Option.map_some, Option.some.injEq, Prod.mk.injEq] at h
        rw [← h.2]
        have := (List.getElem?_eq_some_iff.mp e).1
        refine ⟨w1, this, ?_⟩
        show S.gone.length + total S.held + 1 = S.came + 1
        omega
    · cases h
  · split at h
    · cases e : popEnd se (S.held.getD s.toNat []) with
      | none => rw [e] at h; cases h
      | some p =>
        rw [e] at h
        simp only [Option.map_some, Option.some.injEq, Prod.mk.injEq] at h
        rw [← h.2]
        have q1 := popEnd_length (l' := p.2) e
        have q2 := total_set (l' := p.2) (getD_of_ne (popEnd_some (l' := p.2) e))
        refine ⟨by rw [List.length_set]; exact w1, w2, ?_⟩
        show S.gone.length + total (S.held.set s.toNat p.2) + 1 = S.came
        omega
    · cases h
theorem made_wf {Y : Yd} {row : List Int} {S S' : Sit} {m : Move} (ok : YOk Y) (wf : WFS Y row S) (h : made Y row S m = some S') : WFS Y row S' := by
  obtain ⟨hl, w, S1, h1, h2⟩ := made_parts h
  obtain ⟨a1, a2, a3⟩ := src_wf wf h1
  obtain ⟨_, _, l3, l4⟩ := ok.lnk _ hl
  unfold tgt at h2
  split at h2
  · split at h2
    · cases h2
      refine ⟨a1, a2, wf.few, ?_⟩
      show (S1.gone ++ [w]).length + total S1.held = S1.came
      rw [List.length_append, List.length_singleton]
      omega
    · cases h2
  · rename_i ht
    split at h2
    · cases h2
      have hi : m.2.2.1.toNat < S1.held.length := by
        have : 0 ≤ m.2.2.1 := by omega
        have l4' : m.2.2.1 < Y.kinds.length := l4
        omega
      have e : S1.held[m.2.2.1.toNat]? = some (S1.held.getD m.2.2.1.toNat []) := by
        rw [List.getD_eq_getElem?_getD, List.getElem?_eq_getElem hi]
        rfl
      have q2 := total_set (l' := putEnd m.2.2.2 w (S1.held.getD m.2.2.1.toNat [])) e
      rw [putEnd_length] at q2
      refine ⟨by rw [List.length_set]; exact a1, a2, wf.few, ?_⟩
      show S1.gone.length + total (S1.held.set m.2.2.1.toNat (putEnd m.2.2.2 w (S1.held.getD m.2.2.1.toNat []))) = S1.came
      omega
    · cases h2
theorem reach_wf {Y : Yd} {row : List Int} {S : Sit} (ok : YOk Y) (hr : row.length ≤ 60) (h : Reach Y row S) : WFS Y row S := by
  induction h with
  | init => exact first_wf hr
  | step _ h ih => exact made_wf ok ih h
theorem outs_01 {k : Nat} {e : Int} (h : e ∈ outsOf k) : e = 0 ∨ e = 1 := by
  unfold outsOf at h
  repeat (split at h; · simp at h; omega)
  cases h
theorem ins_01 {k : Nat} {e : Int} (h : e ∈ insOf k) : e = 0 ∨ e = 1 := by
  unfold insOf at h
  repeat (split at h; · simp at h; omega)
  cases h
/-- a move that can be made uses the ends 0 and 1 alone -/
theorem made_ends {Y : Yd} {row : List Int} {S S' : Sit} {m : Move} (h : made Y row S m = some S') : (m.2.1 = 0 ∨ m.2.1 = 1) ∧ (m.2.2.2 = 0 ∨ m.2.2.2 = 1) := by
  obtain ⟨_, w, S1, h1, h2⟩ := made_parts h
  constructor
  · unfold src at h1
    split at h1
    · split at h1
      · rename_i e; exact .inl e
      · cases h1
    · split at h1
      · rename_i e; exact outs_01 e
      · cases h1
  · unfold tgt at h2
    split at h2
    · split at h2
      · rename_i e; exact .inl e
      · cases h2
    · split at h2
      · rename_i e; exact ins_01 e.1
      · cases h2

/-! ### the ends at which wagons can go, as the search asks for them -/
def srcEnds (Y : Yd) (row : List Int) (S : Sit) (s : Int) : List Int :=
  if s = -1 then (if S.came < row.length then [0] else []) else if S.held.getD s.toNat [] = [] then [] else outsOf (Y.kinds.getD s.toNat 0)
def tgtEnds (Y : Yd) (S : Sit) (t : Int) : List Int :=
  if t = -1 then [0] else if Y.bounds.getD t.toNat 0 = 0 ∨ (S.held.getD t.toNat []).length < Y.bounds.getD t.toNat 0 then insOf (Y.kinds.getD t.toNat 0) else []
theorem popEnd_isSome {e : Int} {l : List Int} (h : l ≠ []) : ∃ w l', popEnd e l = some (w, l') := by
  unfold popEnd
  split
  · cases l with
    | nil => exact absurd rfl h
    | cons x r => exact ⟨x, r, rfl⟩
  · rw [List.getLast?_eq_some_getLast h]
    exact ⟨_, _, rfl⟩
theorem src_iff {Y : Yd} {row : List Int} {S : Sit} {s se : Int} (hs : -1 ≤ s) : (∃ w S1, src Y row S s se = some (w, S1)) ↔ se ∈ srcEnds Y row S s := by
  unfold src srcEnds
  by_cases h : s = -1
  · subst h
    rw [if_pos (by decide), if_pos rfl]
    by_cases hc : S.came < row.length
    · rw [if_pos hc, List.getElem?_eq_getElem hc]
      by_cases e : se = 0
      · simp [e]
      · simp [e]
    · rw [if_neg hc, List.getElem?_eq_none (by omega)]
      simp
  · rw [if_neg (by omega), if_neg h]
    by_cases hn : S.held.getD s.toNat [] = []
    · rw [if_pos hn, hn]
      simp [popEnd]
    · rw [if_neg hn]
      by_cases hm : se ∈ outsOf (Y.kinds.getD s.toNat 0)
      · rw [if_pos hm]
        obtain ⟨w, l', e⟩ := popEnd_isSome (e := se) hn
        rw [e]
        exact ⟨fun _ => hm, fun _ => ⟨_, _, rfl⟩⟩
      · rw [if_neg hm]
        exact ⟨fun ⟨_, _, z⟩ => (nomatch z), fun z => absurd z hm⟩
theorem tgt_iff {Y : Yd} {S S1 : Sit} {t te w : Int} (ht : -1 ≤ t) : (∃ S', tgt Y w (S.held.getD t.toNat []).length S1 t te = some S') ↔ te ∈ tgtEnds Y S t := by
  unfold tgt tgtEnds
  by_cases h : t = -1
  · subst h
    rw [if_pos (by decide), if_pos rfl]
    by_cases e : te = 0 <;> simp [e]
  · rw [if_neg (by omega), if_neg h]
    by_cases hb : Y.bounds.getD t.toNat 0 = 0 ∨ (S.held.getD t.toNat []).length < Y.bounds.getD t.toNat 0
    · rw [if_pos hb]
      by_cases hm : te ∈ insOf (Y.kinds.getD t.toNat 0)
      · rw [if_pos ⟨hm, by omega⟩]
        exact ⟨fun _ => hm, fun _ => ⟨_, rfl⟩⟩
      · rw [if_neg (fun z => hm z.1)]
        exact ⟨fun ⟨_, z⟩ => (nomatch z), fun z => absurd z hm⟩
    · rw [if_neg hb, if_neg (fun z => z.2 (by omega))]
      simp
theorem made_iff {Y : Yd} {row : List Int} {S : Sit} {s se t te : Int} (hs : -1 ≤ s) (ht : -1 ≤ t) : (∃ S', made Y row S (s, se, t, te) = some S') ↔ (s, t) ∈ Y.links ∧ se ∈ srcEnds Y row S s ∧ te ∈ tgtEnds Y S t := by
  constructor
  · rintro ⟨S', h⟩
    obtain ⟨hl, w, S1, h1, h2⟩ := made_parts h
    exact ⟨hl, (src_iff hs).mp ⟨w, S1, h1⟩, (tgt_iff ht).mp ⟨S', h2⟩⟩
  · rintro ⟨hl, h1, h2⟩
    obtain ⟨w, S1, e1⟩ := (src_iff hs).mpr h1
    obtain ⟨S', e2⟩ := (tgt_iff (S1 := S1) (w := w) ht).mpr h2
    exact ⟨S', made_of (m := (s, se, t, te)) hl e1 e2⟩
/-- what a finished search knows: no way -/
theorem search_noway {Y : Yd} {row : List Int} {met : List Sit} (h0 : first Y ∈ met) (hg : ∀ S ∈ met, S.gone.length ≠ row.length) (hs : ∀ S ∈ met, ∀ m S', made Y row S m = some S' → live S' = true → S' ∈ met) : ¬ Way Y row :=
  closed_noway (known := fun S => S ∈ met) h0 hg hs
theorem live_gone {S : Sit} {n : Nat} (l : live S = true) (h : S.gone.length = n) : S.gone = upTo n := by
  rw [live_iff] at l
  rw [h] at l
  exact l
end K92

set_option Elab.async false
set_option linter.all false
set_option maxRecDepth 100000
set_option maxHeartbeats 4000000
set_option autoImplicit false
/-! K92R: rules that the hand layer lacks: dicts whose keys are situations, len of an own instance, zip of a list and a tuple, None in a list, sorted of nested tuples, calls that may raise. -/
namespace K92
open PySem PySem.Spec PyProof.Rows L2

/-! ### heaps that grow -/
theorem Same.new {H : Hp} {p : Addr} {o : HO} (h : H p = none) : Same H (upd H p o) := fun a u e => by
  rw [upd_ne (ne_of_none e h)]
  exact e
/-- what the first heap doesn't know may change -/
theorem Same.mut {H H' : Hp} {p : Addr} {o : HO} (e : Same H H') (h : H p = none) : Same H (upd H' p o) := fun a u ha => by
  rw [upd_ne (ne_of_none ha h)]
  exact e a u ha
theorem Same.rd {H H' : Hp} {a : Addr} {u : HO} (e : Same H H') (h : Rd H a u) : Rd H' a u := by
  rcases h with h | ⟨o, h⟩
  · exact .inl (e _ _ h)
  · exact .inr ⟨o, e _ _ h⟩
theorem Same.tup {K : PySem.W.Frag} {H H' : Hp} {a : Addr} {xs : List V} (e : Same H H') (h : SqT K H a xs) : SqT K H' a xs := by
  rcases h with h | h
  · exact .inl (Same.rd e h)
  · exact .inr h
theorem SqT.of' {K : PySem.W.Frag} {H : Hp} {a : Addr} {xs : List V} (h : H a = some (.tup xs)) : SqT K H a xs := .inl (.inl h)
theorem SqL.of' {K : PySem.W.Frag} {H : Hp} {a : Addr} {xs : List V} (h : H a = some (.lst xs)) : SqL K H a xs := .inl (.inl h)

/-! ### a situation in the heap -/
/-- tuples of ints at ds -/
def TupsAt (H : Hp) (ds : List Addr) (L : List (List Int)) : Prop := Paired (fun d l => H d = some (.tup (l.map V.int))) ds L
structure SitAt (H : Hp) (q : Addr) (S : Sit) : Prop where
  ex : ∃ (hd gn : Addr) (ds : List Addr), H q = some (.tup [.int (S.came : Int), .ref hd, .ref gn]) ∧ H hd = some (.tup (ds.map V.ref)) ∧ TupsAt H ds S.held ∧ H gn = some (.tup (S.gone.map V.int))
theorem TupsAt.mono {H H' : Hp} (e : Same H H') {ds : List Addr} {L : List (List Int)} (h : TupsAt H ds L) : TupsAt H' ds L := by
  unfold TupsAt at h ⊢
  induction h with
  | nil => exact .nil
  | cons a _ ih => exact .cons (e _ _ a) ih
theorem SitAt.mono {H H' : Hp} (e : Same H H') {q : Addr} {S : Sit} (h : SitAt H q S) : SitAt H' q S := by
  obtain ⟨hd, gn, ds, h1, h2, h3, h4⟩ := h.ex
  exact ⟨hd, gn, ds, e _ _ h1, e _ _ h2, h3.mono e, e _ _ h4⟩
theorem TupsAt.length {H : Hp} {ds : List Addr} {L : List (List Int)} (h : TupsAt H ds L) : ds.length = L.length := Paired.length h
theorem TupsAt.get {H : Hp} {ds : List Addr} {L : List (List Int)} (h : TupsAt H ds L) {i : Nat} {l : List Int} (e : L[i]? = some l) : ∃ d, ds[i]? = some d ∧ H d = some (.tup (l.map V.int)) := by
  unfold TupsAt at h
  induction h generalizing i with
  | nil => simp at e
  | @cons d l' ds L a _ ih =>
    cases i with
    | zero =>
      simp only [List.getElem?_cons_zero, Option.some.injEq] at e
      subst e
      exact ⟨d, rfl, a⟩
    | succ i => exact ih (by simpa using e)

/-! ### the key of a situation -/
def numK (l : List Int) : NestedKey := .tup (l.map NestedKey.num)
def sitKey (S : Sit) : NestedKey := .tup [.num (S.came : Int), .tup (S.held.map numK), numK S.gone]
theorem map_num_inj : ∀ {a b : List Int}, a.map NestedKey.num = b.map NestedKey.num → a = b
  | [], [], _ => rfl
  | x :: a, y :: b, h => by
    simp only [List.map_cons, List.cons.injEq, NestedKey.num.injEq] at h
    rw [h.1, map_num_inj h.2]
  | [], _ :: _, h => by simp at h
  | _ :: _, [], h => by simp at h
theorem numK_inj {a b : List Int} (h : numK a = numK b) : a = b := by
  unfold numK at h
  injection h with h
  exact map_num_inj h
theorem map_numK_inj : ∀ {a b : List (List Int)}, a.map numK = b.map numK → a = b
  | [], [], _ => rfl
  | x :: a, y :: b, h => by
    simp only [List.map_cons, List.cons.injEq] at h
    rw [numK_inj h.1, map_numK_inj h.2]
  | [], _ :: _, h => by simp at h
  | _ :: _, [], h => by simp at h
theorem sitKey_inj {A B : Sit} (h : sitKey A = sitKey B) : A = B := by
  unfold sitKey at h
  injection h with h
  simp only [List.cons.injEq, NestedKey.num.injEq, NestedKey.tup.injEq, and_true] at h
  obtain ⟨h1, h2, h3⟩ := h
  cases A; cases B
  simp only at h1 h2 h3
  rw [Int.ofNat.inj h1, map_numK_inj h2, numK_inj h3]

section
variable {P : Program} {w : World} {H : Hp} {h : Heap}
theorem nums_all : ∀ {l : List Int} {us : List Value}, Vals (l.map V.int) us → NestedAll h (l.map NestedKey.num) us
  | [], _, r => by
    rw [List.map_nil] at r
    cases r
    exact .nil
  | x :: l, _, r => by
    rw [List.map_cons] at r
    cases r with
    | cons a t =>
      obtain ⟨tk, rfl⟩ := a
      exact .cons (.int x tk) (nums_all t)
theorem numK_is (ok : HOk P w H h) {d : Addr} {l : List Int} (e : H d = some (.tup (l.map V.int))) : NestedIs h (numK l) (.ref d) := by
  obtain ⟨_, its, r, o, h1, h2, n, h3⟩ := (show ObjOk P w H h d (.tup (l.map V.int)) from ok d _ e)
  exact .tup h1 h2 h3 (by simpa using nums_all r)
theorem tups_all (ok : HOk P w H h) : ∀ {ds : List Addr} {L : List (List Int)} {us : List Value}, TupsAt H ds L → Vals (ds.map V.ref) us → NestedAll h (L.map numK) us
  | [], _, _, q, r => by
    cases q
    rw [List.map_nil] at r
    cases r
    exact .nil
  | d :: ds, _, _, q, r => by
    cases q with
    | cons a t =>
      rw [List.map_cons] at r
      cases r with
      | cons b s =>
        cases b
        exact .cons (numK_is ok a) (tups_all ok t s)
theorem dep_num : ∀ l : List Int, NestedKey.depthAll (l.map NestedKey.num) = 0
  | [] => rfl
  | x :: l => by
    show max (NestedKey.depth (.num x)) (NestedKey.depthAll (l.map NestedKey.num)) = 0
    rw [dep_num l]
    rfl
theorem dep_numK : ∀ L : List (List Int), NestedKey.depthAll (L.map numK) ≤ 1
  | [] => Nat.zero_le _
  | l :: L => by
    show max (NestedKey.depth (numK l)) (NestedKey.depthAll (L.map numK)) ≤ 1
    have q : NestedKey.depth (numK l) = 1 := by
      show NestedKey.depthAll (l.map NestedKey.num) + 1 = 1
      rw [dep_num]
    have := dep_numK L
    omega
theorem sitKey_depth (S : Sit) : (sitKey S).depth ≤ 8 := by
  have a := dep_numK S.held
  have b := dep_num S.gone
  show max 0 (max (NestedKey.depthAll (S.held.map numK) + 1) (max (NestedKey.depthAll (S.gone.map NestedKey.num) + 1) 0)) + 1 ≤ 8
  omega
theorem sit_is (ok : HOk P w H h) {q : Addr} {S : Sit} (e : SitAt H q S) : (nestedKind P w).is h (sitKey S) q := by
  obtain ⟨hd, gn, ds, h1, h2, h3, h4⟩ := e.ex
  refine ⟨?_, sitKey_depth S⟩
  obtain ⟨_, its, r, o, g1, g2, n, g3⟩ := (show ObjOk P w H h q (.tup [.int (S.came : Int), .ref hd, .ref gn]) from ok q _ h1)
  obtain ⟨_, its2, r2, o2, k1, k2, n2, k3⟩ := (show ObjOk P w H h hd (.tup (ds.map V.ref)) from ok hd _ h2)
  refine .tup g1 g2 g3 ?_
  cases r with
  | cons a1 r =>
    cases r with
    | cons a2 r =>
      cases r with
      | cons a3 r =>
        cases r
        obtain ⟨tk, rfl⟩ := a1
        cases a2
        cases a3
        refine .cons (.int _ tk) (.cons ?_ (.cons (numK_is ok h4) .nil))
        exact .tup k1 k2 k3 (by simpa using tups_all ok h3 r2)
end

/-! ### a dict whose keys are situations, each value True -/
def ndX (ks : List (Sit × Addr)) : List (NestedKey × Addr × Value) := ks.map fun p => (sitKey p.1, p.2, Value.bool true)
def NDp (P : Program) (w : World) (a : Addr) (ks : List (Sit × Addr)) (h : Heap) : Prop :=
  ks.length ≤ sizeLine ∧ (a == sysModules) = false ∧ ∃ o es ep, h.get? a = some o ∧ o.ExactDict ∧ o.data = .dict es ep ∧ es.toList = (ndX ks).map (entryOfKey (nestedKind P w)) ∧ ((ndX ks).map (·.1)).Nodup
def ND (P : Program) (w : World) (a : Addr) (ks : List (Sit × Addr)) : HO := .ext (NDp P w a ks)
/-- every key's own tuple -/
def KeysAt (H : Hp) (ks : List (Sit × Addr)) : Prop := ∀ p ∈ ks, SitAt H p.2 p.1
theorem KeysAt.mono {H H' : Hp} (e : Same H H') {ks : List (Sit × Addr)} (h : KeysAt H ks) : KeysAt H' ks := fun p hp => (h p hp).mono e

section
variable {P : Program} {w : World} {H : Hp} {h : Heap} {a : Addr} {ks : List (Sit × Addr)}
theorem nd_ok (x : NDp P w a ks h) : ObjOk P w H h a (ND P w a ks) := by
  obtain ⟨z, y, o, es, ep, h1, r⟩ := x
  refine ⟨⟨z, y, o, es, ep, h1, r⟩, ⟨o, h1⟩, fun h1 h2 x1 k => ?_⟩
  obtain ⟨z, y, o, es, ep, e1, r⟩ := x1
  exact ⟨z, y, o, es, ep, k _ e1, r⟩
theorem nd_rd (ok : HOk P w H h) (e : Rd H a (ND P w a ks)) (k : KeysAt H ks) : ks.length ≤ sizeLine ∧ (a == sysModules) = false ∧ h.DictOfH (nestedKind P w) a (ndX ks) := by
  obtain ⟨⟨z, y, o, es, ep, h1, h2, h3, h4, h5⟩, _, _⟩ := (show ObjOk P w H h a (ND P w a ks) from e.ok ok)
  refine ⟨z, y, o, es, ep, h1, h2, h3, h4, fun x hx => ?_, h5⟩
  obtain ⟨p, hp, rfl⟩ := List.mem_map.mp hx
  exact sit_is ok (k p hp)
theorem nd_at (S : Sit) : ∀ ks : List (Sit × Addr), (atKey (ndX ks) (sitKey S)).isSome = decide (S ∈ ks.map (·.1))
  | [] => rfl
  | p :: ks => by
    have ih := nd_at S ks
    by_cases e : p.1 = S
    · have e' : sitKey p.1 = sitKey S := by rw [e]
      simp [ndX, atKey, List.find?_cons, e]
    · have e' : ¬ sitKey p.1 = sitKey S := fun z => e (sitKey_inj z)
      have e2 : ¬ S = p.1 := fun z => e z.symm
      have : atKey (ndX (p :: ks)) (sitKey S) = atKey (ndX ks) (sitKey S) := by
        simp [ndX, atKey, List.find?_cons, e']
      rw [this, ih]
      simp [e2]
/-- the keys behind d[S] = True, S at q -/
def ndPut (ks : List (Sit × Addr)) (S : Sit) (q : Addr) : List (Sit × Addr) := if S ∈ ks.map (·.1) then ks else ks ++ [(S, q)]
theorem nd_stored (S : Sit) (q : Addr) (ks : List (Sit × Addr)) : storedH (ndX ks) (sitKey S) q (Value.bool true) = ndX (ndPut ks S q) := by
  have e := nd_at S ks
  unfold storedH ndPut
  by_cases hs : S ∈ ks.map (·.1)
  · rw [if_pos hs, e, if_pos (by simpa using hs)]
    unfold ndX
    rw [List.map_map]
    refine List.map_congr_left fun p _ => ?_
    show PySem.putAt (sitKey S) (Value.bool true) (sitKey p.1, p.2, Value.bool true) = _
    unfold PySem.putAt
    split <;> rfl
  · rw [if_neg hs, e, if_neg (by simpa using hs)]
    unfold ndX
    rw [List.map_append]
    rfl
theorem ndPut_length (ks : List (Sit × Addr)) (S : Sit) (q : Addr) : (ndPut ks S q).length ≤ ks.length + 1 := by
  unfold ndPut
  split
  · omega
  · simp
theorem nd_mut : Mut (some (ND P w a ks)) := True.intro
end

section
variable {X : Cx} {pins : List (Addr × Obj)} {σ : L2.St} {H : Hp} {s : Shared} {a q : Addr} {S : Sit} {ks : List (Sit × Addr)} {A : Around} {E : Value → Shared → Prop}
theorem n_in {Q : Value → Shared → Prop} (hu : A.units + 20 < cLine) (I : Inv X pins σ H s) (e : Rd H a (ND X.prog X.w a ks)) (k : KeysAt H ks) (eq : SitAt H q S) (h : ∀ s', Inv X pins σ H s' → Q (.bool (decide (S ∈ ks.map (·.1)))) s') :
    wpAny (model X.prog X.w) A (compareOp .In (.ref q) (.ref a)) Q E s := by
  obtain ⟨z, hd, dd⟩ := nd_rd I.hok e k
  refine wpAny_in_heap (by show A.in1.units + 8 < cLine; rw [Around.in1_units]; omega) (sit_is I.hok eq) hd dd ?_
  rw [nd_at]
  exact h _ (I.tok _)
theorem n_notIn {Q : Value → Shared → Prop} (hu : A.units + 20 < cLine) (I : Inv X pins σ H s) (e : Rd H a (ND X.prog X.w a ks)) (k : KeysAt H ks) (eq : SitAt H q S) (h : ∀ s', Inv X pins σ H s' → Q (.bool (!decide (S ∈ ks.map (·.1)))) s') :
    wpAny (model X.prog X.w) A (compareOp .NotIn (.ref q) (.ref a)) Q E s := by
  obtain ⟨z, hd, dd⟩ := nd_rd I.hok e k
  refine wpAny_notIn_heap (by show A.in1.units + 8 < cLine; rw [Around.in1_units]; omega) (sit_is I.hok eq) hd dd ?_
  rw [nd_at]
  exact h _ (I.tok _)
theorem n_setItem {Q : Unit → Shared → Prop} (hu : A.units + 20 < cLine) (I : Inv X pins σ H s) (e : H a = some (ND X.prog X.w a ks)) (k : KeysAt H ks) (eq : SitAt H q S) (l : ks.length < sizeLine)
    (h : ∀ s', Inv X pins σ (upd H a (ND X.prog X.w a (ndPut ks S q))) s' → Q () s') : wpAny (model X.prog X.w) A (setItem (.ref a) (.ref q) (.bool true)) Q E s := by
  obtain ⟨z, hd, dd⟩ := nd_rd I.hok (.inl e) k
  have hz : (ndX ks).length ≤ sizeLine := by unfold ndX; rw [List.length_map]; exact z
  refine wpAny_setItem_heap (hsz := hz) (by show A.in1.units + 8 < cLine; rw [Around.in1_units]; omega) (sit_is I.hok eq) dd fun h' dd' hs => h _ ?_
  rw [nd_stored] at dd'
  obtain ⟨o, es, ep, hq, h2, h3, h4, _, h5⟩ := dd'
  refine d_write I (by rw [e]; exact True.intro) hs ⟨o, hq⟩ (nd_ok ⟨?_, hd, o, es, ep, hq, h2, h3, h4, h5⟩)
  have := ndPut_length ks S q
  omega
end

def tNIn (P : Program) (w : World) (ty td : TE) : TE := fun σ H Q => ty σ H fun y H1 => td σ H1 fun x H2 => ∃ a q S ks, x = .ref a ∧ y = .ref q ∧ Rd H2 a (ND P w a ks) ∧ KeysAt H2 ks ∧ SitAt H2 q S ∧ Q (.bl (decide (S ∈ ks.map (·.1)))) H2
def tNNotIn (P : Program) (w : World) (ty td : TE) : TE := fun σ H Q => ty σ H fun y H1 => td σ H1 fun x H2 => ∃ a q S ks, x = .ref a ∧ y = .ref q ∧ Rd H2 a (ND P w a ks) ∧ KeysAt H2 ks ∧ SitAt H2 q S ∧ Q (.bl (!decide (S ∈ ks.map (·.1)))) H2
/-- d[S] = True -/
def sNPut (P : Program) (w : World) (td ty tv : TE) : TS := fun D σ H => tv σ H fun v H1 => td σ H1 fun x H2 => ty σ H2 fun y H3 => ∃ a q S ks, v = .bl true ∧ x = .ref a ∧ y = .ref q ∧ H3 a = some (ND P w a ks) ∧ KeysAt H3 ks ∧ SitAt H3 q S ∧ ks.length < sizeLine ∧
  D.nx σ (upd H3 a (ND P w a (ndPut ks S q)))
def tDNewN (P : Program) (w : World) : TE := fun _ H Q => ∀ p, H p = none → Q (.ref p) (upd H p (ND P w p []))
/-- {S: True} -/
def tDispN (P : Program) (w : World) (tk tv : TE) : TE := fun σ H Q => ∀ p, H p = none → tk σ (upd H p (ND P w p [])) fun x H1 => tv σ H1 fun y H2 => ∃ q S, x = .ref q ∧ y = .bl true ∧ H2 p = some (ND P w p []) ∧ SitAt H2 q S ∧ Q (.ref p) (upd H2 p (ND P w p [(S, q)]))
theorem nd_empty {P : Program} {w : World} {H : Hp} (h : Heap) (hb : sysModules < h.objs.size) : ObjOk P w H (h.push { cls := .type "dict", data := .dict #[] }) h.objs.size (ND P w h.objs.size []) :=
  nd_ok ⟨Nat.zero_le _, beq_eq_false_iff_ne.mpr (Ne.symm (Nat.ne_of_lt hb)), _, #[], 0, Heap.get?_push_size _ rfl, ⟨rfl, rfl, rfl⟩, rfl, rfl, List.nodup_nil⟩
section
variable {X : Cx} {o i value : Expr} {td ty tv : TE} {pos pos' : Pos}
theorem hu20 {X : Cx} {k : Nat} (hr : Room k X.A) : X.A.units + 20 < cLine := by have := hr.un; omega
theorem ru65 {X : Cx} {k : Nat} (hr : Room k X.A) : X.A.units + 65 < cLine := by have := hr.un; omega
theorem pc_ninN (hu : X.A.units + 20 < cLine) (hi : PE X i ty) (ho : PE X o td) : PC X .In i o (tNIn X.prog X.w ty td) := by
  refine ⟨fun pins s σ H Q I h => ?_⟩
  refine thn (hi.run pins s σ H _ I h) fun iv s1 ⟨y, H1, I1, ry, q1⟩ => thn (ho.run pins s1 σ H1 _ I1 q1) fun u s2 ⟨x, H2, I2, rx, a, q, S, ks, ea, eq, e, k, es, z⟩ => ?_
  subst ea eq
  cases rx
  cases ry
  exact n_in hu I2 e k es fun s' I' => ⟨.bl _, H2, I', rfl, z⟩
theorem pc_nnotinN (hu : X.A.units + 20 < cLine) (hi : PE X i ty) (ho : PE X o td) : PC X .NotIn i o (tNNotIn X.prog X.w ty td) := by
  refine ⟨fun pins s σ H Q I h => ?_⟩
  refine thn (hi.run pins s σ H _ I h) fun iv s1 ⟨y, H1, I1, ry, q1⟩ => thn (ho.run pins s1 σ H1 _ I1 q1) fun u s2 ⟨x, H2, I2, rx, a, q, S, ks, ea, eq, e, k, es, z⟩ => ?_
  subst ea eq
  cases rx
  cases ry
  exact n_notIn hu I2 e k es fun s' I' => ⟨.bl _, H2, I', rfl, z⟩
theorem ps_nput (hu : X.A.units + 20 < cLine) (ho : PE X o td) (hi : PE X i ty) (hv : PE X value tv) (hs : swapsWith value (some (.Subscript o i pos')) pos.line X.env = pure false) :
    PS X (.Assign [.Subscript o i pos'] value pos) (sNPut X.prog X.w td ty tv) := by
  refine ⟨fun pins s σ H D I h => ?_⟩
  refine wpAny_Assign_Subscript (thn (hv.run pins s σ H _ I h) fun r s1 ⟨v, H1, I1, rv, q1⟩ => thn (ho.run pins s1 σ H1 _ I1 q1) fun u s2 ⟨x, H2, I2, rx, q2⟩ => thn (hi.run pins s2 σ H2 _ I2 q2) fun u' s3 ⟨y, H3, I3, ry, a, q, S, ks, ev, ea, eq, e, k, es, l, z⟩ => ?_) hs
  subst ev ea eq
  cases rv
  cases rx
  cases ry
  exact n_setItem hu I3 e k es l fun s' I' => ⟨σ, _, I', z⟩
theorem pe_dnewN : PE X (.Dict [] [] pos) (tDNewN X.prog X.w) := ⟨fun pins s σ H Q I h =>
  wpAny_Dict_empty ⟨.ref s.heap.objs.size, _, I.laid (a := s.heap.objs.size) (o := ND X.prog X.w s.heap.objs.size []) (t' := s.toks) (fun _ _ q => Heap.get?_push_of_some _ q) (Nat.le_refl _) (nd_empty s.heap I.big), rfl, h _ (I.hok.fresh (Nat.le_refl _))⟩⟩
theorem pe_dispN {tk : TE} (hu : X.A.units + 20 < cLine) (hk : PE X o tk) (hv : PE X value tv) : PE X (.Dict [some o] [value] pos) (tDispN X.prog X.w tk tv) := by
  refine ⟨fun pins s σ H Q I h => ?_⟩
  have hn := I.hok.fresh (Nat.le_refl s.heap.objs.size)
  have I1 := I.laid (a := s.heap.objs.size) (o := ND X.prog X.w s.heap.objs.size []) (h' := s.heap.push { cls := .type "dict", data := .dict #[] }) (t' := s.toks) (fun _ _ q => Heap.get?_push_of_some _ q) (Nat.le_refl _) (nd_empty s.heap I.big)
  rw [arm_eval_Dict, zip_pairTrees [some o] [value] X.env pos (by rfl) (by rfl), dictDisplay_pairs _ (by intro z; cases z) (by show 1 < 17; decide)]
  refine wpAny_bind (wpAny_standAt (wpAny_bind (wpAny_subDictH (knd := nestedKind X.prog X.w) (by show X.A.units + 8 < cLine; omega) (by show 1 ≤ 15; decide) ?_)))
  refine pairTrees_cons_walk (thn (hk.run pins _ σ _ _ I1 (h _ hn)) fun u s1 ⟨x, H1, I1, rx, q1⟩ => thn (hv.run pins s1 σ H1 _ I1 q1) fun w2 s2 ⟨y, H2, I2, ry, q, S, ex, ey, e, es, z⟩ => pairTrees_nil_walk ?_)
  subst ex ey
  cases rx
  cases ry
  obtain ⟨_, hd, dd⟩ := nd_rd I2.hok (.inl e) (fun p hp => nomatch hp)
  refine ⟨[(sitKey S, q, Value.bool true)], ⟨rfl, rfl, sit_is I2.hok es, True.intro⟩, dd, fun h' tk' dd' hs => wpAny_pure ?_⟩
  obtain ⟨ob, es', ep, hq, h2, h3, h4, _, h5⟩ := dd'
  refine ⟨.ref s.heap.objs.size, _, ?_, rfl, z⟩
  exact d_write I2 (by rw [e]; exact True.intro) hs ⟨ob, hq⟩ (nd_ok ⟨by show 1 ≤ sizeLine; rw [sizeLine_eq]; decide, hd, ob, es', ep, hq, h2, h3, h4, h5⟩)
end

/-! ### for S in d, d locked -/
section
variable {X : Cx} {pins : List (Addr × Obj)} {σ : L2.St} {H : Hp} {s : Shared} {d : Addr} {o : Obj}
theorem frzN {ks : List (Sit × Addr)} (I : Inv X pins σ H s) (h : H d = some (.frz o (ND X.prog X.w d ks))) :
    (d == sysModules) = false ∧ s.heap.get? d = some o ∧ o.ExactDict ∧ ∃ (es : Array DictEntry) (ep : Nat), o.data = .dict es ep ∧ es.size = ks.length ∧
      ∀ (i : Nat) (p : Sit × Addr), ks[i]? = some p → ∃ en : DictEntry, es[i]? = some en ∧ en.key = .ref p.2 := by
  obtain ⟨hd, ⟨z, hs, o', es, ep, ho, hx, hdt, he, _⟩, _, _⟩ := I.hok d _ h
  rw [hd] at ho
  cases ho
  refine ⟨hs, hd, hx, es, ep, hdt, ?_, fun i p e => ?_⟩
  · have l1 : es.size = (ndX ks).length := size_of_entries he
    unfold ndX at l1
    rw [List.length_map] at l1
    exact l1
  · have q := entry_at he i
    unfold ndX at q
    rw [List.getElem?_map, e] at q
    exact ⟨_, q, rfl⟩
end
def Itn (P : Program) (w : World) (d : Addr) (o : Obj) (ks : List (Sit × Addr)) : It :=
  ⟨fun i H => H d = some (.frz o (ND P w d ks)) ∧ i < ks.length, fun i H x H' => H' = H ∧ ∃ p, ks[i]? = some p ∧ x = .ref p.2, fun i H => H d = some (.frz o (ND P w d ks)) ∧ ks.length ≤ i⟩
section
variable {P : Program} {w : World} {K : PySem.W.Frag} {tg : Expr} {d : Addr} {o : Obj} {es : Array DictEntry} {ep : Nat}
theorem turn_keysN {ks : List (Sit × Addr)} (it : Addr) (hod : o.data = .dict es ep) : Turn P w K tg (Itn P w d o ks) [it] it (fun i h => h.IsKeyIter it d i ks.length ep) where
  mem := by simp
  obj := fun i h st b hb => by
    have e : b = it := by simpa using hb
    subst e
    obtain ⟨oi, e, c, dd⟩ := st
    exact ⟨oi, e, fun v z => by rw [dd] at z; cases z⟩
  keep := fun i h h' st k => st.at fun oi e => k it (by simp) oi e
  item := by
    intro X hP hw hK hc i pins s σ H E I hf st hg
    subst hP hw hK
    obtain ⟨hd, hi⟩ := hg
    obtain ⟨f0, f1, f2, f3, f4, f5⟩ := hf it (by simp)
    obtain ⟨hs, hgd, hx, es', ep', hdt, hsz, ent⟩ := frzN I hd
    obtain ⟨rfl, rfl⟩ := dict_ep hod hdt
    obtain ⟨p, hp⟩ : ∃ p, ks[i]? = some p := ⟨ks[i], List.getElem?_eq_getElem hi⟩
    obtain ⟨en, hen, hkey⟩ := ent i p hp
    refine next_key_item st hgd hdt hsz hen fun h' st' sb => ?_
    have I1 : Inv X pins σ H { s with heap := h' } := I.turned (t' := s.toks) (fun b ob hb e => (sb.2 b hb).trans e) f0 f1 f3 f4 f5
    obtain ⟨oi, e, c, dd⟩ := id st'
    exact ⟨en.key, rfl, go_of (s := { s with heap := h' }) e c dd (by decide) ⟨.ref p.2, H, I1, hkey, ⟨rfl, p, hp, rfl⟩, st', fun b hb => (hf b hb).1⟩⟩
  done := by
    intro X hP hw hK hc i pins s σ H E I hf st hg
    subst hP hw hK
    obtain ⟨hd, hi⟩ := hg
    obtain ⟨f0, f1, f2, f3, f4, f5⟩ := hf it (by simp)
    obtain ⟨hs, hgd, hx, es', ep', hdt, hsz, ent⟩ := frzN I hd
    obtain ⟨rfl, rfl⟩ := dict_ep hod hdt
    exact next_key_end (I.ok.hd hc) st hgd hdt hsz hi fun h' eb => ⟨rfl, I.turned (t' := s.toks) (fun b ob hb e => eb b ob hb e) f0 f1 f3 f4 f5⟩
  self := fun A i s Q E st h => by
    refine wpAny_pyIter_slot st.typeIs F.slot_dict_keyiterator_iter (wpAny_call_entry F.slot_dict_keyiterator_iter st.typeIs F.entry_dict_keyiterator_iter ?_ (F.args_dict_keyiterator_iter_1 _))
    show wpAny _ _ (ret (.ref it)) _ _ s
    exact wpAny_pure ⟨_, rfl, "dict_keyiterator", _, st.typeIs, F.slot_dict_keyiterator_next.lookup, h⟩
end
def iKeysN (P : Program) (w : World) (td : TE) : TI := fun σ H R => td σ H fun x H1 => ∃ d o ks, x = .ref d ∧ H1 d = some (.frz o (ND P w d ks)) ∧ R (Itn P w d o ks) H1
theorem pi_keysN {X : Cx} {tg e : Expr} {td : TE} (he : PE X e td) : PI X tg e (iKeysN X.prog X.w td) := by
  refine ⟨fun pins s σ H R I h => ?_⟩
  refine thn (he.run pins s σ H _ I h) fun u s1 ⟨x, H1, I1, rx, d, o, ks, ex, hd, q⟩ => ?_
  subst ex
  obtain rfl : u = Value.ref d := rx
  obtain ⟨hs, hgd, hx, es, ep, hdt, hsz, ent⟩ := frzN I1 hd
  refine iter_keys hs hgd hx hdt (pi_one (tk := s1.toks) I1 _ (turn_keysN _ hdt) ⟨_, Heap.get?_push_size _ rfl, rfl, ?_⟩ q)
  rw [hsz] <;> rfl

/-! ### xs[i] for an augmented store, 0 ≤ i -/
def rGetL (K : PySem.W.Frag) : V → V → Hp → VK → Prop := fun x y H Q => ∃ p xs i v, x = .ref p ∧ y = .int i ∧ 0 ≤ i ∧ i < 2 ^ 63 ∧ SqL K H p xs ∧ xs[i.toNat]? = some v ∧ Q v H
theorem pget_list {X : Cx} : PGet X (rGetL X.K) := by
  intro pins s σ H x y v u Q I rx ry h
  obtain ⟨p, xs, i, z, rfl, rfl, h0, h1, hq, he, q⟩ := h
  cases rx
  obtain ⟨t, rfl⟩ := ry
  obtain ⟨its, r, pl, hz⟩ := I.list hq
  obtain ⟨w, ew, rw'⟩ := r.get he
  exact wpAny_getItem_list pl.isList h0 h1 (by simpa using ew) ⟨z, H, I, rw', q⟩

/-! ### zip of a list and a tuple -/
def ItzLT (K : PySem.W.Frag) (a b : Addr) : It :=
  ⟨fun i H => ∃ (xs ys : List V) (x y : V), SqL K H a xs ∧ SqT K H b ys ∧ xs[i]? = some x ∧ ys[i]? = some y,
    fun i H v H' => ∃ T x y, v = .ref T ∧ H T = none ∧ H' = upd H T (.tup [x, y]) ∧ (∀ xs, SqL K H a xs → xs[i]? = some x) ∧ ∀ ys, SqT K H b ys → ys[i]? = some y,
    fun i H => ∃ xs ys : List V, SqL K H a xs ∧ SqT K H b ys ∧ i = min xs.length ys.length⟩
structure ZApart (z TI TO i1 i2 a b : Addr) : Prop where
  S : ZipSep2 z TI TO i1 i2 [i1, a] [i2, b]
  a1 : a ≠ i1
  b2 : b ≠ i2
theorem notMem2 {x a b : Nat} (h1 : x ≠ a) (h2 : x ≠ b) : ¬ x ∈ [a, b] := by
  intro m
  have : x = a ∨ x = b := by simpa using m
  omega
theorem zapart (n a b : Nat) (la : a < n) (lb : b < n) : ZApart (n + 4) (n + 2) (n + 3) n (n + 1) a b :=
  ⟨⟨Nat.ne_of_lt (by omega), Nat.ne_of_lt (by omega), Nat.ne_of_lt (by omega), Nat.ne_of_gt (by omega), List.mem_cons_self, notMem2 (by omega) (by omega), notMem2 (by omega) (by omega),
    Nat.ne_of_gt (by omega), List.mem_cons_self, notMem2 (by omega) (by omega), notMem2 (by omega) (by omega), notMem2 (by omega) (by omega), notMem2 (by omega) (by omega)⟩, Nat.ne_of_lt la, Nat.ne_of_lt (by omega)⟩
theorem turn_zipLT {P : Program} {w : World} {K : PySem.W.Frag} {elts : List Expr} {kk : Nat} {tpos : Pos} {a b z TI TO i1 i2 : Addr} (D : ZApart z TI TO i1 i2 a b) :
    Turn P w K (.Tuple elts kk tpos) (ItzLT K a b) [z, TI, TO, i1, i2] z (fun i h => IsZip h z TI TO .none ∧ IsTupOf2 h TI (.ref i1) (.ref i2) ∧ (∃ x y, IsTupOf2 h TO x y) ∧ h.IsListIter i1 a i ∧ h.IsTupleIter i2 b i) where
  mem := by simp
  obj := fun i h st c hc => by
    obtain ⟨hz, hTI, ⟨x, y, hTO⟩, ⟨o1, e1, _, d1⟩, ⟨o2, e2, _, d2⟩⟩ := st
    have e' : c = z ∨ c = TI ∨ c = TO ∨ c = i1 ∨ c = i2 := by simpa using hc
    rcases e' with q | q | q | q | q
    · rw [q]; exact ⟨_, hz, fun v q => nomatch q⟩
    · rw [q]; exact ⟨_, hTI, fun v q => nomatch q⟩
    · rw [q]; exact ⟨_, hTO, fun v q => nomatch q⟩
    · rw [q]; exact ⟨o1, e1, fun v q => by rw [d1] at q; cases q⟩
    · rw [q]; exact ⟨o2, e2, fun v q => by rw [d2] at q; cases q⟩
  keep := fun i h h' st k => by
    obtain ⟨hz, hTI, ⟨x, y, hTO⟩, h1, h2⟩ := st
    exact ⟨k z (by simp) _ hz, k TI (by simp) _ hTI, ⟨x, y, k TO (by simp) _ hTO⟩, h1.at fun o q => k i1 (by simp) o q, h2.at fun o q => k i2 (by simp) o q⟩
  item := by
    intro X hP hw hK hc i pins s σ H E I hf st hg
    subst hP hw hK
    obtain ⟨hz, hTI, ⟨x0, y0, hTO⟩, h1, h2⟩ := st
    obtain ⟨xs, ys, x, y, hqx, hqy, hx, hy⟩ := hg
    obtain ⟨its, rv, p, _⟩ := I.list hqx
    obtain ⟨its2, rv2, p2, _⟩ := I.tuple hqy
    obtain ⟨u, hu, ru⟩ := rv.get hx
    obtain ⟨u2, hu2, ru2⟩ := rv2.get hy
    have hh : X.A.in1.handled = none := I.ok.hd hc
    have W := WalksT.zipD2 (prog := X.prog) (w := X.w) (A := X.A) D.S (Draws.list hh i1 a D.a1 its.toArray) (Draws.tuple hh i2 b D.b2 its2.toArray)
    have li : i < min its.toArray.size its2.toArray.size := by
      have q1 := (List.getElem?_eq_some_iff.mp hu).1
      have q2 := (List.getElem?_eq_some_iff.mp hu2).1
      simp only [List.size_toArray]
      omega
    refine W.item i s _ _ li ⟨hz, hTI, ⟨x0, y0, hTO⟩, ⟨h1, p.isList⟩, ⟨h2, p2⟩⟩ fun T vals h' tk pt hT0 hT mid hk => ?_
    obtain ⟨w1, w2, e1, e2, rfl⟩ := pt
    have e1 : its.toArray[i]? = some w1 := e1
    have e2 : its2.toArray[i]? = some w2 := e2
    have ew1 : w1 = u := by rw [List.getElem?_toArray, hu] at e1; exact (Option.some.inj e1).symm
    have ew2 : w2 = u2 := by rw [List.getElem?_toArray, hu2] at e2; exact (Option.some.inj e2).symm
    subst ew1 ew2
    have hap := W.apart i T h' mid
    refine ⟨_, rfl, W.go elts kk tpos i T _ _ _ mid fun h'' st'' hk2 => ?_⟩
    obtain ⟨oT, hoT, hcT, nT, hdT⟩ := hT
    have hT2 : h''.get? T = some oT := hk2 T oT hap hoT
    have new : ObjOk X.prog X.w (upd H T (.tup [x, y])) h'' T (.tup [x, y]) := ⟨by show 2 ≤ sizeLine; decide, [w1, w2], .cons ru (.cons ru2 .nil), ⟨oT, hT2, hcT, nT, hdT⟩⟩
    have I1 : Inv X pins σ (upd H T (.tup [x, y])) { s with heap := h'', toks := tk } :=
      I.turnedNew (t' := tk) (ch := [z, TI, TO, i1, i2]) (fun c o hb q => by
        have hb' : c ∉ [z, TO, i1, i2] := fun m => hb (by
          have : c = z ∨ c = TO ∨ c = i1 ∨ c = i2 := by simpa using m
          rcases this with r | r | r | r <;> simp [r])
        exact hk2 c o hb' (hk c o hb' q)) hf hT0 new
    obtain ⟨z1, z2, z3, z4, z5⟩ := st''
    refine ⟨.ref T, _, I1, rfl, ⟨T, x, y, rfl, I.hok.fresh hT0, rfl, fun l hl => by rw [I.list_inj hl hqx]; exact hx, fun l hl => by rw [I.tuple_inj hl hqy]; exact hy⟩, ⟨z1, z2, z3, z4.1, z5.1⟩, fun c hcm => ?_⟩
    have hlt : c < s.heap.objs.size := by
      have e' : c = z ∨ c = TI ∨ c = TO ∨ c = i1 ∨ c = i2 := by simpa using hcm
      rcases e' with q | q | q | q | q
      · rw [q]; exact Heap.lt_size hz
      · rw [q]; exact Heap.lt_size hTI
      · rw [q]; exact Heap.lt_size hTO
      · rw [q]; obtain ⟨_, e1, _⟩ := h1; exact Heap.lt_size e1
      · rw [q]; obtain ⟨_, e2, _⟩ := h2; exact Heap.lt_size e2
    rw [upd_ne (Nat.ne_of_lt (Nat.lt_of_lt_of_le hlt hT0))]
    exact (hf c hcm).1
  done := by
    intro X hP hw hK hc i pins s σ H E I hf st hg
    subst hP hw hK
    obtain ⟨hz, hTI, ⟨x0, y0, hTO⟩, h1, h2⟩ := st
    obtain ⟨xs, ys, hqx, hqy, hend⟩ := hg
    obtain ⟨its, rv, p, _⟩ := I.list hqx
    obtain ⟨its2, rv2, p2, _⟩ := I.tuple hqy
    have l1 := rv.length
    have l2 := rv2.length
    have hh : X.A.in1.handled = none := I.ok.hd hc
    have W := WalksT.zipD2 (prog := X.prog) (w := X.w) (A := X.A) D.S (Draws.list hh i1 a D.a1 its.toArray) (Draws.tuple hh i2 b D.b2 its2.toArray)
    have ei : i = min its.toArray.size its2.toArray.size := by
      simp only [List.size_toArray]
      omega
    subst ei
    refine W.done s _ _ ⟨hz, hTI, ⟨x0, y0, hTO⟩, ⟨h1, p.isList⟩, ⟨h2, p2⟩⟩ fun h' tk hk => ⟨rfl, ?_⟩
    exact I.turnedL (t' := tk) (ch := [z, TI, TO, i1, i2]) (fun c o hb q => hk c o (fun m => hb (by
          have : c = z ∨ c = TO ∨ c = i1 ∨ c = i2 := by simpa using m
          rcases this with r | r | r | r <;> simp [r])) q) hf
  self := fun A i s Q E st h => wpAny_pyIter_zip st.1 h
def iZipLT (K : PySem.W.Frag) (ta : TA) : TI := fun σ H R => ta σ H fun vs H1 => ∃ a b xs ys, vs = [.ref a, .ref b] ∧ SqL K H1 a xs ∧ SqT K H1 b ys ∧ R (ItzLT K a b) H1
theorem pi_zipLT {X : Cx} {e e2 : Expr} {ta : TA} {p pos tpos : Pos} {elts : List Expr} {kk : Nat} (hg : Gl X "zip") (hm : X.mg "zip" = none) (ha : PA X [e, e2] ta)
    (hs : starEach [e, e2] X.env = (false, eval e X.env) :: starEach [e2] X.env := by rfl) (hpl : (backTo pos (starEach [e2] X.env)).any (·.1) = false := by rfl) :
    PI X (.Tuple elts kk tpos) (.Call (.Name "zip" p) [e, e2] [] pos) (iZipLT X.K ta) := by
  refine ⟨fun pins s σ H R I h => ?_⟩
  refine Call_ (ld_blt I hg hm PyProof.Rows.boot_zip (PyProof.Rows.callWith_type1 (thn (ha.run pos pins s σ H _ I h) fun us s1 ⟨vs, H1, I1, r1, q1⟩ => ?_) hs hpl))
  obtain ⟨a, b, xs, ys, ex, hqx, hqy, q⟩ := q1
  subst ex
  cases r1 with
  | cons r rr =>
    cases rr with
    | cons r' rr =>
      cases rr
      cases r
      cases r'
      obtain ⟨its, rv, p1, _⟩ := I1.list hqx
      obtain ⟨its2, rv2, p2, _⟩ := I1.tuple hqy
      have la : a < s1.heap.objs.size := p1.lt
      have lb : b < s1.heap.objs.size := p2.lt
      refine zip_begins2 (begins_list a its.toArray) (begins_tuple b its2.toArray) p1.isList p2 fun h' hz hTI hTO h1 h2 hsz hk => wpAny_pyIter_zip hz ?_
      have I2 : Inv X pins σ H1 { s1 with heap := h' } := I1.kept (t' := s1.toks) hk
      generalize hn : s1.heap.objs.size = n at *
      have ne : ∀ {x y : Nat}, x ≠ y → (x : Addr) ≠ y := fun h => h
      have DD : ZApart (n + 4) (n + 2) (n + 3) n (n + 1) a b := zapart n a b la lb
      refine ⟨n + 4, [n + 4, n + 2, n + 3, n, n + 1], _, _, H1, rfl, I2, turn_zipLT DD, ⟨hz, hTI, ⟨_, _, hTO⟩, ⟨_, h1, rfl, rfl⟩, ⟨_, h2, rfl, rfl⟩⟩, fun c hcm => ?_, q⟩
      have e' : c = n + 4 ∨ c = n + 2 ∨ c = n + 3 ∨ c = n ∨ c = n + 1 := by simpa using hcm
      have hle : s1.heap.objs.size ≤ c := by
        rw [hn]
        rcases e' with z | z | z | z | z
        · rw [z]; exact Nat.le_add_right _ _
        · rw [z]; exact Nat.le_add_right _ _
        · rw [z]; exact Nat.le_add_right _ _
        · rw [z]; exact Nat.le_refl _
        · rw [z]; exact Nat.le_add_right _ _
      exact I1.fpOk hle (I1.hok.fresh hle)
/-- a loop over zip of a list and a tuple -/
theorem for_zipLT {K : PySem.W.Frag} {a b : Addr} {xs ys : List V} {g : TG} {tb : TS} {D : Ends} {σ : L2.St} {H : Hp} (Pv : Nat → L2.St → Hp → Prop) (h0 : Pv 0 σ H) (hq : ∀ i σ H, Pv i σ H → SqL K H a xs ∧ SqT K H b ys)
    (hs : ∀ (i : Nat) (x y : V) (T : Addr) (σ : L2.St) (H : Hp), xs[i]? = some x → ys[i]? = some y → Pv i σ H → H T = none → g (.ref T) σ (upd H T (.tup [x, y])) fun σ2 H2 => tb { D with nx := Pv (i + 1), ct := Pv (i + 1), bk := D.nx } σ2 H2) (hd : ∀ σ H, Pv (min xs.length ys.length) σ H → D.nx σ H) :
    ∃ W : Nat → Nat → L2.St → Hp → Prop, (∃ m, W 0 m σ H) ∧ ∀ i m σ H, W i m σ H →
      ((ItzLT K a b).stop i H ∧ D.nx σ H) ∨ ((ItzLT K a b).go i H ∧ ∃ N : L2.St → Hp → Prop, (∀ σ' H', N σ' H' → ∃ m', m' < m ∧ W (i + 1) m' σ' H') ∧ ∀ v H', (ItzLT K a b).yld i H v H' → g v σ H' fun σ2 H2 => tb { D with nx := N, ct := N, bk := D.nx } σ2 H2) := by
  refine ⟨fun i m σ H => m = min xs.length ys.length - i ∧ i ≤ min xs.length ys.length ∧ Pv i σ H, ⟨_, rfl, Nat.zero_le _, h0⟩, ?_⟩
  rintro i m σ H ⟨rfl, hi, p⟩
  obtain ⟨qx, qy⟩ := hq i σ H p
  by_cases hlt : i < min xs.length ys.length
  · have hx : xs[i]? = some (xs[i]'(by omega)) := List.getElem?_eq_getElem (by omega)
    have hy : ys[i]? = some (ys[i]'(by omega)) := List.getElem?_eq_getElem (by omega)
    refine .inr ⟨⟨xs, ys, _, _, qx, qy, hx, hy⟩, Pv (i + 1), fun σ' H' p' => ⟨min xs.length ys.length - (i + 1), by omega, rfl, hlt, p'⟩, fun v H' y => ?_⟩
    obtain ⟨T, x', y', rfl, hT, rfl, f1, f2⟩ := y
    exact hs i x' y' T σ H (f1 xs qx) (f2 ys qy) p hT
  · have e : i = min xs.length ys.length := by omega
    subst e
    exact .inl ⟨⟨xs, ys, qx, qy, rfl⟩, hd σ H p⟩

/-! ### len of an own instance -/
section
variable {X : Cx}
theorem call_lenO {k : Nat} {C : Addr} {sp : Sp} (m : C8.Met X.prog X.w X.K X.mg X.base k C "__len__" sp []) (hr : Room (k + 1) X.A) : CallR X (.builtin "len")
    (fun xs H Q => ∃ a dx fs, xs = [V.ref a] ∧ H a = some (.ins C dx fs) ∧ sp [V.ref a] H (fun v H' => ∃ n : Int, v = .int n ∧ 0 ≤ n ∧ n < 2 ^ 63 ∧ Q (.int n) H') (fun _ _ _ => False)) := by
  intro pins s σ H xs us Q I r h
  obtain ⟨a, dx, fs, rfl, ha, q⟩ := h
  obtain ⟨u, rfl, ru⟩ := vals1 r
  obtain rfl : u = Value.ref a := ru
  obtain ⟨f, fd, ps, ds, hc, hm, F, b, d⟩ := m.ex
  cases d
  obtain ⟨mA, O, _, _, _, _⟩ := ins_get I.hok ha
  obtain ⟨od, J, _⟩ := O.look
  obtain ⟨mm, hfr⟩ := I.fr
  have r2 : Vals [V.ref a] [Value.ref a] := .cons rfl .nil
  have hl : [Value.ref a].length = ps.length := by rw [← r2.length]; exact F.len _ _ _ _ q
  have bb := b s [Value.ref a] I.kIn (by rw [List.append_nil]; exact hl)
  rw [List.append_nil] at bb
  refine PySem.W.len_K hfr I.mod.kin J hm.at_ hm.fn (wpAny_call (codeAny_mono (F.run X.A.in1 X.stack s H ⟨[Value.ref a], []⟩ [Value.ref a] [V.ref a] _ (fun _ _ _ => False) hr.in1 I.env0.in1 bb r2 q) fun r s' hq => ?_))
  cases r with
  | error e => exact hq.elim
  | ok fl =>
    cases fl with
    | ret u =>
      obtain ⟨v, H', I', rv, n, rfl, h0, h1, z⟩ := I.after hq
      obtain ⟨t, rfl⟩ := rv
      exact ⟨⟨h0, h1⟩, .int n, H', I'.tok _, ⟨_, rfl⟩, z⟩
    | next => exact False.elim hq
    | brk => exact False.elim hq
    | cont => exact False.elim hq
end

/-! ### None in a list of lists and None -/
def NoneOrL (K : PySem.W.Frag) (H : Hp) (z : V) : Prop := z = .non ∨ ∃ a xs, z = .ref a ∧ SqL K H a xs
theorem isNone_ofL {z : V} {u : Value} {K : PySem.W.Frag} {H : Hp} (r : RelV z u) (f : NoneOrL K H z) : PySem.Numpy.isNone u = isNon z := by
  rcases f with rfl | ⟨a, xs, rfl, _⟩
  · cases r; rfl
  · cases r; rfl
theorem any_nonL {K : PySem.W.Frag} {H : Hp} : ∀ {xs : List V} {us : List Value}, Vals xs us → (∀ z ∈ xs, NoneOrL K H z) → us.any PySem.Numpy.isNone = xs.any isNon
  | _, _, .nil, _ => rfl
  | y :: xs, u :: us, .cons r t, f => by
    rw [List.any_cons, List.any_cons, isNone_ofL r (f y (List.mem_cons_self ..)), any_nonL t fun z hz => f z (List.mem_cons_of_mem _ hz)]
section
variable {X : Cx}
theorem noneOr_eqL {A : Around} {pins : List (Addr × Obj)} {σ : L2.St} {H : Hp} {s : Shared} (I : Inv X pins σ H s) (hu : A.units < cLine) {z : V} {u : Value} (r : RelV z u) (f : NoneOrL X.K H z) : SeqAt.EqAt A s u .none (PySem.Numpy.isNone u) := by
  rcases f with rfl | ⟨a, xs, rfl, ha⟩
  · cases r
    exact SeqAt.EqAt.same _
  · cases r
    obtain ⟨its, rv, p, _⟩ := I.list ha
    exact SeqAt.EqAt.list_none p.isList hu
theorem mem_nonL {A : Around} {pins : List (Addr × Obj)} {σ : L2.St} {H : Hp} {s : Shared} (I : Inv X pins σ H s) (hu : A.units < cLine) : ∀ {xs : List V} {us : List Value}, Vals xs us → (∀ z ∈ xs, NoneOrL X.K H z) → ∀ u ∈ us, SeqAt.EqAt A s u .none (PySem.Numpy.isNone u)
  | _, _, .nil, _ => fun u hu' => by cases hu'
  | y :: xs, u :: us, .cons r t, f => fun u' hu' => by
    rcases List.mem_cons.mp hu' with e | hu'
    · subst e
      exact noneOr_eqL I hu r (f y (List.mem_cons_self ..))
    · exact mem_nonL I hu t (fun z hz => f z (List.mem_cons_of_mem _ hz)) u' hu'
theorem op_nonInL (hu : X.A.units + 65 < cLine) : OpR X (compareOp .In) (fun x y H Q => ∃ p xs, x = .non ∧ y = .ref p ∧ SqL X.K H p xs ∧ (∀ z ∈ xs, NoneOrL X.K H z) ∧ Q (.bl (xs.any isNon)) H) := by
  intro pins s σ H x y v u Q I rx ry h
  obtain ⟨p, xs, rfl, rfl, hq, f, q⟩ := h
  cases rx
  cases ry
  obtain ⟨its, rv, hl, _⟩ := I.list hq
  have hu1 : X.A.in1.units < cLine := by show X.A.units + 1 < cLine; omega
  refine SeqAt.in_listAt PySem.Numpy.isNone hl.isList (fun z hz => mem_nonL I hu1 rv f z (by simpa using hz)) ⟨.bl _, H, I, rfl, ?_⟩
  rw [show its.toArray.any PySem.Numpy.isNone = its.any PySem.Numpy.isNone by simp, any_nonL rv f]
  exact q
end

/-! ### sorted of data that are alike: some arrangement -/
def rSortedD (K : PySem.W.Frag) : List V → Hp → VK → Prop := fun vs H Q => ∃ (a : Addr) (β : Type) (enc : β → PyData) (L : List (Addr × β)), vs = [V.ref a] ∧ SqL K H a (L.map fun p => V.ref p.1) ∧ (∀ p ∈ L, Dp K H (.ref p.1) (enc p.2)) ∧
  PySem.W.AllAlike (L.map fun p => enc p.2) ∧ PySem.W.Sortable (L.map fun p => enc p.2) ∧ (∀ p ∈ L, (enc p.2).depth ≤ 8) ∧ ∀ (L' : List (Addr × β)) (q : Addr), L'.Perm L → H q = none → Q (.ref q) (upd H q (.lst (L'.map fun p => V.ref p.1)))
theorem each_of {β : Type} {R : Value → β → Prop} {G : V → β → Prop} (hR : ∀ x u b, RelV x u → G x b → R u b) : ∀ {L : List β} {f : β → V} {us : List Value}, Vals (L.map f) us → (∀ b ∈ L, G (f b) b) → PySem.W.EachIs R us L
  | [], _, _, r, _ => by
    rw [List.map_nil] at r
    cases r
    exact .nil
  | b :: L, f, _, r, g => by
    rw [List.map_cons] at r
    cases r with
    | cons a t => exact .cons (hR _ _ _ a (g b (List.mem_cons_self ..))) (each_of hR t fun c hc => g c (List.mem_cons_of_mem _ hc))
theorem each_refs {β : Type} : ∀ {us : List Value} {L : List (Addr × β)}, PySem.W.EachIs (fun u (p : Addr × β) => u = Value.ref p.1) us L → Vals (L.map fun p => V.ref p.1) us
  | _, _, .nil => .nil
  | _, _, .cons a t => .cons a (each_refs t)
section
variable {X : Cx}
theorem cr_sortedD (hu : X.A.units + 64 < cLine) : CallR X (.builtin "sorted") (rSortedD X.K) := by
  intro pins s σ H vs us Q I r h
  obtain ⟨a, β, enc, L, rfl, hs, hd, hal, hk, hdp, q⟩ := h
  obtain ⟨its, rv, hl, hz⟩ := I.list hs
  obtain ⟨u, rfl, ru⟩ := vals1 r
  obtain rfl : u = Value.ref a := ru
  have e1 : PySem.W.EachIs (fun u (p : Addr × β) => u = Value.ref p.1) its L := each_of (G := fun x p => x = V.ref p.1) (fun x u b rr g => by subst g; exact rr) rv fun _ _ => rfl
  have e2 : PySem.W.EachIs (fun u (p : Addr × β) => ∃ as, Reads s.heap u (enc p.2) as) its L := each_of (G := fun x p => Dp X.K H x (enc p.2)) (fun x u b rr g => Dp.reads I _ _ _ g rr) rv hd
  have hlen : L.length = its.length := by rw [← rv.length, List.length_map]
  have hz' : its.length ≤ sizeLine := by rw [← rv.length]; exact hz
  refine PySem.W.sorted_data (enc := fun p : Addr × β => enc p.2) (R := fun u (p : Addr × β) => u = Value.ref p.1) hl.isList e1 e2 hal hk (by rw [hlen]; exact hz') (fun p hp => by have := hdp p hp; omega) fun out ho e3 => ?_
  have perm := List.mergeSort_perm L (PySem.W.dataLe false fun p : Addr × β => enc p.2)
  have hv := each_refs e3
  have hn := sortedAll_at s.heap its out.toArray
  obtain ⟨n, hn⟩ := hn
  have kp : ∀ b o, s.heap.get? b = some o → (sortedAll s.heap its out.toArray).get? b = some o := fun b o e => sortedAll_old e
  have hfr := I.hok.fresh (Nat.le_succ s.heap.objs.size)
  refine ⟨.ref (s.heap.objs.size + 1), _, I.laid (o := .lst ((L.mergeSort (PySem.W.dataLe false fun p : Addr × β => enc p.2)).map fun p => V.ref p.1)) (t' := s.toks) kp (Nat.le_succ _) ⟨?_, out, n, hv, hn⟩, rfl, q _ _ perm hfr⟩
  rw [List.length_map, perm.length_eq, hlen]
  exact hz'
end

/-! ### calls that may raise -/
structure CalX (P : Program) (w : World) (K : PySem.W.Frag) (mg : Str → Option Value) (base : Heap) (k : Nat) (x : Str) (sp : Sp) : Prop where
  ex : ∃ (f : Addr) (fd : FuncData) (ps : List Str), FnOk P w K mg base (L2.CX P w) k f fd ps sp ∧ mg x = some (.ref f) ∧ PySem.W.keepIn K (.ref f) = true ∧ Binds K fd ps []
structure MetX (P : Program) (w : World) (K : PySem.W.Frag) (mg : Str → Option Value) (base : Heap) (k : Nat) (C : Addr) (m : Str) (sp : Sp) : Prop where
  ex : ∃ (f : Addr) (fd : FuncData) (ps : List Str), Cls K C ∧ Meth K C m f ∧ FnOk P w K mg base (L2.CX P w) k f fd ps sp ∧ Binds K fd ps []
section
variable {P : Program} {w : World} {K : PySem.W.Frag} {mg : Str → Option Value} {base : Heap}
theorem fnX {x qual : Str} {st : Stmt} {f : Addr} {fd : FuncData} {N ps : List Str} {k : Nat} {sp : Sp} (F : C8.Fun K x qual st f fd) (S : FnScope N ps (C8.fnScope st)) (len : ∀ vs H Q E, sp vs H Q E → vs.length = ps.length)
    (hbody : ∀ (cdv : Value) (A : Around) (outer : List Env) (s : Shared) (H : Hp) (vs : List V) (Q : VK) (E : XK), Room k (A.deeper (envOfC qual (C8.fnScope st) s.heap.objs.size f cdv)) → sp vs H Q E →
      ∃ t, PSs (cxOf (L2.CX P w) P w K mg base N qual (C8.fnScope st) f cdv A outer s H E) (C8.fnBody st) t ∧ t { nx := fun _ H' => Q .non H', rt := Q } (start N vs) H) : FnOk P w K mg base (L2.CX P w) (k + 1) f fd ps sp := by
  obtain ⟨oc, od, dV, kV, doc, pm, an, cdv, ct, osl, rfl, lk, hcd⟩ := F.ex
  exact fn_of lk hcd S len fun A outer s H vs Q E hr hsp => hbody cdv A outer s H vs Q E hr hsp
theorem cal0X {x : Str} {st : Stmt} {f : Addr} {fd : FuncData} {N ps : List Str} {k : Nat} {sp : Sp} (F : C8.Def K mg x st f fd) (b : Binds K fd ps []) (S : FnScope N ps (C8.fnScope st)) (len : ∀ vs H Q E, sp vs H Q E → vs.length = ps.length)
    (hbody : ∀ (cdv : Value) (A : Around) (outer : List Env) (s : Shared) (H : Hp) (vs : List V) (Q : VK) (E : XK), Room k (A.deeper (envOfC x (C8.fnScope st) s.heap.objs.size f cdv)) → sp vs H Q E →
      ∃ t, PSs (cxOf (L2.CX P w) P w K mg base N x (C8.fnScope st) f cdv A outer s H E) (C8.fnBody st) t ∧ t { nx := fun _ H' => Q .non H', rt := Q } (start N vs) H) : CalX P w K mg base (k + 1) x sp :=
  ⟨f, fd, ps, fnX F.fn S len hbody, F.mgf, F.kp, b⟩
theorem met0X {m qual : Str} {C : Addr} {st : Stmt} {f : Addr} {fd : FuncData} {N ps : List Str} {k : Nat} {sp : Sp} (c : Cls K C) (me : Meth K C m f) (F : C8.Fun K m qual st f fd) (b : Binds K fd ps []) (S : FnScope N ps (C8.fnScope st)) (len : ∀ vs H Q E, sp vs H Q E → vs.length = ps.length)
    (hbody : ∀ (cdv : Value) (A : Around) (outer : List Env) (s : Shared) (H : Hp) (vs : List V) (Q : VK) (E : XK), Room k (A.deeper (envOfC qual (C8.fnScope st) s.heap.objs.size f cdv)) → sp vs H Q E →
      ∃ t, PSs (cxOf (L2.CX P w) P w K mg base N qual (C8.fnScope st) f cdv A outer s H E) (C8.fnBody st) t ∧ t { nx := fun _ H' => Q .non H', rt := Q } (start N vs) H) : MetX P w K mg base (k + 1) C m sp :=
  ⟨f, fd, ps, c, me, fnX F S len hbody, b⟩
end
section
variable {X : Cx} {k j : Nat} {C : Addr} {x m : Str} {sp : Sp} {p pos apos : Pos} {e o : Expr} {es : List Expr} {ta : TE} {t : TA} {E : XK}
theorem pe_cX (c : CalX X.prog X.w X.K X.mg X.base k x sp) (hr : Room j X.A) (hk : k ≤ j) (hg : Gl X x) (hx : Passes (L2.CX X.prog X.w) X E) (ha : PA X (e :: es) t)
    (hdb : (x == ("__debug__" : Str)) = false := by decide) (he : starEach (e :: es) X.env = (false, eval e X.env) :: starEach es X.env := by rfl) (hpl : (backTo pos (starEach es X.env)).any (·.1) = false := by rfl) :
    PE X (.Call (.Name x p) (e :: es) [] pos) (tCall sp [] E t) := by
  obtain ⟨f, fd, ps, F, hm, kp, b⟩ := c.ex
  exact pe_call F (hr.mono hk) hg hm kp b .nil hx ha hdb he hpl
theorem pe_mtX {pl : Sem Bool} (c : MetX X.prog X.w X.K X.mg X.base k C m sp) (hr : Room j X.A) (hk : k ≤ j) (hx : Passes (L2.CX X.prog X.w) X E) (he : PE X o ta) (ha : PA X (e :: es) t)
    (hst : starEach (e :: es) X.env = (false, eval e X.env) :: starEach es X.env := by rfl) (hpl : (backTo pos (starEach es X.env)).any (·.1) = false := by rfl)
    (ht : eval (.Call (.Attribute o m apos) (e :: es) [] pos) X.env = (do
      let ov ← eval o X.env
      standAt apos.atName
      let (f, first) ← holding [ov] (getMethod ov m pl)
      callWith pos f first (backTo pos (starEach (e :: es) X.env)) (backToKw pos (keywordEach [] X.env))) := by rfl) :
    PE X (.Call (.Attribute o m apos) (e :: es) [] pos) (tMeth C m sp [] E ta t) := by
  obtain ⟨f, fd, ps, hc, hm, F, b⟩ := c.ex
  exact pe_meth (pl := pl) he hc hm F (hr.mono hk) b .nil hx ha hst hpl ht
theorem pe_mtX0 {pl : Sem Bool} (c : MetX X.prog X.w X.K X.mg X.base k C m sp) (hr : Room j X.A) (hk : k ≤ j) (hx : Passes (L2.CX X.prog X.w) X E) (he : PE X o ta)
    (ht : eval (.Call (.Attribute o m apos) [] [] pos) X.env = (do
      let ov ← eval o X.env
      standAt apos.atName
      let (f, first) ← holding [ov] (getMethod ov m pl)
      callWith pos f first (backTo pos (starEach [] X.env)) (backToKw pos (keywordEach [] X.env))) := by rfl) :
    PE X (.Call (.Attribute o m apos) [] [] pos) (tMeth C m sp [] E ta tNil) := by
  obtain ⟨f, fd, ps, hc, hm, F, b⟩ := c.ex
  exact pe_meth0 (pl := pl) he hc hm F (hr.mono hk) b .nil hx ht
/-- the call of a def that may raise, within a try -/
theorem pe_callSX {W : WX} (c : CalX X.prog X.w X.K X.mg X.base k x sp) (hr : Room j X.A) (hk : k ≤ j) (hg : Gl X x) (tk : Takes X W) (ha : PA X (e :: es) t)
    (hdb : (x == ("__debug__" : Str)) = false := by decide) (he : starEach (e :: es) X.env = (false, eval e X.env) :: starEach es X.env := by rfl) (hpl : (backTo pos (starEach es X.env)).any (·.1) = false := by rfl) :
    PE X (.Call (.Name x p) (e :: es) [] pos) (tCallS sp (WE W) t) := by
  obtain ⟨f, fd, ps, F, hm, kp, b⟩ := c.ex
  exact pe_callS F (hr.mono hk) hg hm kp b (fun σ => passAt tk σ) ha hdb he hpl
end

/-! ### named readings over a given written part -/
def rTupOf (K : PySem.W.Frag) : List V → Hp → VK → Prop := fun xs H Q => ∃ p ys, xs = [.ref p] ∧ ((SqL K H p ys ∧ ∀ l, H l = none → Q (.ref l) (upd H l (.tup ys))) ∨ (SqT K H p ys ∧ Q (.ref p) H))
def rListOf (K : PySem.W.Frag) : List V → Hp → VK → Prop := fun xs H Q => ∃ p ys, xs = [.ref p] ∧ (SqL K H p ys ∨ SqT K H p ys) ∧ ∀ l, H l = none → Q (.ref l) (upd H l (.lst ys))
def rLenOf (K : PySem.W.Frag) : List V → Hp → VK → Prop := fun xs H Q => ∃ p ys, xs = [.ref p] ∧ (SqL K H p ys ∨ SqT K H p ys) ∧ Q (.int (ys.length : Nat)) H
section
variable {X : Cx} {K : PySem.W.Frag}
theorem call_tupleK (h : X.K = K) : CallR X (.type "tuple") (rTupOf K) := by subst h; exact call_tuple_of
theorem call_listK (h : X.K = K) : CallR X (.type "list") (rListOf K) := by subst h; exact call_list_of
theorem call_lenK (h : X.K = K) : CallR X (.builtin "len") (rLenOf K) := by subst h; exact call_len_seq
theorem ix_listK (h : X.K = K) : IxR X (rIxL K) := by subst h; exact ix_list
theorem ix_tupK (h : X.K = K) : IxR X (rIxT K) := by subst h; exact ix_tup
end
end K92

set_option Elab.async false
set_option linter.all false
set_option maxRecDepth 100000
set_option maxHeartbeats 4000000
set_option autoImplicit false
/-! K92T: the defs by their places, their scopes, what the top has written. Printed by gentop.py. -/
namespace K92
open PySem PySem.Spec PyProof.Rows L2
def top (i : Nat) : Stmt := PySem.Challenge.pw_yardsort_k92_whole_never_both.main.body.getD i (.Pass ⟨0, 0, 0, 0⟩)
abbrev s_Track_init : Stmt := inClass (top 13) 0
abbrev N_Track_init : List Str := ["self", "text"]
theorem sc_Track_init : FnScope N_Track_init ["self", "text"] (C8.fnScope s_Track_init) := C8.fnScope_by (by decide +kernel)
abbrev s_Track_sign : Stmt := inClass (top 13) 1
abbrev N_Track_sign : List Str := ["self"]
theorem sc_Track_sign : FnScope N_Track_sign ["self"] (C8.fnScope s_Track_sign) := C8.fnScope_by (by decide +kernel)
abbrev s_Track_begin : Stmt := inClass (top 13) 2
abbrev N_Track_begin : List Str := ["self", "bound"]
theorem sc_Track_begin : FnScope N_Track_begin ["self"] (C8.fnScope s_Track_begin) := C8.fnScope_by (by decide +kernel)
abbrev s_Track_put : Stmt := inClass (top 13) 3
abbrev N_Track_put : List Str := ["self", "entries", "exits", "group", "source", "target"]
theorem sc_Track_put : FnScope N_Track_put ["self", "entries", "exits"] (C8.fnScope s_Track_put) := C8.fnScope_by (by decide +kernel)
abbrev s_Track_read : Stmt := inClass (top 13) 4
abbrev N_Track_read : List Str := ["self", "device", "entries", "exits", "group"]
theorem sc_Track_read : FnScope N_Track_read ["self"] (C8.fnScope s_Track_read) := C8.fnScope_by (by decide +kernel)
abbrev s_Track_holds : Stmt := inClass (top 13) 5
abbrev N_Track_holds : List Str := ["self", "row", "situation", "came", "held", "gone", "wagons", "bound", "inside"]
theorem sc_Track_holds : FnScope N_Track_holds ["self", "row", "situation"] (C8.fnScope s_Track_holds) := C8.fnScope_by (by decide +kernel)
abbrev s_Track_made : Stmt := inClass (top 13) 6
abbrev N_Track_made : List Str := ["self", "row", "situation", "move", "came", "held", "gone", "source", "source_end", "target", "target_end", "lists", "wagon", "inside"]
theorem sc_Track_made : FnScope N_Track_made ["self", "row", "situation", "move"] (C8.fnScope s_Track_made) := C8.fnScope_by (by decide +kernel)
abbrev s_Track_following : Stmt := inClass (top 13) 7
abbrev N_Track_following : List Str := ["self", "row", "situation", "found", "source", "target", "source_end", "target_end", "after"]
theorem sc_Track_following : FnScope N_Track_following ["self", "row", "situation"] (C8.fnScope s_Track_following) := C8.fnScope_by (by decide +kernel)
abbrev s__track : Stmt := top 14
abbrev N__track : List Str := ["text", "track"]
theorem sc__track : FnScope N__track ["text"] (C8.fnScope s__track) := C8.fnScope_by (by decide +kernel)
abbrev s__check_row : Stmt := top 15
abbrev N__check_row : List Str := ["row"]
theorem sc__check_row : FnScope N__check_row ["row"] (C8.fnScope s__check_row) := C8.fnScope_by (by decide +kernel)
abbrev s__first : Stmt := top 16
abbrev N__first : List Str := ["track", "_"]
theorem sc__first : FnScope N__first ["track"] (C8.fnScope s__first) := C8.fnScope_by (by decide +kernel)
abbrev s__sorts : Stmt := top 17
abbrev N__sorts : List Str := ["track", "row", "moves", "situation", "move"]
theorem sc__sorts : FnScope N__sorts ["track", "row", "moves"] (C8.fnScope s__sorts) := C8.fnScope_by (by decide +kernel)
abbrev s__is_live : Stmt := top 18
abbrev N__is_live : List Str := ["situation"]
theorem sc__is_live : FnScope N__is_live ["situation"] (C8.fnScope s__is_live) := C8.fnScope_by (by decide +kernel)
abbrev s__is_closed : Stmt := top 19
abbrev N__is_closed : List Str := ["track", "row", "situations", "known", "situation", "after"]
theorem sc__is_closed : FnScope N__is_closed ["track", "row", "situations"] (C8.fnScope s__is_closed) := C8.fnScope_by (by decide +kernel)
abbrev s_is_way : Stmt := top 20
abbrev N_is_way : List Str := ["text", "row", "moves", "track"]
theorem sc_is_way : FnScope N_is_way ["text", "row", "moves"] (C8.fnScope s_is_way) := C8.fnScope_by (by decide +kernel)
abbrev s_is_closed_list : Stmt := top 21
abbrev N_is_closed_list : List Str := ["text", "row", "situations", "track"]
theorem sc_is_closed_list : FnScope N_is_closed_list ["text", "row", "situations"] (C8.fnScope s_is_closed_list) := C8.fnScope_by (by decide +kernel)
abbrev s_is_least_row : Stmt := top 22
abbrev N_is_least_row : List Str := ["text", "row", "situations", "ways", "track", "index", "moves", "shorter", "wagon"]
theorem sc_is_least_row : FnScope N_is_least_row ["text", "row", "situations", "ways"] (C8.fnScope s_is_least_row) := C8.fnScope_by (by decide +kernel)
abbrev s_is_row : Stmt := top 25
abbrev N_is_row : List Str := ["numbers"]
theorem sc_is_row : FnScope N_is_row ["numbers"] (C8.fnScope s_is_row) := C8.fnScope_by (by decide +kernel)
abbrev s_Group_init : Stmt := inClass (top 36) 0
abbrev N_Group_init : List Str := ["self", "sign"]
theorem sc_Group_init : FnScope N_Group_init ["self", "sign"] (C8.fnScope s_Group_init) := C8.fnScope_by (by decide +kernel)
abbrev s_Reading_init : Stmt := inClass (top 37) 0
abbrev N_Reading_init : List Str := ["self", "text"]
theorem sc_Reading_init : FnScope N_Reading_init ["self", "text"] (C8.fnScope s_Reading_init) := C8.fnScope_by (by decide +kernel)
abbrev s_Reading_sign : Stmt := inClass (top 37) 1
abbrev N_Reading_sign : List Str := ["self"]
theorem sc_Reading_sign : FnScope N_Reading_sign ["self"] (C8.fnScope s_Reading_sign) := C8.fnScope_by (by decide +kernel)
abbrev s_Reading_device : Stmt := inClass (top 37) 3
abbrev N_Reading_device : List Str := ["self", "number", "bound"]
theorem sc_Reading_device : FnScope N_Reading_device ["self"] (C8.fnScope s_Reading_device) := C8.fnScope_by (by decide +kernel)
abbrev s_Reading_first_device : Stmt := inClass (top 37) 4
abbrev N_Reading_first_device : List Str := ["self"]
theorem sc_Reading_first_device : FnScope N_Reading_first_device ["self"] (C8.fnScope s_Reading_first_device) := C8.fnScope_by (by decide +kernel)
abbrev s_Reading_joined : Stmt := inClass (top 37) 5
abbrev N_Reading_joined : List Str := ["self", "group", "entry", "entries", "out", "at", "yard"]
theorem sc_Reading_joined : FnScope N_Reading_joined ["self", "group"] (C8.fnScope s_Reading_joined) := C8.fnScope_by (by decide +kernel)
abbrev s_Reading_closed : Stmt := inClass (top 37) 6
abbrev N_Reading_closed : List Str := ["self", "yard", "group"]
theorem sc_Reading_closed : FnScope N_Reading_closed ["self", "yard"] (C8.fnScope s_Reading_closed) := C8.fnScope_by (by decide +kernel)
abbrev s_Reading_whole : Stmt := inClass (top 37) 7
abbrev N_Reading_whole : List Str := ["self", "yard"]
theorem sc_Reading_whole : FnScope N_Reading_whole ["self"] (C8.fnScope s_Reading_whole) := C8.fnScope_by (by decide +kernel)
abbrev s_Yard_init : Stmt := inClass (top 38) 0
abbrev N_Yard_init : List Str := ["self", "text", "reading", "entries", "exits", "outer", "entry", "out"]
theorem sc_Yard_init : FnScope N_Yard_init ["self", "text"] (C8.fnScope s_Yard_init) := C8.fnScope_by (by decide +kernel)
abbrev s_Yard_len : Stmt := inClass (top 38) 1
abbrev N_Yard_len : List Str := ["self"]
theorem sc_Yard_len : FnScope N_Yard_len ["self"] (C8.fnScope s_Yard_len) := C8.fnScope_by (by decide +kernel)
abbrev s_Yard_ins : Stmt := inClass (top 38) 2
abbrev N_Yard_ins : List Str := ["self", "device"]
theorem sc_Yard_ins : FnScope N_Yard_ins ["self", "device"] (C8.fnScope s_Yard_ins) := C8.fnScope_by (by decide +kernel)
abbrev s_Yard_outs : Stmt := inClass (top 38) 3
abbrev N_Yard_outs : List Str := ["self", "device"]
theorem sc_Yard_outs : FnScope N_Yard_outs ["self", "device"] (C8.fnScope s_Yard_outs) := C8.fnScope_by (by decide +kernel)
abbrev s_Yard_room : Stmt := inClass (top 38) 5
abbrev N_Yard_room : List Str := ["self", "device", "count"]
theorem sc_Yard_room : FnScope N_Yard_room ["self", "device", "count"] (C8.fnScope s_Yard_room) := C8.fnScope_by (by decide +kernel)
abbrev s_check_row : Stmt := top 40
abbrev N_check_row : List Str := ["row"]
theorem sc_check_row : FnScope N_check_row ["row"] (C8.fnScope s_check_row) := C8.fnScope_by (by decide +kernel)
abbrev s_first_situation : Stmt := top 41
abbrev N_first_situation : List Str := ["yard", "row", "_"]
theorem sc_first_situation : FnScope N_first_situation ["yard", "row"] (C8.fnScope s_first_situation) := C8.fnScope_by (by decide +kernel)
abbrev s_source_ends : Stmt := top 42
abbrev N_source_ends : List Str := ["yard", "row", "situation", "source", "came", "held", "_"]
theorem sc_source_ends : FnScope N_source_ends ["yard", "row", "situation", "source"] (C8.fnScope s_source_ends) := C8.fnScope_by (by decide +kernel)
abbrev s_target_ends : Stmt := top 43
abbrev N_target_ends : List Str := ["yard", "situation", "target"]
theorem sc_target_ends : FnScope N_target_ends ["yard", "situation", "target"] (C8.fnScope s_target_ends) := C8.fnScope_by (by decide +kernel)
abbrev s_possible : Stmt := top 44
abbrev N_possible : List Str := ["yard", "row", "situation", "moves", "source", "target", "out", "end"]
theorem sc_possible : FnScope N_possible ["yard", "row", "situation"] (C8.fnScope s_possible) := C8.fnScope_by (by decide +kernel)
abbrev s_wagon_of : Stmt := top 45
abbrev N_wagon_of : List Str := ["row", "situation", "move", "came", "held", "_"]
theorem sc_wagon_of : FnScope N_wagon_of ["row", "situation", "move"] (C8.fnScope s_wagon_of) := C8.fnScope_by (by decide +kernel)
abbrev s_after : Stmt := top 46
abbrev N_after : List Str := ["row", "situation", "move", "came", "held", "gone", "wagon", "devices", "source", "out", "target", "end"]
theorem sc_after : FnScope N_after ["row", "situation", "move"] (C8.fnScope s_after) := C8.fnScope_by (by decide +kernel)
abbrev s_is_live : Stmt := top 49
abbrev N_is_live : List Str := ["situation", "gone"]
theorem sc_is_live : FnScope N_is_live ["situation"] (C8.fnScope s_is_live) := C8.fnScope_by (by decide +kernel)
abbrev s_Search_init : Stmt := inClass (top 50) 0
abbrev N_Search_init : List Str := ["self", "yard", "row", "situation"]
theorem sc_Search_init : FnScope N_Search_init ["self", "yard", "row", "situation"] (C8.fnScope s_Search_init) := C8.fnScope_by (by decide +kernel)
abbrev s_Search_is_goal : Stmt := inClass (top 50) 1
abbrev N_Search_is_goal : List Str := ["self", "situation"]
theorem sc_Search_is_goal : FnScope N_Search_is_goal ["self", "situation"] (C8.fnScope s_Search_is_goal) := C8.fnScope_by (by decide +kernel)
abbrev s_Search_look : Stmt := inClass (top 50) 2
abbrev N_Search_look : List Str := ["self", "index", "situation", "move", "following"]
theorem sc_Search_look : FnScope N_Search_look ["self", "index"] (C8.fnScope s_Search_look) := C8.fnScope_by (by decide +kernel)
abbrev s_Search_finish : Stmt := inClass (top 50) 3
abbrev N_Search_finish : List Str := ["self", "index"]
theorem sc_Search_finish : FnScope N_Search_finish ["self"] (C8.fnScope s_Search_finish) := C8.fnScope_by (by decide +kernel)
abbrev s_Search_way : Stmt := inClass (top 50) 4
abbrev N_Search_way : List Str := ["self", "moves", "index", "move"]
theorem sc_Search_way : FnScope N_Search_way ["self"] (C8.fnScope s_Search_way) := C8.fnScope_by (by decide +kernel)
abbrev s_search_from : Stmt := top 51
abbrev N_search_from : List Str := ["yard", "row", "situation", "search"]
theorem sc_search_from : FnScope N_search_from ["yard", "row", "situation"] (C8.fnScope s_search_from) := C8.fnScope_by (by decide +kernel)
abbrev s_solve : Stmt := top 52
abbrev N_solve : List Str := ["yard", "row", "search"]
theorem sc_solve : FnScope N_solve ["yard", "row"] (C8.fnScope s_solve) := C8.fnScope_by (by decide +kernel)
abbrev s_can_sort : Stmt := top 53
abbrev N_can_sort : List Str := ["yard", "row"]
theorem sc_can_sort : FnScope N_can_sort ["yard", "row"] (C8.fnScope s_can_sort) := C8.fnScope_by (by decide +kernel)
abbrev s_closed_list : Stmt := top 55
abbrev N_closed_list : List Str := ["yard", "row", "search"]
theorem sc_closed_list : FnScope N_closed_list ["yard", "row"] (C8.fnScope s_closed_list) := C8.fnScope_by (by decide +kernel)
abbrev s__law_number : Stmt := top 57
abbrev N__law_number : List Str := ["_law_cell"]
theorem sc__law_number : FnScope N__law_number ["_law_cell"] (C8.fnScope s__law_number) := C8.fnScope_by (by decide +kernel)
abbrev s__law_draws : Stmt := top 58
abbrev N__law_draws : List Str := ["_law_script", "_law_draws_here", "_law_seed", "_law_cell", "_law_rest", "_law_k", "_law_once", "_law_twice"]
theorem sc__law_draws : FnScope N__law_draws ["_law_script"] (C8.fnScope s__law_draws) := C8.fnScope_by (by decide +kernel)
abbrev s__law_draw : Stmt := top 59
abbrev N__law_draw : List Str := ["_law_draws_here"]
theorem sc__law_draw : FnScope N__law_draw ["_law_draws_here"] (C8.fnScope s__law_draw) := C8.fnScope_by (by decide +kernel)
abbrev s__law_pick : Stmt := top 60
abbrev N__law_pick : List Str := ["_law_draws_here", "_law_many"]
theorem sc__law_pick : FnScope N__law_pick ["_law_draws_here", "_law_many"] (C8.fnScope s__law_pick) := C8.fnScope_by (by decide +kernel)
abbrev s__law_row : Stmt := top 61
abbrev N__law_row : List Str := ["_law_draws_here", "_law_size", "_law_row_here", "_law_k"]
theorem sc__law_row : FnScope N__law_row ["_law_draws_here", "_law_size"] (C8.fnScope s__law_row) := C8.fnScope_by (by decide +kernel)
abbrev s__law_device : Stmt := top 62
abbrev N__law_device : List Str := ["_law_draws_here"]
theorem sc__law_device : FnScope N__law_device ["_law_draws_here"] (C8.fnScope s__law_device) := C8.fnScope_by (by decide +kernel)
abbrev s__law_yard : Stmt := top 63
abbrev N__law_yard : List Str := ["_law_draws_here", "_law_kind", "_law_one", "_law_other"]
theorem sc__law_yard : FnScope N__law_yard ["_law_draws_here"] (C8.fnScope s__law_yard) := C8.fnScope_by (by decide +kernel)
abbrev s__law_parts : Stmt := top 64
abbrev N__law_parts : List Str := ["_law_text", "_law_parts_here", "_law_depth", "_law_start", "_law_at"]
theorem sc__law_parts : FnScope N__law_parts ["_law_text"] (C8.fnScope s__law_parts) := C8.fnScope_by (by decide +kernel)
abbrev s__law_ends : Stmt := top 65
abbrev N__law_ends : List Str := ["_law_text", "_law_first_here", "_law_devices", "_law_links", "_law_bound", "_law_entries", "_law_exits", "_law_part", "_law_into", "_law_out", "_law_source", "_law_target"]
theorem sc__law_ends : FnScope N__law_ends ["_law_text", "_law_first_here", "_law_devices", "_law_links"] (C8.fnScope s__law_ends) := C8.fnScope_by (by decide +kernel)
abbrev s__law_plan : Stmt := top 66
abbrev N__law_plan : List Str := ["_law_text", "_law_devices", "_law_links", "_law_entries", "_law_exits", "_law_device_here"]
theorem sc__law_plan : FnScope N__law_plan ["_law_text"] (C8.fnScope s__law_plan) := C8.fnScope_by (by decide +kernel)
abbrev s__law_first : Stmt := top 67
abbrev N__law_first : List Str := ["_law_plan_here", "_law_device_here"]
theorem sc__law_first : FnScope N__law_first ["_law_plan_here"] (C8.fnScope s__law_first) := C8.fnScope_by (by decide +kernel)
abbrev s__law_moved : Stmt := top 68
abbrev N__law_moved : List Str := ["_law_plan_here", "_law_row_here", "_law_situation", "_law_move", "_law_came", "_law_held", "_law_gone", "_law_source", "_law_source_end", "_law_target", "_law_target_end", "_law_lists", "_law_wagon", "_law_outs", "_law_ins", "_law_kind", "_law_bound", "_law_inside"]
theorem sc__law_moved : FnScope N__law_moved ["_law_plan_here", "_law_row_here", "_law_situation", "_law_move"] (C8.fnScope s__law_moved) := C8.fnScope_by (by decide +kernel)
abbrev s__law_is_live : Stmt := top 69
abbrev N__law_is_live : List Str := ["_law_situation"]
theorem sc__law_is_live : FnScope N__law_is_live ["_law_situation"] (C8.fnScope s__law_is_live) := C8.fnScope_by (by decide +kernel)
abbrev s__law_after : Stmt := top 70
abbrev N__law_after : List Str := ["_law_plan_here", "_law_row_here", "_law_situation", "_law_found", "_law_source", "_law_target", "_law_end", "_law_after_here"]
theorem sc__law_after : FnScope N__law_after ["_law_plan_here", "_law_row_here", "_law_situation"] (C8.fnScope s__law_after) := C8.fnScope_by (by decide +kernel)
abbrev s__law_walk : Stmt := top 72
abbrev N__law_walk : List Str := ["_law_draws_here", "_law_plan_here", "_law_row_here", "_law_moves", "_law_seen", "_law_situation", "_law_k", "_law_found", "_law_move", "_law_pair"]
theorem sc__law_walk : FnScope N__law_walk ["_law_draws_here", "_law_plan_here", "_law_row_here"] (C8.fnScope s__law_walk) := C8.fnScope_by (by decide +kernel)
abbrev s__law_closed : Stmt := top 73
abbrev N__law_closed : List Str := ["_law_yard_here", "_law_row_here"]
theorem sc__law_closed : FnScope N__law_closed ["_law_yard_here", "_law_row_here"] (C8.fnScope s__law_closed) := C8.fnScope_by (by decide +kernel)
abbrev s__law_solved : Stmt := top 74
abbrev N__law_solved : List Str := ["_law_yard_here", "_law_row_here"]
theorem sc__law_solved : FnScope N__law_solved ["_law_yard_here", "_law_row_here"] (C8.fnScope s__law_solved) := C8.fnScope_by (by decide +kernel)
abbrev s__law_sorted : Stmt := top 75
abbrev N__law_sorted : List Str := ["_law_yard_here", "_law_row_here"]
theorem sc__law_sorted : FnScope N__law_sorted ["_law_yard_here", "_law_row_here"] (C8.fnScope s__law_sorted) := C8.fnScope_by (by decide +kernel)
abbrev s__law_without : Stmt := top 76
abbrev N__law_without : List Str := ["_law_row_here", "_law_wagon", "_law_other"]
theorem sc__law_without : FnScope N__law_without ["_law_row_here", "_law_wagon"] (C8.fnScope s__law_without) := C8.fnScope_by (by decide +kernel)
abbrev s__law_with : Stmt := top 77
abbrev N__law_with : List Str := ["_law_draws_here", "_law_row_here", "_law_longer", "_law_k", "_law_wagon", "_law_other"]
theorem sc__law_with : FnScope N__law_with ["_law_draws_here", "_law_row_here"] (C8.fnScope s__law_with) := C8.fnScope_by (by decide +kernel)
abbrev s__law_is_least : Stmt := top 78
abbrev N__law_is_least : List Str := ["_law_draws_here", "_law_text", "_law_row_here", "_law_situations", "_law_yard_here", "_law_ways", "_law_shorter", "_law_k", "_law_longer", "_law_wagon"]
theorem sc__law_is_least : FnScope N__law_is_least ["_law_draws_here", "_law_text", "_law_row_here", "_law_situations"] (C8.fnScope s__law_is_least) := C8.fnScope_by (by decide +kernel)
abbrev s_law : Stmt := top 79
abbrev N_law : List Str := ["_law_script", "_law_draws_here", "_law_text", "_law_hard", "_law_row_here", "_law_moves", "_law_situations", "_law_told", "_law_at"]
theorem sc_law : FnScope N_law ["_law_script"] (C8.fnScope s_law) := C8.fnScope_by (by decide +kernel)
theorem boot_int_ : bootBuiltins "int" = some (.type "int") := by decide +kernel
theorem boot_list_ : bootBuiltins "list" = some (.type "list") := by decide +kernel
theorem boot_tuple_ : bootBuiltins "tuple" = some (.type "tuple") := by decide +kernel
theorem boot_sorted_ : bootBuiltins "sorted" = some (.builtin "sorted") := by decide +kernel
/-- a def of the module as the top has left it -/
def FFn (K : PySem.W.Frag) (mg : Str → Option Value) (x : Str) (st : Stmt) (ps : List Str) : Prop := ∃ f fd, C8.Def K mg x st f fd ∧ Binds K fd ps []
/-- a method -/
def MFn (K : PySem.W.Frag) (C : Addr) (m qual : Str) (st : Stmt) (ps : List Str) : Prop := ∃ f fd, Meth K C m f ∧ C8.Fun K m qual st f fd ∧ Binds K fd ps []
/-- an __init__ -/
def IFn (K : PySem.W.Frag) (C : Addr) (qual : Str) (st : Stmt) (ps : List Str) : Prop := ∃ f fd, Mk K C f ∧ C8.Fun K "__init__" qual st f fd ∧ Binds K fd ps []
/-- the text of one sign -/
abbrev ch (c : Nat) : Str := ⟨#[c]⟩
/-- the signs that a yard's text may have: sqdio123()[] and the blank -/
def signs : List Nat := [115, 113, 100, 105, 111, 49, 50, 51, 40, 41, 91, 93, 32]
/-- a written dict at d whose keys are texts of one sign, its values tuples of ints -/
structure TupDict (K : PySem.W.Frag) (w : World) (d : Addr) (f : Nat → List Int) : Prop where
  get : ∀ c, c ∈ [115, 113, 100, 105, 111] → ∃ a, KDct K w d (ch c) (.ref a) ∧ ∀ H, SqT K H a ((f c).map V.int)
/-- which of the signs it has -/
def HasKeys (K : PySem.W.Frag) (d : Addr) (ks : List Nat) : Prop := ∀ c, c ∈ signs → ∃ r, PySem.W.nsIn K d (ch c) = some r ∧ r.isSome = decide (c ∈ ks)
structure TX (K : PySem.W.Frag) (w : World) (mg : Str → Option Value) where
  cTrack : Addr
  cGroup : Addr
  cReading : Addr
  cYard : Addr
  cSearch : Addr
  cTooLarge : Addr
  dENTERS : Addr
  dLEAVES : Addr
  dCLOSING_certificates : Addr
  dINS : Addr
  dOUTS : Addr
  dCLOSING_yards : Addr
  eENTERS : Array DictEntry
  nENTERS : Nat
  eCLOSING_certificates : Array DictEntry
  nCLOSING_certificates : Nat
  eCLOSING_yards : Array DictEntry
  nCLOSING_yards : Nat
  clTrack : Cls K cTrack
  g_Track : mg "Track" = some (.ref cTrack)
  na_Track_text : NoAttr K cTrack "text"
  na_Track_at : NoAttr K cTrack "at"
  na_Track_kinds : NoAttr K cTrack "kinds"
  na_Track_bounds : NoAttr K cTrack "bounds"
  na_Track_links : NoAttr K cTrack "links"
  na_Track_groups : NoAttr K cTrack "groups"
  clGroup : Cls K cGroup
  g_Group : mg "Group" = some (.ref cGroup)
  na_Group_sign : NoAttr K cGroup "sign"
  na_Group_yards : NoAttr K cGroup "yards"
  clReading : Cls K cReading
  g_Reading : mg "Reading" = some (.ref cReading)
  na_Reading_text : NoAttr K cReading "text"
  na_Reading_at : NoAttr K cReading "at"
  na_Reading_kinds : NoAttr K cReading "kinds"
  na_Reading_bounds : NoAttr K cReading "bounds"
  na_Reading_links : NoAttr K cReading "links"
  na_Reading_groups : NoAttr K cReading "groups"
  clYard : Cls K cYard
  g_Yard : mg "Yard" = some (.ref cYard)
  na_Yard_text : NoAttr K cYard "text"
  na_Yard_kinds : NoAttr K cYard "kinds"
  na_Yard_bounds : NoAttr K cYard "bounds"
  na_Yard_links : NoAttr K cYard "links"
  clSearch : Cls K cSearch
  g_Search : mg "Search" = some (.ref cSearch)
  na_Search_yard : NoAttr K cSearch "yard"
  na_Search_wagons : NoAttr K cSearch "wagons"
  na_Search_met : NoAttr K cSearch "met"
  na_Search_known : NoAttr K cSearch "known"
  na_Search_origin : NoAttr K cSearch "origin"
  na_Search_found : NoAttr K cSearch "found"
  fn_Track_init : IFn K cTrack "Track.__init__" s_Track_init ["self", "text"]
  fn_Track_sign : MFn K cTrack "sign" "Track.sign" s_Track_sign ["self"]
  fn_Track_begin : MFn K cTrack "begin" "Track.begin" s_Track_begin ["self"]
  fn_Track_put : MFn K cTrack "put" "Track.put" s_Track_put ["self", "entries", "exits"]
  fn_Track_read : MFn K cTrack "read" "Track.read" s_Track_read ["self"]
  fn_Track_holds : MFn K cTrack "holds" "Track.holds" s_Track_holds ["self", "row", "situation"]
  fn_Track_made : MFn K cTrack "made" "Track.made" s_Track_made ["self", "row", "situation", "move"]
  fn_Track_following : MFn K cTrack "following" "Track.following" s_Track_following ["self", "row", "situation"]
  fn__track : FFn K mg "_track" s__track ["text"]
  fn__check_row : FFn K mg "_check_row" s__check_row ["row"]
  fn__first : FFn K mg "_first" s__first ["track"]
  fn__sorts : FFn K mg "_sorts" s__sorts ["track", "row", "moves"]
  fn__is_live : FFn K mg "_is_live" s__is_live ["situation"]
  fn__is_closed : FFn K mg "_is_closed" s__is_closed ["track", "row", "situations"]
  fn_is_way : FFn K mg "is_way" s_is_way ["text", "row", "moves"]
  fn_is_closed_list : FFn K mg "is_closed_list" s_is_closed_list ["text", "row", "situations"]
  fn_is_least_row : FFn K mg "is_least_row" s_is_least_row ["text", "row", "situations", "ways"]
  fn_is_row : FFn K mg "is_row" s_is_row ["numbers"]
  fn_Group_init : IFn K cGroup "Group.__init__" s_Group_init ["self", "sign"]
  fn_Reading_init : IFn K cReading "Reading.__init__" s_Reading_init ["self", "text"]
  fn_Reading_sign : MFn K cReading "sign" "Reading.sign" s_Reading_sign ["self"]
  fn_Reading_device : MFn K cReading "device" "Reading.device" s_Reading_device ["self"]
  fn_Reading_first_device : MFn K cReading "first_device" "Reading.first_device" s_Reading_first_device ["self"]
  fn_Reading_joined : MFn K cReading "joined" "Reading.joined" s_Reading_joined ["self", "group"]
  fn_Reading_closed : MFn K cReading "closed" "Reading.closed" s_Reading_closed ["self", "yard"]
  fn_Reading_whole : MFn K cReading "whole" "Reading.whole" s_Reading_whole ["self"]
  fn_Yard_init : IFn K cYard "Yard.__init__" s_Yard_init ["self", "text"]
  fn_Yard_len : MFn K cYard "__len__" "Yard.__len__" s_Yard_len ["self"]
  fn_Yard_ins : MFn K cYard "ins" "Yard.ins" s_Yard_ins ["self", "device"]
  fn_Yard_outs : MFn K cYard "outs" "Yard.outs" s_Yard_outs ["self", "device"]
  fn_Yard_room : MFn K cYard "room" "Yard.room" s_Yard_room ["self", "device", "count"]
  fn_check_row : FFn K mg "check_row" s_check_row ["row"]
  fn_first_situation : FFn K mg "first_situation" s_first_situation ["yard", "row"]
  fn_source_ends : FFn K mg "source_ends" s_source_ends ["yard", "row", "situation", "source"]
  fn_target_ends : FFn K mg "target_ends" s_target_ends ["yard", "situation", "target"]
  fn_possible : FFn K mg "possible" s_possible ["yard", "row", "situation"]
  fn_wagon_of : FFn K mg "wagon_of" s_wagon_of ["row", "situation", "move"]
  fn_after : FFn K mg "after" s_after ["row", "situation", "move"]
  fn_is_live : FFn K mg "is_live" s_is_live ["situation"]
  fn_Search_init : IFn K cSearch "Search.__init__" s_Search_init ["self", "yard", "row", "situation"]
  fn_Search_is_goal : MFn K cSearch "is_goal" "Search.is_goal" s_Search_is_goal ["self", "situation"]
  fn_Search_look : MFn K cSearch "look" "Search.look" s_Search_look ["self", "index"]
  fn_Search_finish : MFn K cSearch "finish" "Search.finish" s_Search_finish ["self"]
  fn_Search_way : MFn K cSearch "way" "Search.way" s_Search_way ["self"]
  fn_search_from : FFn K mg "search_from" s_search_from ["yard", "row", "situation"]
  fn_solve : FFn K mg "solve" s_solve ["yard", "row"]
  fn_can_sort : FFn K mg "can_sort" s_can_sort ["yard", "row"]
  fn_closed_list : FFn K mg "closed_list" s_closed_list ["yard", "row"]
  fn__law_number : FFn K mg "_law_number" s__law_number ["_law_cell"]
  fn__law_draws : FFn K mg "_law_draws" s__law_draws ["_law_script"]
  fn__law_draw : FFn K mg "_law_draw" s__law_draw ["_law_draws_here"]
  fn__law_pick : FFn K mg "_law_pick" s__law_pick ["_law_draws_here", "_law_many"]
  fn__law_row : FFn K mg "_law_row" s__law_row ["_law_draws_here", "_law_size"]
  fn__law_device : FFn K mg "_law_device" s__law_device ["_law_draws_here"]
  fn__law_yard : FFn K mg "_law_yard" s__law_yard ["_law_draws_here"]
  fn__law_parts : FFn K mg "_law_parts" s__law_parts ["_law_text"]
  fn__law_ends : FFn K mg "_law_ends" s__law_ends ["_law_text", "_law_first_here", "_law_devices", "_law_links"]
  fn__law_plan : FFn K mg "_law_plan" s__law_plan ["_law_text"]
  fn__law_first : FFn K mg "_law_first" s__law_first ["_law_plan_here"]
  fn__law_moved : FFn K mg "_law_moved" s__law_moved ["_law_plan_here", "_law_row_here", "_law_situation", "_law_move"]
  fn__law_is_live : FFn K mg "_law_is_live" s__law_is_live ["_law_situation"]
  fn__law_after : FFn K mg "_law_after" s__law_after ["_law_plan_here", "_law_row_here", "_law_situation"]
  fn__law_walk : FFn K mg "_law_walk" s__law_walk ["_law_draws_here", "_law_plan_here", "_law_row_here"]
  fn__law_closed : FFn K mg "_law_closed" s__law_closed ["_law_yard_here", "_law_row_here"]
  fn__law_solved : FFn K mg "_law_solved" s__law_solved ["_law_yard_here", "_law_row_here"]
  fn__law_sorted : FFn K mg "_law_sorted" s__law_sorted ["_law_yard_here", "_law_row_here"]
  fn__law_without : FFn K mg "_law_without" s__law_without ["_law_row_here", "_law_wagon"]
  fn__law_with : FFn K mg "_law_with" s__law_with ["_law_draws_here", "_law_row_here"]
  fn__law_is_least : FFn K mg "_law_is_least" s__law_is_least ["_law_draws_here", "_law_text", "_law_row_here", "_law_situations"]
  fn_law : FFn K mg "law" s_law ["_law_script"]
  b_len : mg "len" = none
  b_int : mg "int" = none
  b_list : mg "list" = none
  b_tuple : mg "tuple" = none
  b_range : mg "range" = none
  b_sorted : mg "sorted" = none
  b_zip : mg "zip" = none
  b_enumerate : mg "enumerate" = none
  g_LONGEST : ∃ u, mg "LONGEST" = some u ∧ RelV (.int (60)) u
  g_MOST_DEVICES : ∃ u, mg "MOST_DEVICES" = some u ∧ RelV (.int (8)) u
  g_MOST_OPEN : ∃ u, mg "MOST_OPEN" = some u ∧ RelV (.int (8)) u
  g_MOST_rows : ∃ u, mg "MOST_rows" = some u ∧ RelV (.int (60)) u
  g_MOST_yards : ∃ u, mg "MOST_yards" = some u ∧ RelV (.int (8)) u
  g_LEFT : ∃ u, mg "LEFT" = some u ∧ RelV (.int (0)) u
  g_RIGHT : ∃ u, mg "RIGHT" = some u ∧ RelV (.int (1)) u
  g_OUTSIDE : ∃ u, mg "OUTSIDE" = some u ∧ RelV (.int (-1)) u
  g_MOST_SITUATIONS : ∃ u, mg "MOST_SITUATIONS" = some u ∧ RelV (.int (4000)) u
  g_KINDS : ∃ u, mg "KINDS" = some u ∧ RelV (.str "sqdio") u
  g_BOUNDS : ∃ u, mg "BOUNDS" = some u ∧ RelV (.str "123456") u
  g_ENTERS : ∃ u, mg "ENTERS" = some u ∧ RelV (.ref dENTERS) u
  g_LEAVES : ∃ u, mg "LEAVES" = some u ∧ RelV (.ref dLEAVES) u
  g_CLOSING_certificates : ∃ u, mg "CLOSING_certificates" = some u ∧ RelV (.ref dCLOSING_certificates) u
  g_INS : ∃ u, mg "INS" = some u ∧ RelV (.ref dINS) u
  g_OUTS : ∃ u, mg "OUTS" = some u ∧ RelV (.ref dOUTS) u
  g_CLOSING_yards : ∃ u, mg "CLOSING_yards" = some u ∧ RelV (.ref dCLOSING_yards) u
  kd_ENTERS : KDict K w dENTERS eENTERS nENTERS
  kd_CLOSING_certificates : KDict K w dCLOSING_certificates eCLOSING_certificates nCLOSING_certificates
  kd_CLOSING_yards : KDict K w dCLOSING_yards eCLOSING_yards nCLOSING_yards
  hkE : HasKeys K dENTERS [115, 113, 100, 105, 111]
  hkC : HasKeys K dCLOSING_certificates [40, 91]
  hkY : HasKeys K dCLOSING_yards [40, 91]
  tdE : TupDict K w dENTERS insOf
  tdL : TupDict K w dLEAVES outsOf
  tdI : TupDict K w dINS insOf
  tdO : TupDict K w dOUTS outsOf
  cp_CLOSING_certificates : KDct K w dCLOSING_certificates (ch 40) (.str (ch 41))
  cb_CLOSING_certificates : KDct K w dCLOSING_certificates (ch 91) (.str (ch 93))
  cp_CLOSING_yards : KDct K w dCLOSING_yards (ch 40) (.str (ch 41))
  cb_CLOSING_yards : KDct K w dCLOSING_yards (ch 91) (.str (ch 93))
  xTL : PySem.W.excIn K cTooLarge [.type "ValueError", .type "Exception", .type "BaseException", .type "object"] "ValueError.__new__" = true
  g_TooLarge : mg "TooLarge" = some (.ref cTooLarge)
  k_TooLarge : PySem.W.keepIn K (.ref cTooLarge) = true
  bTL : PySem.W.subIn K (.ref cTooLarge) (.type "BaseException") = some true
  tTL : PySem.W.typeIn K (.ref cTooLarge) = some (.type "type")
  eTL : PySem.W.exmOne K (.ref cTooLarge) (.ref cTooLarge) = some true
end K92

/-! K92A: words for the walks; the small defs: rows, live situations, first situations. -/
set_option Elab.async false
set_option linter.all false
set_option maxRecDepth 100000
set_option maxHeartbeats 4000000
set_option autoImplicit false
namespace K92
open PySem PySem.Spec PyProof.Rows L2
section
variable {P : Program} {w : World} {K : PySem.W.Frag} {mg : Str → Option Value} {base : Heap}
theorem same_refl (H : Hp) : Same H H := fun _ _ h => h
theorem Same.add {H H' : Hp} {p : Addr} {o : HO} (e : Same H H') (h : H' p = none) : Same H (upd H' p o) := Same.trans e (Same.new h)
/-- a row of ints at r -/
abbrev RowAt (H : Hp) (r : Addr) (row : List Int) : Prop := H r = some (.lst (row.map V.int))
theorem sz_le {n : Nat} (h : n ≤ 1000000) : n ≤ sizeLine := Nat.le_trans h (by rw [sizeLine_eq]; decide)
theorem sz_lt {n : Nat} (h : n ≤ 1000000) : n < sizeLine := Nat.lt_of_le_of_lt h (by rw [sizeLine_eq]; decide)
theorem rg_ok {n : Nat} (h : n ≤ 1000000) : RgOk 1 ((n : Int) + 1) := RgOk.of_le (by decide) (by omega) (by decide) (by omega)
theorem rgV_upTo (n : Nat) : rgV 1 ((n : Int) + 1) = (upTo n).map V.int := by
  unfold rgV upTo
  have e : ((n : Int) + 1 - 1).toNat = n := by omega
  rw [e, List.map_map]
  refine List.map_congr_left fun i _ => ?_
  show V.int (1 + ((i : Nat) : Int)) = V.int (((i : Nat) : Int) + 1)
  rw [Int.add_comm]
theorem upTo_sorted : ∀ n : Nat, (upTo n).Pairwise (· ≤ ·)
  | 0 => List.Pairwise.nil
  | n + 1 => by
    rw [upTo_succ]
    refine List.pairwise_append.mpr ⟨upTo_sorted n, List.pairwise_singleton _ _, fun a ha b hb => ?_⟩
    have q := mem_upTo.mp ha
    rw [List.mem_singleton] at hb
    omega
theorem sorted_row {row ns : List Int} (h : IsRow row) (p : ns.Perm row) (s : ns.Pairwise (· ≤ ·)) : ns = upTo row.length :=
  (p.trans h).eq_of_pairwise (fun a b _ _ h1 h2 => Int.le_antisymm h1 h2) s (upTo_sorted _)
/-! ### lists of ints as data -/
def intsD (l : List Int) : PyData := .list (l.map PyData.int)
theorem dpAll_ints {H : Hp} : ∀ l : List Int, DpAll K H (l.map V.int) (l.map PyData.int)
  | [] => .nil
  | x :: l => .cons (.int x) (dpAll_ints l)
theorem dp_ints {H : Hp} {p : Addr} {l : List Int} (h : SqL K H p (l.map V.int)) : Dp K H (.ref p) (intsD l) := .lst h (dpAll_ints l)
theorem depth_intsD (l : List Int) : (intsD l).depth = 1 := by
  show PyData.depthAll (l.map PyData.int) + 1 = 1
  rw [PySem.W.depth_ints]
theorem canLay_ints : ∀ l : List Int, PyData.canLayAll0 (l.map PyData.int) = true
  | [] => rfl
  | x :: l => by
    show (PyData.canLay0 (.int x) && PyData.canLayAll0 (l.map PyData.int)) = true
    rw [canLay_ints l]
    rfl
theorem shaped_ints (l : List Int) : SeqAt.shaped (intsD l) = true := by
  unfold SeqAt.shaped
  rw [depth_intsD]
  show (PyData.canLayAll0 (l.map PyData.int) && true) = true
  rw [canLay_ints]
  rfl
theorem eqvAll_ints : ∀ a b : List Int, PyData.eqvAll (a.map PyData.int) (b.map PyData.int) = decide (a = b)
  | [], [] => rfl
  | [], _ :: _ => rfl
  | _ :: _, [] => rfl
  | x :: a, y :: b => by
    show (PyData.eqv (.int x) (.int y) && PyData.eqvAll (a.map PyData.int) (b.map PyData.int)) = _
    rw [eqvAll_ints a b]
    show ((x == y) && decide (a = b)) = _
    by_cases e : x = y
    · subst e; simp
    · simp [e]
theorem eqv_ints (a b : List Int) : PyData.eqv (intsD a) (intsD b) = decide (a = b) := eqvAll_ints a b
/-- == of two lists of ints -/
theorem rd_eqL {H : Hp} {p q : Addr} {a b : List Int} {Q : VK} (h1 : H p = some (.lst (a.map V.int))) (h2 : H q = some (.lst (b.map V.int))) (h : Q (.bl (decide (a = b))) H) : rEqD K (.ref p) (.ref q) H Q :=
  ⟨intsD a, intsD b, dp_ints (SqL.of h1), dp_ints (SqL.of h2), shaped_ints a, shaped_ints b, by rw [eqv_ints]; exact h⟩
theorem rd_neL {H : Hp} {p q : Addr} {a b : List Int} {Q : VK} (h1 : H p = some (.lst (a.map V.int))) (h2 : H q = some (.lst (b.map V.int))) (h : Q (.bl (!decide (a = b))) H) : rNeD K (.ref p) (.ref q) H Q :=
  ⟨intsD a, intsD b, dp_ints (SqL.of h1), dp_ints (SqL.of h2), shaped_ints a, shaped_ints b, by rw [eqv_ints]; exact h⟩
/-! ### is_row, check_row, _check_row: of a row -/
def sp_row (P : Program) (w : World) (v : V) : Sp := fun vs H Q _ => ∃ (r : Addr) (row : List Int), vs = [.ref r] ∧ RowAt H r row ∧ IsRow row ∧ row.length ≤ 60 ∧ ∀ H', Same H H' → Q v H'
abbrev sp_is_row (P : Program) (w : World) (T : TX K w mg) : Sp := sp_row P w (.bl true)
abbrev sp_check_row (P : Program) (w : World) (T : TX K w mg) : Sp := sp_row P w .non
abbrev sp__check_row (P : Program) (w : World) (T : TX K w mg) : Sp := sp_row P w .non
theorem c_is_row (T : TX K w mg) : C8.Cal P w K mg base 1 "is_row" (sp_is_row P w T) [] := by
  obtain ⟨f, fd, F, b⟩ := T.fn_is_row
  refine C8.cal0 F b .nil sc_is_row (fun vs H Q E h => by obtain ⟨_, _, rfl, _⟩ := h; rfl) (fun cdv A outer s H vs Q E hr h => ?_)
  have hu := hu_of hr
  have nd := sc_is_row.nd
  refine ⟨_, (pss_cons (ps_if (pt_cmpR op_gt (pe_callB (call_lenK (K := K) rfl) (by rfl) T.b_len PySem.boot_len (pa_cons (pv 0) pa_nil)) (C8.pe_gc rfl T.g_MOST_rows) (nomark _)) (pss_one (ps_ret pe_bl)) pss_nil)
      (pss_one (ps_ret (pe_cmpR (op_eqD hr.units) (pe_callB cr_sortedI (by rfl) T.b_sorted boot_sorted_ (pa_cons (pv 0) pa_nil)) (pe_listRg rfl (by rfl) T.b_list (prg_2 (by rfl) T.b_range pe_int (pe_op op_add (pe_callB (call_lenK (K := K) rfl) (by rfl) T.b_len PySem.boot_len (pa_cons (pv 0) pa_nil)) pe_int))) (nomark _))))), ?_⟩
  obtain ⟨r, row, rfl, hr1, ir, hl, k⟩ := h
  refine ⟨_, rfl, r, _, rfl, .inl (SqL.of hr1), _, _, rfl, rfl, _, rfl, ?_⟩
  refine ite2 (fun q => absurd (of_decide_eq_true q) (by rw [List.length_map]; omega)) (fun _ => ?_)
  refine ⟨_, rfl, r, row, rfl, SqL.of hr1, fun ns' p pm st np => ?_⟩
  have s1 : Same H (upd H p (.lst (ns'.map V.int))) := Same.new np
  refine ⟨_, rfl, r, _, rfl, .inl (SqL.of (s1 _ _ hr1)), _, _, rfl, rfl, _, _, rfl, rfl, ?_⟩
  rw [List.length_map]
  refine ⟨rg_ok (by omega), fun q nq => ?_⟩
  rw [rgV_upTo]
  refine rd_eqL (by rw [upd_ne (ne_of_none upd_same nq)]; exact upd_same) upd_same ?_
  rw [decide_eq_true (sorted_row ir pm st)]
  exact k _ (Same.add s1 nq)
theorem c_check_row (T : TX K w mg) : C8.Cal P w K mg base 2 "check_row" (sp_check_row P w T) [] := by
  obtain ⟨f, fd, F, b⟩ := T.fn_check_row
  refine C8.cal0 F b .nil sc_check_row (fun vs H Q E h => by obtain ⟨_, _, rfl, _⟩ := h; rfl) (fun cdv A outer s H vs Q E hr h => ?_)
  have hu := hu_of hr
  have nd := sc_check_row.nd
  refine ⟨_, (pss_one (ps_if (pt_not (pt_val (C8.pe_c (c_is_row T) hr (by decide) rfl (pa_cons (pv 0) pa_nil)))) (pss_one ps_never) pss_nil)), ?_⟩
  obtain ⟨r, row, rfl, hr1, ir, hl, k⟩ := h
  refine ⟨_, rfl, r, row, rfl, hr1, ir, hl, fun H' s1 => ⟨_, rfl, ?_⟩⟩
  exact k _ s1
theorem c__check_row (T : TX K w mg) : C8.Cal P w K mg base 1 "_check_row" (sp__check_row P w T) [] := by
  obtain ⟨f, fd, F, b⟩ := T.fn__check_row
  refine C8.cal0 F b .nil sc__check_row (fun vs H Q E h => by obtain ⟨_, _, rfl, _⟩ := h; rfl) (fun cdv A outer s H vs Q E hr h => ?_)
  have hu := hu_of hr
  have nd := sc__check_row.nd
  refine ⟨_, (pss_one (ps_if (PW.pt (pw_or (pt_cmpR op_gt (pe_callB (call_lenK (K := K) rfl) (by rfl) T.b_len PySem.boot_len (pa_cons (pv 0) pa_nil)) (C8.pe_gc rfl T.g_LONGEST) (nomark _)) (pw_or1 (pt_cmpR (op_neD hr.units) (pe_callB cr_sortedI (by rfl) T.b_sorted boot_sorted_ (pa_cons (pv 0) pa_nil)) (pe_listRg rfl (by rfl) T.b_list (prg_2 (by rfl) T.b_range pe_int (pe_op op_add (pe_callB (call_lenK (K := K) rfl) (by rfl) T.b_len PySem.boot_len (pa_cons (pv 0) pa_nil)) pe_int))) (nomark _))))) (pss_one ps_never) pss_nil)), ?_⟩
  obtain ⟨r, row, rfl, hr1, ir, hl, k⟩ := h
  refine ⟨_, rfl, r, _, rfl, .inl (SqL.of hr1), _, _, rfl, rfl, _, rfl, ?_⟩
  refine ite2 (fun q => absurd (of_decide_eq_true q) (by rw [List.length_map]; omega)) (fun _ => ?_)
  refine ⟨_, rfl, r, row, rfl, SqL.of hr1, fun ns' p pm st np => ?_⟩
  have s1 : Same H (upd H p (.lst (ns'.map V.int))) := Same.new np
  refine ⟨_, rfl, r, _, rfl, .inl (SqL.of (s1 _ _ hr1)), _, _, rfl, rfl, _, _, rfl, rfl, ?_⟩
  rw [List.length_map]
  refine ⟨rg_ok (by omega), fun q nq => ?_⟩
  rw [rgV_upTo]
  refine rd_neL (by rw [upd_ne (ne_of_none upd_same nq)]; exact upd_same) upd_same ?_
  rw [decide_eq_true (sorted_row ir pm st)]
  exact ⟨_, rfl, k _ (Same.add s1 nq)⟩
/-! ### live situations -/
def sp_live (P : Program) (w : World) : Sp := fun vs H Q _ => ∃ (q : Addr) (S : Sit), vs = [.ref q] ∧ SitAt H q S ∧ S.gone.length ≤ 100 ∧ ∀ H', Same H H' → Q (.bl (live S)) H'
abbrev sp__is_live (P : Program) (w : World) (T : TX K w mg) : Sp := sp_live P w
abbrev sp_is_live (P : Program) (w : World) (T : TX K w mg) : Sp := sp_live P w
abbrev sp__law_is_live (P : Program) (w : World) (T : TX K w mg) : Sp := sp_live P w
/-- list(g) == list(range(1, len(g) + 1)), g a tuple of ints: behind list(g) -/
theorem live_tail {H : Hp} {g : Addr} {l : List Int} {Q : VK} (hg : H g = some (.tup (l.map V.int))) (hl : l.length ≤ 100) (k : ∀ H', Same H H' → Q (.bl (decide (l = upTo l.length))) H') :
    ∀ a, H a = none → RgOk 1 ((((l.map V.int).length : Nat) : Int) + 1) ∧ ∀ q, upd H a (.lst (l.map V.int)) q = none → rEqD K (.ref a) (.ref q) (upd (upd H a (.lst (l.map V.int))) q (.lst (rgV 1 ((((l.map V.int).length : Nat) : Int) + 1)))) Q := fun a na => by
  rw [List.length_map]
  refine ⟨rg_ok (by omega), fun q nq => ?_⟩
  rw [rgV_upTo]
  refine rd_eqL (by rw [upd_ne (ne_of_none upd_same nq)]; exact upd_same) upd_same ?_
  exact k _ (Same.add (Same.new na) nq)
theorem c__is_live (T : TX K w mg) : C8.Cal P w K mg base 1 "_is_live" (sp__is_live P w T) [] := by
  obtain ⟨f, fd, F, b⟩ := T.fn__is_live
  refine C8.cal0 F b .nil sc__is_live (fun vs H Q E h => by obtain ⟨_, _, rfl, _⟩ := h; rfl) (fun cdv A outer s H vs Q E hr h => ?_)
  have hu := hu_of hr
  have nd := sc__is_live.nd
  refine ⟨_, (pss_one (ps_ret (pe_cmpR (op_eqD hr.units) (pe_callTy (call_listK (K := K) rfl) (by rfl) T.b_list boot_list_ (pa_cons (pe_ix (ix_tupK (K := K) rfl) (pv 0) pe_int (fun _ _ => rfl)) pa_nil)) (pe_listRg rfl (by rfl) T.b_list (prg_2 (by rfl) T.b_range pe_int (pe_op op_add (pe_callB (call_lenK (K := K) rfl) (by rfl) T.b_len PySem.boot_len (pa_cons (pe_ix (ix_tupK (K := K) rfl) (pv 0) pe_int (fun _ _ => rfl)) pa_nil)) pe_int))) (nomark _)))), ?_⟩
  obtain ⟨q, S, rfl, hq, hl, k⟩ := h
  obtain ⟨hd, gn, ds, h1, h2, h3, h4⟩ := hq.ex
  refine ⟨_, rfl, q, _, _, _, rfl, rfl, SqT.of' h1, rfl, gn, _, rfl, .inr (SqT.of' h4), fun l nl => ?_⟩
  have s1 : Same H (upd H l (.lst (S.gone.map V.int))) := Same.new nl
  refine ⟨_, rfl, q, _, _, _, rfl, rfl, SqT.of' (s1 _ _ h1), rfl, gn, _, rfl, .inr (SqT.of' (s1 _ _ h4)), _, _, rfl, rfl, _, _, rfl, rfl, ?_⟩
  exact live_tail h4 hl k l nl
theorem c__law_is_live (T : TX K w mg) : C8.Cal P w K mg base 1 "_law_is_live" (sp__law_is_live P w T) [] := by
  obtain ⟨f, fd, F, b⟩ := T.fn__law_is_live
  refine C8.cal0 F b .nil sc__law_is_live (fun vs H Q E h => by obtain ⟨_, _, rfl, _⟩ := h; rfl) (fun cdv A outer s H vs Q E hr h => ?_)
  have hu := hu_of hr
  have nd := sc__law_is_live.nd
  refine ⟨_, (pss_one (ps_ret (pe_cmpR (op_eqD hr.units) (pe_callTy (call_listK (K := K) rfl) (by rfl) T.b_list boot_list_ (pa_cons (pe_ix (ix_tupK (K := K) rfl) (pv 0) pe_int (fun _ _ => rfl)) pa_nil)) (pe_listRg rfl (by rfl) T.b_list (prg_2 (by rfl) T.b_range pe_int (pe_op op_add (pe_callB (call_lenK (K := K) rfl) (by rfl) T.b_len PySem.boot_len (pa_cons (pe_ix (ix_tupK (K := K) rfl) (pv 0) pe_int (fun _ _ => rfl)) pa_nil)) pe_int))) (nomark _)))), ?_⟩
  obtain ⟨q, S, rfl, hq, hl, k⟩ := h
  obtain ⟨hd, gn, ds, h1, h2, h3, h4⟩ := hq.ex
  refine ⟨_, rfl, q, _, _, _, rfl, rfl, SqT.of' h1, rfl, gn, _, rfl, .inr (SqT.of' h4), fun l nl => ?_⟩
  have s1 : Same H (upd H l (.lst (S.gone.map V.int))) := Same.new nl
  refine ⟨_, rfl, q, _, _, _, rfl, rfl, SqT.of' (s1 _ _ h1), rfl, gn, _, rfl, .inr (SqT.of' (s1 _ _ h4)), _, _, rfl, rfl, _, _, rfl, rfl, ?_⟩
  exact live_tail h4 hl k l nl
theorem c_is_live (T : TX K w mg) : C8.Cal P w K mg base 1 "is_live" (sp_is_live P w T) [] := by
  obtain ⟨f, fd, F, b⟩ := T.fn_is_live
  refine C8.cal0 F b .nil sc_is_live (fun vs H Q E h => by obtain ⟨_, _, rfl, _⟩ := h; rfl) (fun cdv A outer s H vs Q E hr h => ?_)
  have hu := hu_of hr
  have nd := sc_is_live.nd
  refine ⟨_, (pss_cons (ps_set (i := 1) nd rfl (Or.inl rfl) (pe_ix (ix_tupK (K := K) rfl) (pv 0) pe_int (fun _ _ => rfl)))
      (pss_one (ps_ret (pe_cmpR (op_eqD hr.units) (pe_callTy (call_listK (K := K) rfl) (by rfl) T.b_list boot_list_ (pa_cons (pv 1) pa_nil)) (pe_listRg rfl (by rfl) T.b_list (prg_2 (by rfl) T.b_range pe_int (pe_op op_add (pe_callB (call_lenK (K := K) rfl) (by rfl) T.b_len PySem.boot_len (pa_cons (pv 1) pa_nil)) pe_int))) (nomark _))))), ?_⟩
  obtain ⟨q, S, rfl, hq, hl, k⟩ := h
  obtain ⟨hd, gn, ds, h1, h2, h3, h4⟩ := hq.ex
  refine ⟨_, rfl, q, _, _, _, rfl, rfl, SqT.of' h1, rfl, _, rfl, gn, _, rfl, .inr (SqT.of' h4), fun l nl => ?_⟩
  have s1 : Same H (upd H l (.lst (S.gone.map V.int))) := Same.new nl
  refine ⟨_, rfl, gn, _, rfl, .inr (SqT.of' (s1 _ _ h4)), _, _, rfl, rfl, _, _, rfl, rfl, ?_⟩
  exact live_tail h4 hl k l nl
end
end K92

/-! K92B: the checker's yard in the heap, lists of lists; made. -/
set_option Elab.async false
set_option linter.all false
set_option maxRecDepth 100000
set_option maxHeartbeats 4000000
set_option autoImplicit false
namespace K92
open PySem PySem.Spec PyProof.Rows L2
section
variable {P : Program} {w : World} {K : PySem.W.Frag} {mg : Str → Option Value} {base : Heap}
theorem chV (c : Nat) : V.str (ch c) = V.str ⟨#[c]⟩ := rfl
/-! ### lists of lists, made on the way -/
structure LL (H0 H : Hp) (D : Addr) (ls : List Addr) (L : List (List Int)) : Prop where
  top : H D = some (.lst (ls.map V.ref))
  new : H0 D = none
  each : Paired (fun a l => H a = some (.lst (l.map V.int))) ls L
  nd : ls.Nodup
  out : ∀ a ∈ ls, H0 a = none ∧ a ≠ D
theorem LL.mono {H0 H H' : Hp} {D : Addr} {ls : List Addr} {L : List (List Int)} (e : Same H H') (h : LL H0 H D ls L) : LL H0 H' D ls L :=
  ⟨e _ _ h.top, h.new, Paired.mapP h.each fun _ _ q => e _ _ q, h.nd, h.out⟩
theorem paired_len {α β : Type} {F : α → β → Prop} {a : List α} {b : List β} (h : Paired F a b) : a.length = b.length := Paired.length h
theorem paired_get' {α β : Type} {F : α → β → Prop} {as : List α} {bs : List β} (h : Paired F as bs) : ∀ {i : Nat} {b : β}, bs[i]? = some b → ∃ a, as[i]? = some a ∧ F a b := by
  induction h with
  | nil => intro i b e; simp at e
  | @cons x y as bs q _ ih =>
    intro i b e
    cases i with
    | zero =>
      simp only [List.getElem?_cons_zero, Option.some.injEq] at e
      subst e
      exact ⟨x, rfl, q⟩
    | succ i => exact ih (by simpa using e)
theorem LL.get {H0 H : Hp} {D : Addr} {ls : List Addr} {L : List (List Int)} (h : LL H0 H D ls L) {i : Nat} {l : List Int} (e : L[i]? = some l) : ∃ a, ls[i]? = some a ∧ H a = some (.lst (l.map V.int)) := paired_get' h.each e
theorem paired_set {H : Hp} {a : Addr} {l' : List Int} : ∀ {ls : List Addr} {L : List (List Int)} {i : Nat}, Paired (fun a l => H a = some (.lst (l.map V.int))) ls L → ls.Nodup → ls[i]? = some a →
    Paired (fun a l => upd H a (.lst (l'.map V.int)) a = some (.lst (l.map V.int)) ∨ True) ls L := fun h _ _ => Paired.mapP h fun _ _ _ => .inr trivial
theorem each_set {H : Hp} {l' : List Int} {ls : List Addr} {L : List (List Int)} (h : Paired (fun a l => H a = some (.lst (l.map V.int))) ls L) : ∀ {i : Nat} {a : Addr}, ls.Nodup → ls[i]? = some a →
    Paired (fun b l => upd H a (.lst (l'.map V.int)) b = some (.lst (l.map V.int))) ls (L.set i l') := by
  induction h with
  | nil => intro i a _ e; simp at e
  | @cons x y as bs q t ih =>
    intro i a nd e
    obtain ⟨n1, n2⟩ := List.nodup_cons.mp nd
    cases i with
    | zero =>
      simp only [List.getElem?_cons_zero, Option.some.injEq] at e
      subst e
      refine .cons upd_same ?_
      have go : ∀ {as : List Addr} {bs : List (List Int)}, x ∉ as → Paired (fun a l => H a = some (.lst (l.map V.int))) as bs → Paired (fun b l => upd H x (.lst (l'.map V.int)) b = some (.lst (l.map V.int))) as bs := by
        intro as bs nx p
        induction p with
        | nil => exact .nil
        | @cons u v us vs r _ ih2 =>
          refine .cons ?_ (ih2 fun m => nx (List.mem_cons_of_mem _ m))
          rw [upd_ne (fun z => nx (by rw [← z]; exact List.mem_cons_self))]
          exact r
      exact go n1 t
    | succ i =>
      have e' : as[i]? = some a := by simpa using e
      refine .cons ?_ (ih n2 e')
      rw [upd_ne (fun z => n1 (by rw [z]; exact List.mem_of_getElem? e'))]
      exact q
theorem LL.set {H0 H : Hp} {D : Addr} {ls : List Addr} {L : List (List Int)} (h : LL H0 H D ls L) {i : Nat} {a : Addr} {l' : List Int} (e : ls[i]? = some a) : LL H0 (upd H a (.lst (l'.map V.int))) D ls (L.set i l') := by
  have o := h.out a (List.mem_of_getElem? e)
  refine ⟨by rw [upd_ne o.2.symm]; exact h.top, h.new, each_set h.each h.nd e, h.nd, h.out⟩
/-- a store into one of the lists leaves the first heap as it is -/
theorem LL.same {H0 H : Hp} {D : Addr} {ls : List Addr} {L : List (List Int)} (h : LL H0 H D ls L) {i : Nat} {a : Addr} {o : HO} (e : ls[i]? = some a) (s : Same H0 H) : Same H0 (upd H a o) := Same.mut s (h.out a (List.mem_of_getElem? e)).1
theorem getElem?_map_ref {ls : List Addr} {i : Nat} {x : V} (h : (ls.map V.ref)[i]? = some x) : ∃ a, ls[i]? = some a ∧ x = V.ref a := by
  rw [List.getElem?_map] at h
  cases e : ls[i]? with
  | none => rw [e] at h; cases h
  | some a => rw [e] at h; exact ⟨a, rfl, (Option.some.inj h).symm⟩
theorem paired_take {α β : Type} {F : α → β → Prop} {as : List α} {bs : List β} (h : Paired F as bs) : ∀ n, Paired F (as.take n) (bs.take n) := by
  induction h with
  | nil => intro n; simp; exact .nil
  | cons q _ ih =>
    intro n
    cases n with
    | zero => exact .nil
    | succ n => exact .cons q (ih n)
theorem paired_snoc {α β : Type} {F : α → β → Prop} {as : List α} {bs : List β} (h : Paired F as bs) {a : α} {b : β} (q : F a b) : Paired F (as ++ [a]) (bs ++ [b]) := by
  induction h with
  | nil => exact .cons q .nil
  | cons r _ ih => exact .cons r ih
theorem take_snoc {α : Type} {L : List α} {i : Nat} {x : α} (h : L[i]? = some x) : L.take (i + 1) = L.take i ++ [x] := by
  rw [List.take_succ, h]; rfl
theorem get_some {α : Type} {L : List α} {i : Nat} (h : i < L.length) : ∃ x, L[i]? = some x := ⟨L[i], List.getElem?_eq_getElem h⟩
theorem get_lt {α : Type} {L : List α} {i : Nat} {x : α} (h : L[i]? = some x) : i < L.length := (List.getElem?_eq_some_iff.mp h).1
/-- tuple([tuple(x) for x in lists]) -/
theorem rd_tuples {σ : L2.St} {H : Hp} {i j : Nat} {D : Addr} {ls : List Addr} {L : List (List Int)} {Q : VK} {H0 : Hp} (hi : σ[i]? = some (some (.ref D))) (hw : ∀ x : V, wipe ((wipe σ [j]).set j (some x)) [j] = wipe σ [j])
    (hv : ∀ x : V, ((wipe σ [j]).set j (some x))[j]? = some (some x)) (ll : LL H0 H D ls L) (hn : L.length ≤ 1000) (k : ∀ (H' : Hp) (hd : Addr) (ds : List Addr), Same H H' → H' hd = some (.tup (ds.map V.ref)) → TupsAt H' ds L → Q (.ref hd) H') :
    tCB (rTupOf K) (tCons (tLc (iList K (tVar i)) (gName j) tYes (tCB (rTupOf K) (tCons (tVar j) tNil)) [j]) tNil) σ H Q := by
  have hls : ls.length = L.length := paired_len ll.each
  refine ⟨_, hi, D, rfl, ⟨_, SqL.of ll.top⟩, fun E nE => ?_⟩
  have sE : Same H (upd H E (.lst [])) := Same.new nE
  have big : ∀ (H' : Hp) (ds : List Addr), Same H H' → H' E = some (.lst (ds.map V.ref)) → TupsAt H' ds L → rTupOf K [V.ref E] H' Q := fun H' ds s1 h1 h2 =>
    ⟨E, _, rfl, .inl ⟨SqL.of h1, fun l nl => k _ l ds (Same.add s1 nl) upd_same (h2.mono (Same.new nl))⟩⟩
  refine lc_list (K := K) (a := D) (xs := ls.map V.ref) (fun i H' => Same H H' ∧ ∃ ds : List Addr, H' E = some (.lst (ds.map V.ref)) ∧ TupsAt H' ds (L.take i)) ⟨sE, [], upd_same, .nil⟩ (fun i H' _ p => p.1.seq (SqL.of ll.top)) ?_ ?_
  · rintro i x H' hx ⟨s1, ds, h1, h2⟩
    obtain ⟨a, ha, rfl⟩ := getElem?_map_ref hx
    obtain ⟨l, hl⟩ := get_some (L := L) (i := i) (by rw [← hls]; exact get_lt ha)
    obtain ⟨a', ha', hal⟩ := ll.get hl
    have : a' = a := Option.some.inj (ha'.symm.trans ha)
    subst this
    refine ⟨hw _, ?_⟩
    refine ⟨_, hv _, a', _, rfl, .inl ⟨SqL.of (s1 _ _ hal), fun t nt => ?_⟩⟩
    have dsl : ds.length = (L.take i).length := paired_len h2
    refine ⟨_, by rw [upd_ne (ne_of_none h1 nt)]; exact h1, sz_lt (by rw [List.length_map, dsl, List.length_take]; omega), ?_⟩
    have nEt : E ≠ t := ne_of_none h1 nt
    have s2 : Same H' (upd H' t (.tup (l.map V.int))) := Same.new nt
    refine ⟨Same.mut (Same.trans s1 s2) nE, ds ++ [t], by rw [upd_same, List.map_append]; rfl, ?_⟩
    have st : ∀ (b : Addr) (xs : List V), upd H' t (.tup (l.map V.int)) b = some (.tup xs) → upd (upd H' t (.tup (l.map V.int))) E (.lst (ds.map V.ref ++ [V.ref t])) b = some (.tup xs) := fun b xs e => by
      rw [upd_ne (fun z => by
        rw [z, upd_ne nEt, h1] at e
        cases e)]
      exact e
    rw [take_snoc hl]
    refine paired_snoc ?_ (st _ _ upd_same)
    exact Paired.mapP h2 fun b m q => st _ _ (s2 _ _ q)
  · rintro H' ⟨s1, ds, h1, h2⟩
    rw [List.length_map, hls, List.take_length] at h2
    exact big H' ds s1 h1 h2
/-- [list(x) for x in held], held a tuple of tuples of ints -/
theorem rd_lists {σ : L2.St} {H : Hp} {i j : Nat} {hd : Addr} {ds : List Addr} {L : List (List Int)} {Q : VK} (hi : σ[i]? = some (some (.ref hd))) (hw : ∀ x : V, wipe ((wipe σ [j]).set j (some x)) [j] = wipe σ [j])
    (hv : ∀ x : V, ((wipe σ [j]).set j (some x))[j]? = some (some x)) (h1 : H hd = some (.tup (ds.map V.ref))) (h2 : TupsAt H ds L) (hn : L.length ≤ 1000) (k : ∀ (H' : Hp) (D : Addr) (ls : List Addr), Same H H' → LL H H' D ls L → Q (.ref D) H') :
    tLc (iTup K (tVar i)) (gName j) tYes (tCB (rListOf K) (tCons (tVar j) tNil)) [j] σ H Q := by
  have hls : ds.length = L.length := paired_len h2
  refine ⟨_, hi, hd, rfl, ⟨_, SqT.of' h1⟩, fun E nE => ?_⟩
  have sE : Same H (upd H E (.lst [])) := Same.new nE
  refine lc_tup (K := K) (a := hd) (xs := ds.map V.ref) (fun i H' => Same H H' ∧ ∃ ls : List Addr, LL H H' E ls (L.take i)) ⟨sE, [], upd_same, nE, .nil, List.nodup_nil, fun _ m => nomatch m⟩ (fun i H' _ p => Same.tup p.1 (SqT.of' h1)) ?_ ?_
  · rintro i x H' hx ⟨s1, ls, h3⟩
    obtain ⟨a, ha, rfl⟩ := getElem?_map_ref hx
    obtain ⟨l, hl⟩ := get_some (L := L) (i := i) (by rw [← hls]; exact get_lt ha)
    obtain ⟨a', ha', hal⟩ := h2.get hl
    have : a' = a := Option.some.inj (ha'.symm.trans ha)
    subst this
    refine ⟨hw _, ?_⟩
    refine ⟨_, hv _, a', _, rfl, .inr (SqT.of' (s1 _ _ hal)), fun t nt => ?_⟩
    have lsl : ls.length = (L.take i).length := paired_len h3.each
    have nEt : E ≠ t := ne_of_none h3.top nt
    refine ⟨_, by rw [upd_ne nEt]; exact h3.top, sz_lt (by rw [List.length_map, lsl, List.length_take]; omega), ?_⟩
    have s2 : Same H' (upd H' t (.lst (l.map V.int))) := Same.new nt
    have hnt : H t = none := Same.free s1 nt
    have tn : t ∉ ls := fun m => by
      obtain ⟨m1, m2⟩ := List.getElem?_of_mem m
      obtain ⟨l2, e2⟩ := get_some (L := L.take i) (i := m1) (by rw [← lsl]; exact get_lt m2)
      obtain ⟨a2, ea2, ha2⟩ := h3.get e2
      have : a2 = t := Option.some.inj (ea2.symm.trans m2)
      rw [this, nt] at ha2
      cases ha2
    refine ⟨Same.mut (Same.trans s1 s2) nE, ls ++ [t], by rw [upd_same, List.map_append]; rfl, nE, ?_, ?_, ?_⟩
    · rw [take_snoc hl]
      refine paired_snoc ?_ (by rw [upd_ne nEt.symm]; exact upd_same)
      have keep : ∀ a ∈ ls, a ≠ E := fun a m => (h3.out a m).2
      have go : ∀ {as : List Addr} {bs : List (List Int)}, (∀ a ∈ as, a ≠ E) → Paired (fun a l => H' a = some (.lst (l.map V.int))) as bs →
          Paired (fun a m => upd (upd H' t (.lst (l.map V.int))) E (.lst (ls.map V.ref ++ [V.ref t])) a = some (.lst (m.map V.int))) as bs := by
        intro as bs kp p
        induction p with
        | nil => exact .nil
        | @cons u v us vs r _ ih =>
          refine .cons ?_ (ih fun a m => kp a (List.mem_cons_of_mem _ m))
          rw [upd_ne (kp u (List.mem_cons_self))]
          exact s2 _ _ r
      exact go keep h3.each
    · exact List.nodup_append.mpr ⟨h3.nd, List.nodup_cons.mpr ⟨by simp, List.nodup_nil⟩, fun a m b m2 => by rw [List.mem_singleton.mp m2]; exact fun z => tn (by rw [← z]; exact m)⟩
    · intro a m
      rcases List.mem_append.mp m with m | m
      · exact h3.out a m
      · rw [List.mem_singleton.mp m]
        exact ⟨hnt, nEt.symm⟩
  · rintro H' ⟨s1, ls, h3⟩
    rw [List.length_map, hls, List.take_length] at h3
    exact k H' E ls s1 h3

/-! ### the checker's yard -/
/-- the links of a yard, as the dict that the checker keeps -/
def linkK (l : Int × Int) : List Key := [.inl l.1, .inl l.2]
def linkKvs (L : List (Int × Int)) : List (List Key × V) := L.map fun l => (linkK l, .bl true)
theorem linkK_inj {a b : Int × Int} (h : linkK a = linkK b) : a = b := by
  unfold linkK at h
  simp only [List.cons.injEq, Sum.inl.injEq, and_true] at h
  exact Prod.ext h.1 h.2
theorem link_val (l : Int × Int) : ∀ L : List (Int × Int), (valV (linkKvs L) (linkK l)).isSome = decide (l ∈ L)
  | [] => rfl
  | a :: L => by
    by_cases e : a = l
    · subst e
      rw [show linkKvs (a :: L) = (linkK a, V.bl true) :: linkKvs L from rfl, valV_pos rfl]
      simp
    · rw [show linkKvs (a :: L) = (linkK a, V.bl true) :: linkKvs L from rfl, valV_neg (fun z => e (linkK_inj z)), link_val l L]
      have : ¬ l = a := fun z => e z.symm
      simp [this]
def trackF (tx : Str) (a : Int) (lk lb ll lg : Addr) : List (Str × V) := [("text", .str tx), ("at", .int a), ("kinds", .ref lk), ("bounds", .ref lb), ("links", .ref ll), ("groups", .ref lg)]
structure TrackAt (T : TX K w mg) (H : Hp) (p : Addr) (Y : Yd) : Prop where
  ex : ∃ (dx lk lb ll lg : Addr) (tx : Str) (a : Int), H p = some (.ins T.cTrack dx (trackF tx a lk lb ll lg)) ∧ H lk = some (.lst (Y.kinds.map fun c => V.str (ch c))) ∧ H lb = some (.lst (Y.bounds.map fun b : Nat => V.int (b : Int))) ∧ Rd H ll (.dT (linkKvs Y.links))
theorem TrackAt.mono {T : TX K w mg} {H H' : Hp} {p : Addr} {Y : Yd} (e : Same H H') (h : TrackAt T H p Y) : TrackAt T H' p Y := by
  obtain ⟨dx, lk, lb, ll, lg, tx, a, h1, h2, h3, h4⟩ := h.ex
  exact ⟨dx, lk, lb, ll, lg, tx, a, e _ _ h1, e _ _ h2, e _ _ h3, Same.rd e h4⟩
abbrev MoveAt (H : Hp) (a : Addr) (m : Move) : Prop := H a = some (.tup [.int m.1, .int m.2.1, .int m.2.2.1, .int m.2.2.2])
theorem dget_tup {H : Hp} {d b : Addr} {kvs : List (List Key × V)} {k : List Key} (e : Rd H d (.dT kvs)) (eb : H b = some (.tup (k.map kV))) : DGet H d (.ref b) (valV kvs k) := .inr ⟨kvs, k, b, e, rfl, eb, rfl⟩
theorem ite_ne {a b : Int} {A B : Prop} (h1 : a ≠ b → A) (h2 : a = b → B) : if (!decide (V.int a = V.int b)) = true then A else B := by
  by_cases e : a = b
  · subst e; rw [decide_eq_true rfl]; exact iteF (h2 rfl)
  · rw [decide_eq_false (fun z => e (V.int.inj z))]; exact iteT (h1 e)
theorem ite_eq {a b : Int} {A B : Prop} (h1 : a = b → A) (h2 : a ≠ b → B) : if decide (V.int a = V.int b) = true then A else B := by
  by_cases e : a = b
  · subst e; rw [decide_eq_true rfl]; exact iteT (h1 rfl)
  · rw [decide_eq_false (fun z => e (V.int.inj z))]; exact iteF (h2 e)
theorem at_int {α : Type} {xs : List α} {s : Int} {v : α} (h0 : 0 ≤ s) (h : xs[s.toNat]? = some v) : atI xs s = some v := by
  have e : s = ((s.toNat : Nat) : Int) := by omega
  rw [e]; exact atI_nat h
theorem ints_flat (l : List Int) : (l.map V.int).all flatV = true := by
  rw [List.all_map, List.all_eq_true]; intro _ _; rfl
theorem inV_int (e : Int) (l : List Int) : inV (.int e) (l.map V.int) = decide (e ∈ l) := by
  unfold inV
  induction l with
  | nil => rfl
  | cons x l ih =>
    show (eqV (.int x) (.int e) || ((l.map V.int).any fun y => eqV y (.int e))) = _
    rw [ih]
    show ((x == e) || _) = _
    by_cases h : x = e
    · subst h; simp
    · have : ¬ e = x := fun z => h z.symm
      simp [h, this]
theorem map_at {α β : Type} {f : α → β} {l : List α} {i : Nat} {x : α} (h : l[i]? = some x) : (l.map f)[i]? = some (f x) := by
  rw [List.getElem?_map, h]; rfl
theorem getD_at {α : Type} {l : List α} {i : Nat} {x d : α} (h : l[i]? = some x) : l.getD i d = x := by
  rw [List.getD_eq_getElem?_getD, h]; rfl
/-- pop(-e) of a list that is not empty -/
theorem pop_at {e : Int} {l : List Int} (he : e = 0 ∨ e = 1) (hl : l ≠ []) : ∃ w l' k, popEnd e l = some (w, l') ∧ seqIndex? (-e) (l.map V.int).length = some k ∧ (l.map V.int)[k]? = some (.int w) ∧ (l.map V.int).eraseIdx k = l'.map V.int := by
  rw [List.length_map]
  rcases he with rfl | rfl
  · cases l with
    | nil => exact absurd rfl hl
    | cons x l =>
      refine ⟨x, l, 0, rfl, ?_, rfl, rfl⟩
      unfold seqIndex?
      simp
  · obtain ⟨x, hx⟩ : ∃ x, l.getLast? = some x := by
      cases h : l.getLast? with
      | none => exact absurd (List.getLast?_eq_none_iff.mp h) hl
      | some x => exact ⟨x, rfl⟩
    have sp := last_split hx
    have hn : 0 < l.length := List.length_pos_iff.mpr hl
    refine ⟨x, l.dropLast, l.length - 1, ?_, ?_, ?_, ?_⟩
    · unfold popEnd; rw [if_neg (by decide), hx]; rfl
    · unfold seqIndex?
      have : (-1 : Int) + l.length = ((l.length - 1 : Nat) : Int) := by omega
      have h3 : l.length - 1 < l.length := by omega
      simp [this, h3]
    · rw [map_at (x := x) (by rw [← List.getLast?_eq_getElem?]; exact hx)]
    · rw [show l.length - 1 = (l.map V.int).length - 1 by rw [List.length_map], List.eraseIdx_length_sub_one, List.map_dropLast]
theorem tyL {H : Hp} {a : Addr} {xs : List V} (h : H a = some (.lst xs)) : tyV K "list" (.ref a) H := .inl ⟨rfl, xs, SqL.of h⟩
theorem chain_len {tc : TE} {σ : L2.St} {H : Hp} {Q : VK} {bd n : Nat} (hc : ∀ Q', Q' (.int (n : Int)) H → tc σ H Q') (h1 : Q (.bl (decide (0 < bd ∧ bd ≤ n))) H) :
    if decide ((0 : Int) < (bd : Int)) = true then tc σ H (fun w' H4 => rI0 (fun i j => V.bl (decide (i ≤ j))) (.int (bd : Int)) w' H4 Q) else Q (.bl false) H := by
  by_cases e : 0 < bd
  · rw [decide_eq_true (by omega : (0 : Int) < (bd : Int)), if_pos rfl]
    refine hc _ ⟨_, _, rfl, rfl, ?_⟩
    have q : decide ((bd : Int) ≤ (n : Int)) = decide (0 < bd ∧ bd ≤ n) := by
      by_cases z : bd ≤ n
      · rw [decide_eq_true (by omega : (bd : Int) ≤ (n : Int)), decide_eq_true ⟨e, z⟩]
      · rw [decide_eq_false (by omega), decide_eq_false (fun y => z y.2)]
    show Q (.bl (decide ((bd : Int) ≤ (n : Int)))) H
    rw [q]
    exact h1
  · rw [decide_eq_false (by omega : ¬ (0 : Int) < (bd : Int)), if_neg (by decide)]
    rw [decide_eq_false (fun y => e y.1)] at h1
    exact h1
theorem put_ints {te wg : Int} (h : te = 0 ∨ te = 1) (l : List Int) : (l.map V.int).take (te * (((l.map V.int).length : Nat) : Int)).toNat ++ [V.int wg] ++ (l.map V.int).drop (te * (((l.map V.int).length : Nat) : Int)).toNat = (putEnd te wg l).map V.int := by
  rcases h with rfl | rfl
  · simp [putEnd]
  · have : (1 * (((l.map V.int).length : Nat) : Int)).toNat = (l.map V.int).length := by rw [Int.one_mul]; rfl
    rw [this, List.take_length, List.drop_length]
    simp [putEnd]
def sp_Track_made (P : Program) (w : World) (T : TX K w mg) : Sp := fun vs H Q _ => ∃ (p r q mv : Addr) (Y : Yd) (row : List Int) (S : Sit) (m : Move), vs = [.ref p, .ref r, .ref q, .ref mv] ∧ TrackAt T H p Y ∧ RowAt H r row ∧ SitAt H q S ∧ MoveAt H mv m ∧ YOk Y ∧ WFS Y row S ∧
  (∀ H', Same H H' → made Y row S m = none → Q .non H') ∧ (∀ H' q' S', Same H H' → made Y row S m = some S' → SitAt H' q' S' → Q (.ref q') H')
theorem c_Track_made (T : TX K w mg) : C8.Met P w K mg base 1 T.cTrack "made" (sp_Track_made P w T) [] := by
  obtain ⟨f, fd, me, F, b⟩ := T.fn_Track_made
  refine C8.met0 T.clTrack me F b sc_Track_made (fun vs H Q E h => by obtain ⟨_, _, _, _, _, _, _, _, rfl, _⟩ := h; rfl) (fun cdv A outer s H vs Q E hr h => ?_)
  have hu := hu_of hr
  have nd := sc_Track_made.nd
  refine ⟨_, (pss_cons (ps_asg (pv 2) (pg_tup (by rfl) (pgs_cons (pg_name (i := 4) nd rfl (Or.inl rfl)) (pgs_cons (pg_name (i := 5) nd rfl (Or.inl rfl)) (pgs_cons (pg_name (i := 6) nd rfl (Or.inl rfl)) pgs_nil)))))
      (pss_cons (ps_asg (pv 3) (pg_tup (by rfl) (pgs_cons (pg_name (i := 7) nd rfl (Or.inl rfl)) (pgs_cons (pg_name (i := 8) nd rfl (Or.inl rfl)) (pgs_cons (pg_name (i := 9) nd rfl (Or.inl rfl)) (pgs_cons (pg_name (i := 10) nd rfl (Or.inl rfl)) pgs_nil))))))
      (pss_cons (ps_if (pt_cmp (pc_dnotin hu (pe_tup (pa_cons (pv 7) (pa_cons (pv 9) pa_nil))) (pe_fld (pv 0) rfl))) (pss_one (ps_ret pe_non)) pss_nil)
      (pss_cons (ps_setLc (own := [("inside", 13)]) (i := 11) rfl nd rfl rfl (sw_true rfl rfl rfl (by decide +kernel)) (pi_tup (pv 5)) (blkOk_by (N := N_Track_made) (sc := C8.fnScope s_Track_made) (by decide +kernel)) (fun _ _ _ _ _ => (pg_name (i := 13) nd rfl (Or.inl rfl))) (fun _ _ _ _ _ => pts_nil) (fun _ _ _ _ _ => (pe_callTy (call_listK (K := K) rfl) (by rfl) T.b_list boot_list_ (pa_cons (pv 13) pa_nil))))
      (C8.pss_cut (ps_if (pt_cmpR op_lt (pv 7) pe_int (nomark _)) (pss_cons (ps_if (PW.pt (pw_or (pt_cmpR op_ne (pv 8) pe_int (nomark _)) (pw_or1 (pt_cmpR op_eq (pv 4) (pe_callB (call_lenK (K := K) rfl) (by rfl) T.b_len PySem.boot_len (pa_cons (pv 1) pa_nil)) (nomark _))))) (pss_one (ps_ret pe_non)) pss_nil)
      (pss_cons (ps_set (i := 12) nd rfl (Or.inl rfl) (pe_ix (ix_listK (K := K) rfl) (pv 1) (pv 4) (fun _ _ => rfl)))
      (pss_one (ps_aug (i := 4) nd rfl (Or.inl rfl) pe_int ip_add)))) (pss_cons (ps_if (PW.pt (pw_or (pt_cmpR op_notIn_seq (pv 8) (pe_ix ix_kdict (C8.pe_gc rfl T.g_LEAVES) (pe_ix (ix_listK (K := K) rfl) (pe_fld (pv 0) rfl) (pv 7) (fun _ _ => rfl)) (fun _ _ => rfl)) (by rfl)) (pw_or1 (pt_cmpR op_eq (pe_callB (call_lenK (K := K) rfl) (by rfl) T.b_len PySem.boot_len (pa_cons (pe_ix (ix_listK (K := K) rfl) (pv 11) (pv 7) (fun _ _ => rfl)) pa_nil)) pe_int (nomark _))))) (pss_one (ps_ret pe_non)) pss_nil)
      (pss_one (ps_set (i := 12) nd rfl (Or.inl rfl) (pe_bm PySem.F.plainAttrs_list PySem.F.slot_list_pop PySem.F.type_list_pop mt_popAt (pe_ix (ix_listK (K := K) rfl) (pv 11) (pv 7) (fun _ _ => rfl)) (pa_cons (pe_un un_neg (pv 8)) pa_nil))))))
      (pss_cons (ps_if (pt_cmpR op_lt (pv 9) pe_int (nomark _)) (pss_cons (ps_if (pt_cmpR op_ne (pv 10) pe_int (nomark _)) (pss_one (ps_ret pe_non)) pss_nil)
      (pss_one (ps_ret (pe_tup (pa_cons (pv 4) (pa_cons (pe_callTy (call_tupleK (K := K) rfl) (by rfl) T.b_tuple boot_tuple_ (pa_cons (pe_lc (own := [("inside", 13)]) rfl nd (pi_list (pv 11)) (blkOk_by (N := N_Track_made) (sc := C8.fnScope s_Track_made) (by decide +kernel)) (fun _ _ _ _ _ => (pg_name (i := 13) nd rfl (Or.inl rfl))) (fun _ _ _ _ _ => pts_nil) (fun _ _ _ _ _ => (pe_callTy (call_tupleK (K := K) rfl) (by rfl) T.b_tuple boot_tuple_ (pa_cons (pv 13) pa_nil)))) pa_nil)) (pa_cons (pe_tup (StX.pa_star (pv 6) (pa_cons (pv 12) pa_nil))) pa_nil))))))) pss_nil)
      (pss_cons (ps_if (PW.pt (pw_or (pt_cmpR op_notIn_seq (pv 10) (pe_ix ix_kdict (C8.pe_gc rfl T.g_ENTERS) (pe_ix (ix_listK (K := K) rfl) (pe_fld (pv 0) rfl) (pv 9) (fun _ _ => rfl)) (fun _ _ => rfl)) (by rfl)) (pw_or1 (pt_chain op_lt op_le pe_int (pe_ix (ix_listK (K := K) rfl) (pe_fld (pv 0) rfl) (pv 9) (fun _ _ => rfl)) (pe_callB (call_lenK (K := K) rfl) (by rfl) T.b_len PySem.boot_len (pa_cons (pe_ix (ix_tupK (K := K) rfl) (pv 5) (pv 9) (fun _ _ => rfl)) pa_nil)))))) (pss_one (ps_ret pe_non)) pss_nil)
      (pss_cons (ps_expr (pe_bm PySem.F.plainAttrs_list PySem.F.slot_list_insert PySem.F.type_list_insert mt_insert (pe_ix (ix_listK (K := K) rfl) (pv 11) (pv 9) (fun _ _ => rfl)) (pa_cons (pe_op op_mul (pv 10) (pe_callB (call_lenK (K := K) rfl) (by rfl) T.b_len PySem.boot_len (pa_cons (pe_ix (ix_listK (K := K) rfl) (pv 11) (pv 9) (fun _ _ => rfl)) pa_nil))) (pa_cons (pv 12) pa_nil))))
      (pss_one (ps_ret (pe_tup (pa_cons (pv 4) (pa_cons (pe_callTy (call_tupleK (K := K) rfl) (by rfl) T.b_tuple boot_tuple_ (pa_cons (pe_lc (own := [("inside", 13)]) rfl nd (pi_list (pv 11)) (blkOk_by (N := N_Track_made) (sc := C8.fnScope s_Track_made) (by decide +kernel)) (fun _ _ _ _ _ => (pg_name (i := 13) nd rfl (Or.inl rfl))) (fun _ _ _ _ _ => pts_nil) (fun _ _ _ _ _ => (pe_callTy (call_tupleK (K := K) rfl) (by rfl) T.b_tuple boot_tuple_ (pa_cons (pv 13) pa_nil)))) pa_nil)) (pa_cons (pv 6) pa_nil)))))))))))))), ?_⟩
  obtain ⟨p, r, q, mv, Y, row, S, m, rfl, tr, ra, sa, ma, ok, wf, k0, k1⟩ := h
  obtain ⟨dx, lk, lb, ll, lg, tx, a, h1, h2, h3, h4⟩ := tr.ex
  obtain ⟨hd, gn, ds, g1, g2, g3, g4⟩ := sa.ex
  obtain ⟨s, se, t, te⟩ := m
  -- came, held, gone = situation; source, .. = move
  refine ⟨_, rfl, q, _, rfl, SqT.of' g1, rfl, _, _, rfl, _, _, rfl, _, _, rfl, rfl, ?_⟩
  refine ⟨_, rfl, mv, _, rfl, SqT.of' ma, rfl, _, _, rfl, _, _, rfl, _, _, rfl, _, _, rfl, rfl, ?_⟩
  -- if (source, target) not in self.links
  refine ⟨_, rfl, _, rfl, by show 2 ≤ sizeLine; exact sz_le (by decide), fun b nb => ?_⟩
  have s1 : Same H (upd H b (.tup [.int s, .int t])) := Same.new nb
  refine ⟨_, rfl, p, _, dx, _, _, rfl, s1 _ _ h1, T.clTrack, T.na_Track_links, rfl, ll, _, rfl, dget_tup (k := linkK (s, t)) (Same.rd s1 h4) upd_same, _, rfl, ?_⟩
  rw [link_val]
  refine ite2 (fun z => ?_) (fun z => ?_)
  · refine k0 _ s1 ?_
    have hl : (s, t) ∉ Y.links := by simpa using z
    unfold made
    exact if_neg hl
  have hl : (s, t) ∈ Y.links := by simpa using z
  obtain ⟨b1, b2, b3, b4⟩ := ok.lnk _ hl
  have few : S.held.length ≤ 8 := by rw [wf.held]; exact ok.few
  -- lists = [list(inside) for inside in held]
  show tAsg (tLc (iTup K (tVar 5)) (gName 13) tYes (tCB (rListOf K) (tCons (tVar 13) tNil)) [13]) (gName 11) _ _ _
  unfold tAsg
  refine rd_lists (i := 5) (j := 13) (by rfl) (by intro _; rfl) (by intro _; rfl) (s1 _ _ g2) (g3.mono s1) (by omega) (fun H2 D ls s2 ll2 => ?_)
  have s2' : Same H H2 := Same.trans s1 s2
  have ll3 : LL H H2 D ls S.held := ⟨ll2.top, Same.free s1 ll2.new, ll2.each, ll2.nd, fun a m => ⟨Same.free s1 (ll2.out a m).1, (ll2.out a m).2⟩⟩
  refine ⟨fun σ' H' => ∃ (wg : Int) (S1 : Sit) (ls' : List Addr), src Y row S s se = some (wg, S1) ∧ σ' = [some (.ref p), some (.ref r), some (.ref q), some (.ref mv), some (.int S1.came), some (.ref hd), some (.ref gn), some (.int s), some (.int se), some (.int t), some (.int te), some (.ref D), some (.int wg), none] ∧ Same H H' ∧ LL H H' D ls' S1.held, ?_, ?_⟩
  · -- the source
    refine ⟨_, rfl, _, _, rfl, rfl, _, rfl, ?_⟩
    refine ite2 (fun z => ?_) (fun z => ?_)
    · have hs : s < 0 := of_decide_eq_true z
      have sn : ∀ e, src Y row S s se = none → made Y row S (s, se, e, te) = none := fun e h => by unfold made; split; rw [show src Y row S (s, se, e, te).1 (s, se, e, te).2.1 = none from h]; rfl; rfl
      refine ⟨_, rfl, rfl, _, rfl, ite_ne (fun z => ?_) (fun z => ?_)⟩
      · exact iteT (k0 _ s2' (sn _ (by unfold src; rw [if_pos hs, if_neg z])))
      refine ⟨_, rfl, _, rfl, r, _, rfl, .inl (SqL.of (s2' _ _ ra)), rfl, _, rfl, ite_eq (fun y => ?_) (fun y => ?_)⟩
      · rw [List.length_map] at y
        exact k0 _ s2' (sn _ (by unfold src; rw [if_pos hs, if_pos z, List.getElem?_eq_none (by omega)]; rfl))
      rw [List.length_map] at y
      have wc := wf.came
      obtain ⟨wg, hw⟩ := get_some (L := row) (i := S.came) (by omega)
      refine ⟨_, rfl, _, rfl, r, _, _, _, rfl, rfl, SqL.of (s2' _ _ ra), atI_nat (map_at hw), ?_⟩
      refine ⟨_, rfl, _, _, rfl, rfl, ?_⟩
      exact ⟨wg, { S with came := S.came + 1 }, ls, by unfold src; rw [if_pos hs, if_pos z, hw]; rfl, rfl, s2', ll3⟩
    · have hs : ¬ s < 0 := fun y => z (decide_eq_true y)
      have sn : ∀ e, src Y row S s se = none → made Y row S (s, se, e, te) = none := fun e h => by unfold made; split; rw [show src Y row S (s, se, e, te).1 (s, se, e, te).2.1 = none from h]; rfl; rfl
      have h0 : 0 ≤ s := by omega
      have h0' : s.toNat < Y.kinds.length := by have : s < (Y.kinds.length : Int) := b2; omega
      obtain ⟨c, hc⟩ := get_some (L := Y.kinds) (i := s.toNat) h0'
      obtain ⟨ta, td, tt⟩ := T.tdL.get c (ok.let_ c (List.mem_of_getElem? hc))
      refine ⟨_, rfl, _, rfl, p, _, dx, _, _, rfl, s2' _ _ h1, T.clTrack, T.na_Track_kinds, rfl, _, rfl, lk, _, _, _, rfl, rfl, SqL.of (s2' _ _ h2), at_int h0 (map_at hc), _, _, _, rfl, rfl, td, ?_⟩
      refine ⟨_, _, rfl, .inr (tt _), rfl, ints_flat _, _, rfl, ?_⟩
      rw [inV_int]
      refine ite2 (fun z => ?_) (fun z => ?_)
      · refine iteT (k0 _ s2' (sn _ ?_))
        have z' : se ∉ outsOf c := by simpa using z
        unfold src
        rw [if_neg hs, getD_at hc, if_neg z']
      have hse : se ∈ outsOf c := by simpa using z
      obtain ⟨l, hl'⟩ := get_some (L := S.held) (i := s.toNat) (by rw [wf.held]; exact h0')
      obtain ⟨a1, ha1, hal⟩ := ll3.get hl'
      refine ⟨_, rfl, _, rfl, D, _, _, _, rfl, rfl, SqL.of ll3.top, at_int h0 (map_at ha1), a1, _, rfl, .inl (SqL.of hal), rfl, _, rfl, ite_eq (fun y => ?_) (fun y => ?_)⟩
      · rw [List.length_map] at y
        have ln : l = [] := List.length_eq_zero_iff.mp (by omega)
        refine k0 _ s2' (sn _ ?_)
        unfold src
        rw [if_neg hs, getD_at hc, if_pos hse, getD_at hl', ln]
        unfold popEnd
        split <;> rfl
      have ln : l ≠ [] := fun z => y (by rw [z]; rfl)
      obtain ⟨wg, l', k, p1, p2, p3, p4⟩ := pop_at (outs_01 hse) ln
      refine ⟨_, rfl, _, rfl, D, _, _, _, rfl, rfl, SqL.of ll3.top, at_int h0 (map_at ha1), tyL hal, _, rfl, _, rfl, a1, _, _, k, _, rfl, rfl, hal, ?_, ?_, p2, p3, ?_⟩
      · show -(2 ^ 63) ≤ -se
        rcases outs_01 hse with e | e <;> rw [e] <;> decide
      · show -se < 2 ^ 63
        rcases outs_01 hse with e | e <;> rw [e] <;> decide
      rw [p4]
      exact ⟨wg, { S with held := S.held.set s.toNat l' }, ls, by unfold src; rw [if_neg hs, getD_at hc, if_pos hse, getD_at hl', p1]; rfl, rfl, ll3.same ha1 s2', ll3.set ha1⟩
  · rintro σ' H' ⟨wg, S1, ls', e, rfl, s3, ll4⟩
    obtain ⟨wl, wc, ws⟩ := src_wf wf e
    have wf3 := wf.few
    have sn : tgt Y wg (S.held.getD t.toNat []).length S1 t te = none → made Y row S (s, se, t, te) = none := fun h => by
      show (if (s, t) ∈ Y.links then (src Y row S s se).bind fun p => tgt Y p.1 (S.held.getD t.toNat []).length p.2 t te else none) = none
      rw [if_pos hl, e]
      exact h
    have fewk := ok.few
    have sy : ∀ S', tgt Y wg (S.held.getD t.toNat []).length S1 t te = some S' → made Y row S (s, se, t, te) = some S' := fun S' h => made_of (m := (s, se, t, te)) hl e h
    refine ⟨_, rfl, _, _, rfl, rfl, _, rfl, ?_⟩
    refine ite2 (fun z => ?_) (fun z => ?_)
    · have ht : t < 0 := of_decide_eq_true z
      refine ⟨_, rfl, rfl, _, rfl, ite_ne (fun z => ?_) (fun z => ?_)⟩
      · exact k0 _ s3 (sn (by unfold tgt; rw [if_pos ht, if_neg z]))
      refine ⟨_, rfl, ?_⟩
      show tCB (rTupOf K) (tCons (tLc (iList K (tVar 11)) (gName 13) tYes (tCB (rTupOf K) (tCons (tVar 13) tNil)) [13]) tNil) _ _ _
      refine rd_tuples (i := 11) (j := 13) (by rfl) (by intro _; rfl) (by intro _; rfl) ll4 (by omega) (fun H3 hd' ds' s4 e1 e2 => ?_)
      have g4' := s4 _ _ (s3 _ _ g4)
      refine ⟨_, rfl, gn, _, rfl, .inl (SqT.of' g4'), _, rfl, sz_le (by rw [List.length_append, List.length_map, ← src_gone e]; simp only [List.length_cons, List.length_nil]; omega), fun g ng => ⟨sz_le (Nat.le_of_ble_eq_true rfl), fun q' nq' => ?_⟩⟩
      have s5 : Same H3 (upd (upd H3 g (.tup (S.gone.map V.int ++ [V.int wg]))) q' (.tup [V.int S1.came, .ref hd', .ref g])) := Same.add (Same.new ng) nq'
      refine k1 _ _ _ (Same.trans s3 (Same.trans s4 s5)) (sy { S1 with gone := S1.gone ++ [wg] } (by unfold tgt; rw [if_pos ht, if_pos z])) ⟨hd', g, ds', upd_same, s5 _ _ e1, e2.mono s5, ?_⟩
      rw [upd_ne (ne_of_none upd_same nq'), upd_same]
      show _ = some (HO.tup ((S1.gone ++ [wg]).map V.int))
      rw [src_gone e, List.map_append]
      rfl
    · have ht : ¬ t < 0 := fun y => z (decide_eq_true y)
      have h0 : 0 ≤ t := by omega
      have h0' : t.toNat < Y.kinds.length := by have : t < (Y.kinds.length : Int) := b4; omega
      obtain ⟨c, hc⟩ := get_some (L := Y.kinds) (i := t.toNat) h0'
      obtain ⟨bd, hb⟩ := get_some (L := Y.bounds) (i := t.toNat) (by rw [ok.len]; exact h0')
      obtain ⟨l0, hl0⟩ := get_some (L := S.held) (i := t.toNat) (by rw [wf.held]; exact h0')
      obtain ⟨d0, hd0, hdt⟩ := g3.get hl0
      obtain ⟨ta, td, tt⟩ := T.tdE.get c (ok.let_ c (List.mem_of_getElem? hc))
      refine ⟨_, rfl, _, rfl, p, _, dx, _, _, rfl, s3 _ _ h1, T.clTrack, T.na_Track_kinds, rfl, _, rfl, lk, _, _, _, rfl, rfl, SqL.of (s3 _ _ h2), at_int h0 (map_at hc), _, _, _, rfl, rfl, td, ?_⟩
      refine ⟨_, _, rfl, .inr (tt _), rfl, ints_flat _, _, rfl, ?_⟩
      rw [inV_int]
      refine ite2 (fun z => ?_) (fun z => ?_)
      · refine iteT (k0 _ s3 (sn ?_))
        have z' : te ∉ insOf c := by simpa using z
        unfold tgt
        rw [if_neg ht, getD_at hc, if_neg (fun q => z' q.1)]
      have hte : te ∈ insOf c := by simpa using z
      refine ⟨_, rfl, p, _, dx, _, _, rfl, s3 _ _ h1, T.clTrack, T.na_Track_bounds, rfl, _, rfl, lb, _, _, _, rfl, rfl, SqL.of (s3 _ _ h3), at_int h0 (map_at hb), _, _, rfl, rfl, _, rfl, ?_⟩
      refine chain_len (n := l0.length) (fun Q' q' => ⟨_, rfl, _, rfl, hd, _, _, _, rfl, rfl, SqT.of' (s3 _ _ g2), at_int h0 (map_at hd0), d0, _, rfl, .inr (SqT.of' (s3 _ _ hdt)), by rw [List.length_map]; exact q'⟩) ?_
      refine ⟨_, rfl, ite2 (fun z => ?_) (fun z => ?_)⟩
      · refine k0 _ s3 (sn ?_)
        unfold tgt
        rw [if_neg ht, getD_at hb, getD_at hl0, if_neg (fun q => q.2 (of_decide_eq_true z))]
      have hbd : ¬ (0 < bd ∧ bd ≤ l0.length) := fun y => z (decide_eq_true y)
      obtain ⟨l, hl'⟩ := get_some (L := S1.held) (i := t.toNat) (by rw [wl]; exact h0')
      obtain ⟨a1, ha1, hal⟩ := ll4.get hl'
      have tl := total_le (List.mem_of_getElem? hl')
      refine ⟨_, rfl, _, rfl, D, _, _, _, rfl, rfl, SqL.of ll4.top, at_int h0 (map_at ha1), tyL hal, _, rfl, _, rfl, _, rfl, D, _, _, _, rfl, rfl, SqL.of ll4.top, at_int h0 (map_at ha1), a1, _, rfl, .inl (SqL.of hal), _, _, rfl, rfl, ?_, _, rfl, a1, _, _, _, rfl, rfl, hal, ?_, ?_, ?_, ?_⟩
      · refine .inl ?_
        rcases ins_01 hte with e | e <;> rw [e] <;> exact ⟨by decide, by decide⟩
      · exact sz_lt (by rw [List.length_map]; omega)
      · show 0 ≤ te * (((l.map V.int).length : Nat) : Int)
        rcases ins_01 hte with e | e <;> rw [e] <;> omega
      · show te * (((l.map V.int).length : Nat) : Int) < 2 ^ 63
        rw [List.length_map]
        rcases ins_01 hte with e | e <;> rw [e] <;> omega
      rw [put_ints (ins_01 hte)]
      have ll5 := ll4.set (l' := putEnd te wg l) ha1
      have s4 : Same H (upd H' a1 (.lst ((putEnd te wg l).map V.int))) := ll4.same ha1 s3
      refine ⟨_, rfl, ?_⟩
      show tCB (rTupOf K) (tCons (tLc (iList K (tVar 11)) (gName 13) tYes (tCB (rTupOf K) (tCons (tVar 13) tNil)) [13]) tNil) _ _ _
      refine rd_tuples (i := 11) (j := 13) (by rfl) (by intro _; rfl) (by intro _; rfl) ll5 (by rw [List.length_set]; omega) (fun H3 hd' ds' s5 e1 e2 => ?_)
      refine ⟨_, rfl, sz_le (Nat.le_of_ble_eq_true rfl), fun q' nq' => ?_⟩
      have s6 : Same H3 (upd H3 q' (.tup [.int S1.came, .ref hd', .ref gn])) := Same.new nq'
      refine k1 _ _ _ (Same.trans s4 (Same.trans s5 s6)) (sy { S1 with held := S1.held.set t.toNat (putEnd te wg l) } ?_) ⟨hd', gn, ds', upd_same, s6 _ _ e1, e2.mono s6, ?_⟩
      · unfold tgt
        rw [if_neg ht, getD_at hc, getD_at hb, getD_at hl0, if_pos ⟨hte, hbd⟩, getD_at hl']
      · show _ = some (HO.tup (S1.gone.map V.int))
        rw [src_gone e]
        exact s6 _ _ (s5 _ _ (s4 _ _ g4))
end
end K92

/-! K92C: the checker: holds, following, sorts, closed lists. -/
set_option Elab.async false
set_option linter.all false
set_option maxRecDepth 100000
set_option maxHeartbeats 4000000
set_option autoImplicit false
namespace K92
open PySem PySem.Spec PyProof.Rows L2
section
variable {P : Program} {w : World} {K : PySem.W.Frag} {mg : Str → Option Value} {base : Heap}
/-! ### a locked dict -/
theorem upd_comm {H : Hp} {a b : Addr} {x y : HO} (h : a ≠ b) : upd (upd H a x) b y = upd (upd H b y) a x := by
  funext c
  by_cases e1 : c = a
  · subst e1
    rw [upd_same, upd_ne h, upd_same]
  · by_cases e2 : c = b
    · subst e2
      rw [upd_same, upd_ne e1, upd_same]
    · rw [upd_ne e2, upd_ne e1, upd_ne e1, upd_ne e2]
theorem lock_at {H : Hp} {d a : Addr} {u o : HO} {x : HO} (hd : H d = some u) (ha : H a = some o) (ne : o ≠ u) : upd H d x a = some o := by
  rw [upd_ne (fun z => ne (by rw [z] at ha; exact Option.some.inj (ha.symm.trans hd)))]
  exact ha
theorem SitAt.lock {H : Hp} {d q : Addr} {u x : HO} {S : Sit} (h : SitAt H q S) (hd : H d = some u) (nt : ∀ xs, u ≠ .tup xs) : SitAt (upd H d x) q S := by
  obtain ⟨hd', gn, ds, e1, e2, e3, e4⟩ := h.ex
  exact ⟨hd', gn, ds, lock_at hd e1 (fun z => nt _ z.symm), lock_at hd e2 (fun z => nt _ z.symm), Paired.mapP e3 fun _ _ q => lock_at hd q (fun z => nt _ z.symm), lock_at hd e4 (fun z => nt _ z.symm)⟩
theorem lock_same {H H' : Hp} {d : Addr} {u x : HO} (hd : H d = some u) (s : Same (upd H d x) H') : Same H (upd H' d u) := fun a o h => by
  by_cases e : a = d
  · subst e
    rw [upd_same]
    exact hd.symm.trans h
  · rw [upd_ne e]
    exact s _ _ (by rw [upd_ne e]; exact h)
theorem lock_free {H : Hp} {d a : Addr} {u x : HO} (hd : H d = some u) (h : upd H d x a = none) : H a = none ∧ a ≠ d := by
  by_cases e : a = d
  · subst e
    rw [upd_same] at h
    cases h
  · rw [upd_ne e] at h
    exact ⟨h, e⟩
/-- the checker's yard, its dict of links not locked -/
structure TrackOn (T : TX K w mg) (H : Hp) (p ll : Addr) (Y : Yd) : Prop where
  ex : ∃ (dx lk lb lg : Addr) (tx : Str) (a : Int), H p = some (.ins T.cTrack dx (trackF tx a lk lb ll lg)) ∧ H lk = some (.lst (Y.kinds.map fun c => V.str (ch c))) ∧ H lb = some (.lst (Y.bounds.map fun b : Nat => V.int (b : Int))) ∧ H ll = some (.dT (linkKvs Y.links))
theorem TrackOn.at {T : TX K w mg} {H : Hp} {p ll : Addr} {Y : Yd} (h : TrackOn T H p ll Y) : TrackAt T H p Y := by
  obtain ⟨dx, lk, lb, lg, tx, a, h1, h2, h3, h4⟩ := h.ex
  exact ⟨dx, lk, lb, ll, lg, tx, a, h1, h2, h3, .inl h4⟩
theorem TrackOn.mono {T : TX K w mg} {H H' : Hp} {p ll : Addr} {Y : Yd} (e : Same H H') (h : TrackOn T H p ll Y) : TrackOn T H' p ll Y := by
  obtain ⟨dx, lk, lb, lg, tx, a, h1, h2, h3, h4⟩ := h.ex
  exact ⟨dx, lk, lb, lg, tx, a, e _ _ h1, e _ _ h2, e _ _ h3, e _ _ h4⟩
theorem TrackOn.lock {T : TX K w mg} {H : Hp} {p ll : Addr} {Y : Yd} {o : Obj} (h : TrackOn T H p ll Y) : TrackAt T (upd H ll (.frz o (.dT (linkKvs Y.links)))) p Y := by
  obtain ⟨dx, lk, lb, lg, tx, a, h1, h2, h3, h4⟩ := h.ex
  exact ⟨dx, lk, lb, ll, lg, tx, a, lock_at h4 h1 (by intro z; cases z), lock_at h4 h2 (by intro z; cases z), lock_at h4 h3 (by intro z; cases z), .inr ⟨o, upd_same⟩⟩
/-! ### following -/
def four (l : Int × Int) : List Move := [(l.1, 0, l.2, 0), (l.1, 0, l.2, 1), (l.1, 1, l.2, 0), (l.1, 1, l.2, 1)]
structure FInv (H : Hp) (F : Addr) (f : Move → Option Sit) (ms : List Move) (H' : Hp) : Prop where
  same : Same H H'
  new : H F = none
  ex : ∃ L : List (Sit × Addr), H' F = some (.lst (L.map fun x => V.ref x.2)) ∧ KeysAt H' L ∧ L.map (·.1) = ms.filterMap f
theorem FInv.mono {H H' H'' : Hp} {F : Addr} {f : Move → Option Sit} {ms : List Move} (s : Same H' H'') (h : FInv H F f ms H') : FInv H F f ms H'' := by
  obtain ⟨L, a, b, c⟩ := h.ex
  exact ⟨Same.trans h.same s, h.new, L, s _ _ a, b.mono s, c⟩
theorem FInv.none {H H' : Hp} {F : Addr} {f : Move → Option Sit} {ms : List Move} {m : Move} (h : FInv H F f ms H') (e : f m = none) : FInv H F f (ms ++ [m]) H' := by
  obtain ⟨L, a, b, c⟩ := h.ex
  exact ⟨h.same, h.new, L, a, b, by rw [List.filterMap_append, c]; simp [e]⟩
theorem FInv.push {H H' : Hp} {F q : Addr} {f : Move → Option Sit} {ms : List Move} {m : Move} {S : Sit} {xs : List V} (h : FInv H F f ms H') (e : f m = some S) (hq : SitAt H' q S) (hx : H' F = some (.lst xs)) : FInv H F f (ms ++ [m]) (upd H' F (.lst (xs ++ [.ref q]))) := by
  obtain ⟨L, a, b, c⟩ := h.ex
  have hxs : xs = L.map fun x => V.ref x.2 := by rw [a] at hx; injection hx with z; injection z with z; exact z.symm
  subst hxs
  have k : ∀ q' S', SitAt H' q' S' → SitAt (upd H' F (.lst (L.map (fun x => V.ref x.2) ++ [.ref q]))) q' S' := fun q' S' z => z.lock a (fun _ y => by cases y)
  refine ⟨Same.mut h.same h.new, h.new, L ++ [(S, q)], by rw [upd_same, List.map_append]; rfl, ?_, by rw [List.filterMap_append, List.map_append, c]; simp [e]⟩
  intro x hx
  rcases List.mem_append.mp hx with hx | hx
  · exact k _ _ (b x hx)
  · rw [List.mem_singleton.mp hx]
    exact k _ _ hq
theorem four_len (L : List (Int × Int)) : (L.flatMap four).length = 4 * L.length := by
  induction L with
  | nil => rfl
  | cons a L ih => rw [List.flatMap_cons, List.length_append, ih]; show 4 + _ = _; rw [List.length_cons]; omega
theorem FInv.len {H H' : Hp} {F : Addr} {f : Move → Option Sit} {ms : List Move} (h : FInv H F f ms H') : ∃ xs, H' F = some (.lst xs) ∧ xs.length ≤ ms.length := by
  obtain ⟨L, a, b, c⟩ := h.ex
  refine ⟨_, a, ?_⟩
  rw [List.length_map, ← List.length_map (f := (·.1)) (as := L), c]
  exact List.length_filterMap_le _ _
theorem four_at {l : Int × Int} {i j : Nat} (hi : i < 2) (hj : j < 2) : (four l).take (2 * i + j) ++ [(l.1, (i : Int), l.2, (j : Int))] = (four l).take (2 * i + j + 1) := by
  obtain rfl | rfl : i = 0 ∨ i = 1 := by omega
  all_goals (obtain rfl | rfl : j = 0 ∨ j = 1 := by omega)
  all_goals rfl
def sp_Track_following (P : Program) (w : World) (T : TX K w mg) : Sp := fun vs H Q _ => ∃ (p r q ll : Addr) (Y : Yd) (row : List Int) (S : Sit), vs = [.ref p, .ref r, .ref q] ∧ TrackOn T H p ll Y ∧ RowAt H r row ∧ SitAt H q S ∧ YOk Y ∧ WFS Y row S ∧
  ∀ (H' : Hp) (F : Addr) (L : List (Sit × Addr)), Same H H' → H' F = some (.lst (L.map fun x => V.ref x.2)) → KeysAt H' L → L.map (·.1) = (Y.links.flatMap four).filterMap (made Y row S) → Q (.ref F) H'
theorem c_Track_following (T : TX K w mg) : C8.Met P w K mg base 2 T.cTrack "following" (sp_Track_following P w T) [] := by
  obtain ⟨f, fd, me, F, b⟩ := T.fn_Track_following
  refine C8.met0 T.clTrack me F b sc_Track_following (fun vs H Q E h => by obtain ⟨_, _, _, _, _, _, _, rfl, _⟩ := h; rfl) (fun cdv A outer s H vs Q E hr h => ?_)
  have hu := hu_of hr
  have nd := sc_Track_following.nd
  refine ⟨_, (pss_cons (ps_set (i := 3) nd rfl (Or.inl rfl) (pe_lst pa_nil))
      (pss_cons (ps_lock (ps_for PassesOwn.never rfl (pi_keys (pe_fld (pv 0) rfl)) (pg_tup (by rfl) (pgs_cons (pg_name (i := 4) nd rfl (Or.inl rfl)) (pgs_cons (pg_name (i := 5) nd rfl (Or.inl rfl)) pgs_nil))) (pss_one (ps_for PassesOwn.never rfl (pi_tup (pe_tup (pa_cons pe_int (pa_cons pe_int pa_nil)))) (pg_name (i := 6) nd rfl (Or.inl rfl)) (pss_one (ps_for PassesOwn.never rfl (pi_tup (pe_tup (pa_cons pe_int (pa_cons pe_int pa_nil)))) (pg_name (i := 7) nd rfl (Or.inl rfl)) (pss_cons (ps_set (i := 8) nd rfl (Or.inl rfl) (C8.pe_mt (c_Track_made T) hr (by decide) (pv 0) (pa_cons (pv 1) (pa_cons (pv 2) (pa_cons (pe_tup (pa_cons (pv 4) (pa_cons (pv 6) (pa_cons (pv 5) (pa_cons (pv 7) pa_nil))))) pa_nil)))))
      (pss_one (ps_if (pt_cmpR op_notN (pv 8) pe_non (nomark _)) (pss_one (ps_expr (pe_bm PySem.F.plainAttrs_list PySem.F.slot_list_append PySem.F.type_list_append mt_append (pv 3) (pa_cons (pv 8) pa_nil)))) pss_nil)))))))))
      (pss_one (ps_ret (pv 3))))), ?_⟩
  obtain ⟨p, r, q, ll, Y, row, S, rfl, tr, ra, sa, ok, wf, k⟩ := h
  have many := ok.many
  refine ⟨sz_le (Nat.le_of_ble_eq_true rfl), fun F nF => ?_⟩
  obtain ⟨dx, lk, lb, lg, tx, a, h1, h2, h3, h4⟩ := tr.ex
  have Fll : F ≠ ll := fun z => by rw [z, h4] at nF; cases nF
  refine ⟨ll, .dT (linkKvs Y.links), by rw [upd_ne Fll.symm]; exact h4, trivial, fun od => ?_⟩
  rw [upd_comm Fll]
  have trl : TrackAt T (upd H ll (.frz od (.dT (linkKvs Y.links)))) p Y := tr.lock
  have ral : RowAt (upd H ll (.frz od (.dT (linkKvs Y.links)))) r row := lock_at h4 ra (by intro z; cases z)
  have sal : SitAt (upd H ll (.frz od (.dT (linkKvs Y.links)))) q S := sa.lock h4 (by intro _ z; cases z)
  have h1l : upd H ll (.frz od (.dT (linkKvs Y.links))) p = some (.ins T.cTrack dx (trackF tx a lk lb ll lg)) := lock_at h4 h1 (by intro z; cases z)
  have hll : upd H ll (.frz od (.dT (linkKvs Y.links))) ll = some (.frz od (.dT (linkKvs Y.links))) := upd_same
  have nFl : upd H ll (.frz od (.dT (linkKvs Y.links))) F = none := by rw [upd_ne Fll]; exact nF
  have fin : ∀ H', Same (upd H ll (.frz od (.dT (linkKvs Y.links)))) H' → Same H (upd H' ll (.dT (linkKvs Y.links))) := fun H' s => lock_same h4 s
  generalize upd H ll (.frz od (.dT (linkKvs Y.links))) = Hl at trl ral sal h1l hll nFl fin ⊢
  have s0 : Same Hl (upd Hl F (.lst [])) := Same.new nFl
  have f0 : FInv Hl F (made Y row S) [] (upd Hl F (.lst [])) := ⟨s0, nFl, [], upd_same, (by intro _ z; cases z), rfl⟩
  refine ⟨_, rfl, p, _, dx, _, _, rfl, s0 _ _ h1l, T.clTrack, T.na_Track_links, rfl, ll, od, rfl, .inr ⟨_, s0 _ _ hll, ?_⟩⟩
  refine ⟨fun i m σ H' => m = (linkKvs Y.links).length - i ∧ i ≤ (linkKvs Y.links).length ∧ ∃ u4 u5 u6 u7 u8, σ = [some (.ref p), some (.ref r), some (.ref q), some (.ref F), u4, u5, u6, u7, u8] ∧ FInv Hl F (made Y row S) ((Y.links.take i).flatMap four) H', ⟨_, rfl, Nat.zero_le _, _, _, _, _, _, rfl, f0⟩, ?_⟩
  rintro i m σ H1 ⟨rfl, hi, u4, u5, u6, u7, u8, rfl, f1⟩
  by_cases hlt : i < (linkKvs Y.links).length
  · have hlt' : i < Y.links.length := by rw [← List.length_map (f := fun l => (linkK l, V.bl true)) (as := Y.links)]; exact hlt
    obtain ⟨⟨s, t⟩, hl⟩ := get_some hlt'
    refine .inr ⟨⟨f1.same _ _ hll, hlt⟩, fun σ H' => ∃ u4 u5 u6 u7 u8, σ = [some (.ref p), some (.ref r), some (.ref q), some (.ref F), u4, u5, u6, u7, u8] ∧ FInv Hl F (made Y row S) ((Y.links.take (i + 1)).flatMap four) H', fun σ' H' ⟨a4, a5, a6, a7, a8, e, f⟩ => ⟨_, by omega, rfl, hlt, a4, a5, a6, a7, a8, e, f⟩, ?_⟩
    rintro x H2 ⟨rfl, kk, vv, b, hb, rfl, hbt⟩
    have hkk : kk = linkK (s, t) := by
      rw [show linkKvs Y.links = Y.links.map fun l => (linkK l, V.bl true) from rfl, List.getElem?_map, hl] at hb
      exact (Prod.mk.inj (Option.some.inj hb)).1.symm
    subst hkk
    have hbt' : H2 b = some (.tup [.int s, .int t]) := hbt
    refine ⟨b, _, rfl, SqT.of' hbt', rfl, _, _, rfl, _, _, rfl, rfl, ?_⟩
    refine ⟨sz_le (Nat.le_of_ble_eq_true rfl), fun b1 nb1 => ⟨b1, rfl, ⟨_, SqT.of' upd_same⟩, ?_⟩⟩
    refine for_tup (xs := [.int 0, .int 1]) (fun i1 σ H' => ∃ u6 u7 u8, σ = [some (.ref p), some (.ref r), some (.ref q), some (.ref F), some (.int s), some (.int t), u6, u7, u8] ∧ H' b1 = some (.tup [.int 0, .int 1]) ∧ FInv Hl F (made Y row S) ((Y.links.take i).flatMap four ++ (four (s, t)).take (2 * i1)) H') ⟨u6, u7, u8, rfl, upd_same, by simpa using f1.mono (Same.new nb1)⟩ (fun _ _ _ _ ⟨_, _, _, _, z, _⟩ => SqT.of' z) ?_ ?_
    · rintro i1 x1 σ1 H3 hx1 ⟨w6, w7, w8, rfl, hb1, f3⟩
      have hi1 : i1 < 2 := get_lt hx1
      have ex1 : x1 = .int (i1 : Int) := by
        obtain rfl | rfl : i1 = 0 ∨ i1 = 1 := by omega
        · exact (Option.some.inj hx1).symm
        · exact (Option.some.inj hx1).symm
      subst ex1
      refine ⟨sz_le (Nat.le_of_ble_eq_true rfl), fun b2 nb2 => ⟨b2, rfl, ⟨_, SqT.of' upd_same⟩, ?_⟩⟩
      refine for_tup (xs := [.int 0, .int 1]) (fun i2 σ H' => ∃ u7 u8, σ = [some (.ref p), some (.ref r), some (.ref q), some (.ref F), some (.int s), some (.int t), some (.int (i1 : Int)), u7, u8] ∧ H' b1 = some (.tup [.int 0, .int 1]) ∧ H' b2 = some (.tup [.int 0, .int 1]) ∧ FInv Hl F (made Y row S) ((Y.links.take i).flatMap four ++ (four (s, t)).take (2 * i1 + i2)) H')
        ⟨w7, w8, rfl, (Same.new nb2) _ _ hb1, upd_same, f3.mono (Same.new nb2)⟩ (fun _ _ _ _ ⟨_, _, _, _, z, _⟩ => SqT.of' z) ?_ ?_
      · rintro i2 x2 σ2 H4 hx2 ⟨v7, v8, rfl, hb1', hb2, f4⟩
        have hi2 : i2 < 2 := get_lt hx2
        have ex2 : x2 = .int (i2 : Int) := by
          obtain rfl | rfl : i2 = 0 ∨ i2 = 1 := by omega
          · exact (Option.some.inj hx2).symm
          · exact (Option.some.inj hx2).symm
        subst ex2
        have go : ∀ {H5 : Hp}, FInv Hl F (made Y row S) (((Y.links.take i).flatMap four ++ (four (s, t)).take (2 * i1 + i2)) ++ [(s, (i1 : Int), t, (i2 : Int))]) H5 → FInv Hl F (made Y row S) ((Y.links.take i).flatMap four ++ (four (s, t)).take (2 * i1 + (i2 + 1))) H5 := fun {H5} z => by
          rw [List.append_assoc, four_at (l := (s, t)) hi1 hi2] at z
          exact z
        refine ⟨_, rfl, p, dx, _, rfl, f4.same _ _ h1l, rfl, _, rfl, _, rfl, _, rfl, _, rfl, _, rfl, _, rfl, sz_le (Nat.le_of_ble_eq_true rfl), fun mv nmv => ?_⟩
        have s5 := Same.new (o := .tup [.int s, .int (i1 : Int), .int t, .int (i2 : Int)]) nmv
        have s6 := Same.trans f4.same s5
        refine ⟨p, r, q, mv, Y, row, S, (s, (i1 : Int), t, (i2 : Int)), rfl, trl.mono s6, s6 _ _ ral, sal.mono s6, upd_same, ok, wf, fun H5 s7 e => ?_, fun H5 q' S' s7 e hq => ?_⟩
        · refine ⟨_, rfl, rfl, _, rfl, iteF ?_⟩
          have s8 := Same.trans s5 s7
          exact ⟨_, _, rfl, s8 _ _ hb1', s8 _ _ hb2, go ((f4.mono s8).none e)⟩
        · refine ⟨_, rfl, rfl, _, rfl, iteT ?_⟩
          have s8 := Same.trans s5 s7
          have f5 := f4.mono s8
          obtain ⟨xs, hxs, hxl⟩ := f5.len
          refine ⟨_, rfl, tyL hxs, _, rfl, F, _, _, rfl, rfl, hxs, sz_lt ?_, ?_⟩
          · have q1 := four_len (Y.links.take i)
            rw [List.length_append, q1, List.length_take, List.length_take] at hxl
            have : (four (s, t)).length = 4 := rfl
            omega
          · have k2 : ∀ {c : Addr}, H5 c = some (.tup [.int 0, .int 1]) → upd H5 F (.lst (xs ++ [.ref q'])) c = some (.tup [.int 0, .int 1]) := fun z => lock_at hxs z (by intro y; cases y)
            exact ⟨_, _, rfl, k2 (s8 _ _ hb1'), k2 (s8 _ _ hb2), go (f5.push e hq hxs)⟩
      · rintro σ2 H4 ⟨v7, v8, rfl, hb1', hb2, f4⟩
        exact ⟨_, _, _, rfl, hb1', f4⟩
    · rintro σ1 H3 ⟨w6, w7, w8, rfl, hb1, f3⟩
      refine ⟨_, _, _, _, _, rfl, ?_⟩
      rw [take_snoc hl, List.flatMap_append]
      simpa [four] using f3
  · obtain rfl : i = (linkKvs Y.links).length := by omega
    refine .inl ⟨⟨f1.same _ _ hll, Nat.le_refl _⟩, f1.same _ _ hll, ?_⟩
    have e : (linkKvs Y.links).length = Y.links.length := List.length_map _
    rw [e, List.take_length] at f1
    obtain ⟨L, g1, g2, g3⟩ := f1.ex
    have Fl2 : F ≠ ll := Fll
    refine ⟨_, rfl, k _ F L (fin _ f1.same) (by rw [upd_ne Fl2]; exact g1) ?_ g3⟩
    intro x hx
    exact (g2 x hx).lock (f1.same _ _ hll) (by intro _ z; cases z)
end
end K92

/-! K92D: the checker: holds, sorts, closed lists. -/
set_option Elab.async false
set_option linter.all false
set_option maxRecDepth 100000
set_option maxHeartbeats 4000000
set_option autoImplicit false
namespace K92
open PySem PySem.Spec PyProof.Rows L2
section
variable {P : Program} {w : World} {K : PySem.W.Frag} {mg : Str → Option Value} {base : Heap}
theorem cut_ints (l : List Int) (lo hi : Option Int) : ∃ l' : List Int, cutV (l.map V.int) lo hi = l'.map V.int := by
  refine ⟨(l.drop (HT.sIx (l.map V.int).length 0 lo)).take (HT.sIx (l.map V.int).length (l.map V.int).length hi - HT.sIx (l.map V.int).length 0 lo), ?_⟩
  unfold cutV
  rw [List.map_take, List.map_drop]
theorem chain_any {tc : TE} {σ : L2.St} {H : Hp} {Q : VK} {c : Bool} {x : Int} {n : Int} {g : Int → Int → Bool} (hc : ∀ Q', Q' (.int n) H → tc σ H Q') (h1 : ∀ b, Q (.bl b) H) :
    if c = true then tc σ H (fun w' H4 => rI0 (fun i j => V.bl (g i j)) (.int x) w' H4 Q) else Q (.bl false) H :=
  ite2 (fun _ => hc _ ⟨_, _, rfl, rfl, h1 _⟩) fun _ => h1 _
def sp_Track_holds (P : Program) (w : World) (T : TX K w mg) : Sp := fun vs H Q _ => ∃ (p r q : Addr) (Y : Yd) (row : List Int) (S : Sit), vs = [.ref p, .ref r, .ref q] ∧ TrackAt T H p Y ∧ RowAt H r row ∧ SitAt H q S ∧ YOk Y ∧ WFS Y row S ∧ ∀ H' b, Same H H' → Q (.bl b) H'
theorem c_Track_holds (T : TX K w mg) : C8.Met P w K mg base 1 T.cTrack "holds" (sp_Track_holds P w T) [] := by
  obtain ⟨f, fd, me, F, b⟩ := T.fn_Track_holds
  refine C8.met0 T.clTrack me F b sc_Track_holds (fun vs H Q E h => by obtain ⟨_, _, _, _, _, _, rfl, _⟩ := h; rfl) (fun cdv A outer s H vs Q E hr h => ?_)
  have hu := hu_of hr
  have nd := sc_Track_holds.nd
  refine ⟨_, (pss_cons (ps_asg (pv 2) (pg_tup (by rfl) (pgs_cons (pg_name (i := 3) nd rfl (Or.inl rfl)) (pgs_cons (pg_name (i := 4) nd rfl (Or.inl rfl)) (pgs_cons (pg_name (i := 5) nd rfl (Or.inl rfl)) pgs_nil)))))
      (pss_cons (ps_if (PW.pt (pw_or (pt_not (pt_chain op_le op_le pe_int (pv 3) (pe_callB (call_lenK (K := K) rfl) (by rfl) T.b_len PySem.boot_len (pa_cons (pv 1) pa_nil)))) (pw_or1 (pt_cmpR op_ne (pe_callB (call_lenK (K := K) rfl) (by rfl) T.b_len PySem.boot_len (pa_cons (pv 4) pa_nil)) (pe_callB (call_lenK (K := K) rfl) (by rfl) T.b_len PySem.boot_len (pa_cons (pe_fld (pv 0) rfl) pa_nil)) (nomark _))))) (pss_one (ps_ret pe_bl)) pss_nil)
      (pss_cons (ps_set (i := 6) nd rfl (Or.inl rfl) (pe_callTy (call_listK (K := K) rfl) (by rfl) T.b_list boot_list_ (pa_cons (pv 5) pa_nil)))
      (pss_cons (ps_for PassesOwn.never rfl (pi_zipLT (by rfl) T.b_zip (pa_cons (pe_fld (pv 0) rfl) (pa_cons (pv 4) pa_nil))) (pg_tup (by rfl) (pgs_cons (pg_name (i := 7) nd rfl (Or.inl rfl)) (pgs_cons (pg_name (i := 8) nd rfl (Or.inl rfl)) pgs_nil))) (pss_cons (ps_if (pt_chain op_lt op_lt pe_int (pv 7) (pe_callB (call_lenK (K := K) rfl) (by rfl) T.b_len PySem.boot_len (pa_cons (pv 8) pa_nil))) (pss_one (ps_ret pe_bl)) pss_nil)
      (pss_one (ps_expr (pe_bm PySem.F.plainAttrs_list PySem.F.slot_list_extend PySem.F.type_list_extend mt_extend (pv 6) (pa_cons (pe_callTy (call_listK (K := K) rfl) (by rfl) T.b_list boot_list_ (pa_cons (pv 8) pa_nil)) pa_nil))))))
      (pss_one (ps_ret (pe_cmpR (op_eqD hr.units) (pe_callB cr_sortedI (by rfl) T.b_sorted boot_sorted_ (pa_cons (pv 6) pa_nil)) (pe_callB cr_sortedI (by rfl) T.b_sorted boot_sorted_ (pa_cons (pe_slice sl_list (pv 1) po_none (po_some (pv 3))) pa_nil)) (nomark _)))))))), ?_⟩
  obtain ⟨p, r, q, Y, row, S, rfl, tr, ra, sa, ok, wf, k⟩ := h
  obtain ⟨dx, lk, lb, ll, lg, tx, a, h1, h2, h3, h4⟩ := tr.ex
  obtain ⟨hd, gn, ds, g1, g2, g3, g4⟩ := sa.ex
  refine ⟨_, rfl, q, _, rfl, SqT.of' g1, rfl, _, _, rfl, _, _, rfl, _, _, rfl, rfl, ?_⟩
  have rest : ∀ b : Bool, (fun (b : Bool) H1 => b = b) b H := fun _ => rfl
  refine ⟨_, rfl, _, _, rfl, rfl, _, rfl, chain_any (g := fun i j => decide (i ≤ j)) (n := ((row.map V.int).length : Nat)) (fun Q' q' => ⟨_, rfl, r, _, rfl, .inl (SqL.of ra), q'⟩) (fun b => ⟨_, rfl, ?_⟩)⟩
  refine ite2 (fun _ => iteT (k _ _ (same_refl _))) (fun _ => ?_)
  refine ⟨_, rfl, hd, _, rfl, .inr (SqT.of' g2), _, rfl, p, _, dx, _, _, rfl, h1, T.clTrack, T.na_Track_kinds, rfl, lk, _, rfl, .inl (SqL.of h2), rfl, _, rfl, ?_⟩
  refine ite2 (fun _ => k _ _ (same_refl _)) (fun _ => ?_)
  refine ⟨_, rfl, gn, _, rfl, .inr (SqT.of' g4), fun W nW => ?_⟩
  have sW : Same H (upd H W (.lst (S.gone.map V.int))) := Same.new nW
  have sum := wf.sum
  have came := wf.came
  have few := wf.few
  refine ⟨_, rfl, p, _, dx, _, _, rfl, sW _ _ h1, T.clTrack, T.na_Track_bounds, rfl, _, rfl, lb, hd, _, _, rfl, SqL.of (sW _ _ h3), SqT.of' (sW _ _ g2), ?_⟩
  refine for_zipLT (fun i σ H' => ∃ u7 u8 ws, σ = [some (.ref p), some (.ref r), some (.ref q), some (.int (S.came : Int)), some (.ref hd), some (.ref gn), some (.ref W), u7, u8] ∧ Same H H' ∧ H' W = some (.lst ((ws : List Int).map V.int)) ∧ ws.length ≤ 60 * (i + 1))
    ⟨_, _, _, rfl, sW, upd_same, by omega⟩ (fun i σ H' ⟨_, _, _, _, s, _⟩ => ⟨SqL.of (s _ _ h3), SqT.of' (s _ _ g2)⟩) ?_ ?_
  · rintro i x y Tt σ H1 hx hy ⟨u7, u8, ws, rfl, s1, hW, wl⟩ nT
    have hy' : ∃ d l, y = V.ref d ∧ S.held[i]? = some l ∧ H d = some (.tup (l.map V.int)) := by
      obtain ⟨d, hd', rfl⟩ := getElem?_map_ref hy
      obtain ⟨l, hl⟩ := get_some (L := S.held) (i := i) (by rw [← g3.length]; exact get_lt hd')
      obtain ⟨d', e1, e2⟩ := g3.get hl
      obtain rfl : d' = d := Option.some.inj (e1.symm.trans hd')
      exact ⟨d', l, rfl, hl, e2⟩
    obtain ⟨d, l, rfl, hl, hdl⟩ := hy'
    have hx' : ∃ bd : Nat, x = V.int (bd : Int) := by
      rw [List.getElem?_map] at hx
      cases e : Y.bounds[i]? with
      | none => rw [e] at hx; cases hx
      | some b => rw [e] at hx; exact ⟨b, (Option.some.inj hx).symm⟩
    obtain ⟨bd, rfl⟩ := hx'
    have il : i < 8 := by have := get_lt hl; have := wf.held; have := ok.few; omega
    have ll60 := total_le (List.mem_of_getElem? hl)
    have s2 : Same H1 (upd H1 Tt (.tup [.int (bd : Int), .ref d])) := Same.new nT
    have s3 := Same.trans s1 s2
    refine ⟨Tt, _, rfl, SqT.of' upd_same, rfl, _, _, rfl, _, _, rfl, rfl, ?_⟩
    refine ⟨_, rfl, _, _, rfl, rfl, _, rfl, chain_any (g := fun i j => decide (i < j)) (n := ((l.map V.int).length : Nat)) (fun Q' q' => ⟨_, rfl, d, _, rfl, .inr (SqT.of' (s3 _ _ hdl)), q'⟩) (fun b => ⟨_, rfl, ?_⟩)⟩
    refine ite2 (fun _ => k _ _ s3) (fun _ => ?_)
    refine ⟨_, rfl, tyL (s2 _ _ hW), _, rfl, d, _, rfl, .inr (SqT.of' (s3 _ _ hdl)), fun e ne => ?_⟩
    have s4 := Same.add s3 ne (o := .lst (l.map V.int))
    refine ⟨W, e, _, _, rfl, rfl, (Same.new ne) _ _ (s2 _ _ hW), upd_same, sz_le (by rw [List.length_map, List.length_map]; omega), ?_⟩
    exact ⟨_, _, ws ++ l, rfl, Same.mut s4 nW, by rw [upd_same, List.map_append], by rw [List.length_append]; omega⟩
  · rintro σ H1 ⟨u7, u8, ws, rfl, s1, hW, wl⟩
    refine ⟨_, rfl, W, ws, rfl, SqL.of hW, fun ns p1 _ _ np1 => ?_⟩
    have s2 := Same.add s1 np1 (o := .lst (ns.map V.int))
    obtain ⟨row', hr'⟩ := cut_ints row none (some (S.came : Int))
    refine ⟨_, rfl, _, rfl, _, rfl, r, _, rfl, SqL.of (s2 _ _ ra), fun c nc => ?_⟩
    rw [hr']
    have s3 := Same.add s2 nc (o := .lst (row'.map V.int))
    refine ⟨c, row', rfl, SqL.of upd_same, fun ns2 p2 _ _ np2 => ?_⟩
    have s4 := Same.add s3 np2 (o := .lst (ns2.map V.int))
    refine rd_eqL (a := ns) ?_ upd_same (k _ _ s4)
    rw [upd_ne (ne_of_none ((Same.new nc) _ _ upd_same) np2)]
    exact (Same.new nc) _ _ upd_same
def sp__first (P : Program) (w : World) (T : TX K w mg) : Sp := fun vs H Q _ => ∃ (p : Addr) (Y : Yd), vs = [.ref p] ∧ TrackAt T H p Y ∧ YOk Y ∧ ∀ H' q, Same H H' → SitAt H' q (first Y) → Q (.ref q) H'
/-- tuple([() for ..]), turn by turn -/
structure Units (H : Hp) (D : Addr) (i : Nat) (H' : Hp) : Prop where
  same : Same H H'
  new : H D = none
  ex : ∃ ds : List Addr, H' D = some (.lst (ds.map V.ref)) ∧ TupsAt H' ds (List.replicate i [])
theorem Units.step {H H' : Hp} {D : Addr} {i : Nat} (u : Units H D i H') (hi : i ≤ 1000) {Q : Addr → Prop} {R : Addr → List V → Prop} (hr : ∀ t xs, H' t = none → upd H' t (.tup []) D = some (.lst xs) → xs.length < sizeLine → Units H D (i + 1) (upd (upd H' t (.tup [])) D (.lst (xs ++ [.ref t]))) → R t xs) :
    ∀ t, H' t = none → ∃ acc, upd H' t (.tup []) D = some (.lst acc) ∧ acc.length < sizeLine ∧ R t acc := fun t nt => by
  obtain ⟨ds, h1, h2⟩ := u.ex
  have hD : upd H' t (.tup []) D = some (.lst (ds.map V.ref)) := by rw [upd_ne (ne_of_none h1 nt)]; exact h1
  have hl : (ds.map V.ref).length < sizeLine := sz_lt (by rw [List.length_map, TupsAt.length h2, List.length_replicate]; omega)
  refine ⟨_, hD, hl, hr t _ nt hD hl ⟨Same.mut (Same.add u.same nt) u.new, u.new, ds ++ [t], by rw [upd_same, List.map_append]; rfl, ?_⟩⟩
  have nE : t ≠ D := (ne_of_none h1 nt).symm
  have keep : ∀ {b : Addr} {xs : List V}, upd H' t (.tup []) b = some (.tup xs) → upd (upd H' t (.tup [])) D (.lst (ds.map V.ref ++ [.ref t])) b = some (.tup xs) := fun z => lock_at hD z (by intro y; cases y)
  rw [List.replicate_succ']
  exact paired_snoc (Paired.mapP h2 fun b m q => keep ((Same.new nt) _ _ q)) (keep upd_same)
theorem first_held (Y : Yd) : (first Y).held = List.replicate Y.kinds.length [] := List.map_const' ..
theorem c__first (T : TX K w mg) : C8.Cal P w K mg base 1 "_first" (sp__first P w T) [] := by
  obtain ⟨f, fd, F, b⟩ := T.fn__first
  refine C8.cal0 F b .nil sc__first (fun vs H Q E h => by obtain ⟨_, _, rfl, _⟩ := h; rfl) (fun cdv A outer s H vs Q E hr h => ?_)
  have hu := hu_of hr
  have nd := sc__first.nd
  refine ⟨_, (pss_one (ps_ret (pe_tup (pa_cons pe_int (pa_cons (pe_callTy (call_tupleK (K := K) rfl) (by rfl) T.b_tuple boot_tuple_ (pa_cons (pe_lc (own := [("_", 1)]) rfl nd (pi_list (pe_fld (pv 0) rfl)) (blkOk_by (N := N__first) (sc := C8.fnScope s__first) (by decide +kernel)) (fun _ _ _ _ _ => (pg_name (i := 1) nd rfl (Or.inl rfl))) (fun _ _ _ _ _ => pts_nil) (fun _ _ _ _ _ => (pe_tup pa_nil))) pa_nil)) (pa_cons (pe_tup pa_nil) pa_nil)))))), ?_⟩
  obtain ⟨p, Y, rfl, tr, ok, k⟩ := h
  obtain ⟨dx, lk, lb, ll, lg, tx, a, h1, h2, h3, h4⟩ := tr.ex
  have few := ok.few
  refine ⟨_, rfl, p, _, dx, _, _, rfl, h1, T.clTrack, T.na_Track_kinds, rfl, lk, rfl, ⟨_, SqL.of h2⟩, fun D nD => ?_⟩
  refine lc_list (K := K) (a := lk) (xs := Y.kinds.map fun c => V.str (ch c)) (fun i H' => Units H D i H') ⟨Same.new nD, nD, [], upd_same, .nil⟩ (fun i H' _ u => SqL.of (u.same _ _ h2)) ?_ ?_
  · intro i x H' hx u
    have hi := get_lt hx
    rw [List.length_map] at hi
    refine ⟨rfl, sz_le (Nat.le_of_ble_eq_true rfl), fun t nt => ?_⟩
    obtain ⟨acc, e1, e2, e3⟩ := u.step (R := fun t xs => Units H D (i + 1) (upd (upd H' t (.tup [])) D (.lst (xs ++ [.ref t])))) (Q := fun _ => True) (by omega) (fun _ _ _ _ _ z => z) t nt
    exact ⟨acc, e1, e2, e3⟩
  · intro H' u
    obtain ⟨ds, e1, e2⟩ := u.ex
    rw [List.length_map, ← first_held] at e2
    refine ⟨D, _, rfl, .inl ⟨SqL.of e1, fun l nl => ⟨sz_le (Nat.le_of_ble_eq_true rfl), fun g ng => ⟨sz_le (Nat.le_of_ble_eq_true rfl), fun q nq => ?_⟩⟩⟩⟩
    have s1 := Same.new nl (o := .tup (ds.map V.ref))
    have s2 := Same.new ng (o := .tup [])
    have s3 := Same.new nq (o := .tup [.int 0, .ref l, .ref g])
    exact k _ q (Same.trans u.same (Same.trans s1 (Same.trans s2 s3))) ⟨l, g, ds, upd_same, s3 _ _ (s2 _ _ upd_same), TupsAt.mono (Same.trans s1 (Same.trans s2 s3)) e2, s3 _ _ upd_same⟩
/-! ### _sorts -/
def MovesAt (H : Hp) (a : Addr) (ms : List Move) : Prop := ∃ as : List Addr, H a = some (.lst (as.map V.ref)) ∧ Paired (fun x m => MoveAt H x m) as ms
theorem MovesAt.mono {H H' : Hp} {a : Addr} {ms : List Move} (e : Same H H') (h : MovesAt H a ms) : MovesAt H' a ms := by
  obtain ⟨as, h1, h2⟩ := h
  exact ⟨as, e _ _ h1, Paired.mapP h2 fun _ _ q => e _ _ q⟩
def sp__sorts (P : Program) (w : World) (T : TX K w mg) : Sp := fun vs H Q _ => ∃ (p r a : Addr) (Y : Yd) (row : List Int) (ms : List Move), vs = [.ref p, .ref r, .ref a] ∧ TrackAt T H p Y ∧ RowAt H r row ∧ MovesAt H a ms ∧ YOk Y ∧ row.length ≤ 60 ∧
  ∀ H' (b : Bool), Same H H' → (b = true → Way Y row) → Q (.bl b) H'
theorem c__sorts (T : TX K w mg) : C8.Cal P w K mg base 2 "_sorts" (sp__sorts P w T) [] := by
  obtain ⟨f, fd, F, b⟩ := T.fn__sorts
  refine C8.cal0 F b .nil sc__sorts (fun vs H Q E h => by obtain ⟨_, _, _, _, _, _, rfl, _⟩ := h; rfl) (fun cdv A outer s H vs Q E hr h => ?_)
  have hu := hu_of hr
  have nd := sc__sorts.nd
  refine ⟨_, (pss_cons (ps_set (i := 3) nd rfl (Or.inl rfl) (C8.pe_c (c__first T) hr (by decide) rfl (pa_cons (pv 0) pa_nil)))
      (pss_cons (ps_for PassesOwn.never rfl (pi_list (pv 2)) (pg_name (i := 4) nd rfl (Or.inl rfl)) (pss_cons (ps_set (i := 3) nd rfl (Or.inl rfl) (C8.pe_mt (c_Track_made T) hr (by decide) (pv 0) (pa_cons (pv 1) (pa_cons (pv 3) (pa_cons (pv 4) pa_nil)))))
      (pss_one (ps_if (pt_cmpR op_isN (pv 3) pe_non (nomark _)) (pss_one (ps_ret pe_bl)) pss_nil))))
      (pss_one (ps_ret (pe_cmpR (op_eqD hr.units) (pe_callTy (call_listK (K := K) rfl) (by rfl) T.b_list boot_list_ (pa_cons (pe_ix (ix_tupK (K := K) rfl) (pv 3) pe_int (fun _ _ => rfl)) pa_nil)) (pe_listRg rfl (by rfl) T.b_list (prg_2 (by rfl) T.b_range pe_int (pe_op op_add (pe_callB (call_lenK (K := K) rfl) (by rfl) T.b_len PySem.boot_len (pa_cons (pv 1) pa_nil)) pe_int))) (nomark _)))))), ?_⟩
  obtain ⟨p, r, a, Y, row, ms, rfl, tr, ra, ⟨as, ma, mp⟩, ok, few, k⟩ := h
  obtain ⟨dx, lk, lb, ll, lg, tx, at_, h1, h2, h3, h4⟩ := tr.ex
  refine ⟨_, rfl, p, Y, rfl, tr, ok, fun H1 q s1 sq => ?_⟩
  refine ⟨_, rfl, a, rfl, ⟨_, SqL.of (s1 _ _ ma)⟩, ?_⟩
  refine for_list (xs := as.map V.ref) (fun i σ H' => ∃ q S u4, σ = [some (.ref p), some (.ref r), some (.ref a), some (.ref q), u4] ∧ Same H H' ∧ SitAt H' q S ∧ Reach Y row S)
    ⟨q, first Y, none, rfl, s1, sq, .init⟩ (fun _ _ _ _ ⟨_, _, _, _, s, _⟩ => SqL.of (s _ _ ma)) ?_ ?_
  · rintro i x σ H2 hx ⟨q, S, u4, rfl, s2, sq, re⟩
    obtain ⟨mv, hmv, rfl⟩ := getElem?_map_ref hx
    obtain ⟨m, hm⟩ := get_some (L := ms) (i := i) (by rw [← paired_len mp]; exact get_lt hmv)
    obtain ⟨mv', e1, e2⟩ := paired_get' mp hm
    obtain rfl : mv' = mv := Option.some.inj (e1.symm.trans hmv)
    refine ⟨_, rfl, p, dx, _, rfl, s2 _ _ h1, rfl, _, rfl, _, rfl, _, rfl, p, r, q, mv', Y, row, S, m, rfl, tr.mono s2, s2 _ _ ra, sq, s2 _ _ e2, ok, reach_wf ok few re, fun H3 s3 e => ?_, fun H3 q' S' s3 e hq => ?_⟩
    · refine ⟨_, rfl, rfl, _, rfl, iteT ?_⟩
      exact k _ false (Same.trans s2 s3) (fun z => by cases z)
    · refine ⟨_, rfl, rfl, _, rfl, iteF ?_⟩
      exact ⟨q', S', _, rfl, Same.trans s2 s3, hq, .step re e⟩
  · rintro σ H2 ⟨q, S, u4, rfl, s2, sq, re⟩
    obtain ⟨hd, gn, ds, g1, g2, g3, g4⟩ := sq.ex
    have wf := reach_wf ok few re
    refine ⟨_, rfl, q, _, _, _, rfl, rfl, SqT.of' g1, rfl, gn, _, rfl, .inr (SqT.of' g4), fun l nl => ?_⟩
    have s3 : Same H2 (upd H2 l (.lst (S.gone.map V.int))) := Same.new nl
    refine ⟨_, rfl, r, _, rfl, .inl (SqL.of (s3 _ _ (s2 _ _ ra))), _, _, rfl, rfl, _, _, rfl, rfl, ?_⟩
    rw [List.length_map]
    refine ⟨rg_ok (by omega), fun c nc => ?_⟩
    rw [rgV_upTo]
    refine rd_eqL (by rw [upd_ne (ne_of_none upd_same nc)]; exact upd_same) upd_same ?_
    exact k _ _ (Same.trans s2 (Same.add s3 nc)) fun z => ⟨S, re, of_decide_eq_true z⟩
/-! ### _is_closed -/
def SitsAt (H : Hp) (a : Addr) (Ss : List (Sit × Addr)) : Prop := H a = some (.lst (Ss.map fun x => V.ref x.2)) ∧ KeysAt H Ss
theorem SitsAt.mono {H H' : Hp} {a : Addr} {Ss : List (Sit × Addr)} (e : Same H H') (h : SitsAt H a Ss) : SitsAt H' a Ss := ⟨e _ _ h.1, h.2.mono e⟩
theorem KeysAt.lock {H : Hp} {d : Addr} {u x : HO} {ks : List (Sit × Addr)} (h : KeysAt H ks) (hd : H d = some u) (nt : ∀ xs, u ≠ .tup xs) : KeysAt (upd H d x) ks := fun p hp => (h p hp).lock hd nt
theorem map_ref_at {ks : List (Sit × Addr)} {i : Nat} {x : V} (h : (ks.map fun x => V.ref x.2)[i]? = some x) : ∃ y, ks[i]? = some y ∧ x = V.ref y.2 := by
  rw [List.getElem?_map] at h
  cases e : ks[i]? with
  | none => rw [e] at h; cases h
  | some a => rw [e] at h; exact ⟨a, rfl, (Option.some.inj h).symm⟩
theorem four_all {Y : Yd} {row : List Int} {S S' : Sit} {m : Move} (h : made Y row S m = some S') : S' ∈ (Y.links.flatMap four).filterMap (made Y row S) := by
  refine List.mem_filterMap.mpr ⟨m, ?_, h⟩
  obtain ⟨hl, _⟩ := made_parts h
  refine List.mem_flatMap.mpr ⟨_, hl, ?_⟩
  obtain ⟨e1, e2⟩ := made_ends h
  obtain ⟨s, se, t, te⟩ := m
  have e1 : se = 0 ∨ se = 1 := e1
  have e2 : te = 0 ∨ te = 1 := e2
  rcases e1 with rfl | rfl <;> rcases e2 with rfl | rfl <;> simp [four]
theorem ndPut_mem {ks : List (Sit × Addr)} {S : Sit} {q : Addr} {x : Sit × Addr} (h : x ∈ ndPut ks S q) : x ∈ ks ∨ x = (S, q) := by
  unfold ndPut at h
  split at h
  · exact .inl h
  · simpa using h
theorem TrackOn.keep {T : TX K w mg} {H : Hp} {d p ll : Addr} {Y : Yd} {x : HO} {D : HO} (h : TrackOn T H p ll Y) (hd : H d = some D) (n1 : ∀ c e f, D ≠ .ins c e f) (n2 : ∀ xs, D ≠ .lst xs) (n3 : ∀ xs, D ≠ .dT xs) : TrackOn T (upd H d x) p ll Y := by
  obtain ⟨dx, lk, lb, lg, tx, a, h1, h2, h3, h4⟩ := h.ex
  exact ⟨dx, lk, lb, lg, tx, a, lock_at hd h1 (fun z => n1 _ _ _ z.symm), lock_at hd h2 (fun z => n2 _ z.symm), lock_at hd h3 (fun z => n2 _ z.symm), lock_at hd h4 (fun z => n3 _ z.symm)⟩
def sp__is_closed (P : Program) (w : World) (T : TX K w mg) : Sp := fun vs H Q _ => ∃ (p ll r a : Addr) (Y : Yd) (row : List Int) (Ss : List (Sit × Addr)), vs = [.ref p, .ref r, .ref a] ∧ TrackOn T H p ll Y ∧ RowAt H r row ∧ SitsAt H a Ss ∧ (∀ x ∈ Ss, WFS Y row x.1) ∧ Ss.length ≤ 5000 ∧ YOk Y ∧ row.length ≤ 60 ∧
  ∀ H' (b : Bool), Same H H' → (b = true → ¬ Way Y row) → Q (.bl b) H'
theorem c__is_closed (T : TX K w mg) : C8.Cal P w K mg base 3 "_is_closed" (sp__is_closed P w T) [] := by
  obtain ⟨f, fd, F, b⟩ := T.fn__is_closed
  refine C8.cal0 F b .nil sc__is_closed (fun vs H Q E h => by obtain ⟨_, _, _, _, _, _, _, rfl, _⟩ := h; rfl) (fun cdv A outer s H vs Q E hr h => ?_)
  have hu := hu_of hr
  have nd := sc__is_closed.nd
  refine ⟨_, (pss_cons (ps_set (i := 3) nd rfl (Or.inl rfl) pe_dnewN)
      (pss_cons (ps_for PassesOwn.never rfl (pi_list (pv 2)) (pg_name (i := 4) nd rfl (Or.inl rfl)) (pss_cons (ps_if (PW.pt (pw_or (pt_not (pt_val (C8.pe_mt (c_Track_holds T) hr (by decide) (pv 0) (pa_cons (pv 1) (pa_cons (pv 4) pa_nil))))) (pw_or (pt_not (pt_val (C8.pe_c (c__is_live T) hr (by decide) rfl (pa_cons (pv 4) pa_nil)))) (pw_or1 (pt_cmpR op_eq (pe_callB (call_lenK (K := K) rfl) (by rfl) T.b_len PySem.boot_len (pa_cons (pe_ix (ix_tupK (K := K) rfl) (pv 4) pe_int (fun _ _ => rfl)) pa_nil)) (pe_callB (call_lenK (K := K) rfl) (by rfl) T.b_len PySem.boot_len (pa_cons (pv 1) pa_nil)) (nomark _)))))) (pss_one (ps_ret pe_bl)) pss_nil)
      (pss_one (ps_nput (hu20 hr) (pv 3) (pv 4) pe_bl rfl))))
      (pss_cons (ps_if (pt_cmp (pc_nnotinN (hu20 hr) (C8.pe_c (c__first T) hr (by decide) rfl (pa_cons (pv 0) pa_nil)) (pv 3))) (pss_one (ps_ret pe_bl)) pss_nil)
      (pss_cons (ps_lock (ps_for PassesOwn.never rfl (pi_keysN (pv 3)) (pg_name (i := 4) nd rfl (Or.inl rfl)) (pss_one (ps_for PassesOwn.never rfl (pi_list (C8.pe_mt (c_Track_following T) hr (by decide) (pv 0) (pa_cons (pv 1) (pa_cons (pv 4) pa_nil)))) (pg_name (i := 5) nd rfl (Or.inl rfl)) (pss_one (ps_if (PW.pt (pw_and (pt_val (C8.pe_c (c__is_live T) hr (by decide) rfl (pa_cons (pv 5) pa_nil))) (pw_and1 (pt_cmp (pc_nnotinN (hu20 hr) (pv 5) (pv 3)))))) (pss_one (ps_ret pe_bl)) pss_nil))))))
      (pss_one (ps_ret pe_bl)))))), ?_⟩
  obtain ⟨p, ll, r, a, Y, row, Ss, rfl, tr, ra, ⟨sa, sk⟩, wfs, many, ok, few, k⟩ := h
  obtain ⟨dx, lk, lb, lg, tx, at_, h1, h2, h3, h4⟩ := tr.ex
  intro D nD
  refine ⟨_, rfl, a, rfl, ⟨_, SqL.of ((Same.new nD) _ _ sa)⟩, ?_⟩
  refine for_list (xs := Ss.map fun x => V.ref x.2) (fun i σ H' => ∃ u4 ks, σ = [some (.ref p), some (.ref r), some (.ref a), some (.ref D), u4, none] ∧ Same H H' ∧ H' D = some (ND P w D ks) ∧ KeysAt H' ks ∧ (∀ x ∈ ks, WFS Y row x.1 ∧ x.1.gone.length ≠ row.length) ∧ ks.length ≤ i)
    ⟨_, [], rfl, Same.new nD, upd_same, (by intro _ z; cases z), (by intro _ z; cases z), Nat.le_refl _⟩ (fun _ _ _ _ ⟨_, _, _, s, _⟩ => SqL.of (s _ _ sa)) ?_ ?_
  · rintro i x σ H1 hx ⟨u4, ks, rfl, s1, hD, hk, hw, hl⟩
    obtain ⟨⟨S, q⟩, hS, rfl⟩ := map_ref_at hx
    have iS := List.mem_of_getElem? hS
    have wS : WFS Y row S := wfs _ iS
    have sS : SitAt H q S := sk _ iS
    have hi := get_lt hS
    have sum := wS.sum
    have came := wS.came
    have tl : total S.held ≥ 0 := Nat.zero_le _
    refine ⟨_, rfl, p, dx, _, rfl, s1 _ _ h1, rfl, _, rfl, _, rfl, p, r, q, Y, row, S, rfl, (tr.mono s1).at, s1 _ _ ra, sS.mono s1, ok, wS, fun H2 b s2 => ⟨_, rfl, ?_⟩⟩
    have s2' := Same.trans s1 s2
    refine ite2 (fun _ => iteT (k _ false s2' (fun z => by cases z))) (fun _ => ?_)
    refine ⟨_, rfl, q, S, rfl, sS.mono s2', by omega, fun H3 s3 => ⟨_, rfl, ?_⟩⟩
    have s3' := Same.trans s2' s3
    refine ite2 (fun _ => iteT (k _ false s3' (fun z => by cases z))) (fun _ => ?_)
    obtain ⟨hd, gn, ds, g1, g2, g3, g4⟩ := (sS.mono s3').ex
    refine ⟨_, rfl, q, _, _, _, rfl, rfl, SqT.of' g1, rfl, gn, _, rfl, .inr (SqT.of' g4), _, rfl, r, _, rfl, .inl (SqL.of (s3' _ _ ra)), rfl, _, rfl, ?_⟩
    rw [List.length_map, List.length_map]
    refine ite_eq (fun _ => k _ false s3' (fun z => by cases z)) (fun y => ?_)
    have s13 := Same.trans s2 s3
    refine ⟨_, rfl, _, rfl, D, q, S, ks, rfl, rfl, rfl, s13 _ _ hD, hk.mono s13, sS.mono s3', sz_lt (by omega), ?_⟩
    have hD3 := s13 _ _ hD
    have ne : ∀ xs, ND P w D ks ≠ HO.tup xs := fun _ z => by cases z
    refine ⟨_, ndPut ks S q, rfl, Same.mut s3' nD, upd_same, ?_, ?_, ?_⟩
    · intro x hx
      rcases ndPut_mem hx with hx | rfl
      · exact (hk.mono s13 x hx).lock hD3 ne
      · exact (sS.mono s3').lock hD3 ne
    · intro x hx
      rcases ndPut_mem hx with hx | rfl
      · exact hw x hx
      · exact ⟨wS, fun z => y (by rw [z])⟩
    · have := ndPut_length ks S q
      omega
  · rintro σ H1 ⟨u4, ks, rfl, s1, hD, hk, hw, hl⟩
    rw [List.length_map] at hl
    refine ⟨_, rfl, p, Y, rfl, (tr.mono s1).at, ok, fun H2 q s2 sq => ?_⟩
    have s2' := Same.trans s1 s2
    refine ⟨_, rfl, D, q, _, ks, rfl, rfl, .inl (s2 _ _ hD), hk.mono s2, sq, _, rfl, ?_⟩
    refine ite2 (fun _ => k _ false s2' (fun z => by cases z)) (fun z => ?_)
    have h0 : first Y ∈ ks.map (·.1) := by simpa using z
    have hD2 := s2 _ _ hD
    refine ⟨D, ND P w D ks, hD2, trivial, fun od => ?_⟩
    have ne : ∀ xs, ND P w D ks ≠ HO.tup xs := fun _ z => by cases z
    have trl : TrackOn T (upd H2 D (.frz od (ND P w D ks))) p ll Y := (tr.mono s2').keep hD2 (by intro _ _ _ z; cases z) (by intro _ z; cases z) (by intro _ z; cases z)
    have ral : RowAt (upd H2 D (.frz od (ND P w D ks))) r row := lock_at hD2 (s2' _ _ ra) (by intro z; cases z)
    have hkl : KeysAt (upd H2 D (.frz od (ND P w D ks))) ks := (hk.mono s2).lock hD2 ne
    have hDl : upd H2 D (.frz od (ND P w D ks)) D = some (.frz od (ND P w D ks)) := upd_same
    have fin : ∀ H', Same (upd H2 D (.frz od (ND P w D ks))) H' → Same H (upd H' D (ND P w D ks)) := fun H' s => Same.trans s2' (lock_same hD2 s)
    generalize upd H2 D (.frz od (ND P w D ks)) = Hl at trl ral hkl hDl fin ⊢
    obtain ⟨dx', lk', lb', lg', tx', at', h1', _, _, _⟩ := trl.ex
    refine ⟨_, rfl, D, od, ks, rfl, hDl, ?_⟩
    refine ⟨fun i m σ H' => m = ks.length - i ∧ i ≤ ks.length ∧ ∃ u4 u5, σ = [some (.ref p), some (.ref r), some (.ref a), some (.ref D), u4, u5] ∧ Same Hl H' ∧ (∀ x ∈ ks.take i, ∀ m S', made Y row x.1 m = some S' → live S' = true → S' ∈ ks.map (·.1)), ⟨_, rfl, Nat.zero_le _, _, _, rfl, same_refl _, (by intro _ z; cases z)⟩, ?_⟩
    rintro i m σ H3 ⟨rfl, hi, u4, u5, rfl, s3, done⟩
    by_cases hlt : i < ks.length
    · obtain ⟨⟨S, q'⟩, hS⟩ := get_some hlt
      have iS := List.mem_of_getElem? hS
      obtain ⟨wS, _⟩ := hw _ iS
      have sS : SitAt Hl q' S := hkl _ iS
      refine .inr ⟨⟨s3 _ _ hDl, hlt⟩, fun σ H' => ∃ u4 u5, σ = [some (.ref p), some (.ref r), some (.ref a), some (.ref D), u4, u5] ∧ Same Hl H' ∧ (∀ x ∈ ks.take (i + 1), ∀ m S', made Y row x.1 m = some S' → live S' = true → S' ∈ ks.map (·.1)), fun σ' H' ⟨a4, a5, e, s, d⟩ => ⟨_, by omega, rfl, hlt, a4, a5, e, s, d⟩, ?_⟩
      rintro x H4 ⟨rfl, y, hy, rfl⟩
      obtain rfl : y = (S, q') := Option.some.inj (hy.symm.trans hS)
      refine ⟨_, rfl, p, dx', _, rfl, s3 _ _ h1', rfl, _, rfl, _, rfl, p, r, q', ll, Y, row, S, rfl, trl.mono s3, s3 _ _ ral, sS.mono s3, ok, wS, fun H5 F L s5 hF hL eL => ?_⟩
      have s5' := Same.trans s3 s5
      refine ⟨F, rfl, ⟨_, SqL.of hF⟩, ?_⟩
      have lf : ∀ x ∈ L, ∃ m, made Y row S m = some x.1 := fun x hx => by
        have : x.1 ∈ L.map (·.1) := List.mem_map_of_mem hx
        rw [eL] at this
        obtain ⟨m, _, e⟩ := List.mem_filterMap.mp this
        exact ⟨m, e⟩
      refine for_list (xs := L.map fun x => V.ref x.2) (fun j σ H' => ∃ u5, σ = [some (.ref p), some (.ref r), some (.ref a), some (.ref D), some (.ref q'), u5] ∧ Same H5 H' ∧ (∀ x ∈ L.take j, live x.1 = true → x.1 ∈ ks.map (·.1)))
        ⟨_, rfl, same_refl _, (by intro _ z; cases z)⟩ (fun _ _ _ _ ⟨_, _, s, _⟩ => SqL.of (s _ _ hF)) ?_ ?_
      · rintro j x σ H6 hx ⟨v5, rfl, s6, dn⟩
        obtain ⟨⟨S', q2⟩, hS', rfl⟩ := map_ref_at hx
        have iS' := List.mem_of_getElem? hS'
        obtain ⟨m, em⟩ := lf _ iS'
        have wS' : WFS Y row S' := made_wf ok wS em
        have sum' := wS'.sum
        have came' := wS'.came
        have sq2 : SitAt H6 q2 S' := (hL _ iS').mono s6
        refine ⟨_, rfl, q2, S', rfl, sq2, by omega, fun H7 s7 => ⟨_, rfl, ?_⟩⟩
        have s67 := Same.trans s6 s7
        have s37 := Same.trans s5' s67
        refine ite2 (fun lv => ?_) (fun lv => ?_)
        · refine ⟨_, rfl, _, rfl, D, q2, S', ks, rfl, rfl, .inr ⟨od, s37 _ _ hDl⟩, hkl.mono s37, sq2.mono s7, _, rfl, ?_⟩
          refine ite2 (fun _ => ?_) (fun z => ?_)
          · exact ⟨s37 _ _ hDl, k _ false (fin _ s37) (fun z => by cases z)⟩
          · have mem : S' ∈ ks.map (·.1) := by simpa using z
            refine ⟨_, rfl, s67, fun x hx lx => ?_⟩
            rw [take_snoc hS'] at hx
            rcases List.mem_append.mp hx with hx | hx
            · exact dn x hx lx
            · rw [List.mem_singleton.mp hx]; exact mem
        · refine iteF ?_
          refine ⟨_, rfl, s67, fun x hx lx => ?_⟩
          rw [take_snoc hS'] at hx
          rcases List.mem_append.mp hx with hx | hx
          · exact dn x hx lx
          · rw [List.mem_singleton.mp hx] at lx; exact absurd lx lv
      · rintro σ H6 ⟨v5, rfl, s6, dn⟩
        rw [List.length_map, List.take_length] at dn
        refine ⟨_, _, rfl, Same.trans s5' s6, fun x hx m S' em lv => ?_⟩
        rw [take_snoc hS] at hx
        rcases List.mem_append.mp hx with hx | hx
        · exact done x hx m S' em lv
        · rw [List.mem_singleton.mp hx] at em
          have : S' ∈ L.map (·.1) := by rw [eL]; exact four_all em
          obtain ⟨y, hy, rfl⟩ := List.mem_map.mp this
          exact dn y hy lv
    · obtain rfl : i = ks.length := by omega
      rw [List.take_length] at done
      refine .inl ⟨⟨s3 _ _ hDl, Nat.le_refl _⟩, s3 _ _ hDl, ?_⟩
      refine k _ true (fin _ s3) fun _ => ?_
      refine search_noway (met := ks.map (·.1)) h0 ?_ ?_
      · intro S hS
        obtain ⟨x, hx, rfl⟩ := List.mem_map.mp hS
        exact (hw x hx).2
      · intro S hS m S' em lv
        obtain ⟨x, hx, rfl⟩ := List.mem_map.mp hS
        exact done x hx m S' em lv
end
end K92

/-! K92E: owned objects; the checker reads a text. -/
set_option Elab.async false
set_option linter.all false
set_option maxRecDepth 100000
set_option maxHeartbeats 4000000
set_option autoImplicit false
namespace K92
open PySem PySem.Spec PyProof.Rows L2
section
variable {P : Program} {w : World} {K : PySem.W.Frag} {mg : Str → Option Value} {base : Heap}
/-! ### owned objects: L the ones that are written to, I the ones that nobody writes to -/
structure Fr (H0 H : Hp) (L I : List (Addr × HO)) : Prop where
  same : Same H0 H
  nd : (L.map (·.1)).Nodup
  own : ∀ x ∈ L, H0 x.1 = none ∧ H x.1 = some x.2
  imm : ∀ x ∈ I, H x.1 = some x.2 ∧ x.1 ∉ L.map (·.1)
theorem Fr.mono {H0 H H' : Hp} {L I : List (Addr × HO)} (s : Same H H') (f : Fr H0 H L I) : Fr H0 H' L I :=
  ⟨Same.trans f.same s, f.nd, fun x hx => ⟨(f.own x hx).1, s _ _ (f.own x hx).2⟩, fun x hx => ⟨s _ _ (f.imm x hx).1, (f.imm x hx).2⟩⟩
theorem Fr.junk {H0 H : Hp} {L I : List (Addr × HO)} {a : Addr} {o : HO} (f : Fr H0 H L I) (h : H a = none) : Fr H0 (upd H a o) L I := f.mono (Same.new h)
theorem Fr.new_own {H0 H : Hp} {L I : List (Addr × HO)} {a : Addr} {o : HO} (f : Fr H0 H L I) (h : H a = none) : Fr H0 (upd H a o) ((a, o) :: L) I := by
  have s := Same.new h (o := o)
  have na : a ∉ L.map (·.1) := fun m => by
    obtain ⟨x, hx, e⟩ := List.mem_map.mp m
    have := (f.own x hx).2
    rw [e, h] at this
    cases this
  refine ⟨Same.trans f.same s, List.nodup_cons.mpr ⟨na, f.nd⟩, fun x hx => ?_, fun x hx => ⟨s _ _ (f.imm x hx).1, fun m => ?_⟩⟩
  · rcases List.mem_cons.mp hx with rfl | hx
    · exact ⟨Same.free f.same h, upd_same⟩
    · exact ⟨(f.own x hx).1, s _ _ (f.own x hx).2⟩
  · rcases List.mem_cons.mp m with e | m
    · have e : x.1 = a := e
      have := (f.imm x hx).1
      rw [e, h] at this
      cases this
    · exact (f.imm x hx).2 m
theorem Fr.new_imm {H0 H : Hp} {L I : List (Addr × HO)} {a : Addr} {o : HO} (f : Fr H0 H L I) (h : H a = none) : Fr H0 (upd H a o) L ((a, o) :: I) := by
  have s := Same.new h (o := o)
  have g := f.mono s
  refine ⟨g.same, g.nd, g.own, fun x hx => ?_⟩
  rcases List.mem_cons.mp hx with rfl | hx
  · refine ⟨upd_same, fun m => ?_⟩
    obtain ⟨x, hx, e⟩ := List.mem_map.mp m
    have := (f.own x hx).2
    rw [e, h] at this
    cases this
  · exact g.imm x hx
theorem Fr.perm {H0 H : Hp} {L L' I : List (Addr × HO)} (f : Fr H0 H L I) (p : L'.Perm L) : Fr H0 H L' I :=
  ⟨f.same, ((p.map (·.1)).nodup_iff).mpr f.nd, fun x hx => f.own x (p.mem_iff.mp hx), fun x hx => ⟨(f.imm x hx).1, fun m => (f.imm x hx).2 ((p.map (·.1)).mem_iff.mp m)⟩⟩
theorem Fr.sub {H0 H : Hp} {L L' I : List (Addr × HO)} (f : Fr H0 H L I) (p : L'.Sublist L) : Fr H0 H L' I :=
  ⟨f.same, f.nd.sublist (p.map _), fun x hx => f.own x (p.subset hx), fun x hx => ⟨(f.imm x hx).1, fun m => (f.imm x hx).2 ((p.map (·.1)).subset m)⟩⟩
theorem Fr.less {H0 H : Hp} {L I I' : List (Addr × HO)} (f : Fr H0 H L I) (p : ∀ x ∈ I', x ∈ I) : Fr H0 H L I' := ⟨f.same, f.nd, f.own, fun x hx => f.imm x (p x hx)⟩
/-- a write -/
theorem Fr.set {H0 H : Hp} {L1 L2 I : List (Addr × HO)} {a : Addr} {o o' : HO} (f : Fr H0 H (L1 ++ (a, o) :: L2) I) : Fr H0 (upd H a o') (L1 ++ (a, o') :: L2) I := by
  have hm : (a, o) ∈ L1 ++ (a, o) :: L2 := by simp
  have e : (L1 ++ (a, o') :: L2).map (·.1) = (L1 ++ (a, o) :: L2).map (·.1) := by simp
  have nd := f.nd
  have n1 : ∀ x ∈ L1, x.1 ≠ a := fun x hx z => by
    rw [List.map_append, List.nodup_append] at nd
    exact nd.2.2 x.1 (List.mem_map_of_mem hx) a (by simp) z
  have n2 : ∀ x ∈ L2, x.1 ≠ a := fun x hx z => by
    rw [List.map_append, List.nodup_append] at nd
    have := (List.nodup_cons.mp nd.2.1).1
    exact this (List.mem_map.mpr ⟨x, hx, z⟩)
  refine ⟨Same.mut f.same (f.own _ hm).1, by rw [e]; exact f.nd, fun x hx => ?_, fun x hx => ⟨?_, by rw [e]; exact (f.imm x hx).2⟩⟩
  · rcases List.mem_append.mp hx with hx | hx
    · have := f.own x (by simp [hx])
      exact ⟨this.1, by rw [upd_ne (n1 x hx)]; exact this.2⟩
    · rcases List.mem_cons.mp hx with rfl | hx
      · exact ⟨(f.own _ hm).1, upd_same⟩
      · have := f.own x (by simp [hx])
        exact ⟨this.1, by rw [upd_ne (n2 x hx)]; exact this.2⟩
  · have q := f.imm x hx
    rw [upd_ne (fun z => q.2 (by rw [z]; exact List.mem_map_of_mem hm))]
    exact q.1
theorem Fr.get {H0 H : Hp} {L I : List (Addr × HO)} {a : Addr} {o : HO} (f : Fr H0 H L I) (h : (a, o) ∈ L) : H a = some o := (f.own _ h).2
theorem Fr.got {H0 H : Hp} {L I : List (Addr × HO)} {a : Addr} {o : HO} (f : Fr H0 H L I) (h : (a, o) ∈ I) : H a = some o := (f.imm _ h).1
/-! ### signs of a text -/
abbrev txS (l : List Nat) : Str := ⟨l.toArray⟩
def sgS : Option Nat → Str
  | none => ⟨#[]⟩
  | some c => ch c
theorem sign_slice (l : List Nat) (i : Nat) : Txt.slice (txS l) (some (i : Int)) (some ((i : Int) + 1)) = sgS l[i]? := by
  have e1 : ((i : Int) + 1) = ((i + 1 : Nat) : Int) := by omega
  have hl : (txS l).length = l.length := by show l.toArray.size = _; exact List.size_toArray ..
  rw [e1, ← C8.cutS_slice]
  unfold cutS
  rw [HT.sIx_nat, HT.sIx_nat, hl]
  show (⟨((l.drop (min i l.length)).take (min (i + 1) l.length - min i l.length)).toArray⟩ : Str) = _
  by_cases h : i < l.length
  · rw [Nat.min_eq_left (by omega), Nat.min_eq_left (by omega), show i + 1 - i = 1 by omega, List.getElem?_eq_getElem h, List.drop_eq_getElem_cons h]
    rfl
  · rw [Nat.min_eq_right (by omega), Nat.min_eq_right (by omega), List.getElem?_eq_none (by omega), Nat.sub_self]
    rfl
theorem ch_inj {c d : Nat} (h : V.str (ch c) = V.str (ch d)) : c = d := by
  injection h with h
  injection h with h
  have := congrArg Array.toList h
  simpa using this
theorem sg_empty {o : Option Nat} : V.str (sgS o) = V.str ("" : Str) ↔ o = none := by
  cases o with
  | none => exact ⟨fun _ => rfl, fun _ => rfl⟩
  | some c =>
    refine ⟨fun h => ?_, fun h => by cases h⟩
    injection h with h
    injection h with h
    have := congrArg Array.size h
    cases this
theorem sg_ch {o : Option Nat} {d : Nat} : V.str (sgS o) = V.str (ch d) ↔ o = some d := by
  cases o with
  | none =>
    refine ⟨fun h => ?_, fun h => by cases h⟩
    injection h with h
    injection h with h
    have := congrArg Array.size h
    cases this
  | some c => exact ⟨fun h => by rw [ch_inj h], fun h => by rw [Option.some.inj h]; rfl⟩
theorem ite_sne {o : Option Nat} {A B : Prop} (h1 : ∀ c, o = some c → A) (h2 : o = none → B) : if (!decide (V.str (sgS o) = V.str ("" : Str))) = true then A else B := by
  cases o with
  | none => rw [decide_eq_true (sg_empty.mpr rfl)]; exact iteF (h2 rfl)
  | some c => rw [decide_eq_false (fun z => by cases sg_empty.mp z)]; exact iteT (h1 c rfl)
theorem ite_seq {o : Option Nat} {A B : Prop} (h1 : o = none → A) (h2 : ∀ c, o = some c → B) : if decide (V.str (sgS o) = V.str ("" : Str)) = true then A else B := by
  cases o with
  | none => rw [decide_eq_true (sg_empty.mpr rfl)]; exact iteT (h1 rfl)
  | some c => rw [decide_eq_false (fun z => by cases sg_empty.mp z)]; exact iteF (h2 c rfl)
theorem ite_cne {o : Option Nat} {d : Nat} {A B : Prop} (h1 : o ≠ some d → A) (h2 : o = some d → B) : if (!decide (V.str (sgS o) = V.str (ch d))) = true then A else B := by
  by_cases e : o = some d
  · rw [decide_eq_true (sg_ch.mpr e)]; exact iteF (h2 e)
  · rw [decide_eq_false (fun z => e (sg_ch.mp z))]; exact iteT (h1 e)
theorem ite_ceq {c d : Nat} {A B : Prop} (h1 : c = d → A) (h2 : c ≠ d → B) : if decide (V.str (ch c) = V.str (ch d)) = true then A else B := by
  by_cases e : c = d
  · subst e; rw [decide_eq_true rfl]; exact iteT (h1 rfl)
  · rw [decide_eq_false (fun z => e (ch_inj z))]; exact iteF (h2 e)
/-! ### the checker's reading, mirrored -/
structure Grp where
  sign : Nat
  ent : List Int
  exi : List Int
  num : Nat
structure TSt where
  pos : Nat
  kinds : List Nat
  bounds : List Nat
  links : List (Int × Int)
  groups : List Grp
def tOpen (txt : List Nat) : Nat → TSt → Option TSt
  | 0, _ => none
  | n + 1, st => match txt[st.pos]? with
    | none => some st
    | some c => if c = 40 ∨ c = 91 then (if st.groups.length < 8 then tOpen txt n { st with pos := st.pos + 1, groups := ⟨c, [], [], 0⟩ :: st.groups } else some st) else some st
def bndOf (txt : List Nat) (i : Nat) : Nat × Nat :=
  match txt[i]? with
  | none => (0, i)
  | some d => if 49 ≤ d ∧ d ≤ 54 then (d - 48, i + 1) else (0, i)
def tBegin (txt : List Nat) (st : TSt) : Option (Nat × TSt) :=
  (tOpen txt 100 st).bind fun s => match txt[s.pos]? with
    | none => none
    | some c => if c ∈ letters ∧ s.kinds.length < 8 ∧ s.bounds.length < 8 then
        some (s.kinds.length, { s with kinds := s.kinds ++ [c], pos := (bndOf txt (s.pos + 1)).2, bounds := s.bounds ++ [(bndOf txt (s.pos + 1)).1] }) else none
def lput (L : List (Int × Int)) (l : Int × Int) : List (Int × Int) := if l ∈ L then L else L ++ [l]
def lputs (L : List (Int × Int)) (o : Int) (es : List Int) : List (Int × Int) := es.foldl (fun L e => lput L (o, e)) L
def lpairs (L : List (Int × Int)) (os es : List Int) : List (Int × Int) := os.foldl (fun L o => lputs L o es) L
def tPut (en ex : List Int) (st : TSt) : Option TSt :=
  match st.groups with
  | [] => none
  | g :: gs => if en.length ≤ 100 ∧ ex.length ≤ 100 ∧ g.ent.length ≤ 100 ∧ g.exi.length ≤ 100 ∧ st.links.length ≤ 1000 then
      (if g.sign = 91 then some { st with groups := { g with ent := g.ent ++ en, exi := g.exi ++ ex, num := g.num + 1 } :: gs }
      else some { st with links := lpairs st.links g.exi en, groups := { g with ent := if g.num = 0 then g.ent ++ en else g.ent, exi := ex, num := g.num + 1 } :: gs }) else none
def clos (c : Nat) : Nat := if c = 40 then 41 else 93
def tClose (txt : List Nat) : Nat → List Int → List Int → TSt → Option (List Int × List Int × TSt)
  | 0, _, _, _ => none
  | n + 1, en, ex, st => match st.groups with
    | [] => some (en, ex, st)
    | _ :: _ => (tPut en ex st).bind fun s => match s.groups with
      | [] => none
      | g :: gs => if ¬ (g.sign = 40 ∨ g.sign = 91) then none else if g.num < 2 ∨ txt[s.pos]? ≠ some (clos g.sign) then some (en, ex, s) else tClose txt n g.ent g.exi { s with groups := gs, pos := s.pos + 1 }
def tLoop (txt : List Nat) : Nat → TSt → Option (List Int × List Int × TSt)
  | 0, _ => none
  | n + 1, st => (tBegin txt st).bind fun p => (tClose txt 100 [(p.1 : Int)] [(p.1 : Int)] p.2).bind fun r => match r.2.2.groups with
    | [] => some r
    | _ :: _ => if txt[r.2.2.pos]? = some 32 then tLoop txt n { r.2.2 with pos := r.2.2.pos + 1 } else none
def lins (L : List (Int × Int)) (es : List Int) : List (Int × Int) := es.foldl (fun L e => lput L (-1, e)) L
def louts (L : List (Int × Int)) (es : List Int) : List (Int × Int) := es.foldl (fun L e => lput L (e, -1)) L
def tParse (txt : List Nat) : Option Yd :=
  (tLoop txt 100 ⟨0, [], [], [], []⟩).bind fun r => if txt.length ≤ r.2.2.pos ∧ r.1.length ≤ 100 ∧ r.2.1.length ≤ 100 ∧ r.2.2.links.length ≤ 1000 then
    some ⟨r.2.2.kinds, r.2.2.bounds, louts (lins r.2.2.links r.1) r.2.1⟩ else none
/-! ### its place in the heap -/
structure GA where
  g : Addr
  e : Addr
  x : Addr
  grp : Grp
def intsO (l : List Int) : HO := .lst (l.map V.int)
def gob (a : GA) : HO := .lst [.str (ch a.grp.sign), .ref a.e, .ref a.x, .int (a.grp.num : Int)]
def TL (T : TX K w mg) (p dx lk lb ll lg : Addr) (txt : List Nat) (st : TSt) (gs : List GA) : List (Addr × HO) :=
  (p, .ins T.cTrack dx (trackF (txS txt) (st.pos : Int) lk lb ll lg)) :: (lk, .lst (st.kinds.map fun c => V.str (ch c))) :: (lb, .lst (st.bounds.map fun b : Nat => V.int (b : Int))) :: (ll, .dT (linkKvs st.links)) ::
    (lg, .lst (gs.reverse.map fun a => V.ref a.g)) :: gs.map fun a => (a.g, gob a)
def TI (gs : List GA) (I : List (Addr × List Int)) : List (Addr × HO) := I.map (fun i => (i.1, intsO i.2)) ++ gs.flatMap fun a => [(a.e, intsO a.grp.ent), (a.x, intsO a.grp.exi)]
structure Trk (T : TX K w mg) (H0 H : Hp) (p : Addr) (txt : List Nat) (st : TSt) (I : List (Addr × List Int)) : Prop where
  ex : ∃ dx lk lb ll lg gs, gs.map GA.grp = st.groups ∧ Fr H0 H (TL T p dx lk lb ll lg txt st gs) (TI gs I)
theorem Trk.mono {T : TX K w mg} {H0 H H' : Hp} {p : Addr} {txt : List Nat} {st : TSt} {I : List (Addr × List Int)} (s : Same H H') (h : Trk T H0 H p txt st I) : Trk T H0 H' p txt st I := by
  obtain ⟨dx, lk, lb, ll, lg, gs, e, f⟩ := h.ex
  exact ⟨dx, lk, lb, ll, lg, gs, e, f.mono s⟩
theorem Trk.same {T : TX K w mg} {H0 H : Hp} {p : Addr} {txt : List Nat} {st : TSt} {I : List (Addr × List Int)} (h : Trk T H0 H p txt st I) : Same H0 H := by
  obtain ⟨dx, lk, lb, ll, lg, gs, e, f⟩ := h.ex
  exact f.same
theorem Trk.got {T : TX K w mg} {H0 H : Hp} {p : Addr} {txt : List Nat} {st : TSt} {I : List (Addr × List Int)} {a : Addr} {l : List Int} (h : Trk T H0 H p txt st I) (hi : (a, l) ∈ I) : H a = some (.lst (l.map V.int)) := by
  obtain ⟨dx, lk, lb, ll, lg, gs, e, f⟩ := h.ex
  exact f.got (List.mem_append_left _ (List.mem_map.mpr ⟨_, hi, rfl⟩))
theorem Trk.less {T : TX K w mg} {H0 H : Hp} {p : Addr} {txt : List Nat} {st : TSt} {I I' : List (Addr × List Int)} (h : Trk T H0 H p txt st I) (s : ∀ x ∈ I', x ∈ I) : Trk T H0 H p txt st I' := by
  obtain ⟨dx, lk, lb, ll, lg, gs, e, f⟩ := h.ex
  refine ⟨dx, lk, lb, ll, lg, gs, e, f.less fun x hx => ?_⟩
  rcases List.mem_append.mp hx with hx | hx
  · obtain ⟨i, hi, rfl⟩ := List.mem_map.mp hx
    exact List.mem_append_left _ (List.mem_map.mpr ⟨i, s i hi, rfl⟩)
  · exact List.mem_append_right _ hx
theorem Trk.new {T : TX K w mg} {H0 H : Hp} {p a : Addr} {txt : List Nat} {st : TSt} {I : List (Addr × List Int)} {l : List Int} (h : Trk T H0 H p txt st I) (n : H a = none) : Trk T H0 (upd H a (.lst (l.map V.int))) p txt st ((a, l) :: I) := by
  obtain ⟨dx, lk, lb, ll, lg, gs, e, f⟩ := h.ex
  exact ⟨dx, lk, lb, ll, lg, gs, e, f.new_imm n⟩
def signsOk (txt : List Nat) : Prop := txt.length ≤ 1000 ∧ ∀ c ∈ txt, c ∈ signs
def sp_Track_init (P : Program) (w : World) (T : TX K w mg) : Sp := fun vs H Q _ => ∃ (H0 : Hp) (p dx : Addr) (txt : List Nat), vs = [.ref p, .str (txS txt)] ∧ Fr H0 H [(p, .ins T.cTrack dx [])] [] ∧ ∀ H', Trk T H0 H' p txt ⟨0, [], [], [], []⟩ [] → Q .non H'
theorem c_Track_init (T : TX K w mg) : C8.Mak P w K mg base 1 "Track" T.cTrack (sp_Track_init P w T) [] := by
  obtain ⟨f, fd, me, F, b⟩ := T.fn_Track_init
  refine C8.mak0 me T.g_Track F b .nil sc_Track_init (fun vs H Q E h => by obtain ⟨_, _, _, _, rfl, _⟩ := h; rfl) (fun cdv A outer s H vs Q E hr h => ?_)
  have hu := hu_of hr
  have nd := sc_Track_init.nd
  refine ⟨_, (pss_cons (ps_fld (pv 0) (pv 1) rfl)
      (pss_cons (ps_fld (pv 0) pe_int rfl)
      (pss_cons (ps_fld (pv 0) (pe_lst pa_nil) rfl)
      (pss_cons (ps_fld (pv 0) (pe_lst pa_nil) rfl)
      (pss_cons (ps_fld (pv 0) pe_dnewT rfl)
      (pss_one (ps_fld (pv 0) (pe_lst pa_nil) rfl))))))), ?_⟩
  obtain ⟨H0, p, dx, txt, rfl, f, k⟩ := h
  refine ⟨_, rfl, _, rfl, p, _, dx, _, rfl, f.get (.head _), T.clTrack, T.na_Track_text, Nat.le_of_ble_eq_true rfl, ?_⟩
  replace f := f.set (L1 := []) (o' := .ins T.cTrack dx [("text", .str (txS txt))])
  refine ⟨_, rfl, p, _, dx, _, rfl, f.get (.head _), T.clTrack, T.na_Track_at, Nat.le_of_ble_eq_true rfl, ?_⟩
  replace f := f.set (L1 := []) (o' := .ins T.cTrack dx [("text", .str (txS txt)), ("at", .int 0)])
  refine ⟨sz_le (Nat.le_of_ble_eq_true rfl), fun lk nlk => ?_⟩
  replace f := (f.new_own (o := .lst []) nlk).perm (List.Perm.swap ..)
  refine ⟨_, rfl, p, _, dx, _, rfl, f.get (.head _), T.clTrack, T.na_Track_kinds, Nat.le_of_ble_eq_true rfl, ?_⟩
  replace f := f.set (L1 := []) (o' := .ins T.cTrack dx [("text", .str (txS txt)), ("at", .int 0), ("kinds", .ref lk)])
  refine ⟨sz_le (Nat.le_of_ble_eq_true rfl), fun lb nlb => ?_⟩
  replace f := (f.new_own (o := .lst []) nlb).perm (List.Perm.swap ..)
  refine ⟨_, rfl, p, _, dx, _, rfl, f.get (.head _), T.clTrack, T.na_Track_bounds, Nat.le_of_ble_eq_true rfl, ?_⟩
  replace f := f.set (L1 := []) (o' := .ins T.cTrack dx [("text", .str (txS txt)), ("at", .int 0), ("kinds", .ref lk), ("bounds", .ref lb)])
  intro ll nll
  replace f := (f.new_own (o := .dT []) nll).perm (List.Perm.swap ..)
  refine ⟨_, rfl, p, _, dx, _, rfl, f.get (.head _), T.clTrack, T.na_Track_links, Nat.le_of_ble_eq_true rfl, ?_⟩
  replace f := f.set (L1 := []) (o' := .ins T.cTrack dx [("text", .str (txS txt)), ("at", .int 0), ("kinds", .ref lk), ("bounds", .ref lb), ("links", .ref ll)])
  refine ⟨sz_le (Nat.le_of_ble_eq_true rfl), fun lg nlg => ?_⟩
  replace f := (f.new_own (o := .lst []) nlg).perm (List.Perm.swap ..)
  refine ⟨_, rfl, p, _, dx, _, rfl, f.get (.head _), T.clTrack, T.na_Track_groups, Nat.le_of_ble_eq_true rfl, ?_⟩
  replace f := f.set (L1 := []) (o' := .ins T.cTrack dx [("text", .str (txS txt)), ("at", .int 0), ("kinds", .ref lk), ("bounds", .ref lb), ("links", .ref ll), ("groups", .ref lg)])
  refine k _ ⟨dx, lk, lb, ll, lg, [], rfl, f.perm ((List.reverse_perm [_, _, _, _]).cons _)⟩
def sp_Track_sign (P : Program) (w : World) (T : TX K w mg) : Sp := fun vs H Q _ => ∃ (p dx lk lb ll lg : Addr) (txt : List Nat) (i : Nat), vs = [.ref p] ∧ H p = some (.ins T.cTrack dx (trackF (txS txt) (i : Int) lk lb ll lg)) ∧ txt.length ≤ 1000 ∧ Q (.str (sgS txt[i]?)) H
theorem c_Track_sign (T : TX K w mg) : C8.Met P w K mg base 1 T.cTrack "sign" (sp_Track_sign P w T) [] := by
  obtain ⟨f, fd, me, F, b⟩ := T.fn_Track_sign
  refine C8.met0 T.clTrack me F b sc_Track_sign (fun vs H Q E h => by obtain ⟨_, _, _, _, _, _, _, _, rfl, _⟩ := h; rfl) (fun cdv A outer s H vs Q E hr h => ?_)
  have hu := hu_of hr
  have nd := sc_Track_sign.nd
  refine ⟨_, (pss_one (ps_ret (pe_slice C8.sl_txt (pe_fld (pv 0) rfl) (po_some (pe_fld (pv 0) rfl)) (po_some (pe_op op_add (pe_fld (pv 0) rfl) pe_int))))), ?_⟩
  obtain ⟨p, dx, lk, lb, ll, lg, txt, i, rfl, h1, hl, k⟩ := h
  refine ⟨_, rfl, p, _, dx, _, _, rfl, h1, T.clTrack, T.na_Track_text, rfl, _, rfl, p, _, dx, _, _, rfl, h1, T.clTrack, T.na_Track_at, rfl, _, rfl, _, rfl, p, _, dx, _, _, rfl, h1, T.clTrack, T.na_Track_at, rfl, _, _, rfl, rfl, _, rfl, _, rfl, ?_, ?_⟩
  · refine sz_le ?_
    show txt.toArray.size ≤ _
    rw [List.size_toArray]
    omega
  · rw [sign_slice]
    exact k
theorem TL_pos {T : TX K w mg} {H0 H : Hp} {p dx lk lb ll lg : Addr} {txt : List Nat} {st : TSt} {gs : List GA} {I : List (Addr × HO)} (f : Fr H0 H (TL T p dx lk lb ll lg txt st gs) I) :
    Fr H0 (upd H p (.ins T.cTrack dx (putF "at" (.int ((st.pos : Int) + 1)) (trackF (txS txt) (st.pos : Int) lk lb ll lg)))) (TL T p dx lk lb ll lg txt { st with pos := st.pos + 1 } gs) I := f.set (L1 := [])
theorem TL_kinds {T : TX K w mg} {H0 H : Hp} {p dx lk lb ll lg : Addr} {txt : List Nat} {st : TSt} {gs : List GA} {I : List (Addr × HO)} {c : Nat} (f : Fr H0 H (TL T p dx lk lb ll lg txt st gs) I) :
    Fr H0 (upd H lk (.lst (st.kinds.map (fun c => V.str (ch c)) ++ [V.str (ch c)]))) (TL T p dx lk lb ll lg txt { st with kinds := st.kinds ++ [c] } gs) I := by
  have e : st.kinds.map (fun c => V.str (ch c)) ++ [V.str (ch c)] = (st.kinds ++ [c]).map fun c => V.str (ch c) := by rw [List.map_append]; rfl
  rw [e]
  exact f.set (L1 := [_])
theorem TL_bounds {T : TX K w mg} {H0 H : Hp} {p dx lk lb ll lg : Addr} {txt : List Nat} {st : TSt} {gs : List GA} {I : List (Addr × HO)} {b : Nat} (f : Fr H0 H (TL T p dx lk lb ll lg txt st gs) I) :
    Fr H0 (upd H lb (.lst (st.bounds.map (fun b : Nat => V.int (b : Int)) ++ [V.int (b : Int)]))) (TL T p dx lk lb ll lg txt { st with bounds := st.bounds ++ [b] } gs) I := by
  have e : st.bounds.map (fun b : Nat => V.int (b : Int)) ++ [V.int (b : Int)] = (st.bounds ++ [b]).map fun b : Nat => V.int (b : Int) := by rw [List.map_append]; rfl
  rw [e]
  exact f.set (L1 := [_, _])
theorem TL_group {T : TX K w mg} {H0 H : Hp} {p dx lk lb ll lg : Addr} {txt : List Nat} {st : TSt} {gs : List GA} {I : List (Addr × List Int)} {c : Nat} {e x g : Addr} (f : Fr H0 H (TL T p dx lk lb ll lg txt st gs) (TI gs I)) (ne : H e = none) (nx : upd H e (.lst []) x = none)
    (ng : upd (upd H e (.lst [])) x (.lst []) g = none) :
    Fr H0 (upd (upd (upd (upd H e (.lst [])) x (.lst [])) g (.lst [.str (ch c), .ref e, .ref x, .int 0])) lg (.lst (gs.reverse.map (fun a => V.ref a.g) ++ [V.ref g])))
      (TL T p dx lk lb ll lg txt { st with groups := ⟨c, [], [], 0⟩ :: st.groups } (⟨g, e, x, ⟨c, [], [], 0⟩⟩ :: gs)) (TI (⟨g, e, x, ⟨c, [], [], 0⟩⟩ :: gs) I) := by
  have f3 := ((f.new_imm ne).new_imm nx).new_own (o := .lst [.str (ch c), .ref e, .ref x, .int 0]) ng
  have f4 := f3.set (L1 := [_, _, _, _, _]) (o' := .lst (gs.reverse.map (fun a => V.ref a.g) ++ [V.ref g]))
  have e1 : gs.reverse.map (fun a => V.ref a.g) ++ [V.ref g] = (GA.mk g e x ⟨c, [], [], 0⟩ :: gs).reverse.map fun a => V.ref a.g := by rw [List.reverse_cons, List.map_append]; rfl
  refine (f4.perm ?_).less ?_
  · unfold TL
    rw [← e1]
    exact List.perm_middle (l₁ := [_, _, _, _, _])
  · intro y hy
    rcases List.mem_append.mp hy with hy | hy
    · exact List.mem_cons_of_mem _ (List.mem_cons_of_mem _ (List.mem_append_left _ hy))
    · rw [List.flatMap_cons] at hy
      rcases List.mem_append.mp hy with hy | hy
      · rcases List.mem_cons.mp hy with rfl | hy
        · exact List.mem_cons_of_mem _ (List.mem_cons_self)
        · rw [List.mem_singleton.mp hy]
          exact List.mem_cons_self
      · exact List.mem_cons_of_mem _ (List.mem_cons_of_mem _ (List.mem_append_right _ hy))
theorem TL_p {T : TX K w mg} {H0 H : Hp} {p dx lk lb ll lg : Addr} {txt : List Nat} {st : TSt} {gs : List GA} {I : List (Addr × HO)} (f : Fr H0 H (TL T p dx lk lb ll lg txt st gs) I) : H p = some (.ins T.cTrack dx (trackF (txS txt) (st.pos : Int) lk lb ll lg)) := f.get (.head _)
theorem TL_k {T : TX K w mg} {H0 H : Hp} {p dx lk lb ll lg : Addr} {txt : List Nat} {st : TSt} {gs : List GA} {I : List (Addr × HO)} (f : Fr H0 H (TL T p dx lk lb ll lg txt st gs) I) : H lk = some (.lst (st.kinds.map fun c => V.str (ch c))) := f.get (.tail _ (.head _))
theorem TL_b {T : TX K w mg} {H0 H : Hp} {p dx lk lb ll lg : Addr} {txt : List Nat} {st : TSt} {gs : List GA} {I : List (Addr × HO)} (f : Fr H0 H (TL T p dx lk lb ll lg txt st gs) I) : H lb = some (.lst (st.bounds.map fun b : Nat => V.int (b : Int))) := f.get (.tail _ (.tail _ (.head _)))
theorem TL_l {T : TX K w mg} {H0 H : Hp} {p dx lk lb ll lg : Addr} {txt : List Nat} {st : TSt} {gs : List GA} {I : List (Addr × HO)} (f : Fr H0 H (TL T p dx lk lb ll lg txt st gs) I) : H ll = some (.dT (linkKvs st.links)) := f.get (.tail _ (.tail _ (.tail _ (.head _))))
theorem TL_g {T : TX K w mg} {H0 H : Hp} {p dx lk lb ll lg : Addr} {txt : List Nat} {st : TSt} {gs : List GA} {I : List (Addr × HO)} (f : Fr H0 H (TL T p dx lk lb ll lg txt st gs) I) : H lg = some (.lst (gs.reverse.map fun a => V.ref a.g)) := f.get (.tail _ (.tail _ (.tail _ (.tail _ (.head _)))))
theorem grp_len {gs : List GA} {l : List Grp} (h : gs.map GA.grp = l) : (gs.reverse.map fun a => V.ref a.g).length = l.length := by rw [← h]; simp
def sp_Track_begin (P : Program) (w : World) (T : TX K w mg) : Sp := fun vs H Q _ => ∃ (H0 : Hp) (p : Addr) (txt : List Nat) (st st' : TSt) (d : Nat) (I : List (Addr × List Int)), vs = [.ref p] ∧ Trk T H0 H p txt st I ∧ signsOk txt ∧ tBegin txt st = some (d, st') ∧
  ∀ H', Trk T H0 H' p txt st' I → Q (.int (d : Int)) H'
theorem sig_mem {txt : List Nat} {i c : Nat} (ok : signsOk txt) (h : txt[i]? = some c) : c ∈ signs := ok.2 c (List.mem_of_getElem? h)
theorem letters_signs {c : Nat} (h : c ∈ letters) : c ∈ signs := by
  revert c
  decide
theorem c_Track_begin (T : TX K w mg) : C8.Met P w K mg base 2 T.cTrack "begin" (sp_Track_begin P w T) [] := by
  obtain ⟨f, fd, me, F, b⟩ := T.fn_Track_begin
  refine C8.met0 T.clTrack me F b sc_Track_begin (fun vs H Q E h => by obtain ⟨_, _, _, _, _, _, _, rfl, _⟩ := h; rfl) (fun cdv A outer s H vs Q E hr h => ?_)
  have hu := hu_of hr
  have nd := sc_Track_begin.nd
  refine ⟨_, (C8.pss_cut (ps_while PassesOwn.never (PW.pt (pw_and (pt_cmpR op_ne (C8.pe_mt0 (c_Track_sign T) hr (by decide) (pv 0)) pe_str (nomark _)) (pw_and (pt_cmpR (op_in_kd T.kd_CLOSING_certificates) (C8.pe_mt0 (c_Track_sign T) hr (by decide) (pv 0)) (C8.pe_gc rfl T.g_CLOSING_certificates) (by rfl)) (pw_and1 (pt_cmpR op_lt (pe_callB (call_lenK (K := K) rfl) (by rfl) T.b_len PySem.boot_len (pa_cons (pe_fld (pv 0) rfl) pa_nil)) (C8.pe_gc rfl T.g_MOST_OPEN) (nomark _)))))) (pss_cons (ps_expr (pe_bm PySem.F.plainAttrs_list PySem.F.slot_list_append PySem.F.type_list_append mt_append (pe_fld (pv 0) rfl) (pa_cons (pe_lst (pa_cons (C8.pe_mt0 (c_Track_sign T) hr (by decide) (pv 0)) (pa_cons (pe_lst pa_nil) (pa_cons (pe_lst pa_nil) (pa_cons pe_int pa_nil))))) pa_nil)))
      (pss_one (ps_fldaug (pv 0) pe_int in_add))))
      (pss_cons (ps_if (PW.pt (pw_or (pt_cmpR op_eq (C8.pe_mt0 (c_Track_sign T) hr (by decide) (pv 0)) pe_str (nomark _)) (pw_or (pt_cmpR (op_notIn_kd T.kd_ENTERS) (C8.pe_mt0 (c_Track_sign T) hr (by decide) (pv 0)) (C8.pe_gc rfl T.g_ENTERS) (by rfl)) (pw_or1 (pt_cmpR op_eq (pe_callB (call_lenK (K := K) rfl) (by rfl) T.b_len PySem.boot_len (pa_cons (pe_fld (pv 0) rfl) pa_nil)) (C8.pe_gc rfl T.g_MOST_DEVICES) (nomark _)))))) (pss_one ps_never) pss_nil)
      (pss_cons (ps_expr (pe_bm PySem.F.plainAttrs_list PySem.F.slot_list_append PySem.F.type_list_append mt_append (pe_fld (pv 0) rfl) (pa_cons (C8.pe_mt0 (c_Track_sign T) hr (by decide) (pv 0)) pa_nil)))
      (pss_cons (ps_fldaug (pv 0) pe_int in_add)
      (pss_cons (ps_set (i := 1) nd rfl (Or.inl rfl) pe_int)
      (C8.pss_cut (ps_if (PW.pt (pw_and (pt_cmpR op_ne (C8.pe_mt0 (c_Track_sign T) hr (by decide) (pv 0)) pe_str (nomark _)) (pw_and1 (pt_cmpR op_in_sign (C8.pe_mt0 (c_Track_sign T) hr (by decide) (pv 0)) pe_str (by rfl))))) (pss_cons (ps_set (i := 1) nd rfl (Or.inl rfl) (pe_callTy call_int_str (by rfl) T.b_int boot_int_ (pa_cons (C8.pe_mt0 (c_Track_sign T) hr (by decide) (pv 0)) pa_nil)))
      (pss_one (ps_fldaug (pv 0) pe_int in_add))) pss_nil)
      (pss_cons (ps_expr (pe_bm PySem.F.plainAttrs_list PySem.F.slot_list_append PySem.F.type_list_append mt_append (pe_fld (pv 0) rfl) (pa_cons (pv 1) pa_nil)))
      (pss_one (ps_ret (pe_op op_sub (pe_callB (call_lenK (K := K) rfl) (by rfl) T.b_len PySem.boot_len (pa_cons (pe_fld (pv 0) rfl) pa_nil)) pe_int)))))))))), ?_⟩
  obtain ⟨H0, p, txt, st, st', d, I, rfl, tk, ok, e, k⟩ := h
  unfold tBegin at e
  cases eo : tOpen txt 100 st with
  | none => rw [eo] at e; cases e
  | some sE =>
  rw [eo] at e
  have e : (match txt[sE.pos]? with
    | none => none
    | some c => if c ∈ letters ∧ sE.kinds.length < 8 ∧ sE.bounds.length < 8 then
        some (sE.kinds.length, { sE with kinds := sE.kinds ++ [c], pos := (bndOf txt (sE.pos + 1)).2, bounds := sE.bounds ++ [(bndOf txt (sE.pos + 1)).1] }) else none) = some (d, st') := e
  obtain ⟨ok1, ok2⟩ := ok
  refine ⟨fun σ H' => σ = [some (.ref p), none] ∧ Trk T H0 H' p txt sE I, ?_, ?_⟩
  · refine ⟨fun m σ H' => ∃ s, tOpen txt m s = some sE ∧ σ = [some (.ref p), none] ∧ Trk T H0 H' p txt s I, ⟨100, st, eo, rfl, tk⟩, ?_⟩
    rintro m σ H1 ⟨s, es, rfl, t1⟩
    obtain ⟨dx, lk, lb, ll, lg, gs, eg, f⟩ := t1.ex
    cases m with
    | zero => cases es
    | succ m =>
    unfold tOpen at es
    have hp := TL_p f
    refine ⟨_, rfl, p, dx, _, rfl, hp, rfl, p, dx, lk, lb, ll, lg, txt, s.pos, rfl, hp, ok1, rfl, _, rfl, ite_sne (fun c ec => ?_) (fun ec => ?_)⟩
    · rw [ec] at es
      have es : (if c = 40 ∨ c = 91 then (if s.groups.length < 8 then tOpen txt m { s with pos := s.pos + 1, groups := ⟨c, [], [], 0⟩ :: s.groups } else some s) else some s) = some sE := es
      obtain ⟨r, hr1, hr2⟩ := T.hkC c (sig_mem ⟨ok1, ok2⟩ ec)
      refine ⟨_, rfl, p, dx, _, rfl, hp, rfl, p, dx, lk, lb, ll, lg, txt, s.pos, rfl, hp, ok1, _, r, rfl, rfl, by rw [ec]; exact hr1, _, rfl, ite2 (fun z => ?_) (fun z => ?_)⟩
      · rw [hr2] at z
        have z : c = 40 ∨ c = 91 := by simpa using z
        rw [if_pos z] at es
        refine ⟨_, rfl, p, _, dx, _, _, rfl, hp, T.clTrack, T.na_Track_groups, rfl, lg, _, rfl, .inl (SqL.of (TL_g f)), _, _, rfl, rfl, _, rfl, ite2 (fun y => ?_) (fun y => ?_)⟩
        · have y := of_decide_eq_true y
          rw [grp_len eg] at y
          have y : s.groups.length < 8 := by omega
          rw [if_pos y] at es
          refine ⟨fun σ H' => ∃ s', tOpen txt m s' = some sE ∧ σ = [some (.ref p), none] ∧ Trk T H0 H' p txt s' I, fun σ' H' h => ⟨m, by omega, h⟩, ?_⟩
          refine ⟨_, rfl, p, _, dx, _, _, rfl, hp, T.clTrack, T.na_Track_groups, rfl, tyL (TL_g f), _, rfl, p, dx, _, rfl, hp, rfl, p, dx, lk, lb, ll, lg, txt, s.pos, rfl, hp, ok1, ?_⟩
          refine ⟨sz_le (Nat.le_of_ble_eq_true rfl), fun e1 n1 => ⟨sz_le (Nat.le_of_ble_eq_true rfl), fun x1 nx1 => ⟨sz_le (Nat.le_of_ble_eq_true rfl), fun g1 ng1 => ?_⟩⟩⟩
          rw [ec]
          have s3 := Same.trans (Same.new n1) (Same.trans (Same.new nx1) (Same.new ng1 (o := .lst [.str (sgS (some c)), .ref e1, .ref x1, .int 0])))
          refine ⟨lg, _, _, rfl, rfl, s3 _ _ (TL_g f), sz_lt (by rw [grp_len eg]; omega), ?_⟩
          have f2 := TL_group (c := c) f n1 nx1 ng1
          refine ⟨_, rfl, p, _, dx, _, _, rfl, TL_p f2, T.clTrack, T.na_Track_at, rfl, _, _, rfl, rfl, dx, _, TL_p f2, Nat.le_of_ble_eq_true rfl, ?_⟩
          exact ⟨_, es, rfl, dx, lk, lb, ll, lg, _, by rw [List.map_cons, eg], TL_pos f2⟩
        · have y : ¬ s.groups.length < 8 := fun q => y (decide_eq_true (by rw [grp_len eg]; omega))
          rw [if_neg y] at es
          obtain rfl := Option.some.inj es
          exact ⟨rfl, t1⟩
      · rw [hr2] at z
        have z : ¬ (c = 40 ∨ c = 91) := by simpa using z
        rw [if_neg z] at es
        obtain rfl := Option.some.inj es
        exact iteF ⟨rfl, t1⟩
    · rw [ec] at es
      have es : some s = some sE := es
      obtain rfl := Option.some.inj es
      exact iteF ⟨rfl, t1⟩
  · rintro σ H1 ⟨rfl, t1⟩
    obtain ⟨dx, lk, lb, ll, lg, gs, eg, f⟩ := t1.ex
    have hp := TL_p f
    cases ec : txt[sE.pos]? with
    | none => rw [ec] at e; cases e
    | some c =>
    rw [ec] at e
    have e : (if c ∈ letters ∧ sE.kinds.length < 8 ∧ sE.bounds.length < 8 then
        some (sE.kinds.length, { sE with kinds := sE.kinds ++ [c], pos := (bndOf txt (sE.pos + 1)).2, bounds := sE.bounds ++ [(bndOf txt (sE.pos + 1)).1] }) else none) = some (d, st') := e
    by_cases hc : c ∈ letters ∧ sE.kinds.length < 8 ∧ sE.bounds.length < 8
    · rw [if_pos hc] at e
      obtain ⟨rfl, rfl⟩ := Prod.mk.inj (Option.some.inj e)
      obtain ⟨r, hr1, hr2⟩ := T.hkE c (sig_mem ⟨ok1, ok2⟩ ec)
      refine ⟨_, rfl, p, dx, _, rfl, hp, rfl, p, dx, lk, lb, ll, lg, txt, sE.pos, rfl, hp, ok1, rfl, _, rfl, ite_seq (fun z => by rw [ec] at z; cases z) (fun _ _ => ?_)⟩
      refine ⟨_, rfl, p, dx, _, rfl, hp, rfl, p, dx, lk, lb, ll, lg, txt, sE.pos, rfl, hp, ok1, _, r, rfl, rfl, by rw [ec]; exact hr1, _, rfl, ?_⟩
      rw [hr2]
      refine ite2 (fun z => absurd hc.1 (by simpa [letters] using z)) (fun _ => ?_)
      refine ⟨_, rfl, p, _, dx, _, _, rfl, hp, T.clTrack, T.na_Track_kinds, rfl, lk, _, rfl, .inl (SqL.of (TL_k f)), rfl, _, rfl, ite_eq (fun y => ?_) (fun _ => ?_)⟩
      · rw [List.length_map] at y
        have := hc.2.1
        omega
      refine ⟨_, rfl, p, _, dx, _, _, rfl, hp, T.clTrack, T.na_Track_kinds, rfl, tyL (TL_k f), _, rfl, p, dx, _, rfl, hp, rfl, p, dx, lk, lb, ll, lg, txt, sE.pos, rfl, hp, ok1, ?_⟩
      rw [ec]
      refine ⟨lk, _, _, rfl, rfl, TL_k f, sz_lt (by rw [List.length_map]; omega), ?_⟩
      have f2 := TL_kinds (c := c) f
      refine ⟨_, rfl, p, _, dx, _, _, rfl, TL_p f2, T.clTrack, T.na_Track_at, rfl, _, _, rfl, rfl, dx, _, TL_p f2, Nat.le_of_ble_eq_true rfl, ?_⟩
      have f3 := TL_pos f2
      have hp3 := TL_p f3
      refine ⟨fun σ H' => σ = [some (.ref p), some (.int ((bndOf txt (sE.pos + 1)).1 : Int))] ∧ Fr H0 H' (TL T p dx lk lb ll lg txt { sE with kinds := sE.kinds ++ [c], pos := (bndOf txt (sE.pos + 1)).2 } gs) (TI gs I), ?_, ?_⟩
      · have out : (bndOf txt (sE.pos + 1) = (0, sE.pos + 1)) → ∀ H', Fr H0 H' (TL T p dx lk lb ll lg txt { sE with kinds := sE.kinds ++ [c], pos := sE.pos + 1 } gs) (TI gs I) →
            ([some (.ref p), some (V.int 0)] : L2.St) = [some (.ref p), some (.int ((bndOf txt (sE.pos + 1)).1 : Int))] ∧ Fr H0 H' (TL T p dx lk lb ll lg txt { sE with kinds := sE.kinds ++ [c], pos := (bndOf txt (sE.pos + 1)).2 } gs) (TI gs I) := fun q H' g => by
          rw [q]; exact ⟨rfl, g⟩
        refine ⟨_, rfl, p, dx, _, rfl, hp3, rfl, p, dx, lk, lb, ll, lg, txt, sE.pos + 1, rfl, hp3, ok1, rfl, _, rfl, ite_sne (fun c2 ec2 => ?_) (fun ec2 => iteF (out (by unfold bndOf; rw [ec2]) _ f3))⟩
        refine ⟨_, rfl, p, dx, _, rfl, hp3, rfl, p, dx, lk, lb, ll, lg, txt, sE.pos + 1, rfl, hp3, ok1, c2, _, by rw [ec2]; rfl, rfl, _, rfl, ite2 (fun z => ?_) (fun z => ?_)⟩
        · have z : c2 ∈ [49, 50, 51, 52, 53, 54] := of_decide_eq_true z
          have z2 : 49 ≤ c2 ∧ c2 ≤ 54 := by simp at z; omega
          have hb : bndOf txt (sE.pos + 1) = (c2 - 48, sE.pos + 1 + 1) := by unfold bndOf; rw [ec2]; exact if_pos z2
          refine ⟨_, rfl, p, dx, _, rfl, hp3, rfl, p, dx, lk, lb, ll, lg, txt, sE.pos + 1, rfl, hp3, ok1, _, ((c2 - 48 : Nat) : Int), rfl, ?_, by rw [ec2]; exact Nat.le_of_ble_eq_true rfl, ?_⟩
          · rw [ec2]
            have dig : ∀ c ∈ [49, 50, 51, 52, 53, 54], PySem.intText? (sgS (some c)) = some ((c - 48 : Nat) : Int) := by decide +kernel
            exact dig c2 z
          refine ⟨_, rfl, p, _, dx, _, _, rfl, hp3, T.clTrack, T.na_Track_at, rfl, _, _, rfl, rfl, dx, _, hp3, Nat.le_of_ble_eq_true rfl, ?_⟩
          rw [hb]
          exact ⟨rfl, TL_pos f3⟩
        · have z2 : ¬ (49 ≤ c2 ∧ c2 ≤ 54) := fun y => z (decide_eq_true (by
            have : c2 ∈ [49, 50, 51, 52, 53, 54] := by simp; omega
            exact this))
          exact out (by unfold bndOf; rw [ec2]; exact if_neg z2) _ f3
      · rintro σ H2 ⟨rfl, f4⟩
        have hp4 := TL_p f4
        refine ⟨_, rfl, p, _, dx, _, _, rfl, hp4, T.clTrack, T.na_Track_bounds, rfl, tyL (TL_b f4), _, rfl, lb, _, _, rfl, rfl, TL_b f4, sz_lt (by rw [List.length_map]; show sE.bounds.length ≤ _; omega), ?_⟩
        have f5 := TL_bounds (b := (bndOf txt (sE.pos + 1)).1) f4
        have hp5 := TL_p f5
        refine ⟨_, rfl, p, _, dx, _, _, rfl, hp5, T.clTrack, T.na_Track_kinds, rfl, lk, _, rfl, .inl (SqL.of (TL_k f5)), _, _, rfl, rfl, ?_⟩
        have e3 : ((((sE.kinds ++ [c]).map fun c => V.str (ch c)).length : Nat) : Int) - 1 = ((sE.kinds.length : Nat) : Int) := by rw [List.length_map, List.length_append]; simp
        show Q (.int (((((sE.kinds ++ [c]).map fun c => V.str (ch c)).length : Nat) : Int) - 1)) _
        rw [e3]
        exact k _ ⟨dx, lk, lb, ll, lg, gs, eg, f5⟩
    · rw [if_neg hc] at e
      cases e
end
end K92

/-! K92F: the checker reads a text: put, read. -/
set_option Elab.async false
set_option linter.all false
set_option maxRecDepth 100000
set_option maxHeartbeats 4000000
set_option autoImplicit false
namespace K92
open PySem PySem.Spec PyProof.Rows L2
section
variable {P : Program} {w : World} {K : PySem.W.Frag} {mg : Str → Option Value} {base : Heap}
theorem putK_link (l : Int × Int) (L : List (Int × Int)) : putK (linkKvs L) (linkK l) (.bl true) = linkKvs (lput L l) := by
  unfold putK lput
  rw [valV_any, link_val]
  by_cases e : l ∈ L
  · rw [decide_eq_true e, if_pos rfl, if_pos e]
    unfold linkKvs
    rw [List.map_map]
    refine List.map_congr_left fun x _ => ?_
    show (if linkK x = linkK l then (linkK x, V.bl true) else (linkK x, V.bl true)) = (linkK x, V.bl true)
    split <;> rfl
  · rw [decide_eq_false e, if_neg (by decide), if_neg e]
    unfold linkKvs
    rw [List.map_append]
    rfl
theorem lput_len (L : List (Int × Int)) (l : Int × Int) : (lput L l).length ≤ L.length + 1 := by
  unfold lput
  split
  · omega
  · simp
theorem lputs_snoc (L : List (Int × Int)) (o : Int) (es : List Int) (e : Int) : lputs L o (es ++ [e]) = lput (lputs L o es) (o, e) := by
  unfold lputs; rw [List.foldl_append]; rfl
theorem lpairs_snoc (L : List (Int × Int)) (os es : List Int) (o : Int) : lpairs L (os ++ [o]) es = lputs (lpairs L os es) o es := by
  unfold lpairs; rw [List.foldl_append]; rfl
theorem fold_len (g : Int → Int × Int) : ∀ (es : List Int) (L : List (Int × Int)), (es.foldl (fun L e => lput L (g e)) L).length ≤ L.length + es.length
  | [], L => Nat.le_refl _
  | e :: es, L => by
    have h1 := fold_len g es (lput L (g e))
    have h2 := lput_len L (g e)
    rw [List.foldl_cons, List.length_cons]
    omega
theorem lputs_len (L : List (Int × Int)) (o : Int) (es : List Int) : (lputs L o es).length ≤ L.length + es.length := fold_len _ es L
theorem lpairs_len (es : List Int) : ∀ (os : List Int) (L : List (Int × Int)), (lpairs L os es).length ≤ L.length + os.length * es.length
  | [], L => by show L.length ≤ _; omega
  | o :: os, L => by
    have h1 := lpairs_len es os (lputs L o es)
    have h2 := lputs_len L o es
    show (lpairs (lputs L o es) os es).length ≤ _
    rw [List.length_cons, Nat.succ_mul]
    omega
theorem TL_top {T : TX K w mg} {H0 H : Hp} {p dx lk lb ll lg : Addr} {txt : List Nat} {st : TSt} {gs : List GA} {J : List (Addr × HO)} {I : List (Addr × List Int)} {a : GA} (f : Fr H0 H (TL T p dx lk lb ll lg txt st (a :: gs)) J) (a' : GA) (hg : a'.g = a.g)
    (he : (a'.e, intsO a'.grp.ent) ∈ J) (hx : (a'.x, intsO a'.grp.exi) ∈ J) (hJ : ∀ y ∈ TI gs I, y ∈ J) : Fr H0 (upd H a.g (gob a')) (TL T p dx lk lb ll lg txt { st with groups := a'.grp :: gs.map GA.grp } (a' :: gs)) (TI (a' :: gs) I) := by
  have f2 := f.set (L1 := [_, _, _, _, _]) (a := a.g) (o := gob a) (o' := gob a')
  have f3 : Fr H0 (upd H a.g (gob a')) (TL T p dx lk lb ll lg txt { st with groups := a'.grp :: gs.map GA.grp } (a' :: gs)) J := by
    refine f2.perm (List.Perm.of_eq ?_)
    show (p, _) :: (lk, _) :: (lb, _) :: (ll, _) :: (lg, HO.lst ((a' :: gs).reverse.map fun a => V.ref a.g)) :: (a'.g, gob a') :: gs.map (fun a => (a.g, gob a)) = [(p, _), (lk, _), (lb, _), (ll, _), (lg, HO.lst ((a :: gs).reverse.map fun a => V.ref a.g))] ++ (a.g, gob a') :: gs.map (fun a => (a.g, gob a))
    rw [List.reverse_cons, List.reverse_cons, List.map_append, List.map_append]
    show _ :: _ :: _ :: _ :: (lg, HO.lst (gs.reverse.map (fun a => V.ref a.g) ++ [V.ref a'.g])) :: (a'.g, gob a') :: _ = _
    rw [hg]
    rfl
  refine f3.less fun y hy => ?_
  rcases List.mem_append.mp hy with hy | hy
  · exact hJ y (List.mem_append_left _ hy)
  · rw [List.flatMap_cons] at hy
    rcases List.mem_append.mp hy with hy | hy
    · rcases List.mem_cons.mp hy with rfl | hy
      · exact he
      · rw [List.mem_singleton.mp hy]; exact hx
    · exact hJ y (List.mem_append_right _ hy)
theorem TI_tail {a : GA} {gs : List GA} {I : List (Addr × List Int)} {y : Addr × HO} (h : y ∈ TI gs I) : y ∈ TI (a :: gs) I := by
  rcases List.mem_append.mp h with h | h
  · exact List.mem_append_left _ h
  · exact List.mem_append_right _ (by rw [List.flatMap_cons]; exact List.mem_append_right _ h)
theorem TI_e {a : GA} {gs : List GA} {I : List (Addr × List Int)} : (a.e, intsO a.grp.ent) ∈ TI (a :: gs) I := List.mem_append_right _ (by rw [List.flatMap_cons]; exact .head _)
theorem TI_x {a : GA} {gs : List GA} {I : List (Addr × List Int)} : (a.x, intsO a.grp.exi) ∈ TI (a :: gs) I := List.mem_append_right _ (by rw [List.flatMap_cons]; exact .tail _ (.head _))
theorem TI_i {gs : List GA} {I : List (Addr × List Int)} {a : Addr} {l : List Int} (h : (a, l) ∈ I) : (a, intsO l) ∈ TI gs I := List.mem_append_left _ (List.mem_map.mpr ⟨_, h, rfl⟩)
theorem TL_top_at {T : TX K w mg} {H0 H : Hp} {p dx lk lb ll lg : Addr} {txt : List Nat} {st : TSt} {gs : List GA} {a : GA} {J : List (Addr × HO)} (f : Fr H0 H (TL T p dx lk lb ll lg txt st (a :: gs)) J) : H a.g = some (gob a) := f.get (.tail _ (.tail _ (.tail _ (.tail _ (.tail _ (.head _))))))
theorem TL_glast {T : TX K w mg} {H0 H : Hp} {p dx lk lb ll lg : Addr} {txt : List Nat} {st : TSt} {gs : List GA} {a : GA} {J : List (Addr × HO)} (f : Fr H0 H (TL T p dx lk lb ll lg txt st (a :: gs)) J) : H lg = some (.lst (gs.reverse.map (fun a => V.ref a.g) ++ [V.ref a.g])) := by
  rw [TL_g f, List.reverse_cons, List.map_append]; rfl
theorem TL_links {T : TX K w mg} {H0 H : Hp} {p dx lk lb ll lg : Addr} {txt : List Nat} {st : TSt} {gs : List GA} {I : List (Addr × HO)} {L : List (Int × Int)} (f : Fr H0 H (TL T p dx lk lb ll lg txt st gs) I) :
    Fr H0 (upd H ll (.dT (linkKvs L))) (TL T p dx lk lb ll lg txt { st with links := L } gs) I := f.set (L1 := [_, _, _])
def sp_Track_put (P : Program) (w : World) (T : TX K w mg) : Sp := fun vs H Q _ => ∃ (H0 : Hp) (p ea xa : Addr) (txt : List Nat) (st st' : TSt) (en ex : List Int) (I : List (Addr × List Int)), vs = [.ref p, .ref ea, .ref xa] ∧ Trk T H0 H p txt st I ∧ (ea, en) ∈ I ∧ (xa, ex) ∈ I ∧ tPut en ex st = some st' ∧
  ∀ H', Trk T H0 H' p txt st' I → Q .non H'
theorem c_Track_put (T : TX K w mg) : C8.Met P w K mg base 1 T.cTrack "put" (sp_Track_put P w T) [] := by
  obtain ⟨f, fd, me, F, b⟩ := T.fn_Track_put
  refine C8.met0 T.clTrack me F b sc_Track_put (fun vs H Q E h => by obtain ⟨_, _, _, _, _, _, _, _, _, _, rfl, _⟩ := h; rfl) (fun cdv A outer s H vs Q E hr h => ?_)
  have hu := hu_of hr
  have nd := sc_Track_put.nd
  refine ⟨_, (pss_cons (ps_set (i := 3) nd rfl (Or.inl rfl) (pe_ix (ix_listK (K := K) rfl) (pe_fld (pv 0) rfl) (pe_un un_neg pe_int) (fun _ _ => rfl)))
      (C8.pss_cut (ps_if (PW.pt (pw_or (pt_cmpR op_eq (pe_ix (ix_listK (K := K) rfl) (pv 3) pe_int (fun _ _ => rfl)) pe_str (nomark _)) (pw_or1 (pt_cmpR op_eq (pe_ix (ix_listK (K := K) rfl) (pv 3) pe_int (fun _ _ => rfl)) pe_int (nomark _))))) (pss_one (ps_asg (pe_op op_cat (pe_ix (ix_listK (K := K) rfl) (pv 3) pe_int (fun _ _ => rfl)) (pv 1)) (pg_sub (pv 3) pe_int set_list))) pss_nil)
      (C8.pss_cut (ps_if (pt_cmpR op_eq (pe_ix (ix_listK (K := K) rfl) (pv 3) pe_int (fun _ _ => rfl)) pe_str (nomark _)) (pss_one (ps_asg (pe_op op_cat (pe_ix (ix_listK (K := K) rfl) (pv 3) pe_int (fun _ _ => rfl)) (pv 2)) (pg_sub (pv 3) pe_int set_list))) (pss_cons (ps_for PassesOwn.never rfl (pi_list (pe_ix (ix_listK (K := K) rfl) (pv 3) pe_int (fun _ _ => rfl))) (pg_name (i := 4) nd rfl (Or.inl rfl)) (pss_one (ps_for PassesOwn.never rfl (pi_list (pv 1)) (pg_name (i := 5) nd rfl (Or.inl rfl)) (pss_one (ps_dput hu (pe_fld (pv 0) rfl) (pe_tup (pa_cons (pv 4) (pa_cons (pv 5) pa_nil))) pe_bl rfl)))))
      (pss_one (ps_asg (pv 2) (pg_sub (pv 3) pe_int set_list)))))
      (pss_one (ps_augS (pv 3) pe_int pget_list pe_int ip_add set_list))))), ?_⟩
  obtain ⟨H0, p, ea, xa, txt, st, st', en, ex, I, rfl, tk, hea, hxa, e, k⟩ := h
  obtain ⟨dx, lk, lb, ll, lg, gs0, eg, f⟩ := tk.ex
  unfold tPut at e
  cases gs0 with
  | nil => rw [← eg] at e; cases e
  | cons a gs =>
  obtain ⟨g, e0, x0, ⟨sg, ent, exi, num⟩⟩ := a
  rw [← eg] at e
  have e : (if en.length ≤ 100 ∧ ex.length ≤ 100 ∧ ent.length ≤ 100 ∧ exi.length ≤ 100 ∧ st.links.length ≤ 1000 then
      (if sg = 91 then some { st with groups := ⟨sg, ent ++ en, exi ++ ex, num + 1⟩ :: gs.map GA.grp }
      else some { st with links := lpairs st.links exi en, groups := ⟨sg, if num = 0 then ent ++ en else ent, ex, num + 1⟩ :: gs.map GA.grp }) else none) = some st' := e
  by_cases c0 : en.length ≤ 100 ∧ ex.length ≤ 100 ∧ ent.length ≤ 100 ∧ exi.length ≤ 100 ∧ st.links.length ≤ 1000
  case neg => rw [if_neg c0] at e; cases e
  rw [if_pos c0] at e
  obtain ⟨l1, l2, l3, l4, l5⟩ := c0
  have hp := TL_p f
  have hg0 : H g = some (.lst [.str (ch sg), .ref e0, .ref x0, .int (num : Int)]) := TL_top_at f
  refine ⟨_, rfl, p, _, dx, _, _, rfl, hp, T.clTrack, T.na_Track_groups, rfl, _, rfl, lg, _, _, _, rfl, rfl, SqL.of (TL_glast f), atI_last _ _, ?_⟩
  -- the first if
  refine ⟨fun σ H' => ∃ e1, σ = [some (.ref p), some (.ref ea), some (.ref xa), some (.ref g), none, none] ∧
      Fr H0 H' (TL T p dx lk lb ll lg txt st (⟨g, e1, x0, ⟨sg, if sg = 91 ∨ num = 0 then ent ++ en else ent, exi, num⟩⟩ :: gs)) (TI (⟨g, e1, x0, ⟨sg, if sg = 91 ∨ num = 0 then ent ++ en else ent, exi, num⟩⟩ :: gs) I), ?_, ?_⟩
  · refine ⟨_, rfl, g, _, _, _, rfl, rfl, SqL.of hg0, rfl, rfl, _, rfl, ite_ceq (d := 91) (fun y => iteT ?_) (fun y => ⟨_, rfl, g, _, _, _, rfl, rfl, SqL.of hg0, rfl, rfl, _, rfl, ite_eq (fun z => ?_) (fun z => ?_)⟩)⟩
    · have hy : sg = 91 ∨ num = 0 := .inl y
      rw [if_pos hy]
      refine ⟨_, rfl, g, _, _, _, rfl, rfl, SqL.of hg0, rfl, _, rfl, e0, ea, _, _, rfl, rfl, f.got TI_e, tk.got hea, sz_le (by simp only [List.length_map]; omega), fun q nq => ?_⟩
      refine ⟨_, rfl, g, _, _, 1, rfl, rfl, (Same.new nq) _ _ hg0, rfl, ?_⟩
      rw [← List.map_append]
      exact ⟨q, rfl, TL_top (f.new_imm (o := intsO (ent ++ en)) nq) ⟨g, q, x0, ⟨sg, ent ++ en, exi, num⟩⟩ rfl (.head _) (.tail _ (TI_x (a := ⟨g, e0, x0, ⟨sg, ent, exi, num⟩⟩))) (fun y hy => .tail _ (TI_tail hy))⟩
    · have hy : sg = 91 ∨ num = 0 := .inr (by omega)
      rw [if_pos hy]
      refine ⟨_, rfl, g, _, _, _, rfl, rfl, SqL.of hg0, rfl, _, rfl, e0, ea, _, _, rfl, rfl, f.got TI_e, tk.got hea, sz_le (by simp only [List.length_map]; omega), fun q nq => ?_⟩
      refine ⟨_, rfl, g, _, _, 1, rfl, rfl, (Same.new nq) _ _ hg0, rfl, ?_⟩
      rw [← List.map_append]
      exact ⟨q, rfl, TL_top (f.new_imm (o := intsO (ent ++ en)) nq) ⟨g, q, x0, ⟨sg, ent ++ en, exi, num⟩⟩ rfl (.head _) (.tail _ (TI_x (a := ⟨g, e0, x0, ⟨sg, ent, exi, num⟩⟩))) (fun y hy => .tail _ (TI_tail hy))⟩
    · have hy : ¬ (sg = 91 ∨ num = 0) := by omega
      rw [if_neg hy]
      exact ⟨e0, rfl, f⟩
  · rintro σ H1 ⟨e1, rfl, f1⟩
    generalize hen1 : (if sg = 91 ∨ num = 0 then ent ++ en else ent) = ent1 at f1
    have hg1 : H1 g = some (.lst [.str (ch sg), .ref e1, .ref x0, .int (num : Int)]) := TL_top_at f1
    refine ⟨fun σ H' => ∃ x1 o t, σ = [some (.ref p), some (.ref ea), some (.ref xa), some (.ref g), o, t] ∧
      Fr H0 H' (TL T p dx lk lb ll lg txt { st with links := if sg = 91 then st.links else lpairs st.links exi en } (⟨g, e1, x1, ⟨sg, ent1, if sg = 91 then exi ++ ex else ex, num⟩⟩ :: gs)) (TI (⟨g, e1, x1, ⟨sg, ent1, if sg = 91 then exi ++ ex else ex, num⟩⟩ :: gs) I), ?_, ?_⟩
    · refine ⟨_, rfl, g, _, _, _, rfl, rfl, SqL.of hg1, rfl, rfl, _, rfl, ite_ceq (d := 91) (fun y => ?_) (fun y => ?_)⟩
      · rw [if_pos y, if_pos y]
        refine ⟨_, rfl, g, _, _, _, rfl, rfl, SqL.of hg1, rfl, _, rfl, x0, xa, _, _, rfl, rfl, f1.got TI_x, f1.got (TI_i hxa), sz_le (by simp only [List.length_map]; omega), fun q nq => ?_⟩
        refine ⟨_, rfl, g, _, _, 2, rfl, rfl, (Same.new nq) _ _ hg1, rfl, ?_⟩
        rw [← List.map_append]
        exact ⟨q, none, none, rfl, TL_top (f1.new_imm (o := intsO (exi ++ ex)) nq) ⟨g, e1, q, ⟨sg, ent1, exi ++ ex, num⟩⟩ rfl (.tail _ (TI_e (a := ⟨g, e1, x0, ⟨sg, ent1, exi, num⟩⟩))) (.head _) (fun y hy => .tail _ (TI_tail hy))⟩
      · rw [if_neg y, if_neg y]
        refine ⟨_, rfl, g, _, _, _, rfl, rfl, SqL.of hg1, rfl, x0, rfl, ⟨_, SqL.of (f1.got TI_x)⟩, ?_⟩
        refine for_list (xs := exi.map V.int) (fun i σ H' => ∃ o t, σ = [some (.ref p), some (.ref ea), some (.ref xa), some (.ref g), o, t] ∧ Fr H0 H' (TL T p dx lk lb ll lg txt { st with links := lpairs st.links (exi.take i) en } (⟨g, e1, x0, ⟨sg, ent1, exi, num⟩⟩ :: gs)) (TI (⟨g, e1, x0, ⟨sg, ent1, exi, num⟩⟩ :: gs) I))
          ⟨_, _, rfl, f1⟩ (fun _ _ _ _ ⟨_, _, _, f2⟩ => SqL.of (f2.got TI_x)) ?_ ?_
        · rintro i x σ H2 hx ⟨o, t, rfl, f2⟩
          have hi := get_lt hx
          rw [List.length_map] at hi
          obtain ⟨ov, hov⟩ := get_some hi
          obtain rfl : x = V.int ov := Option.some.inj (hx.symm.trans (map_at hov))
          refine ⟨_, rfl, ea, rfl, ⟨_, SqL.of (f2.got (TI_i hea))⟩, ?_⟩
          refine for_list (xs := en.map V.int) (fun j σ H' => ∃ t, σ = [some (.ref p), some (.ref ea), some (.ref xa), some (.ref g), some (.int ov), t] ∧ Fr H0 H' (TL T p dx lk lb ll lg txt { st with links := lputs (lpairs st.links (exi.take i) en) ov (en.take j) } (⟨g, e1, x0, ⟨sg, ent1, exi, num⟩⟩ :: gs)) (TI (⟨g, e1, x0, ⟨sg, ent1, exi, num⟩⟩ :: gs) I))
            ⟨_, rfl, f2⟩ (fun _ _ _ _ ⟨_, _, f3⟩ => SqL.of (f3.got (TI_i hea))) ?_ ?_
          · rintro j x σ H3 hx ⟨t, rfl, f3⟩
            have hj := get_lt hx
            rw [List.length_map] at hj
            obtain ⟨ev, hev⟩ := get_some hj
            obtain rfl : x = V.int ev := Option.some.inj (hx.symm.trans (map_at hev))
            refine ⟨_, rfl, p, _, dx, _, _, rfl, TL_p f3, T.clTrack, T.na_Track_links, rfl, _, rfl, _, rfl, sz_le (Nat.le_of_ble_eq_true rfl), fun b nb => ?_⟩
            have f4 := f3.junk (o := .tup [.int ov, .int ev]) nb
            have b1 := lpairs_len en (exi.take i) st.links
            have b2 := lputs_len (lpairs st.links (exi.take i) en) ov (en.take j)
            have b3 : (exi.take i).length ≤ 100 := by rw [List.length_take]; omega
            have b4 : (en.take j).length ≤ 100 := by rw [List.length_take]; omega
            have b5 : (exi.take i).length * en.length ≤ 100 * 100 := Nat.mul_le_mul b3 l1
            refine ⟨ll, _, rfl, .inr ⟨_, linkK (ov, ev), b, TL_l f4, rfl, upd_same, sz_lt ?_, rfl⟩, ?_⟩
            · unfold linkKvs
              rw [List.length_map]
              show (lputs (lpairs st.links (exi.take i) en) ov (en.take j)).length ≤ _
              omega
            rw [putK_link, take_snoc hev, lputs_snoc]
            exact ⟨_, rfl, TL_links (st := { st with links := lputs (lpairs st.links (exi.take i) en) ov (en.take j) }) f4⟩
          · rintro σ H3 ⟨t, rfl, f3⟩
            rw [List.length_map, List.take_length, ← lpairs_snoc, ← take_snoc hov] at f3
            exact ⟨_, _, rfl, f3⟩
        · rintro σ H2 ⟨o, t, rfl, f2⟩
          rw [List.length_map, List.take_length] at f2
          refine ⟨_, rfl, _, rfl, g, _, _, 2, rfl, rfl, TL_top_at f2, rfl, ?_⟩
          exact ⟨xa, o, t, rfl, TL_top f2 ⟨g, e1, xa, ⟨sg, ent1, ex, num⟩⟩ rfl TI_e (TI_i hxa) (fun y hy => TI_tail hy)⟩
    · rintro σ H2 ⟨x1, o, t, rfl, f2⟩
      generalize hex1 : (if sg = 91 then exi ++ ex else ex) = exi1 at f2
      generalize hL : (if sg = 91 then st.links else lpairs st.links exi en) = L1 at f2
      have hg2 : H2 g = some (.lst [.str (ch sg), .ref e1, .ref x1, .int (num : Int)]) := TL_top_at f2
      refine ⟨_, rfl, g, _, _, _, rfl, rfl, by decide, by decide, SqL.of hg2, rfl, _, _, rfl, rfl, g, _, _, 3, rfl, rfl, hg2, rfl, ?_⟩
      have f3 := TL_top f2 ⟨g, e1, x1, ⟨sg, ent1, exi1, num + 1⟩⟩ rfl TI_e TI_x (fun y hy => TI_tail hy)
      refine k _ ⟨dx, lk, lb, ll, lg, ⟨g, e1, x1, ⟨sg, ent1, exi1, num + 1⟩⟩ :: gs, ?_, ?_⟩
      · by_cases y : sg = 91
        · rw [if_pos y] at e hex1
          rw [if_pos (.inl y)] at hen1
          rw [← Option.some.inj e, ← hen1, ← hex1]
          rfl
        · rw [if_neg y] at e hex1
          have : (if sg = 91 ∨ num = 0 then ent ++ en else ent) = if num = 0 then ent ++ en else ent := by simp [y]
          rw [this] at hen1
          rw [← Option.some.inj e, hen1, ← hex1]
          rfl
      · have : TL T p dx lk lb ll lg txt st' = TL T p dx lk lb ll lg txt { st with links := L1 } := by
          by_cases y : sg = 91
          · rw [if_pos y] at e hL
            rw [← Option.some.inj e, ← hL]
            rfl
          · rw [if_neg y] at e hL
            rw [← Option.some.inj e, ← hL]
            rfl
        rw [this]
        exact f3
end
end K92

/-! K92G: the checker reads a text: read, _track. -/
set_option Elab.async false
set_option linter.all false
set_option maxRecDepth 100000
set_option maxHeartbeats 4000000
set_option autoImplicit false
namespace K92
open PySem PySem.Spec PyProof.Rows L2
section
variable {P : Program} {w : World} {K : PySem.W.Frag} {mg : Str → Option Value} {base : Heap}
theorem TL_popg {T : TX K w mg} {H0 H : Hp} {p dx lk lb ll lg : Addr} {txt : List Nat} {st : TSt} {gs : List GA} {a : GA} {I : List (Addr × List Int)} (f : Fr H0 H (TL T p dx lk lb ll lg txt st (a :: gs)) (TI (a :: gs) I)) :
    Fr H0 (upd H lg (.lst (gs.reverse.map fun a => V.ref a.g))) (TL T p dx lk lb ll lg txt { st with groups := gs.map GA.grp } gs) (TI gs [(a.e, a.grp.ent), (a.x, a.grp.exi)]) := by
  have f2 := f.set (L1 := [_, _, _, _]) (a := lg) (o' := .lst (gs.reverse.map fun a => V.ref a.g))
  refine (f2.sub (L' := TL T p dx lk lb ll lg txt { st with groups := gs.map GA.grp } gs) ?_).less ?_
  · exact ((List.sublist_cons_self _ _).cons₂ _).cons₂ _ |>.cons₂ _ |>.cons₂ _ |>.cons₂ _
  · intro y hy
    rcases List.mem_append.mp hy with hy | hy
    · simp only [List.map_cons, List.map_nil, List.mem_cons, List.not_mem_nil, or_false] at hy
      rcases hy with rfl | rfl
      · exact TI_e
      · exact TI_x
    · exact List.mem_append_right _ (by rw [List.flatMap_cons]; exact List.mem_append_right _ hy)
theorem last_get {α : Type} (xs : List α) (v : α) : (xs ++ [v])[(xs ++ [v]).length - 1]? = some v := by simp
theorem inj3 {α β γ : Type} {a a' : α} {b b' : β} {c c' : γ} (h : some (a, b, c) = some (a', b', c')) : a = a' ∧ b = b' ∧ c = c' := by injection h with h; injection h with h1 h; injection h with h2 h3; exact ⟨h1, h2, h3⟩
def init0 : TSt := ⟨0, [], [], [], []⟩
def sp_Track_read (P : Program) (w : World) (T : TX K w mg) : Sp := fun vs H Q _ => ∃ (H0 : Hp) (p : Addr) (txt : List Nat) (Y : Yd), vs = [.ref p] ∧ Trk T H0 H p txt init0 [] ∧ signsOk txt ∧ tParse txt = some Y ∧ ∀ H' ll, Same H0 H' → TrackOn T H' p ll Y → Q .non H'
theorem c_Track_read (T : TX K w mg) : C8.Met P w K mg base 3 T.cTrack "read" (sp_Track_read P w T) [] := by
  obtain ⟨f, fd, me, F, b⟩ := T.fn_Track_read
  refine C8.met0 T.clTrack me F b sc_Track_read (fun vs H Q E h => by obtain ⟨_, _, _, _, rfl, _⟩ := h; rfl) (fun cdv A outer s H vs Q E hr h => ?_)
  have hu := hu_of hr
  have nd := sc_Track_read.nd
  refine ⟨_, (C8.pss_cut (ps_while PassesOwn.never (pt_val pe_bl) (pss_cons (ps_set (i := 1) nd rfl (Or.inl rfl) (C8.pe_mt0 (c_Track_begin T) hr (by decide) (pv 0)))
      (pss_cons (ps_set (i := 2) nd rfl (Or.inl rfl) (pe_lst (pa_cons (pv 1) pa_nil)))
      (pss_cons (ps_set (i := 3) nd rfl (Or.inl rfl) (pe_lst (pa_cons (pv 1) pa_nil)))
      (C8.pss_cut (ps_while PassesOwn.never (pt_truth (pe_fld (pv 0) rfl) (by intro _; rfl)) (pss_cons (ps_expr (C8.pe_mt (c_Track_put T) hr (by decide) (pv 0) (pa_cons (pv 2) (pa_cons (pv 3) pa_nil))))
      (pss_cons (ps_set (i := 4) nd rfl (Or.inl rfl) (pe_ix (ix_listK (K := K) rfl) (pe_fld (pv 0) rfl) (pe_un un_neg pe_int) (fun _ _ => rfl)))
      (pss_cons (ps_if (PW.pt (pw_or (pt_cmpR op_lt (pe_ix (ix_listK (K := K) rfl) (pv 4) pe_int (fun _ _ => rfl)) pe_int (nomark _)) (pw_or1 (pt_cmpR op_ne (C8.pe_mt0 (c_Track_sign T) hr (by decide) (pv 0)) (pe_ix ix_kdict (C8.pe_gc rfl T.g_CLOSING_certificates) (pe_ix (ix_listK (K := K) rfl) (pv 4) pe_int (fun _ _ => rfl)) (fun _ _ => rfl)) (nomark _))))) (pss_one ps_break) pss_nil)
      (pss_cons (ps_set (i := 2) nd rfl (Or.inl rfl) (pe_ix (ix_listK (K := K) rfl) (pv 4) pe_int (fun _ _ => rfl)))
      (pss_cons (ps_set (i := 3) nd rfl (Or.inl rfl) (pe_ix (ix_listK (K := K) rfl) (pv 4) pe_int (fun _ _ => rfl)))
      (pss_cons (ps_expr (pe_bm0 PySem.F.plainAttrs_list PySem.F.slot_list_pop PySem.F.type_list_pop mt_pop (pe_fld (pv 0) rfl)))
      (pss_one (ps_fldaug (pv 0) pe_int in_add)))))))))
      (pss_cons (ps_if (pt_not (pt_truth (pe_fld (pv 0) rfl) (by intro _; rfl))) (pss_one ps_break) pss_nil)
      (pss_cons (ps_if (pt_cmpR op_ne (C8.pe_mt0 (c_Track_sign T) hr (by decide) (pv 0)) pe_str (nomark _)) (pss_one ps_never) pss_nil)
      (pss_one (ps_fldaug (pv 0) pe_int in_add)))))))))
      (pss_cons (ps_if (pt_cmpR op_lt (pe_fld (pv 0) rfl) (pe_callB call_len_str (by rfl) T.b_len PySem.boot_len (pa_cons (pe_fld (pv 0) rfl) pa_nil)) (nomark _)) (pss_one ps_never) pss_nil)
      (pss_cons (ps_for PassesOwn.never rfl (pi_list (pv 2)) (pg_name (i := 1) nd rfl (Or.inl rfl)) (pss_one (ps_dput hu (pe_fld (pv 0) rfl) (pe_tup (pa_cons (pe_un un_neg pe_int) (pa_cons (pv 1) pa_nil))) pe_bl rfl)))
      (pss_one (ps_for PassesOwn.never rfl (pi_list (pv 3)) (pg_name (i := 1) nd rfl (Or.inl rfl)) (pss_one (ps_dput hu (pe_fld (pv 0) rfl) (pe_tup (pa_cons (pv 1) (pa_cons (pe_un un_neg pe_int) pa_nil))) pe_bl rfl))))))), ?_⟩
  obtain ⟨H0, p, txt, Y, rfl, tk, ok, e, k⟩ := h
  unfold tParse at e
  cases eo : tLoop txt 100 ⟨0, [], [], [], []⟩ with
  | none => rw [eo] at e; cases e
  | some R =>
  rw [eo] at e
  obtain ⟨enR, exR, sR⟩ := R
  have e : (if txt.length ≤ sR.pos ∧ enR.length ≤ 100 ∧ exR.length ≤ 100 ∧ sR.links.length ≤ 1000 then
    some (Yd.mk sR.kinds sR.bounds (louts (lins sR.links enR) exR)) else none) = some Y := e
  by_cases c0 : txt.length ≤ sR.pos ∧ enR.length ≤ 100 ∧ exR.length ≤ 100 ∧ sR.links.length ≤ 1000
  case neg => rw [if_neg c0] at e; cases e
  rw [if_pos c0] at e
  obtain ⟨c1, c2, c3, c4⟩ := c0
  obtain ⟨ok1, ok2⟩ := ok
  refine ⟨fun σ H' => ∃ u1 ea xa u4, σ = [some (.ref p), u1, some (.ref ea), some (.ref xa), u4] ∧ Trk T H0 H' p txt sR [(ea, enR), (xa, exR)], ?_, ?_⟩
  · refine ⟨fun m σ H' => ∃ s u1 u2 u3 u4, tLoop txt m s = some (enR, exR, sR) ∧ σ = [some (.ref p), u1, u2, u3, u4] ∧ Trk T H0 H' p txt s [], ⟨100, _, _, _, _, _, eo, rfl, tk⟩, ?_⟩
    rintro m σ H1 ⟨s, u1, u2, u3, u4, es, rfl, t1⟩
    cases m with
    | zero => cases es
    | succ m =>
    unfold tLoop at es
    obtain ⟨⟨d, s1⟩, eb, es⟩ := Option.bind_eq_some_iff.mp es
    obtain ⟨⟨en, ex, s2⟩, ec, es⟩ := Option.bind_eq_some_iff.mp es
    have es : (match s2.groups with
        | [] => some (en, ex, s2)
        | _ :: _ => if txt[s2.pos]? = some 32 then tLoop txt m { s2 with pos := s2.pos + 1 } else none) = some (enR, exR, sR) := es
    refine ⟨true, rfl, fun σ H' => ∃ s u1 u2 u3 u4, tLoop txt m s = some (enR, exR, sR) ∧ σ = [some (.ref p), u1, u2, u3, u4] ∧ Trk T H0 H' p txt s [], fun σ' H' h => ⟨m, by omega, h⟩, ?_⟩
    obtain ⟨dx, lk, lb, ll, lg, gs, eg, f⟩ := t1.ex
    refine ⟨_, rfl, p, dx, _, rfl, TL_p f, rfl, H0, p, txt, s, s1, d, [], rfl, t1, ⟨ok1, ok2⟩, eb, fun H2 t2 => ?_⟩
    refine ⟨_, rfl, sz_le (Nat.le_of_ble_eq_true rfl), fun ea nea => ?_⟩
    have t3 := t2.new (l := [(d : Int)]) nea
    refine ⟨_, rfl, sz_le (Nat.le_of_ble_eq_true rfl), fun xa nxa => ?_⟩
    have t4 := t3.new (l := [(d : Int)]) nxa
    refine ⟨fun σ H' => ∃ ea xa u4, σ = [some (.ref p), some (.int (d : Int)), some (.ref ea), some (.ref xa), u4] ∧ Trk T H0 H' p txt s2 [(ea, en), (xa, ex)], ?_, ?_⟩
    · refine ⟨fun n σ H' => ∃ z en1 ex1 ea xa u4, tClose txt n en1 ex1 z = some (en, ex, s2) ∧ σ = [some (.ref p), some (.int (d : Int)), some (.ref ea), some (.ref xa), u4] ∧ Trk T H0 H' p txt z [(ea, en1), (xa, ex1)], ⟨100, s1, _, _, ea, xa, _, ec, rfl, t4.less (by intro x hx; simp at hx ⊢; rcases hx with hx | hx <;> simp [hx])⟩, ?_⟩
      rintro n σ H3 ⟨z, en1, ex1, ea, xa, v4, ez, rfl, t5⟩
      cases n with
      | zero => cases ez
      | succ n =>
      unfold tClose at ez
      obtain ⟨dx, lk, lb, ll, lg, gs, eg, f⟩ := t5.ex
      cases gs with
      | nil =>
        rw [← eg] at ez
        have ez : some (en1, ex1, z) = some (en, ex, s2) := ez
        obtain ⟨rfl, rfl, rfl⟩ := inj3 ez
        refine ⟨_, rfl, p, _, dx, _, _, rfl, TL_p f, T.clTrack, T.na_Track_groups, rfl, _, .inl ⟨_, SqL.of (TL_g f), rfl⟩, iteF ?_⟩
        exact ⟨ea, xa, v4, rfl, t5⟩
      | cons a gs =>
        rw [← eg] at ez
        have ez : ((tPut en1 ex1 z).bind fun s => match s.groups with
          | [] => none
          | g :: gs => if ¬ (g.sign = 40 ∨ g.sign = 91) then none else if g.num < 2 ∨ txt[s.pos]? ≠ some (clos g.sign) then some (en1, ex1, s) else tClose txt n g.ent g.exi { s with groups := gs, pos := s.pos + 1 }) = some (en, ex, s2) := ez
        cases ep : tPut en1 ex1 z with
        | none => rw [ep] at ez; cases ez
        | some z1 =>
        rw [ep] at ez
        refine ⟨_, rfl, p, _, dx, _, _, rfl, TL_p f, T.clTrack, T.na_Track_groups, rfl, true, .inl ⟨_, SqL.of (TL_glast f), by simp⟩, ?_⟩
        refine ⟨fun σ H' => ∃ z en1 ex1 ea xa u4, tClose txt n en1 ex1 z = some (en, ex, s2) ∧ σ = [some (.ref p), some (.int (d : Int)), some (.ref ea), some (.ref xa), u4] ∧ Trk T H0 H' p txt z [(ea, en1), (xa, ex1)], fun σ' H' h => ⟨n, by omega, h⟩, ?_⟩
        refine ⟨_, rfl, p, dx, _, rfl, TL_p f, rfl, _, rfl, _, rfl, H0, p, ea, xa, txt, z, z1, en1, ex1, _, rfl, t5, .head _, .tail _ (.head _), ep, fun H4 t6 => ?_⟩
        obtain ⟨dx, lk, lb, ll, lg, gs1, eg1, f6⟩ := t6.ex
        cases gs1 with
        | nil =>
          have ez : (match z1.groups with
            | [] => none
            | g :: gs => if ¬ (g.sign = 40 ∨ g.sign = 91) then none else if g.num < 2 ∨ txt[z1.pos]? ≠ some (clos g.sign) then some (en1, ex1, z1) else tClose txt n g.ent g.exi { z1 with groups := gs, pos := z1.pos + 1 }) = some (en, ex, s2) := ez
          rw [← eg1] at ez
          cases ez
        | cons b gs1 =>
          have ez : (match z1.groups with
            | [] => none
            | g :: gs => if ¬ (g.sign = 40 ∨ g.sign = 91) then none else if g.num < 2 ∨ txt[z1.pos]? ≠ some (clos g.sign) then some (en1, ex1, z1) else tClose txt n g.ent g.exi { z1 with groups := gs, pos := z1.pos + 1 }) = some (en, ex, s2) := ez
          rw [← eg1] at ez
          obtain ⟨bg, be, bx, ⟨sg, ent, exi, num⟩⟩ := b
          have ez : (if ¬ (sg = 40 ∨ sg = 91) then none else if num < 2 ∨ txt[z1.pos]? ≠ some (clos sg) then some (en1, ex1, z1) else tClose txt n ent exi { z1 with groups := gs1.map GA.grp, pos := z1.pos + 1 }) = some (en, ex, s2) := ez
          by_cases hs : ¬ (sg = 40 ∨ sg = 91)
          · rw [if_pos hs] at ez; cases ez
          rw [if_neg hs] at ez
          have hs : sg = 40 ∨ sg = 91 := Classical.not_not.mp hs
          have hb : H4 bg = some (.lst [.str (ch sg), .ref be, .ref bx, .int (num : Int)]) := TL_top_at f6
          have hp := TL_p f6
          refine ⟨_, rfl, p, _, dx, _, _, rfl, hp, T.clTrack, T.na_Track_groups, rfl, _, rfl, lg, _, _, _, rfl, rfl, SqL.of (TL_glast f6), atI_last _ _, ?_⟩
          have stop' : num < 2 ∨ txt[z1.pos]? ≠ some (clos sg) → ∃ ea' xa' u4, ([some (.ref p), some (.int (d : Int)), some (.ref ea), some (.ref xa), some (.ref bg)] : L2.St) = [some (.ref p), some (.int (d : Int)), some (.ref ea'), some (.ref xa'), u4] ∧ Trk T H0 H4 p txt s2 [(ea', en), (xa', ex)] := fun y => by
            rw [if_pos y] at ez
            obtain ⟨rfl, rfl, rfl⟩ := inj3 ez
            exact ⟨ea, xa, _, rfl, t6⟩
          have kd : KDct K w T.dCLOSING_certificates (ch sg) (.str (ch (clos sg))) := by
            rcases hs with rfl | rfl
            · exact T.cp_CLOSING_certificates
            · exact T.cb_CLOSING_certificates
          refine ⟨_, rfl, bg, _, _, _, rfl, rfl, SqL.of hb, rfl, _, _, rfl, rfl, _, rfl, ite2 (fun y => iteT (stop' (.inl ?_))) (fun y => ?_)⟩
          · have := of_decide_eq_true y
            omega
          refine ⟨_, rfl, p, dx, _, rfl, hp, rfl, p, dx, lk, lb, ll, lg, txt, z1.pos, rfl, hp, ok1, _, rfl, bg, _, _, _, rfl, rfl, SqL.of hb, rfl, _, _, _, rfl, rfl, kd, rfl, _, rfl, ite_cne (fun q => stop' (.inr q)) (fun q => ?_)⟩
          have nn : ¬ (num < 2 ∨ txt[z1.pos]? ≠ some (clos sg)) := fun x => by
            rcases x with x | x
            · exact y (decide_eq_true (by omega))
            · exact x q
          rw [if_neg nn] at ez
          refine ⟨_, rfl, bg, _, _, _, rfl, rfl, SqL.of hb, rfl, ?_⟩
          refine ⟨_, rfl, bg, _, _, _, rfl, rfl, SqL.of hb, rfl, ?_⟩
          refine ⟨_, rfl, p, _, dx, _, _, rfl, hp, T.clTrack, T.na_Track_groups, rfl, tyL (TL_g f6), lg, _, _, rfl, rfl, TL_glast f6, last_get _ _, ?_⟩
          rw [List.dropLast_concat]
          have f7 := TL_popg f6
          refine ⟨_, rfl, p, _, dx, _, _, rfl, TL_p f7, T.clTrack, T.na_Track_at, rfl, _, _, rfl, rfl, dx, _, TL_p f7, Nat.le_of_ble_eq_true rfl, ?_⟩
          exact ⟨_, ent, exi, be, bx, _, ez, rfl, dx, lk, lb, ll, lg, gs1, rfl, TL_pos f7⟩
    · rintro σ H3 ⟨ea, xa, v4, rfl, t5⟩
      obtain ⟨dx, lk, lb, ll, lg, gs, eg, f⟩ := t5.ex
      cases gs with
      | nil =>
        rw [← eg] at es
        have es : some (en, ex, s2) = some (enR, exR, sR) := es
        obtain ⟨rfl, rfl, rfl⟩ := inj3 es
        refine ⟨_, rfl, p, _, dx, _, _, rfl, TL_p f, T.clTrack, T.na_Track_groups, rfl, _, .inl ⟨_, SqL.of (TL_g f), rfl⟩, iteT ?_⟩
        exact ⟨_, ea, xa, v4, rfl, t5⟩
      | cons a gs =>
        rw [← eg] at es
        have es : (if txt[s2.pos]? = some 32 then tLoop txt m { s2 with pos := s2.pos + 1, groups := (a :: gs).map GA.grp } else none) = some (enR, exR, sR) := es
        by_cases hb : txt[s2.pos]? = some 32
        case neg => rw [if_neg hb] at es; cases es
        rw [if_pos hb] at es
        have hp := TL_p f
        refine ⟨_, rfl, p, _, dx, _, _, rfl, hp, T.clTrack, T.na_Track_groups, rfl, true, .inl ⟨_, SqL.of (TL_glast f), by simp⟩, iteF ?_⟩
        refine ⟨_, rfl, p, dx, _, rfl, hp, rfl, p, dx, lk, lb, ll, lg, txt, s2.pos, rfl, hp, ok1, rfl, _, rfl, ite_cne (d := 32) (fun q => absurd hb q) (fun _ => ?_)⟩
        refine ⟨_, rfl, p, _, dx, _, _, rfl, hp, T.clTrack, T.na_Track_at, rfl, _, _, rfl, rfl, dx, _, hp, Nat.le_of_ble_eq_true rfl, ?_⟩
        exact ⟨_, _, _, _, _, es, rfl, dx, lk, lb, ll, lg, a :: gs, rfl, (TL_pos f).less fun y hy => by
          rcases List.mem_append.mp hy with hy | hy
          · cases hy
          · exact List.mem_append_right _ hy⟩
  · rintro σ H1 ⟨u1, ea, xa, u4, rfl, t1⟩
    obtain ⟨dx, lk, lb, ll, lg, gs, eg, f⟩ := t1.ex
    have hp := TL_p f
    refine ⟨_, rfl, p, _, dx, _, _, rfl, hp, T.clTrack, T.na_Track_at, rfl, _, rfl, p, _, dx, _, _, rfl, hp, T.clTrack, T.na_Track_text, rfl, _, rfl, ?_, _, _, rfl, rfl, _, rfl, ite2 (fun z => ?_) (fun _ => ?_)⟩
    · show txt.toArray.size ≤ _
      rw [List.size_toArray]
      exact sz_le (by omega)
    · have z := of_decide_eq_true z
      have : (txS txt).length = txt.length := List.size_toArray ..
      rw [this] at z
      omega
    have hea : (ea, enR) ∈ [(ea, enR), (xa, exR)] := .head _
    have hxa : (xa, exR) ∈ [(ea, enR), (xa, exR)] := .tail _ (.head _)
    refine ⟨_, rfl, ea, rfl, ⟨_, SqL.of (f.got (TI_i hea))⟩, ?_⟩
    refine for_list (xs := enR.map V.int) (fun i σ H' => ∃ u1, σ = [some (.ref p), u1, some (.ref ea), some (.ref xa), u4] ∧ Fr H0 H' (TL T p dx lk lb ll lg txt { sR with links := lins sR.links (enR.take i) } gs) (TI gs [(ea, enR), (xa, exR)]))
      ⟨_, rfl, f⟩ (fun _ _ _ _ ⟨_, _, f2⟩ => SqL.of (f2.got (TI_i hea))) ?_ ?_
    · rintro i x σ H2 hx ⟨u1, rfl, f2⟩
      have hi := get_lt hx
      rw [List.length_map] at hi
      obtain ⟨ev, hev⟩ := get_some hi
      obtain rfl : x = V.int ev := Option.some.inj (hx.symm.trans (map_at hev))
      refine ⟨_, rfl, p, _, dx, _, _, rfl, TL_p f2, T.clTrack, T.na_Track_links, rfl, _, rfl, _, rfl, sz_le (Nat.le_of_ble_eq_true rfl), fun b nb => ?_⟩
      have f4 := f2.junk (o := .tup [.int (-1), .int ev]) nb
      have b2 := fold_len (fun e => (-1, e)) (enR.take i) sR.links
      have b4 : (enR.take i).length ≤ 100 := by rw [List.length_take]; omega
      refine ⟨ll, _, rfl, .inr ⟨_, linkK (-1, ev), b, TL_l f4, rfl, upd_same, sz_lt ?_, rfl⟩, ?_⟩
      · unfold linkKvs
        rw [List.length_map]
        show (lins sR.links (enR.take i)).length ≤ _
        unfold lins
        omega
      rw [putK_link, take_snoc hev]
      have e3 : lins sR.links (enR.take i ++ [ev]) = lput (lins sR.links (enR.take i)) (-1, ev) := by unfold lins; rw [List.foldl_append]; rfl
      rw [e3]
      exact ⟨_, rfl, TL_links (st := { sR with links := lins sR.links (enR.take i) }) f4⟩
    · rintro σ H2 ⟨u1, rfl, f2⟩
      rw [List.length_map, List.take_length] at f2
      refine ⟨_, rfl, xa, rfl, ⟨_, SqL.of (f2.got (TI_i hxa))⟩, ?_⟩
      refine for_list (xs := exR.map V.int) (fun i σ H' => ∃ u1, σ = [some (.ref p), u1, some (.ref ea), some (.ref xa), u4] ∧ Fr H0 H' (TL T p dx lk lb ll lg txt { sR with links := louts (lins sR.links enR) (exR.take i) } gs) (TI gs [(ea, enR), (xa, exR)]))
        ⟨_, rfl, f2⟩ (fun _ _ _ _ ⟨_, _, f2⟩ => SqL.of (f2.got (TI_i hxa))) ?_ ?_
      · rintro i x σ H3 hx ⟨u1, rfl, f3⟩
        have hi := get_lt hx
        rw [List.length_map] at hi
        obtain ⟨ev, hev⟩ := get_some hi
        obtain rfl : x = V.int ev := Option.some.inj (hx.symm.trans (map_at hev))
        refine ⟨_, rfl, p, _, dx, _, _, rfl, TL_p f3, T.clTrack, T.na_Track_links, rfl, _, rfl, _, rfl, sz_le (Nat.le_of_ble_eq_true rfl), fun b nb => ?_⟩
        have f4 := f3.junk (o := .tup [.int ev, .int (-1)]) nb
        have b2 := fold_len (fun e => (-1, e)) enR sR.links
        have b3 := fold_len (fun e => (e, -1)) (exR.take i) (lins sR.links enR)
        have b4 : (exR.take i).length ≤ 100 := by rw [List.length_take]; omega
        refine ⟨ll, _, rfl, .inr ⟨_, linkK (ev, -1), b, TL_l f4, rfl, upd_same, sz_lt ?_, rfl⟩, ?_⟩
        · unfold linkKvs
          rw [List.length_map]
          show (louts (lins sR.links enR) (exR.take i)).length ≤ _
          have b5 : (lins sR.links enR).length ≤ sR.links.length + enR.length := b2
          unfold louts
          omega
        rw [putK_link, take_snoc hev]
        have e3 : louts (lins sR.links enR) (exR.take i ++ [ev]) = lput (louts (lins sR.links enR) (exR.take i)) (ev, -1) := by unfold louts; rw [List.foldl_append]; rfl
        rw [e3]
        exact ⟨_, rfl, TL_links (st := { sR with links := louts (lins sR.links enR) (exR.take i) }) f4⟩
      · rintro σ H3 ⟨u1, rfl, f3⟩
        rw [List.length_map, List.take_length] at f3
        refine k _ ll f3.same ?_
        rw [← Option.some.inj e]
        have q1 := TL_p f3
        have q2 := TL_k f3
        have q3 := TL_b f3
        have q4 := TL_l f3
        exact ⟨dx, lk, lb, lg, _, _, q1, q2, q3, q4⟩
def sp__track (P : Program) (w : World) (T : TX K w mg) : Sp := fun vs H Q _ => ∃ (txt : List Nat) (Y : Yd), vs = [.str (txS txt)] ∧ signsOk txt ∧ tParse txt = some Y ∧ ∀ H' p ll, Same H H' → TrackOn T H' p ll Y → Q (.ref p) H'
theorem Fr.empty (H : Hp) : Fr H H [] [] := ⟨same_refl H, List.nodup_nil, (by intro _ z; cases z), (by intro _ z; cases z)⟩
theorem c__track (T : TX K w mg) : C8.Cal P w K mg base 5 "_track" (sp__track P w T) [] := by
  obtain ⟨f, fd, F, b⟩ := T.fn__track
  refine C8.cal0 F b .nil sc__track (fun vs H Q E h => by obtain ⟨_, _, rfl, _⟩ := h; rfl) (fun cdv A outer s H vs Q E hr h => ?_)
  have hu := hu_of hr
  have nd := sc__track.nd
  refine ⟨_, (pss_cons (ps_set (i := 1) nd rfl (Or.inl rfl) (C8.pe_mk (c_Track_init T) hr (by decide) rfl (pa_cons (pv 0) pa_nil)))
      (pss_cons (ps_expr (C8.pe_mt0 (c_Track_read T) hr (by decide) (pv 1)))
      (pss_one (ps_ret (pv 1))))), ?_⟩
  obtain ⟨txt, Y, rfl, ok, e, k⟩ := h
  refine ⟨_, rfl, fun x dx nx nd ne => ⟨H, x, dx, txt, rfl, ((Fr.empty H).junk nd).new_own (by rw [upd_ne (Ne.symm ne)]; exact nx), fun H1 t1 => ⟨rfl, ?_⟩⟩⟩
  obtain ⟨dx', lk, lb, ll, lg, gs, eg, f⟩ := t1.ex
  refine ⟨_, rfl, x, dx', _, rfl, TL_p f, rfl, H, x, txt, Y, rfl, t1, ok, e, fun H2 ll s on => ?_⟩
  exact ⟨_, rfl, k _ x ll s on⟩
end
end K92

/-! K92H: the texts; is_way, is_closed_list, is_least_row. -/
set_option Elab.async false
set_option linter.all false
set_option maxRecDepth 100000
set_option maxHeartbeats 4000000
set_option autoImplicit false
namespace K92
open PySem PySem.Spec PyProof.Rows L2
section
variable {P : Program} {w : World} {K : PySem.W.Frag} {mg : Str → Option Value} {base : Heap}
/-! ### the texts that the law draws -/
def devs : List (List Nat) := [115, 113, 100, 105, 111].flatMap fun c => [[c], [c, 49], [c, 50], [c, 51]]
def fixed : List (List Nat) := [[115], [115, 49], [115, 50], [113], [113, 50], [91, 113, 32, 113, 93], [91, 115, 49, 32, 115, 49, 93], [40, 115, 49, 32, 115, 49, 41]]
def texts : List (List Nat) := devs ++ ((devs.flatMap fun a => devs.map fun b => 40 :: (a ++ 32 :: (b ++ [41]))) ++ ((devs.flatMap fun a => devs.map fun b => 91 :: (a ++ 32 :: (b ++ [93]))) ++ ((devs.flatMap fun a => devs.map fun b => 40 :: (a ++ 32 :: 91 :: (b ++ [32, 115, 49, 93, 41]))) ++ fixed)))
def yokB (Y : Yd) : Bool := decide (Y.bounds.length = Y.kinds.length) && decide (Y.kinds.length ≤ 8) && Y.kinds.all (fun k => decide (k ∈ letters)) && Y.bounds.all (fun b => decide (b ≤ 6)) &&
  Y.links.all (fun l => decide (-1 ≤ l.1) && decide (l.1 < (Y.kinds.length : Int)) && decide (-1 ≤ l.2) && decide (l.2 < (Y.kinds.length : Int))) && decide (Y.links.Nodup) && decide (Y.links.length ≤ 100)
theorem yok_of {Y : Yd} (h : yokB Y = true) : YOk Y := by
  simp only [yokB, Bool.and_eq_true, decide_eq_true_eq, List.all_eq_true] at h
  obtain ⟨⟨⟨⟨⟨⟨h1, h2⟩, h3⟩, h4⟩, h5⟩, h6⟩, h7⟩ := h
  exact ⟨h1, h2, h3, h4, fun l hl => ⟨(h5 l hl).1.1.1, (h5 l hl).1.1.2, (h5 l hl).1.2, (h5 l hl).2⟩, h6, h7⟩
def txtB (t : List Nat) : Bool := decide (t.length ≤ 40) && t.all (fun c => decide (c ∈ signs)) && (match tParse t with | some Y => yokB Y | none => false)
theorem texts_ok : texts.all txtB = true := by decide +kernel
theorem text_yard {t : List Nat} (h : t ∈ texts) : signsOk t ∧ ∃ Y, tParse t = some Y ∧ YOk Y := by
  have q := (List.all_eq_true.mp texts_ok) t h
  simp only [txtB, Bool.and_eq_true, decide_eq_true_eq, List.all_eq_true] at q
  obtain ⟨⟨q1, q2⟩, q3⟩ := q
  refine ⟨⟨by omega, q2⟩, ?_⟩
  cases e : tParse t with
  | none => rw [e] at q3; cases q3
  | some Y => rw [e] at q3; exact ⟨Y, rfl, yok_of q3⟩
/-- a text and its yard -/
structure TxY (t : List Nat) (Y : Yd) : Prop where
  mem : t ∈ texts
  sg : signsOk t
  parse : tParse t = some Y
  ok : YOk Y
theorem txy {t : List Nat} (h : t ∈ texts) : ∃ Y, TxY t Y := by
  obtain ⟨a, Y, b, c⟩ := text_yard h
  exact ⟨Y, h, a, b, c⟩
def sp_is_way (P : Program) (w : World) (T : TX K w mg) : Sp := fun vs H Q _ => ∃ (t : List Nat) (r a : Addr) (Y : Yd) (row : List Int) (ms : List Move), vs = [.str (txS t), .ref r, .ref a] ∧ TxY t Y ∧ RowAt H r row ∧ IsRow row ∧ row.length ≤ 60 ∧ MovesAt H a ms ∧
  ∀ H' (b : Bool), Same H H' → (b = true → Way Y row) → Q (.bl b) H'
theorem c_is_way (T : TX K w mg) : C8.Cal P w K mg base 6 "is_way" (sp_is_way P w T) [] := by
  obtain ⟨f, fd, F, b⟩ := T.fn_is_way
  refine C8.cal0 F b .nil sc_is_way (fun vs H Q E h => by obtain ⟨_, _, _, _, _, _, rfl, _⟩ := h; rfl) (fun cdv A outer s H vs Q E hr h => ?_)
  have hu := hu_of hr
  have nd := sc_is_way.nd
  refine ⟨_, (pss_cons (ps_set (i := 3) nd rfl (Or.inl rfl) (C8.pe_c (c__track T) hr (by decide) rfl (pa_cons (pv 0) pa_nil)))
      (pss_cons (ps_expr (C8.pe_c (c__check_row T) hr (by decide) rfl (pa_cons (pv 1) pa_nil)))
      (pss_one (ps_ret (C8.pe_c (c__sorts T) hr (by decide) rfl (pa_cons (pv 3) (pa_cons (pv 1) (pa_cons (pv 2) pa_nil)))))))), ?_⟩
  obtain ⟨t, r, a, Y, row, ms, rfl, ty, ra, ir, few, ma, k⟩ := h
  refine ⟨_, rfl, t, Y, rfl, ty.sg, ty.parse, fun H1 p ll s1 on => ?_⟩
  refine ⟨_, rfl, r, row, rfl, s1 _ _ ra, ir, few, fun H2 s2 => ?_⟩
  have s12 := Same.trans s1 s2
  exact ⟨_, rfl, _, rfl, _, rfl, p, r, a, Y, row, ms, rfl, (on.mono s2).at, s12 _ _ ra, ma.mono s12, ty.ok, few, fun H3 b s3 hb => k _ b (Same.trans s12 s3) hb⟩
def sp_is_closed_list (P : Program) (w : World) (T : TX K w mg) : Sp := fun vs H Q _ => ∃ (t : List Nat) (r a : Addr) (Y : Yd) (row : List Int) (Ss : List (Sit × Addr)), vs = [.str (txS t), .ref r, .ref a] ∧ TxY t Y ∧ RowAt H r row ∧ IsRow row ∧ row.length ≤ 60 ∧ SitsAt H a Ss ∧ (∀ x ∈ Ss, WFS Y row x.1) ∧ Ss.length ≤ 5000 ∧
  ∀ H' (b : Bool), Same H H' → (b = true → ¬ Way Y row) → Q (.bl b) H'
theorem c_is_closed_list (T : TX K w mg) : C8.Cal P w K mg base 6 "is_closed_list" (sp_is_closed_list P w T) [] := by
  obtain ⟨f, fd, F, b⟩ := T.fn_is_closed_list
  refine C8.cal0 F b .nil sc_is_closed_list (fun vs H Q E h => by obtain ⟨_, _, _, _, _, _, rfl, _⟩ := h; rfl) (fun cdv A outer s H vs Q E hr h => ?_)
  have hu := hu_of hr
  have nd := sc_is_closed_list.nd
  refine ⟨_, (pss_cons (ps_set (i := 3) nd rfl (Or.inl rfl) (C8.pe_c (c__track T) hr (by decide) rfl (pa_cons (pv 0) pa_nil)))
      (pss_cons (ps_expr (C8.pe_c (c__check_row T) hr (by decide) rfl (pa_cons (pv 1) pa_nil)))
      (pss_one (ps_ret (C8.pe_c (c__is_closed T) hr (by decide) rfl (pa_cons (pv 3) (pa_cons (pv 1) (pa_cons (pv 2) pa_nil)))))))), ?_⟩
  obtain ⟨t, r, a, Y, row, Ss, rfl, ty, ra, ir, few, sa, wf, many, k⟩ := h
  refine ⟨_, rfl, t, Y, rfl, ty.sg, ty.parse, fun H1 p ll s1 on => ?_⟩
  refine ⟨_, rfl, r, row, rfl, s1 _ _ ra, ir, few, fun H2 s2 => ?_⟩
  have s12 := Same.trans s1 s2
  exact ⟨_, rfl, _, rfl, _, rfl, p, ll, r, a, Y, row, Ss, rfl, on.mono s2, s12 _ _ ra, sa.mono s12, wf, many, ty.ok, few, fun H3 b s3 hb => k _ b (Same.trans s12 s3) hb⟩
/-- a loop over enumerate of a list -/
theorem for_enum {K : PySem.W.Frag} {a : Addr} {xs : List V} {g : TG} {tb : TS} {D : Ends} {σ : L2.St} {H : Hp} (Pv : Nat → L2.St → Hp → Prop) (h0 : Pv 0 σ H) (hq : ∀ i σ H, Pv i σ H → SqL K H a xs)
    (hs : ∀ (i : Nat) (x : V) (T : Addr) (σ : L2.St) (H : Hp), xs[i]? = some x → Pv i σ H → H T = none → g (.ref T) σ (upd H T (.tup [.int (i : Nat), x])) fun σ2 H2 => tb { D with nx := Pv (i + 1), ct := Pv (i + 1), bk := D.nx } σ2 H2) (hd : ∀ σ H, Pv xs.length σ H → D.nx σ H) :
    ∃ W : Nat → Nat → L2.St → Hp → Prop, (∃ m, W 0 m σ H) ∧ ∀ i m σ H, W i m σ H →
      ((Ite K a).stop i H ∧ D.nx σ H) ∨ ((Ite K a).go i H ∧ ∃ N : L2.St → Hp → Prop, (∀ σ' H', N σ' H' → ∃ m', m' < m ∧ W (i + 1) m' σ' H') ∧ ∀ v H', (Ite K a).yld i H v H' → g v σ H' fun σ2 H2 => tb { D with nx := N, ct := N, bk := D.nx } σ2 H2) := by
  refine ⟨fun i m σ H => m = xs.length - i ∧ i ≤ xs.length ∧ Pv i σ H, ⟨_, rfl, Nat.zero_le _, h0⟩, ?_⟩
  rintro i m σ H ⟨rfl, hi, p⟩
  have qx := hq i σ H p
  by_cases hlt : i < xs.length
  · have hx : xs[i]? = some (xs[i]'hlt) := List.getElem?_eq_getElem hlt
    refine .inr ⟨⟨xs, _, qx, hx⟩, Pv (i + 1), fun σ' H' p' => ⟨xs.length - (i + 1), by omega, rfl, hlt, p'⟩, fun v H' y => ?_⟩
    obtain ⟨T, x', rfl, hT, rfl, f1⟩ := y
    exact hs i x' T σ H (f1 xs qx) p hT
  · have e : i = xs.length := by omega
    subst e
    exact .inl ⟨⟨xs, qx, Nat.le_refl _⟩, hd σ H p⟩
def WaysAt (H : Hp) (a : Addr) (wss : List (List Move)) : Prop := ∃ as : List Addr, H a = some (.lst (as.map V.ref)) ∧ Paired (fun x ms => MovesAt H x ms) as wss
theorem WaysAt.mono {H H' : Hp} {a : Addr} {ms : List (List Move)} (e : Same H H') (h : WaysAt H a ms) : WaysAt H' a ms := by
  obtain ⟨as, h1, h2⟩ := h
  exact ⟨as, e _ _ h1, Paired.mapP h2 fun _ _ q => q.mono e⟩
theorem rem_snoc (w : Int) (l : List Int) (x : Int) : rem w (l ++ [x]) = rem w l ++ (if x = w then [] else [dec w x]) := by
  rw [rem_append]
  by_cases e : x = w
  · rw [if_pos e, e, rem_one_self]
  · rw [if_neg e, rem_one e]
def sp_is_least_row (P : Program) (w : World) (T : TX K w mg) : Sp := fun vs H Q _ => ∃ (t : List Nat) (r a b : Addr) (Y : Yd) (row : List Int) (Ss : List (Sit × Addr)) (wss : List (List Move)), vs = [.str (txS t), .ref r, .ref a, .ref b] ∧ TxY t Y ∧ RowAt H r row ∧ IsRow row ∧ row.length ≤ 60 ∧ SitsAt H a Ss ∧ (∀ x ∈ Ss, WFS Y row x.1) ∧ Ss.length ≤ 5000 ∧ WaysAt H b wss ∧
  ∀ H' (b : Bool), Same H H' → (b = true → ∀ w : Nat, 1 ≤ w → w ≤ row.length → Way Y (rem (w : Int) row)) → Q (.bl b) H'
theorem c_is_least_row (T : TX K w mg) : C8.Cal P w K mg base 6 "is_least_row" (sp_is_least_row P w T) [] := by
  obtain ⟨f, fd, F, b⟩ := T.fn_is_least_row
  refine C8.cal0 F b .nil sc_is_least_row (fun vs H Q E h => by obtain ⟨_, _, _, _, _, _, _, _, rfl, _⟩ := h; rfl) (fun cdv A outer s H vs Q E hr h => ?_)
  have hu := hu_of hr
  have nd := sc_is_least_row.nd
  refine ⟨_, (pss_cons (ps_set (i := 4) nd rfl (Or.inl rfl) (C8.pe_c (c__track T) hr (by decide) rfl (pa_cons (pv 0) pa_nil)))
      (pss_cons (ps_expr (C8.pe_c (c__check_row T) hr (by decide) rfl (pa_cons (pv 1) pa_nil)))
      (pss_cons (ps_if (PW.pt (pw_or (pt_cmpR op_ne (pe_callB (call_lenK (K := K) rfl) (by rfl) T.b_len PySem.boot_len (pa_cons (pv 3) pa_nil)) (pe_callB (call_lenK (K := K) rfl) (by rfl) T.b_len PySem.boot_len (pa_cons (pv 1) pa_nil)) (nomark _)) (pw_or1 (pt_not (pt_val (C8.pe_c (c__is_closed T) hr (by decide) rfl (pa_cons (pv 4) (pa_cons (pv 1) (pa_cons (pv 2) pa_nil))))))))) (pss_one (ps_ret pe_bl)) pss_nil)
      (pss_cons (ps_for PassesOwn.never rfl (pi_enum (by rfl) T.b_enumerate (pa_cons (pv 3) pa_nil)) (pg_tup (by rfl) (pgs_cons (pg_name (i := 5) nd rfl (Or.inr rfl)) (pgs_cons (pg_name (i := 6) nd rfl (Or.inl rfl)) pgs_nil))) (pss_cons (ps_setLc (own := [("wagon", 8)]) (i := 7) rfl nd rfl rfl (sw_true rfl rfl rfl (by decide +kernel)) (pi_list (pv 1)) (blkOk_by (N := N_is_least_row) (sc := C8.fnScope s_is_least_row) (by decide +kernel)) (fun _ _ _ _ _ => (pg_name (i := 8) nd rfl (Or.inl rfl))) (fun _ _ _ _ _ => (pts_one (pt_cmpR op_ne (pv 8) (pe_op op_add (pv 5) pe_int) (nomark _)))) (fun _ _ _ _ _ => (pe_op op_sub (pv 8) (pe_callTy call_int1 (by rfl) T.b_int boot_int_ (pa_cons (pe_cmpR op_gt (pv 8) (pe_op op_add (pv 5) pe_int) (nomark _)) pa_nil)))))
      (pss_one (ps_if (pt_not (pt_val (C8.pe_c (c__sorts T) hr (by decide) rfl (pa_cons (pv 4) (pa_cons (pv 7) (pa_cons (pv 6) pa_nil)))))) (pss_one (ps_ret pe_bl)) pss_nil))))
      (pss_one (ps_ret pe_bl)))))), ?_⟩
  obtain ⟨t, r, a, bw, Y, row, Ss, wss, rfl, ty, ra, ir, few, sa, wf, many, ⟨as, wa, wp⟩, k⟩ := h
  have hn : as.length = wss.length := paired_len wp
  refine ⟨_, rfl, t, Y, rfl, ty.sg, ty.parse, fun H1 p ll s1 on => ?_⟩
  refine ⟨_, rfl, r, row, rfl, s1 _ _ ra, ir, few, fun H2 s2 => ?_⟩
  have s12 := Same.trans s1 s2
  refine ⟨_, rfl, bw, _, rfl, .inl (SqL.of (s12 _ _ wa)), _, rfl, r, _, rfl, .inl (SqL.of (s12 _ _ ra)), rfl, _, rfl, ite_ne (fun _ => iteT (k _ false s12 (fun z => by cases z))) (fun hl => ?_)⟩
  rw [List.length_map, List.length_map] at hl
  have hl : as.length = row.length := by omega
  refine ⟨_, rfl, _, rfl, _, rfl, p, ll, r, a, Y, row, Ss, rfl, on.mono s2, s12 _ _ ra, sa.mono s12, wf, many, ty.ok, few, fun H3 b s3 hb => ⟨_, rfl, ?_⟩⟩
  have s13 := Same.trans s12 s3
  refine ite2 (fun _ => k _ false s13 (fun z => by cases z)) (fun _ => ?_)
  refine ⟨_, rfl, bw, _, rfl, SqL.of (s13 _ _ wa), ?_⟩
  refine for_enum (xs := as.map V.ref) (fun i σ H' => ∃ u5 u6 u7, σ = [some (.str (txS t)), some (.ref r), some (.ref a), some (.ref bw), some (.ref p), u5, u6, u7, none] ∧ Same H H' ∧ TrackAt T H' p Y ∧ ∀ w : Nat, 1 ≤ w → w ≤ i → Way Y (rem (w : Int) row))
    ⟨_, _, _, rfl, s13, ((on.mono s2).mono s3).at, fun w a b => by omega⟩ (fun _ _ _ ⟨_, _, _, _, s, _⟩ => SqL.of (s _ _ wa)) ?_ ?_
  · rintro i x Tt σ H4 hx ⟨u5, u6, u7, rfl, s4, on4, done⟩ nT
    obtain ⟨wv, hw, rfl⟩ := getElem?_map_ref hx
    have hi := get_lt hw
    obtain ⟨ms, hms⟩ := get_some (L := wss) (i := i) (by omega)
    obtain ⟨wv', e1, mv⟩ := paired_get' wp hms
    obtain rfl : wv' = wv := Option.some.inj (e1.symm.trans hw)
    have s5 := Same.add s4 nT (o := .tup [.int (i : Nat), .ref wv'])
    refine ⟨Tt, _, rfl, SqT.of' upd_same, rfl, _, _, rfl, _, _, rfl, rfl, ?_⟩
    refine ⟨_, rfl, r, rfl, ⟨_, SqL.of (s5 _ _ ra)⟩, fun D nD => ?_⟩
    refine lc_list (K := K) (a := r) (xs := row.map V.int) (fun j H' => Same H H' ∧ Same (upd H4 Tt (.tup [.int (i : Nat), .ref wv'])) H' ∧ H' D = some (.lst ((rem ((i : Int) + 1) (row.take j)).map V.int))) ⟨Same.add s5 nD, Same.new nD, upd_same⟩ (fun _ _ _ s => SqL.of (s.1 _ _ ra)) ?_ ?_
    · rintro j x H5 hx ⟨s6, s6', hD⟩
      have hj := get_lt hx
      rw [List.length_map] at hj
      obtain ⟨v, hv⟩ := get_some hj
      obtain rfl : x = V.int v := Option.some.inj (hx.symm.trans (map_at hv))
      have nDo : H D = none := Same.free s5 nD
      rw [take_snoc hv, rem_snoc]
      refine ⟨rfl, _, rfl, _, rfl, _, _, rfl, rfl, rfl, _, rfl, ite_ne (fun z => ?_) (fun z => ?_)⟩
      · rw [if_neg z]
        refine ⟨_, rfl, _, rfl, _, rfl, _, _, rfl, rfl, _, _, rfl, rfl, .inr ⟨_, rfl, _, _, rfl, rfl, _, hD, sz_lt ?_, ?_⟩⟩
        · have := rem_length ((i : Int) + 1) (row.take j)
          rw [List.length_take] at this
          rw [List.length_map]
          omega
        · have e : v - (if decide ((i : Int) + 1 < v) = true then 1 else 0) = dec ((i : Int) + 1) v := by
            unfold dec
            by_cases y : (i : Int) + 1 < v
            · rw [if_pos y, if_pos (decide_eq_true y)]
            · rw [if_neg y, if_neg (fun q => y (of_decide_eq_true q))]; omega
          dsimp only
          rw [e]
          refine ⟨Same.mut s6 nDo, Same.mut s6' nD, ?_⟩
          rw [upd_same, List.map_append]
          rfl
      · rw [if_pos z, List.append_nil]
        exact ⟨s6, s6', hD⟩
    · rintro H5 ⟨s6, s6', hD⟩
      rw [List.length_map, List.take_length] at hD
      have sh : (rem ((i : Int) + 1) row).length ≤ row.length := rem_length _ _
      refine ⟨_, rfl, _, rfl, _, rfl, p, D, wv', Y, rem ((i : Int) + 1) row, ms, rfl, (on4.mono (Same.new nT)).mono s6', hD, mv.mono s6, ty.ok, by omega, fun H6 b s7 hb => ⟨_, rfl, ?_⟩⟩
      have s8 := Same.trans s6 s7
      refine ite2 (fun _ => k _ false s8 (fun z => by cases z)) (fun z => ?_)
      refine ⟨_, _, _, rfl, s8, ((on4.mono (Same.new nT)).mono s6').mono s7, fun w h1 h2 => ?_⟩
      by_cases hw : w ≤ i
      · exact done w h1 hw
      · have : b = true := by simpa using z
        obtain rfl : w = i + 1 := by omega
        exact hb this
  · rintro σ H4 ⟨u5, u6, u7, rfl, s4, on4, done⟩
    rw [List.length_map] at done
    exact k _ true s4 fun _ w h1 h2 => done w h1 (by omega)
end
end K92

/-! K92I: the program reads a text. -/
set_option Elab.async false
set_option linter.all false
set_option maxRecDepth 100000
set_option maxHeartbeats 4000000
set_option autoImplicit false
namespace K92
open PySem PySem.Spec PyProof.Rows L2
section
variable {P : Program} {w : World} {K : PySem.W.Frag} {mg : Str → Option Value} {base : Heap}
/-! ### the reading, mirrored -/
structure RG where
  sign : Nat
  ys : List (List Int × List Int)
structure RSt where
  pos : Nat
  kinds : List Nat
  bounds : List Nat
  links : List (Int × Int)
  groups : List RG
def rOpen (txt : List Nat) : Nat → RSt → Option RSt
  | 0, _ => none
  | n + 1, st => match txt[st.pos]? with
    | none => some st
    | some c => if c = 40 ∨ c = 91 then (if st.groups.length < 8 then rOpen txt n { st with pos := st.pos + 1, groups := ⟨c, []⟩ :: st.groups } else none) else some st
def rDevice (txt : List Nat) (s : RSt) : Option (Nat × RSt) := match txt[s.pos]? with
    | none => none
    | some c => if c ∈ letters ∧ s.kinds.length < 8 ∧ s.bounds.length < 8 then
        some (s.kinds.length, { s with kinds := s.kinds ++ [c], pos := (bndOf txt (s.pos + 1)).2, bounds := s.bounds ++ [(bndOf txt (s.pos + 1)).1] }) else none
def rFirst (txt : List Nat) (st : RSt) : Option (Nat × RSt) := (rOpen txt 100 st).bind (rDevice txt)
def rPairs (ys : List (List Int × List Int)) : List (Int × Int) := (List.range (ys.length - 1)).flatMap fun i => (ys.getD i ([], [])).2.flatMap fun o => (ys.getD (i + 1) ([], [])).1.map fun e => (o, e)
def rJoin (sg : Nat) (ys : List (List Int × List Int)) : List Int × List Int :=
  if sg = 91 then (ys.flatMap (·.1), ys.flatMap (·.2)) else ((ys.getD 0 ([], [])).1, (ys.getD (ys.length - 1) ([], [])).2)
def rSmall (ys : List (List Int × List Int)) : Bool := decide (ys.length ≤ 20) && ys.all fun y => decide (y.1.length ≤ 20) && decide (y.2.length ≤ 20)
def rClose (txt : List Nat) : Nat → List Int × List Int → RSt → Option ((List Int × List Int) × RSt)
  | 0, _, _ => none
  | n + 1, yd, st => match st.groups with
    | [] => some (yd, st)
    | g :: gs => if ¬ (g.sign = 40 ∨ g.sign = 91) then none else if txt[st.pos]? ≠ some (clos g.sign) ∨ g.ys = [] then some (yd, st)
      else if rSmall (g.ys ++ [yd]) = true ∧ st.links.length ≤ 1000 then rClose txt n (rJoin g.sign (g.ys ++ [yd])) { st with groups := gs, pos := st.pos + 1, links := st.links ++ (if g.sign = 91 then [] else rPairs (g.ys ++ [yd])) } else none
def rWhole (txt : List Nat) : Nat → RSt → Option ((List Int × List Int) × RSt)
  | 0, _ => none
  | n + 1, st => (rFirst txt st).bind fun p => (rClose txt 100 ([(p.1 : Int)], [(p.1 : Int)]) p.2).bind fun r => match r.2.groups with
    | [] => if txt.length ≤ r.2.pos then some r else none
    | g :: gs => if txt[r.2.pos]? = some 32 ∧ g.ys.length ≤ 20 then rWhole txt n { r.2 with pos := r.2.pos + 1, groups := { g with ys := g.ys ++ [r.1] } :: gs } else none
def rinit : RSt := ⟨0, [], [], [], []⟩
/-! ### its place in the heap -/
structure YA where
  t : Addr
  e : Addr
  x : Addr
  ent : List Int
  exi : List Int
structure GB where
  g : Addr
  dx : Addr
  y : Addr
  sign : Nat
  ys : List YA
def YA.abs (y : YA) : List Int × List Int := (y.ent, y.exi)
def GB.abs (b : GB) : RG := ⟨b.sign, b.ys.map YA.abs⟩
def yIn (J : List (Addr × HO)) (y : YA) : Prop := (y.t, HO.tup [.ref y.e, .ref y.x]) ∈ J ∧ (y.e, intsO y.ent) ∈ J ∧ (y.x, intsO y.exi) ∈ J
theorem yIn.mono {J J' : List (Addr × HO)} {y : YA} (h : yIn J y) (s : ∀ x ∈ J, x ∈ J') : yIn J' y := ⟨s _ h.1, s _ h.2.1, s _ h.2.2⟩
def pairO (l : Int × Int) : HO := .tup [.int l.1, .int l.2]
def bndV (b : Nat) : V := if b = 0 then .non else .int (b : Int)
def gobR (T : TX K w mg) (b : GB) : List (Addr × HO) := [(b.g, .ins T.cGroup b.dx [("sign", .str (ch b.sign)), ("yards", .ref b.y)]), (b.y, .lst (b.ys.map fun y => V.ref y.t))]
def RL (T : TX K w mg) (p dx lk lb ll lg : Addr) (txt : List Nat) (st : RSt) (LK : List (Addr × Int × Int)) (gs os : List GB) : List (Addr × HO) :=
  (p, .ins T.cReading dx (trackF (txS txt) (st.pos : Int) lk lb ll lg)) :: (lk, .lst (st.kinds.map fun c => V.str (ch c))) :: (lb, .lst (st.bounds.map bndV)) :: (ll, .lst (LK.map fun x => V.ref x.1)) ::
    (lg, .lst (gs.reverse.map fun b => V.ref b.g)) :: os.flatMap (gobR T)
structure RdF (T : TX K w mg) (H0 H : Hp) (p dx lk lb ll lg : Addr) (txt : List Nat) (st : RSt) (LK : List (Addr × Int × Int)) (gs os : List GB) (J : List (Addr × HO)) : Prop where
  eg : gs.map GB.abs = st.groups
  el : LK.map (·.2) = st.links
  f : Fr H0 H (RL T p dx lk lb ll lg txt st LK gs os) J
  jl : ∀ x ∈ LK, (x.1, pairO x.2) ∈ J
  jg : ∀ b ∈ os, ∀ y ∈ b.ys, yIn J y
structure RdG (T : TX K w mg) (H0 H : Hp) (p : Addr) (txt : List Nat) (st : RSt) (I : List YA) : Prop where
  ex : ∃ dx lk lb ll lg LK gs J, RdF T H0 H p dx lk lb ll lg txt st LK gs gs J ∧ ∀ y ∈ I, yIn J y
section
variable {T : TX K w mg} {H0 H : Hp} {p dx lk lb ll lg : Addr} {txt : List Nat} {st : RSt} {LK : List (Addr × Int × Int)} {gs os : List GB} {J : List (Addr × HO)}
theorem RL_p (f : Fr H0 H (RL T p dx lk lb ll lg txt st LK gs os) J) : H p = some (.ins T.cReading dx (trackF (txS txt) (st.pos : Int) lk lb ll lg)) := f.get (.head _)
theorem RL_k (f : Fr H0 H (RL T p dx lk lb ll lg txt st LK gs os) J) : H lk = some (.lst (st.kinds.map fun c => V.str (ch c))) := f.get (.tail _ (.head _))
theorem RL_b (f : Fr H0 H (RL T p dx lk lb ll lg txt st LK gs os) J) : H lb = some (.lst (st.bounds.map bndV)) := f.get (.tail _ (.tail _ (.head _)))
theorem RL_l (f : Fr H0 H (RL T p dx lk lb ll lg txt st LK gs os) J) : H ll = some (.lst (LK.map fun x => V.ref x.1)) := f.get (.tail _ (.tail _ (.tail _ (.head _))))
theorem RL_g (f : Fr H0 H (RL T p dx lk lb ll lg txt st LK gs os) J) : H lg = some (.lst (gs.reverse.map fun b => V.ref b.g)) := f.get (.tail _ (.tail _ (.tail _ (.tail _ (.head _)))))
theorem RL_glast {b : GB} (f : Fr H0 H (RL T p dx lk lb ll lg txt st LK (b :: gs) os) J) : H lg = some (.lst (gs.reverse.map (fun b => V.ref b.g) ++ [V.ref b.g])) := by
  rw [RL_g f, List.reverse_cons, List.map_append]; rfl
theorem RL_pos (f : Fr H0 H (RL T p dx lk lb ll lg txt st LK gs os) J) : Fr H0 (upd H p (.ins T.cReading dx (putF "at" (.int ((st.pos : Int) + 1)) (trackF (txS txt) (st.pos : Int) lk lb ll lg)))) (RL T p dx lk lb ll lg txt { st with pos := st.pos + 1 } LK gs os) J := f.set (L1 := [])
theorem RL_kinds {c : Nat} (f : Fr H0 H (RL T p dx lk lb ll lg txt st LK gs os) J) : Fr H0 (upd H lk (.lst (st.kinds.map (fun c => V.str (ch c)) ++ [V.str (ch c)]))) (RL T p dx lk lb ll lg txt { st with kinds := st.kinds ++ [c] } LK gs os) J := by
  have e : st.kinds.map (fun c => V.str (ch c)) ++ [V.str (ch c)] = (st.kinds ++ [c]).map fun c => V.str (ch c) := by rw [List.map_append]; rfl
  rw [e]
  exact f.set (L1 := [_])
theorem RL_bounds {b : Nat} (f : Fr H0 H (RL T p dx lk lb ll lg txt st LK gs os) J) : Fr H0 (upd H lb (.lst (st.bounds.map bndV ++ [bndV b]))) (RL T p dx lk lb ll lg txt { st with bounds := st.bounds ++ [b] } LK gs os) J := by
  have e : st.bounds.map bndV ++ [bndV b] = (st.bounds ++ [b]).map bndV := by rw [List.map_append]; rfl
  rw [e]
  exact f.set (L1 := [_, _])
theorem RL_links {a : Addr} {l : Int × Int} (f : Fr H0 H (RL T p dx lk lb ll lg txt st LK gs os) J) : Fr H0 (upd H ll (.lst (LK.map (fun x => V.ref x.1) ++ [V.ref a]))) (RL T p dx lk lb ll lg txt st (LK ++ [(a, l)]) gs os) J := by
  have e : LK.map (fun x => V.ref x.1) ++ [V.ref a] = (LK ++ [(a, l)]).map fun x => V.ref x.1 := by rw [List.map_append]; rfl
  rw [e]
  exact f.set (L1 := [_, _, _])
theorem RL_grp {b : GB} (f : Fr H0 H (RL T p dx lk lb ll lg txt st LK gs (b :: os)) J) : H b.g = some (.ins T.cGroup b.dx [("sign", .str (ch b.sign)), ("yards", .ref b.y)]) ∧ H b.y = some (.lst (b.ys.map fun y => V.ref y.t)) :=
  ⟨f.get (.tail _ (.tail _ (.tail _ (.tail _ (.tail _ (.head _)))))), f.get (.tail _ (.tail _ (.tail _ (.tail _ (.tail _ (.tail _ (.head _)))))))⟩
theorem RL_yard {b : GB} {y : YA} (f : Fr H0 H (RL T p dx lk lb ll lg txt st LK gs (b :: os)) J) : Fr H0 (upd H b.y (.lst (b.ys.map (fun y => V.ref y.t) ++ [V.ref y.t]))) (RL T p dx lk lb ll lg txt st LK gs ({ b with ys := b.ys ++ [y] } :: os)) J := by
  have e : b.ys.map (fun y => V.ref y.t) ++ [V.ref y.t] = (b.ys ++ [y]).map fun y => V.ref y.t := by rw [List.map_append]; rfl
  rw [e]
  exact f.set (L1 := [_, _, _, _, _, _])
theorem RL_pop {b : GB} (f : Fr H0 H (RL T p dx lk lb ll lg txt st LK (b :: gs) os) J) : Fr H0 (upd H lg (.lst (gs.reverse.map fun b => V.ref b.g))) (RL T p dx lk lb ll lg txt st LK gs os) J := f.set (L1 := [_, _, _, _])
theorem RL_drop {b : GB} (f : Fr H0 H (RL T p dx lk lb ll lg txt st LK gs (b :: os)) J) : Fr H0 H (RL T p dx lk lb ll lg txt st LK gs os) J := by
  refine f.sub ?_
  exact ((List.Sublist.cons _ (List.sublist_cons_self _ _)).cons₂ _).cons₂ _ |>.cons₂ _ |>.cons₂ _ |>.cons₂ _
theorem RL_push {b : GB} (f : Fr H0 H ((b.g, HO.ins T.cGroup b.dx [("sign", .str (ch b.sign)), ("yards", .ref b.y)]) :: (b.y, HO.lst []) :: RL T p dx lk lb ll lg txt st LK gs gs) J) (hb : b.ys = []) :
    Fr H0 (upd H lg (.lst (gs.reverse.map (fun b => V.ref b.g) ++ [V.ref b.g]))) (RL T p dx lk lb ll lg txt st LK (b :: gs) (b :: gs)) J := by
  have e1 : gs.reverse.map (fun b => V.ref b.g) ++ [V.ref b.g] = (b :: gs).reverse.map fun b => V.ref b.g := by rw [List.reverse_cons, List.map_append]; rfl
  have f2 := f.set (L1 := [_, _, _, _, _, _]) (a := lg) (o' := .lst (gs.reverse.map (fun b => V.ref b.g) ++ [V.ref b.g]))
  refine f2.perm ?_
  unfold RL
  rw [← e1, List.flatMap_cons]
  unfold gobR
  rw [hb]
  exact (List.perm_append_comm_assoc [(p, _), (lk, _), (lb, _), (ll, _), (lg, _)] [(b.g, _), (b.y, _)] (gs.flatMap (gobR T)))
end
theorem RdG.mono {T : TX K w mg} {H0 H H' : Hp} {p : Addr} {txt : List Nat} {st : RSt} {I : List YA} (s : Same H H') (h : RdG T H0 H p txt st I) : RdG T H0 H' p txt st I := by
  obtain ⟨dx, lk, lb, ll, lg, LK, gs, J, ⟨a, b, c, d, e⟩, g⟩ := h.ex
  exact ⟨dx, lk, lb, ll, lg, LK, gs, J, ⟨a, b, c.mono s, d, e⟩, g⟩
def sp_Group_init (P : Program) (w : World) (T : TX K w mg) : Sp := fun vs H Q _ => ∃ (H0 : Hp) (p dx : Addr) (c : Nat) (L J : List (Addr × HO)), vs = [.ref p, .str (ch c)] ∧ Fr H0 H ((p, .ins T.cGroup dx []) :: L) J ∧
  ∀ H' y, Fr H0 H' ((p, .ins T.cGroup dx [("sign", .str (ch c)), ("yards", .ref y)]) :: (y, .lst []) :: L) J → Q .non H'
theorem c_Group_init (T : TX K w mg) : C8.Mak P w K mg base 1 "Group" T.cGroup (sp_Group_init P w T) [] := by
  obtain ⟨f, fd, me, F, b⟩ := T.fn_Group_init
  refine C8.mak0 me T.g_Group F b .nil sc_Group_init (fun vs H Q E h => by obtain ⟨_, _, _, _, _, _, rfl, _⟩ := h; rfl) (fun cdv A outer s H vs Q E hr h => ?_)
  have hu := hu_of hr
  have nd := sc_Group_init.nd
  refine ⟨_, (pss_cons (ps_fld (pv 0) (pv 1) rfl)
      (pss_one (ps_fld (pv 0) (pe_lst pa_nil) rfl))), ?_⟩
  obtain ⟨H0, p, dx, c, L, J, rfl, f, k⟩ := h
  refine ⟨_, rfl, _, rfl, p, _, dx, _, rfl, f.get (.head _), T.clGroup, T.na_Group_sign, Nat.le_of_ble_eq_true rfl, ?_⟩
  replace f := f.set (L1 := []) (o' := .ins T.cGroup dx [("sign", .str (ch c))])
  refine ⟨sz_le (Nat.le_of_ble_eq_true rfl), fun y ny => ?_⟩
  replace f := (f.new_own (o := .lst []) ny).perm (List.Perm.swap ..)
  refine ⟨_, rfl, p, _, dx, _, rfl, f.get (.head _), T.clGroup, T.na_Group_yards, Nat.le_of_ble_eq_true rfl, ?_⟩
  exact k _ y (f.set (L1 := []) (o' := .ins T.cGroup dx [("sign", .str (ch c)), ("yards", .ref y)]))
def sp_Reading_init (P : Program) (w : World) (T : TX K w mg) : Sp := fun vs H Q _ => ∃ (H0 : Hp) (p dx : Addr) (txt : List Nat), vs = [.ref p, .str (txS txt)] ∧ Fr H0 H [(p, .ins T.cReading dx [])] [] ∧ ∀ H', RdG T H0 H' p txt rinit [] → Q .non H'
theorem c_Reading_init (T : TX K w mg) : C8.Mak P w K mg base 1 "Reading" T.cReading (sp_Reading_init P w T) [] := by
  obtain ⟨f, fd, me, F, b⟩ := T.fn_Reading_init
  refine C8.mak0 me T.g_Reading F b .nil sc_Reading_init (fun vs H Q E h => by obtain ⟨_, _, _, _, rfl, _⟩ := h; rfl) (fun cdv A outer s H vs Q E hr h => ?_)
  have hu := hu_of hr
  have nd := sc_Reading_init.nd
  refine ⟨_, (pss_cons (ps_fld (pv 0) (pv 1) rfl)
      (pss_cons (ps_fld (pv 0) pe_int rfl)
      (pss_cons (ps_fld (pv 0) (pe_lst pa_nil) rfl)
      (pss_cons (ps_fld (pv 0) (pe_lst pa_nil) rfl)
      (pss_cons (ps_fld (pv 0) (pe_lst pa_nil) rfl)
      (pss_one (ps_fld (pv 0) (pe_lst pa_nil) rfl))))))), ?_⟩
  obtain ⟨H0, p, dx, txt, rfl, f, k⟩ := h
  refine ⟨_, rfl, _, rfl, p, _, dx, _, rfl, f.get (.head _), T.clReading, T.na_Reading_text, Nat.le_of_ble_eq_true rfl, ?_⟩
  replace f := f.set (L1 := []) (o' := .ins T.cReading dx [("text", .str (txS txt))])
  refine ⟨_, rfl, p, _, dx, _, rfl, f.get (.head _), T.clReading, T.na_Reading_at, Nat.le_of_ble_eq_true rfl, ?_⟩
  replace f := f.set (L1 := []) (o' := .ins T.cReading dx [("text", .str (txS txt)), ("at", .int 0)])
  refine ⟨sz_le (Nat.le_of_ble_eq_true rfl), fun lk nlk => ?_⟩
  replace f := (f.new_own (o := .lst []) nlk).perm (List.Perm.swap ..)
  refine ⟨_, rfl, p, _, dx, _, rfl, f.get (.head _), T.clReading, T.na_Reading_kinds, Nat.le_of_ble_eq_true rfl, ?_⟩
  replace f := f.set (L1 := []) (o' := .ins T.cReading dx [("text", .str (txS txt)), ("at", .int 0), ("kinds", .ref lk)])
  refine ⟨sz_le (Nat.le_of_ble_eq_true rfl), fun lb nlb => ?_⟩
  replace f := (f.new_own (o := .lst []) nlb).perm (List.Perm.swap ..)
  refine ⟨_, rfl, p, _, dx, _, rfl, f.get (.head _), T.clReading, T.na_Reading_bounds, Nat.le_of_ble_eq_true rfl, ?_⟩
  replace f := f.set (L1 := []) (o' := .ins T.cReading dx [("text", .str (txS txt)), ("at", .int 0), ("kinds", .ref lk), ("bounds", .ref lb)])
  refine ⟨sz_le (Nat.le_of_ble_eq_true rfl), fun ll nll => ?_⟩
  replace f := (f.new_own (o := .lst []) nll).perm (List.Perm.swap ..)
  refine ⟨_, rfl, p, _, dx, _, rfl, f.get (.head _), T.clReading, T.na_Reading_links, Nat.le_of_ble_eq_true rfl, ?_⟩
  replace f := f.set (L1 := []) (o' := .ins T.cReading dx [("text", .str (txS txt)), ("at", .int 0), ("kinds", .ref lk), ("bounds", .ref lb), ("links", .ref ll)])
  refine ⟨sz_le (Nat.le_of_ble_eq_true rfl), fun lg nlg => ?_⟩
  replace f := (f.new_own (o := .lst []) nlg).perm (List.Perm.swap ..)
  refine ⟨_, rfl, p, _, dx, _, rfl, f.get (.head _), T.clReading, T.na_Reading_groups, Nat.le_of_ble_eq_true rfl, ?_⟩
  replace f := f.set (L1 := []) (o' := .ins T.cReading dx [("text", .str (txS txt)), ("at", .int 0), ("kinds", .ref lk), ("bounds", .ref lb), ("links", .ref ll), ("groups", .ref lg)])
  exact k _ ⟨dx, lk, lb, ll, lg, [], [], [], ⟨rfl, rfl, f.perm ((List.reverse_perm [_, _, _, _]).cons _), (by intro _ z; cases z), (by intro _ z; cases z)⟩, (by intro _ z; cases z)⟩
def sp_Reading_sign (P : Program) (w : World) (T : TX K w mg) : Sp := fun vs H Q _ => ∃ (p dx lk lb ll lg : Addr) (txt : List Nat) (i : Nat), vs = [.ref p] ∧ H p = some (.ins T.cReading dx (trackF (txS txt) (i : Int) lk lb ll lg)) ∧ txt.length ≤ 1000 ∧ Q (.str (sgS txt[i]?)) H
theorem c_Reading_sign (T : TX K w mg) : C8.Met P w K mg base 1 T.cReading "sign" (sp_Reading_sign P w T) [] := by
  obtain ⟨f, fd, me, F, b⟩ := T.fn_Reading_sign
  refine C8.met0 T.clReading me F b sc_Reading_sign (fun vs H Q E h => by obtain ⟨_, _, _, _, _, _, _, _, rfl, _⟩ := h; rfl) (fun cdv A outer s H vs Q E hr h => ?_)
  have hu := hu_of hr
  have nd := sc_Reading_sign.nd
  refine ⟨_, (pss_one (ps_ret (pe_slice C8.sl_txt (pe_fld (pv 0) rfl) (po_some (pe_fld (pv 0) rfl)) (po_some (pe_op op_add (pe_fld (pv 0) rfl) pe_int))))), ?_⟩
  obtain ⟨p, dx, lk, lb, ll, lg, txt, i, rfl, h1, hl, k⟩ := h
  refine ⟨_, rfl, p, _, dx, _, _, rfl, h1, T.clReading, T.na_Reading_text, rfl, _, rfl, p, _, dx, _, _, rfl, h1, T.clReading, T.na_Reading_at, rfl, _, rfl, _, rfl, p, _, dx, _, _, rfl, h1, T.clReading, T.na_Reading_at, rfl, _, _, rfl, rfl, _, rfl, _, rfl, ?_, ?_⟩
  · refine sz_le ?_
    show txt.toArray.size ≤ _
    rw [List.size_toArray]
    omega
  · rw [sign_slice]
    exact k
def sp_Reading_device (P : Program) (w : World) (T : TX K w mg) : Sp := fun vs H Q _ => ∃ (H0 : Hp) (p : Addr) (txt : List Nat) (st st' : RSt) (d : Nat), vs = [.ref p] ∧ RdG T H0 H p txt st [] ∧ signsOk txt ∧ rDevice txt st = some (d, st') ∧
  ∀ H' y, y.abs = ([(d : Int)], [(d : Int)]) → RdG T H0 H' p txt st' [y] → Q (.ref y.t) H'
theorem c_Reading_device (T : TX K w mg) : C8.Met P w K mg base 2 T.cReading "device" (sp_Reading_device P w T) [] := by
  obtain ⟨f, fd, me, F, b⟩ := T.fn_Reading_device
  refine C8.met0 T.clReading me F b sc_Reading_device (fun vs H Q E h => by obtain ⟨_, _, _, _, _, _, rfl, _⟩ := h; rfl) (fun cdv A outer s H vs Q E hr h => ?_)
  have hu := hu_of hr
  have nd := sc_Reading_device.nd
  refine ⟨_, (pss_cons (ps_if (pt_cmpR op_eq (pe_callB (call_lenK (K := K) rfl) (by rfl) T.b_len PySem.boot_len (pa_cons (pe_fld (pv 0) rfl) pa_nil)) (C8.pe_gc rfl T.g_MOST_yards) (nomark _)) (pss_one ps_never) pss_nil)
      (pss_cons (ps_set (i := 1) nd rfl (Or.inl rfl) (pe_callB (call_lenK (K := K) rfl) (by rfl) T.b_len PySem.boot_len (pa_cons (pe_fld (pv 0) rfl) pa_nil)))
      (pss_cons (ps_expr (pe_bm PySem.F.plainAttrs_list PySem.F.slot_list_append PySem.F.type_list_append mt_append (pe_fld (pv 0) rfl) (pa_cons (C8.pe_mt0 (c_Reading_sign T) hr (by decide) (pv 0)) pa_nil)))
      (pss_cons (ps_fldaug (pv 0) pe_int in_add)
      (pss_cons (ps_set (i := 2) nd rfl (Or.inl rfl) pe_non)
      (C8.pss_cut (ps_if (PW.pt (pw_and (pt_cmpR op_ne (C8.pe_mt0 (c_Reading_sign T) hr (by decide) (pv 0)) pe_str (nomark _)) (pw_and1 (pt_cmpR op_in_sign (C8.pe_mt0 (c_Reading_sign T) hr (by decide) (pv 0)) (C8.pe_gc rfl T.g_BOUNDS) (by rfl))))) (pss_cons (ps_set (i := 2) nd rfl (Or.inl rfl) (pe_callTy call_int_str (by rfl) T.b_int boot_int_ (pa_cons (C8.pe_mt0 (c_Reading_sign T) hr (by decide) (pv 0)) pa_nil)))
      (pss_one (ps_fldaug (pv 0) pe_int in_add))) pss_nil)
      (pss_cons (ps_expr (pe_bm PySem.F.plainAttrs_list PySem.F.slot_list_append PySem.F.type_list_append mt_append (pe_fld (pv 0) rfl) (pa_cons (pv 2) pa_nil)))
      (pss_one (ps_ret (pe_tup (pa_cons (pe_lst (pa_cons (pv 1) pa_nil)) (pa_cons (pe_lst (pa_cons (pv 1) pa_nil)) pa_nil)))))))))))), ?_⟩
  obtain ⟨H0, p, txt, sE, st', d, rfl, t1, ⟨ok1, ok2⟩, e, k⟩ := h
  obtain ⟨dx, lk, lb, ll, lg, LK, gs, J, ⟨eg, el, f, jl, jg⟩, ji⟩ := t1.ex
  have hp := RL_p f
  unfold rDevice at e
  cases ec : txt[sE.pos]? with
  | none => rw [ec] at e; cases e
  | some c =>
  rw [ec] at e
  have e : (if c ∈ letters ∧ sE.kinds.length < 8 ∧ sE.bounds.length < 8 then
      some (sE.kinds.length, { sE with kinds := sE.kinds ++ [c], pos := (bndOf txt (sE.pos + 1)).2, bounds := sE.bounds ++ [(bndOf txt (sE.pos + 1)).1] }) else none) = some (d, st') := e
  by_cases hc : c ∈ letters ∧ sE.kinds.length < 8 ∧ sE.bounds.length < 8
  case neg => rw [if_neg hc] at e; cases e
  rw [if_pos hc] at e
  obtain ⟨rfl, rfl⟩ := Prod.mk.inj (Option.some.inj e)
  refine ⟨_, rfl, p, _, dx, _, _, rfl, hp, T.clReading, T.na_Reading_kinds, rfl, lk, _, rfl, .inl (SqL.of (RL_k f)), rfl, _, rfl, ite_eq (fun y => ?_) (fun _ => ?_)⟩
  · rw [List.length_map] at y
    have := hc.2.1
    omega
  refine ⟨_, rfl, p, _, dx, _, _, rfl, hp, T.clReading, T.na_Reading_kinds, rfl, lk, _, rfl, .inl (SqL.of (RL_k f)), ?_⟩
  rw [List.length_map]
  refine ⟨_, rfl, p, _, dx, _, _, rfl, hp, T.clReading, T.na_Reading_kinds, rfl, tyL (RL_k f), _, rfl, p, dx, _, rfl, hp, rfl, p, dx, lk, lb, ll, lg, txt, sE.pos, rfl, hp, ok1, ?_⟩
  rw [ec]
  refine ⟨lk, _, _, rfl, rfl, RL_k f, sz_lt (by rw [List.length_map]; omega), ?_⟩
  have f2 := RL_kinds (c := c) f
  refine ⟨_, rfl, p, _, dx, _, _, rfl, RL_p f2, T.clReading, T.na_Reading_at, rfl, _, _, rfl, rfl, dx, _, RL_p f2, Nat.le_of_ble_eq_true rfl, ?_⟩
  have f3 := RL_pos f2
  have hp3 := RL_p f3
  refine ⟨fun σ H' => σ = [some (.ref p), some (.int (sE.kinds.length : Int)), some (bndV (bndOf txt (sE.pos + 1)).1)] ∧ Fr H0 H' (RL T p dx lk lb ll lg txt { sE with kinds := sE.kinds ++ [c], pos := (bndOf txt (sE.pos + 1)).2 } LK gs gs) J, ?_, ?_⟩
  · have out : (bndOf txt (sE.pos + 1) = (0, sE.pos + 1)) → ∀ H', Fr H0 H' (RL T p dx lk lb ll lg txt { sE with kinds := sE.kinds ++ [c], pos := sE.pos + 1 } LK gs gs) J →
        ([some (.ref p), some (.int (sE.kinds.length : Int)), some V.non] : L2.St) = [some (.ref p), some (.int (sE.kinds.length : Int)), some (bndV (bndOf txt (sE.pos + 1)).1)] ∧ Fr H0 H' (RL T p dx lk lb ll lg txt { sE with kinds := sE.kinds ++ [c], pos := (bndOf txt (sE.pos + 1)).2 } LK gs gs) J := fun q H' g => by
      rw [q]; exact ⟨rfl, g⟩
    refine ⟨_, rfl, p, dx, _, rfl, hp3, rfl, p, dx, lk, lb, ll, lg, txt, sE.pos + 1, rfl, hp3, ok1, rfl, _, rfl, ite_sne (fun c2 ec2 => ?_) (fun ec2 => iteF (out (by unfold bndOf; rw [ec2]) _ f3))⟩
    refine ⟨_, rfl, p, dx, _, rfl, hp3, rfl, p, dx, lk, lb, ll, lg, txt, sE.pos + 1, rfl, hp3, ok1, c2, _, by rw [ec2]; rfl, rfl, _, rfl, ite2 (fun z => ?_) (fun z => ?_)⟩
    · have z : c2 ∈ [49, 50, 51, 52, 53, 54] := of_decide_eq_true z
      have z2 : 49 ≤ c2 ∧ c2 ≤ 54 := by simp at z; omega
      have hb : bndOf txt (sE.pos + 1) = (c2 - 48, sE.pos + 1 + 1) := by unfold bndOf; rw [ec2]; exact if_pos z2
      refine ⟨_, rfl, p, dx, _, rfl, hp3, rfl, p, dx, lk, lb, ll, lg, txt, sE.pos + 1, rfl, hp3, ok1, _, ((c2 - 48 : Nat) : Int), rfl, ?_, by rw [ec2]; exact Nat.le_of_ble_eq_true rfl, ?_⟩
      · rw [ec2]
        have dig : ∀ c ∈ [49, 50, 51, 52, 53, 54], PySem.intText? (sgS (some c)) = some ((c - 48 : Nat) : Int) := by decide +kernel
        exact dig c2 z
      refine ⟨_, rfl, p, _, dx, _, _, rfl, hp3, T.clReading, T.na_Reading_at, rfl, _, _, rfl, rfl, dx, _, hp3, Nat.le_of_ble_eq_true rfl, ?_⟩
      rw [hb]
      refine ⟨?_, RL_pos f3⟩
      unfold bndV
      rw [if_neg (by omega)]
      rfl
    · have z2 : ¬ (49 ≤ c2 ∧ c2 ≤ 54) := fun y => z (decide_eq_true (by
        have : c2 ∈ [49, 50, 51, 52, 53, 54] := by simp; omega
        exact this))
      exact out (by unfold bndOf; rw [ec2]; exact if_neg z2) _ f3
  · rintro σ H2 ⟨rfl, f4⟩
    have hp4 := RL_p f4
    refine ⟨_, rfl, p, _, dx, _, _, rfl, hp4, T.clReading, T.na_Reading_bounds, rfl, tyL (RL_b f4), _, rfl, lb, _, _, rfl, rfl, RL_b f4, sz_lt (by rw [List.length_map]; show sE.bounds.length ≤ _; omega), ?_⟩
    have f5 := RL_bounds (b := (bndOf txt (sE.pos + 1)).1) f4
    refine ⟨_, rfl, sz_le (Nat.le_of_ble_eq_true rfl), fun e1 ne => ⟨_, rfl, sz_le (Nat.le_of_ble_eq_true rfl), fun x1 nx => ⟨sz_le (Nat.le_of_ble_eq_true rfl), fun t1 nt => ?_⟩⟩⟩
    have f8 := ((f5.new_imm (o := intsO [(sE.kinds.length : Int)]) ne).new_imm (o := intsO [(sE.kinds.length : Int)]) nx).new_imm (o := .tup [.ref e1, .ref x1]) nt
    refine k _ ⟨t1, e1, x1, [_], [_]⟩ rfl ⟨dx, lk, lb, ll, lg, LK, gs, _, ⟨eg, el, f8, fun x hx => .tail _ (.tail _ (.tail _ (jl x hx))), fun b hb y hy => (jg b hb y hy).mono fun x hx => .tail _ (.tail _ (.tail _ hx))⟩, fun y hy => ?_⟩
    rw [List.mem_singleton.mp hy]
    exact ⟨.head _, .tail _ (.tail _ (.head _)), .tail _ (.head _)⟩
end
end K92

/-! K92J: the program reads a text: first_device, joined. -/
set_option Elab.async false
set_option linter.all false
set_option maxRecDepth 100000
set_option maxHeartbeats 4000000
set_option autoImplicit false
namespace K92
open PySem PySem.Spec PyProof.Rows L2
section
variable {P : Program} {w : World} {K : PySem.W.Frag} {mg : Str → Option Value} {base : Heap}
theorem pi_listK {X : Cx} {tg e : Expr} {td : TE} (h : X.K = K) (he : PE X e td) : PI X tg e (iList K td) := by subst h; exact pi_list he
def sp_Reading_first_device (P : Program) (w : World) (T : TX K w mg) : Sp := fun vs H Q _ => ∃ (H0 : Hp) (p : Addr) (txt : List Nat) (st st' : RSt) (d : Nat), vs = [.ref p] ∧ RdG T H0 H p txt st [] ∧ signsOk txt ∧ rFirst txt st = some (d, st') ∧
  ∀ H' y, y.abs = ([(d : Int)], [(d : Int)]) → RdG T H0 H' p txt st' [y] → Q (.ref y.t) H'
theorem abs_len {gs : List GB} {l : List RG} (h : gs.map GB.abs = l) : (gs.reverse.map fun b => V.ref b.g).length = l.length := by rw [← h]; simp
theorem c_Reading_first_device (T : TX K w mg) : C8.Met P w K mg base 3 T.cReading "first_device" (sp_Reading_first_device P w T) [] := by
  obtain ⟨f, fd, me, F, b⟩ := T.fn_Reading_first_device
  refine C8.met0 T.clReading me F b sc_Reading_first_device (fun vs H Q E h => by obtain ⟨_, _, _, _, _, _, rfl, _⟩ := h; rfl) (fun cdv A outer s H vs Q E hr h => ?_)
  have hu := hu_of hr
  have nd := sc_Reading_first_device.nd
  refine ⟨_, (C8.pss_cut (ps_while PassesOwn.never (PW.pt (pw_and (pt_cmpR op_ne (C8.pe_mt0 (c_Reading_sign T) hr (by decide) (pv 0)) pe_str (nomark _)) (pw_and1 (pt_cmpR (op_in_kd T.kd_CLOSING_yards) (C8.pe_mt0 (c_Reading_sign T) hr (by decide) (pv 0)) (C8.pe_gc rfl T.g_CLOSING_yards) (by rfl))))) (pss_cons (ps_if (pt_cmpR op_eq (pe_callB (call_lenK (K := K) rfl) (by rfl) T.b_len PySem.boot_len (pa_cons (pe_fld (pv 0) rfl) pa_nil)) (C8.pe_gc rfl T.g_MOST_yards) (nomark _)) (pss_one ps_never) pss_nil)
      (pss_cons (ps_expr (pe_bm PySem.F.plainAttrs_list PySem.F.slot_list_append PySem.F.type_list_append mt_append (pe_fld (pv 0) rfl) (pa_cons (C8.pe_mk (c_Group_init T) hr (by decide) rfl (pa_cons (C8.pe_mt0 (c_Reading_sign T) hr (by decide) (pv 0)) pa_nil)) pa_nil)))
      (pss_one (ps_fldaug (pv 0) pe_int in_add)))))
      (pss_cons (ps_if (PW.pt (pw_or (pt_cmpR op_eq (C8.pe_mt0 (c_Reading_sign T) hr (by decide) (pv 0)) pe_str (nomark _)) (pw_or1 (pt_cmpR op_notIn_sign (C8.pe_mt0 (c_Reading_sign T) hr (by decide) (pv 0)) (C8.pe_gc rfl T.g_KINDS) (by rfl))))) (pss_one ps_never) pss_nil)
      (pss_one (ps_ret (C8.pe_mt0 (c_Reading_device T) hr (by decide) (pv 0)))))), ?_⟩
  obtain ⟨H0, p, txt, st, st', d, rfl, tk, ⟨ok1, ok2⟩, e, k⟩ := h
  obtain ⟨sE, eo, e⟩ := Option.bind_eq_some_iff.mp e
  refine ⟨fun σ H' => σ = [some (.ref p)] ∧ RdG T H0 H' p txt sE [], ?_, ?_⟩
  · refine ⟨fun m σ H' => ∃ s, rOpen txt m s = some sE ∧ σ = [some (.ref p)] ∧ RdG T H0 H' p txt s [], ⟨100, st, eo, rfl, tk⟩, ?_⟩
    rintro m σ H1 ⟨s, es, rfl, t1⟩
    obtain ⟨dx, lk, lb, ll, lg, LK, gs, J, ⟨eg, el, f, jl, jg⟩, ji⟩ := t1.ex
    cases m with
    | zero => cases es
    | succ m =>
    unfold rOpen at es
    have hp := RL_p f
    refine ⟨_, rfl, p, dx, _, rfl, hp, rfl, p, dx, lk, lb, ll, lg, txt, s.pos, rfl, hp, ok1, rfl, _, rfl, ite_sne (fun c ec => ?_) (fun ec => ?_)⟩
    · rw [ec] at es
      have es : (if c = 40 ∨ c = 91 then (if s.groups.length < 8 then rOpen txt m { s with pos := s.pos + 1, groups := ⟨c, []⟩ :: s.groups } else none) else some s) = some sE := es
      obtain ⟨r, hr1, hr2⟩ := T.hkY c (sig_mem ⟨ok1, ok2⟩ ec)
      refine ⟨_, rfl, p, dx, _, rfl, hp, rfl, p, dx, lk, lb, ll, lg, txt, s.pos, rfl, hp, ok1, _, r, rfl, rfl, by rw [ec]; exact hr1, _, rfl, ite2 (fun z => ?_) (fun z => ?_)⟩
      · rw [hr2] at z
        have z : c = 40 ∨ c = 91 := by simpa using z
        rw [if_pos z] at es
        by_cases y : s.groups.length < 8
        case neg => rw [if_neg y] at es; cases es
        rw [if_pos y] at es
        refine ⟨fun σ H' => ∃ s', rOpen txt m s' = some sE ∧ σ = [some (.ref p)] ∧ RdG T H0 H' p txt s' [], fun σ' H' h => ⟨m, by omega, h⟩, ?_⟩
        refine ⟨_, rfl, p, _, dx, _, _, rfl, hp, T.clReading, T.na_Reading_groups, rfl, lg, _, rfl, .inl (SqL.of (RL_g f)), rfl, _, rfl, ite_eq (fun q => ?_) (fun _ => ?_)⟩
        · rw [abs_len eg] at q
          omega
        refine ⟨_, rfl, p, _, dx, _, _, rfl, hp, T.clReading, T.na_Reading_groups, rfl, tyL (RL_g f), _, rfl, p, dx, _, rfl, hp, rfl, p, dx, lk, lb, ll, lg, txt, s.pos, rfl, hp, ok1, ?_⟩
        rw [ec]
        intro g gd ng ngd gne
        have f1 := (f.junk (o := .own g) ngd).new_own (o := .ins T.cGroup gd []) (by rw [upd_ne gne.symm]; exact ng)
        refine ⟨H0, g, gd, c, _, J, rfl, f1, fun H2 y1 f2 => ⟨rfl, ?_⟩⟩
        have hlg : H2 lg = some (.lst (gs.reverse.map fun b => V.ref b.g)) := f2.get (.tail _ (.tail _ (.tail _ (.tail _ (.tail _ (.tail _ (.head _)))))))
        refine ⟨lg, _, _, rfl, rfl, hlg, sz_lt (by rw [abs_len eg]; omega), ?_⟩
        have f3 := RL_push (b := ⟨g, gd, y1, c, []⟩) f2 rfl
        refine ⟨_, rfl, p, _, dx, _, _, rfl, RL_p f3, T.clReading, T.na_Reading_at, rfl, _, _, rfl, rfl, dx, _, RL_p f3, Nat.le_of_ble_eq_true rfl, ?_⟩
        refine ⟨_, es, rfl, dx, lk, lb, ll, lg, LK, ⟨g, gd, y1, c, []⟩ :: gs, J, ⟨by rw [List.map_cons, eg]; rfl, el, RL_pos f3, jl, ?_⟩, (by intro _ z; cases z)⟩
        intro b hb
        rcases List.mem_cons.mp hb with rfl | hb
        · intro _ z; cases z
        · exact jg b hb
      · rw [hr2] at z
        have z : ¬ (c = 40 ∨ c = 91) := by simpa using z
        rw [if_neg z] at es
        obtain rfl := Option.some.inj es
        exact ⟨rfl, t1⟩
    · rw [ec] at es
      have es : some s = some sE := es
      obtain rfl := Option.some.inj es
      exact iteF ⟨rfl, t1⟩
  · rintro σ H1 ⟨rfl, t1⟩
    obtain ⟨dx, lk, lb, ll, lg, LK, gs, J, ⟨eg, el, f, jl, jg⟩, ji⟩ := t1.ex
    have hp := RL_p f
    have e' := e
    unfold rDevice at e'
    cases ec : txt[sE.pos]? with
    | none => rw [ec] at e'; cases e'
    | some c =>
    rw [ec] at e'
    have e' : (if c ∈ letters ∧ sE.kinds.length < 8 ∧ sE.bounds.length < 8 then
        some (sE.kinds.length, { sE with kinds := sE.kinds ++ [c], pos := (bndOf txt (sE.pos + 1)).2, bounds := sE.bounds ++ [(bndOf txt (sE.pos + 1)).1] }) else none) = some (d, st') := e'
    by_cases hc : c ∈ letters ∧ sE.kinds.length < 8 ∧ sE.bounds.length < 8
    case neg => rw [if_neg hc] at e'; cases e'
    refine ⟨_, rfl, p, dx, _, rfl, hp, rfl, p, dx, lk, lb, ll, lg, txt, sE.pos, rfl, hp, ok1, rfl, _, rfl, ite_seq (fun z => by rw [ec] at z; cases z) (fun _ _ => ?_)⟩
    refine ⟨_, rfl, p, dx, _, rfl, hp, rfl, p, dx, lk, lb, ll, lg, txt, sE.pos, rfl, hp, ok1, c, _, by rw [ec]; rfl, rfl, _, rfl, ite2 (fun z => ?_) (fun _ => ?_)⟩
    · have z : (!decide (c ∈ [115, 113, 100, 105, 111])) = true := z
      exact absurd hc.1 (by simpa [letters] using z)
    exact ⟨_, rfl, p, dx, _, rfl, hp, rfl, H0, p, txt, sE, st', d, rfl, t1, ⟨ok1, ok2⟩, e, k⟩
/-! ### joined -/
theorem yat {ys : List YA} {i : Nat} {y : YA} (h : ys[i]? = some y) : (ys.map fun y => V.ref y.t)[i]? = some (V.ref y.t) := map_at h
/-- [x for yard in ys for x in yard[..]] -/
theorem lc2_flat {ys : List YA} {yl : Addr} {j1 j2 : Nat} {c : Int} {pr : YA → List Int} {ad : YA → Addr} {σ : L2.St} {H : Hp} {Q : VK} {ty : TE} (hty : ∀ Q', Q' (.ref yl) H → ty σ H Q') (hy : H yl = some (.lst (ys.map fun y => V.ref y.t)))
    (hw : ∀ u v : V, wipe ((wipe ((wipe σ [j1, j2]).set j1 (some u)) [j2]).set j2 (some v)) [j2] = wipe ((wipe σ [j1, j2]).set j1 (some u)) [j2]) (hw2 : ∀ u : V, wipe ((wipe σ [j1, j2]).set j1 (some u)) [j1, j2] = wipe σ [j1, j2])
    (hv : ∀ u v : V, ((wipe ((wipe σ [j1, j2]).set j1 (some u)) [j2]).set j2 (some v))[j2]? = some (some v)) (hv1 : ∀ u : V, ((wipe σ [j1, j2]).set j1 (some u))[j1]? = some (some u))
    (ht : ∀ y ∈ ys, ∃ xs, H y.t = some (.tup xs) ∧ atI xs c = some (.ref (ad y))) (hl : ∀ y ∈ ys, H (ad y) = some (intsO (pr y))) (sz : (ys.flatMap pr).length ≤ 1000)
    (k : ∀ D, H D = none → Q (.ref D) (upd H D (intsO (ys.flatMap pr)))) :
    tLc2 (iList K ty) (gName j1) tYes (iList K (tOp (rIxT K) (tVar j1) (tC (.int c)))) (gName j2) tYes (tVar j2) [j1, j2] [j2] σ H Q := by
  refine hty _ ⟨yl, rfl, ⟨_, SqL.of hy⟩, fun D nD => ?_⟩
  have sD : ∀ o, Same H (upd H D o) := fun o => Same.new nD
  refine ⟨fun i m H' => m = ys.length - i ∧ i ≤ ys.length ∧ H' = upd H D (intsO ((ys.take i).flatMap pr)), ⟨_, rfl, Nat.zero_le _, rfl⟩, ?_⟩
  rintro i m H1 ⟨rfl, hi, rfl⟩
  by_cases hlt : i < ys.length
  · obtain ⟨y, hiy⟩ := get_some hlt
    have my := List.mem_of_getElem? hiy
    obtain ⟨xs, hx1, hx2⟩ := ht y my
    refine .inr ⟨⟨_, _, SqL.of (sD _ _ _ hy), yat hiy⟩, fun H' => H' = upd H D (intsO ((ys.take (i + 1)).flatMap pr)), fun H' e => ⟨_, by omega, rfl, hlt, e⟩, ?_⟩
    rintro x H' ⟨rfl, hx⟩
    have hx' := hx _ (SqL.of (sD _ _ _ hy))
    obtain rfl : x = V.ref y.t := Option.some.inj (hx'.symm.trans (yat hiy))
    refine ⟨hw2 _, ?_⟩
    refine ⟨_, hv1 _, y.t, _, _, _, rfl, rfl, SqT.of' (sD _ _ _ hx1), hx2, ad y, rfl, ⟨_, SqL.of (sD _ _ _ (hl y my))⟩, ?_⟩
    have lim : ((ys.take i).flatMap pr).length + (pr y).length ≤ 1000 := by
      have e : ys = ys.take i ++ y :: ys.drop (i + 1) := by
        rw [List.getElem?_eq_getElem hlt] at hiy
        rw [← Option.some.inj hiy]
        simp
      rw [e, List.flatMap_append, List.flatMap_cons, List.length_append, List.length_append] at sz
      omega
    refine ⟨fun j k H' => k = (pr y).length - j ∧ j ≤ (pr y).length ∧ H' = upd H D (intsO ((ys.take i).flatMap pr ++ (pr y).take j)), ⟨_, rfl, Nat.zero_le _, by simp⟩, ?_⟩
    rintro j k2 H2 ⟨rfl, hj, rfl⟩
    by_cases hlt2 : j < (pr y).length
    · obtain ⟨v, hjv⟩ := get_some hlt2
      refine .inr ⟨⟨_, _, SqL.of (sD _ _ _ (hl y my)), map_at hjv⟩, fun H' => H' = upd H D (intsO ((ys.take i).flatMap pr ++ (pr y).take (j + 1))), fun H' e => ⟨_, by omega, rfl, hlt2, e⟩, ?_⟩
      rintro x H' ⟨rfl, hx⟩
      have hx' := hx _ (SqL.of (sD _ _ _ (hl y my)))
      obtain rfl : x = V.int v := Option.some.inj (hx'.symm.trans (map_at hjv))
      refine ⟨hw _ _, _, hv _ _, _, upd_same, sz_lt ?_, ?_⟩
      · rw [List.length_map, List.length_append, List.length_take]
        omega
      · funext a
        by_cases e : a = D
        · subst e
          rw [upd_same, upd_same, take_snoc hjv, ← List.append_assoc]
          unfold intsO
          rw [List.map_append (l₂ := [v])]
          rfl
        · rw [upd_ne e, upd_ne e, upd_ne e]
    · obtain rfl : j = (pr y).length := by omega
      refine .inl ⟨⟨_, SqL.of (sD _ _ _ (hl y my)), by rw [List.length_map]; exact Nat.le_refl _⟩, ?_⟩
      rw [List.take_length, take_snoc hiy, List.flatMap_append]
      simp
  · obtain rfl : i = ys.length := by omega
    refine .inl ⟨⟨_, SqL.of (sD _ _ _ hy), by rw [List.length_map]; exact Nat.le_refl _⟩, ?_⟩
    rw [List.take_length]
    exact k D nD
theorem flat_len {α : Type} {f : α → List Int} {n : Nat} : ∀ {l : List α}, (∀ x ∈ l, (f x).length ≤ n) → (l.flatMap f).length ≤ l.length * n
  | [], _ => by simp
  | a :: l, h => by
    have h1 := h a (.head _)
    have h2 := flat_len (f := f) (n := n) fun x hx => h x (.tail _ hx)
    rw [List.flatMap_cons, List.length_append, List.length_cons, Nat.succ_mul]
    omega
theorem small_of {ys : List YA} (h : rSmall (ys.map YA.abs) = true) : ys.length ≤ 20 ∧ (∀ y ∈ ys, y.ent.length ≤ 20) ∧ ∀ y ∈ ys, y.exi.length ≤ 20 := by
  simp only [rSmall, Bool.and_eq_true, decide_eq_true_eq, List.all_eq_true, List.length_map] at h
  exact ⟨h.1, fun y hy => (h.2 _ (List.mem_map_of_mem hy)).1, fun y hy => (h.2 _ (List.mem_map_of_mem hy)).2⟩
theorem yabs_at {ys : List YA} {i : Nat} {y : YA} (h : ys[i]? = some y) : (ys.map YA.abs).getD i ([], []) = (y.ent, y.exi) := getD_at (map_at h)
/-- .. the same with the addresses told -/
structure RdG' (T : TX K w mg) (H0 H : Hp) (p dx lk lb ll lg : Addr) (txt : List Nat) (st : RSt) (gs os : List GB) (I : List YA) : Prop where
  ex : ∃ LK J, RdF T H0 H p dx lk lb ll lg txt st LK gs os J ∧ ∀ y ∈ I, yIn J y
structure LInv (T : TX K w mg) (H0 : Hp) (p dx lk lb ll lg : Addr) (txt : List Nat) (st : RSt) (gs os : List GB) (J : List (Addr × HO)) (c : Nat) (done : List (Int × Int)) (H : Hp) : Prop where
  small : done.length ≤ c
  ex : ∃ LK J', LK.map (·.2) = st.links ++ done ∧ Fr H0 H (RL T p dx lk lb ll lg txt st LK gs os) J' ∧ (∀ x ∈ LK, (x.1, pairO x.2) ∈ J') ∧ ∀ x ∈ J, x ∈ J'
theorem LInv.step {T : TX K w mg} {H0 H : Hp} {p dx lk lb ll lg t : Addr} {txt : List Nat} {st : RSt} {gs os : List GB} {J : List (Addr × HO)} {c : Nat} {done : List (Int × Int)} {l : Int × Int} (h : LInv T H0 p dx lk lb ll lg txt st gs os J c done H) (n : H t = none) (sz : st.links.length + c ≤ 100000) :
    ∃ xs, upd H t (pairO l) ll = some (.lst xs) ∧ xs.length < sizeLine ∧ LInv T H0 p dx lk lb ll lg txt st gs os J (c + 1) (done ++ [l]) (upd (upd H t (pairO l)) ll (.lst (xs ++ [.ref t]))) := by
  obtain ⟨LK, J', e1, f, jl, jj⟩ := h.ex
  have f1 := f.new_imm (o := pairO l) n
  refine ⟨_, RL_l f1, sz_lt ?_, ?_, LK ++ [(t, l)], (t, pairO l) :: J', by rw [List.map_append, e1, List.append_assoc]; rfl, RL_links f1, ?_, fun x hx => .tail _ (jj x hx)⟩
  · have := congrArg List.length e1
    rw [List.length_map, List.length_append] at this
    have := h.small
    rw [List.length_map]
    omega
  · have := h.small
    rw [List.length_append]
    simp
    omega
  · intro x hx
    rcases List.mem_append.mp hx with hx | hx
    · exact .tail _ (jl x hx)
    · rw [List.mem_singleton.mp hx]; exact .head _
theorem LInv.up {T : TX K w mg} {H0 H : Hp} {p dx lk lb ll lg : Addr} {txt : List Nat} {st : RSt} {gs os : List GB} {J : List (Addr × HO)} {c c' : Nat} {done : List (Int × Int)} (h : LInv T H0 p dx lk lb ll lg txt st gs os J c done H) (e : c ≤ c') : LInv T H0 p dx lk lb ll lg txt st gs os J c' done H := ⟨Nat.le_trans h.small e, h.ex⟩
theorem at_neg1 {α : Type} {xs : List α} {v : α} (h : xs[xs.length - 1]? = some v) : atI xs (-1) = some v := by
  have hl := get_lt h
  unfold atI ixN
  rw [if_neg (by decide), if_pos (by omega)]
  show xs[(-1 + (xs.length : Int)).toNat]? = _
  rw [show (-1 + (xs.length : Int)).toNat = xs.length - 1 by omega]
  exact h
def sp_Reading_joined (P : Program) (w : World) (T : TX K w mg) : Sp := fun vs H Q _ => ∃ (H0 : Hp) (p dx lk lb ll lg : Addr) (txt : List Nat) (st : RSt) (LK : List (Addr × Int × Int)) (gs os : List GB) (b : GB) (J : List (Addr × HO)), vs = [.ref p, .ref b.g] ∧
  RdF T H0 H p dx lk lb ll lg txt st LK gs (b :: os) J ∧ b.ys ≠ [] ∧ rSmall (b.ys.map YA.abs) = true ∧ st.links.length ≤ 1000 ∧
  ∀ H' y, y.abs = rJoin b.sign (b.ys.map YA.abs) → RdG' T H0 H' p dx lk lb ll lg txt { st with links := st.links ++ (if b.sign = 91 then [] else rPairs (b.ys.map YA.abs)) } gs (b :: os) [y] → Q (.ref y.t) H'
theorem c_Reading_joined (T : TX K w mg) : C8.Met P w K mg base 1 T.cReading "joined" (sp_Reading_joined P w T) [] := by
  obtain ⟨f, fd, me, F, b⟩ := T.fn_Reading_joined
  refine C8.met0 T.clReading me F b sc_Reading_joined (fun vs H Q E h => by obtain ⟨_, _, _, _, _, _, _, _, _, _, _, _, _, _, rfl, _⟩ := h; rfl) (fun cdv A outer s H vs Q E hr h => ?_)
  have hu := hu_of hr
  have nd := sc_Reading_joined.nd
  refine ⟨_, (pss_cons (ps_if (pt_cmpR op_eq (pe_fld (pv 1) rfl) pe_str (nomark _)) (pss_cons (ps_setLc2 (own := [("yard", 6), ("entry", 2)]) (vs1 := [2]) (i := 3) rfl nd rfl rfl (sw_true rfl rfl rfl (by decide +kernel)) (pi_list (pe_fld (pv 1) rfl)) (blkOk_by (N := N_Reading_joined) (sc := C8.fnScope s_Reading_joined) (by decide +kernel)) (by decide) (fun _ _ _ _ _ => (pg_name (i := 6) nd rfl (Or.inl rfl))) (fun _ _ _ _ _ => pts_nil) (fun _ _ _ _ _ => (pi_listK rfl (pe_ix (ix_tupK (K := K) rfl) (pv 6) pe_int (fun _ _ => rfl)))) (fun _ _ _ _ _ => (pg_name (i := 2) nd rfl (Or.inl rfl))) (fun _ _ _ _ _ => pts_nil) (fun _ _ _ _ _ => (pv 2)))
      (pss_one (ps_ret (pe_tup (pa_cons (pv 3) (pa_cons (pe_lc2 (own := [("yard", 6), ("out", 4)]) (vs1 := [4]) rfl nd (pi_list (pe_fld (pv 1) rfl)) (blkOk_by (N := N_Reading_joined) (sc := C8.fnScope s_Reading_joined) (by decide +kernel)) (by decide) (fun _ _ _ _ _ => (pg_name (i := 6) nd rfl (Or.inl rfl))) (fun _ _ _ _ _ => pts_nil) (fun _ _ _ _ _ => (pi_listK rfl (pe_ix (ix_tupK (K := K) rfl) (pv 6) pe_int (fun _ _ => rfl)))) (fun _ _ _ _ _ => (pg_name (i := 4) nd rfl (Or.inl rfl))) (fun _ _ _ _ _ => pts_nil) (fun _ _ _ _ _ => (pv 4))) pa_nil)))))) pss_nil)
      (pss_cons (ps_for PassesOwn.never rfl (pi_range2 rfl T.b_range (pa_cons pe_int (pa_cons (pe_callB (call_lenK (K := K) rfl) (by rfl) T.b_len PySem.boot_len (pa_cons (pe_fld (pv 1) rfl) pa_nil)) pa_nil))) (pg_name (i := 5) nd rfl (Or.inl rfl)) (pss_one (ps_for PassesOwn.never rfl (pi_list (pe_ix (ix_tupK (K := K) rfl) (pe_ix (ix_listK (K := K) rfl) (pe_fld (pv 1) rfl) (pe_op op_sub (pv 5) pe_int) (fun _ _ => rfl)) pe_int (fun _ _ => rfl))) (pg_name (i := 4) nd rfl (Or.inl rfl)) (pss_one (ps_for PassesOwn.never rfl (pi_list (pe_ix (ix_tupK (K := K) rfl) (pe_ix (ix_listK (K := K) rfl) (pe_fld (pv 1) rfl) (pv 5) (fun _ _ => rfl)) pe_int (fun _ _ => rfl))) (pg_name (i := 2) nd rfl (Or.inl rfl)) (pss_one (ps_expr (pe_bm PySem.F.plainAttrs_list PySem.F.slot_list_append PySem.F.type_list_append mt_append (pe_fld (pv 0) rfl) (pa_cons (pe_tup (pa_cons (pv 4) (pa_cons (pv 2) pa_nil))) pa_nil)))))))))
      (pss_one (ps_ret (pe_tup (pa_cons (pe_ix (ix_tupK (K := K) rfl) (pe_ix (ix_listK (K := K) rfl) (pe_fld (pv 1) rfl) pe_int (fun _ _ => rfl)) pe_int (fun _ _ => rfl)) (pa_cons (pe_ix (ix_tupK (K := K) rfl) (pe_ix (ix_listK (K := K) rfl) (pe_fld (pv 1) rfl) (pe_un un_neg pe_int) (fun _ _ => rfl)) pe_int (fun _ _ => rfl)) pa_nil))))))), ?_⟩
  obtain ⟨H0, p, dx, lk, lb, ll, lg, txt, st, LK, gs, os, b, J, rfl, ⟨eg, el, f, jl, jg⟩, ne, sm, l1000, k⟩ := h
  obtain ⟨g, gd, yl, sg, ys⟩ := b
  obtain ⟨sm1, sm2, sm3⟩ := small_of (ys := ys) sm
  have hg : H g = some (.ins T.cGroup gd [("sign", .str (ch sg)), ("yards", .ref yl)]) := (RL_grp f).1
  have hy : H yl = some (.lst (ys.map fun y => V.ref y.t)) := (RL_grp f).2
  have jb : ∀ y ∈ ys, yIn J y := jg _ (.head _)
  refine ⟨_, rfl, g, _, gd, _, _, rfl, hg, T.clGroup, T.na_Group_sign, rfl, rfl, _, rfl, ite_ceq (d := 91) (fun z => ?_) (fun z => ?_)⟩
  · subst z
    show tAsg (tLc2 (iList K (tFld K (tVar 1) "yards")) (gName 6) tYes (iList K (tOp (rIxT K) (tVar 6) (tC (.int 0)))) (gName 2) tYes (tVar 2) [6, 2] [2]) (gName 3) _ _ _
    unfold tAsg
    refine lc2_flat (yl := yl) (ys := ys) (pr := YA.ent) (ad := YA.e) (fun Q' q' => ⟨_, rfl, g, _, gd, _, _, rfl, hg, T.clGroup, T.na_Group_yards, rfl, q'⟩) hy (by intro _ _; rfl) (by intro _; rfl) (by intro _ _; rfl) (by intro _; rfl)
      (fun y hy => ⟨_, f.got (jb y hy).1, rfl⟩) (fun y hy => f.got (jb y hy).2.1) (by have := flat_len sm2; omega) (fun D nD => ?_)
    have f1 := f.new_imm (o := intsO (ys.flatMap YA.ent)) nD
    refine ⟨_, rfl, ?_⟩
    show tLc2 (iList K (tFld K (tVar 1) "yards")) (gName 6) tYes (iList K (tOp (rIxT K) (tVar 6) (tC (.int 1)))) (gName 4) tYes (tVar 4) [6, 4] [4] _ _ _
    obtain ⟨hg1, hy1⟩ := RL_grp f1
    refine lc2_flat (yl := yl) (ys := ys) (pr := YA.exi) (ad := YA.x) (fun Q' q' => ⟨_, rfl, g, _, gd, _, _, rfl, hg1, T.clGroup, T.na_Group_yards, rfl, q'⟩) hy1 (by intro _ _; rfl) (by intro _; rfl) (by intro _ _; rfl) (by intro _; rfl)
      (fun y hy => ⟨_, f1.got (.tail _ (jb y hy).1), rfl⟩) (fun y hy => f1.got (.tail _ (jb y hy).2.2)) (by have := flat_len sm3; omega) (fun D2 nD2 => ?_)
    have f2 := f1.new_imm (o := intsO (ys.flatMap YA.exi)) nD2
    refine ⟨sz_le (Nat.le_of_ble_eq_true rfl), fun t nt => ?_⟩
    have f3 := f2.new_imm (o := .tup [.ref D, .ref D2]) nt
    refine k _ ⟨t, D, D2, ys.flatMap YA.ent, ys.flatMap YA.exi⟩ ?_ ⟨LK, _, ⟨eg, by rw [el]; simp, f3, fun x hx => .tail _ (.tail _ (.tail _ (jl x hx))), fun c hc y hy => (jg c hc y hy).mono fun x hx => .tail _ (.tail _ (.tail _ hx))⟩, fun y hy => ?_⟩
    · show (ys.flatMap YA.ent, ys.flatMap YA.exi) = rJoin 91 (ys.map YA.abs)
      unfold rJoin
      rw [if_pos rfl, List.flatMap_map, List.flatMap_map]
      rfl
    · rw [List.mem_singleton.mp hy]
      exact ⟨.head _, .tail _ (.tail _ (.head _)), .tail _ (.head _)⟩
  · have lim : ∀ {i : Nat}, i < ys.length - 1 → i + 1 ≤ 20 := fun {i} h => by omega
    let Inv := LInv T H0 p dx lk lb ll lg txt st gs (⟨g, gd, yl, sg, ys⟩ :: os) J
    have facts : ∀ {c done H'}, Inv c done H' → H' p = some (.ins T.cReading dx (trackF (txS txt) (st.pos : Int) lk lb ll lg)) ∧ H' g = some (.ins T.cGroup gd [("sign", .str (ch sg)), ("yards", .ref yl)]) ∧ H' yl = some (.lst (ys.map fun y => V.ref y.t)) ∧
        ∀ y ∈ ys, H' y.t = some (.tup [.ref y.e, .ref y.x]) ∧ H' y.e = some (intsO y.ent) ∧ H' y.x = some (intsO y.exi) := fun {c done H'} h => by
      obtain ⟨LK', J', e1, f', jl', jj⟩ := h.ex
      refine ⟨RL_p f', (RL_grp f').1, (RL_grp f').2, fun y hy => ?_⟩
      have q := (jb y hy).mono jj
      exact ⟨f'.got q.1, f'.got q.2.1, f'.got q.2.2⟩
    let pa : Nat → List (Int × Int) := fun i => ((ys.map YA.abs).getD i ([], [])).2.flatMap fun o => ((ys.map YA.abs).getD (i + 1) ([], [])).1.map fun e => (o, e)
    have i0 : Inv 0 [] H := ⟨Nat.le_refl _, LK, J, by rw [el, List.append_nil], f, jl, fun _ h => h⟩
    refine ⟨_, rfl, g, _, gd, _, _, rfl, hg, T.clGroup, T.na_Group_yards, rfl, yl, _, rfl, .inl (SqL.of hy), _, _, rfl, ⟨by decide, by decide, by omega, by rw [List.length_map]; omega⟩, ?_⟩
    rw [List.length_map, show (((ys.length : Nat) : Int) - 1).toNat = ys.length - 1 by omega]
    refine for_range (fun i σ H' => ∃ u2 u4 u5, σ = [some (.ref p), some (.ref g), u2, none, u4, u5, none] ∧ Inv (i * 400) ((List.range i).flatMap pa) H') ⟨none, none, none, rfl, i0⟩ ?_ ?_
    · rintro i σ H1 hi ⟨u2, u4, u5, rfl, v1⟩
      obtain ⟨h1, h2, h3, h4⟩ := facts v1
      obtain ⟨ya, hya⟩ := get_some (L := ys) (i := i) (by omega)
      obtain ⟨yb, hyb⟩ := get_some (L := ys) (i := i + 1) (by omega)
      have ma := List.mem_of_getElem? hya
      have mb := List.mem_of_getElem? hyb
      have pae : pa i = ya.exi.flatMap fun o => yb.ent.map fun e => (o, e) := by
        show ((ys.map YA.abs).getD i ([], [])).2.flatMap (fun o => ((ys.map YA.abs).getD (i + 1) ([], [])).1.map fun e => (o, e)) = _
        rw [yabs_at hya, yabs_at hyb]
      refine ⟨_, rfl, g, _, gd, _, _, rfl, h2, T.clGroup, T.na_Group_yards, rfl, _, rfl, _, _, rfl, rfl, yl, _, _, _, rfl, rfl, SqL.of h3, at_int (by omega) (by rw [show (1 + (i : Int) - 1).toNat = i by omega]; exact yat hya), ya.t, _, _, _, rfl, rfl, SqT.of' (h4 ya ma).1, rfl, ya.x, rfl, ⟨_, SqL.of (h4 ya ma).2.2⟩, ?_⟩
      refine for_list (xs := ya.exi.map V.int) (fun j σ H' => ∃ u2 u4, σ = [some (.ref p), some (.ref g), u2, none, u4, some (.int (1 + (i : Int))), none] ∧ Inv (i * 400 + j * 20) ((List.range i).flatMap pa ++ (ya.exi.take j).flatMap fun o => yb.ent.map fun e => (o, e)) H')
        ⟨u2, u4, rfl, by simpa using v1⟩ (fun _ _ _ _ ⟨_, _, _, v⟩ => SqL.of ((facts v).2.2.2 ya ma).2.2) ?_ ?_
      · rintro j x σ H2 hx ⟨u2, u4, rfl, v2⟩
        have hj := get_lt hx
        rw [List.length_map] at hj
        obtain ⟨ov, hov⟩ := get_some hj
        obtain rfl : x = V.int ov := Option.some.inj (hx.symm.trans (map_at hov))
        obtain ⟨h1, h2, h3, h4⟩ := facts v2
        have l2 := sm3 ya ma
        have l3 := sm2 yb mb
        refine ⟨_, rfl, g, _, gd, _, _, rfl, h2, T.clGroup, T.na_Group_yards, rfl, _, rfl, yl, _, _, _, rfl, rfl, SqL.of h3, at_int (by omega) (by rw [show (1 + (i : Int)).toNat = i + 1 by omega]; exact yat hyb), yb.t, _, _, _, rfl, rfl, SqT.of' (h4 yb mb).1, rfl, yb.e, rfl, ⟨_, SqL.of (h4 yb mb).2.1⟩, ?_⟩
        refine for_list (xs := yb.ent.map V.int) (fun n σ H' => ∃ u2, σ = [some (.ref p), some (.ref g), u2, none, some (.int ov), some (.int (1 + (i : Int))), none] ∧ Inv (i * 400 + j * 20 + n) (((List.range i).flatMap pa ++ (ya.exi.take j).flatMap fun o => yb.ent.map fun e => (o, e)) ++ (yb.ent.take n).map fun e => (ov, e)) H')
          ⟨u2, rfl, by simpa using v2⟩ (fun _ _ _ _ ⟨_, _, v⟩ => SqL.of ((facts v).2.2.2 yb mb).2.1) ?_ ?_
        · rintro n x σ H3 hx ⟨u2, rfl, v3⟩
          have hn := get_lt hx
          rw [List.length_map] at hn
          obtain ⟨ev, hev⟩ := get_some hn
          obtain rfl : x = V.int ev := Option.some.inj (hx.symm.trans (map_at hev))
          obtain ⟨h1, h2, h3, h4⟩ := facts v3
          obtain ⟨LK', J', e1, f', jl', jj⟩ := v3.ex
          refine ⟨_, rfl, p, _, dx, _, _, rfl, h1, T.clReading, T.na_Reading_links, rfl, tyL (RL_l f'), _, rfl, _, rfl, sz_le (Nat.le_of_ble_eq_true rfl), fun t nt => ?_⟩
          obtain ⟨xs, e2, e3, v4⟩ := v3.step (l := (ov, ev)) nt (by have := lim hi; omega)
          refine ⟨ll, xs, _, rfl, rfl, e2, e3, ?_⟩
          refine ⟨_, rfl, ?_⟩
          rw [take_snoc hev, List.map_append, ← List.append_assoc]
          exact v4
        · rintro σ H3 ⟨u2, rfl, v3⟩
          rw [List.length_map, List.take_length] at v3
          refine ⟨_, _, rfl, ?_⟩
          rw [take_snoc hov, List.flatMap_append, ← List.append_assoc]
          have v4 := v3.up (c' := i * 400 + (j + 1) * 20) (by omega)
          simpa using v4
      · rintro σ H2 ⟨u2, u4, rfl, v2⟩
        rw [List.length_map, List.take_length, ← pae] at v2
        have l2 := sm3 ya ma
        refine ⟨_, _, _, rfl, ?_⟩
        rw [List.range_succ, List.flatMap_append]
        have v4 := v2.up (c' := (i + 1) * 400) (by omega)
        simpa using v4
    · rintro σ H1 ⟨u2, u4, u5, rfl, v1⟩
      obtain ⟨h1, h2, h3, h4⟩ := facts v1
      have npos : 0 < ys.length := List.length_pos_iff.mpr ne
      obtain ⟨y0, hy0⟩ := get_some (L := ys) (i := 0) npos
      obtain ⟨y9, hy9⟩ := get_some (L := ys) (i := ys.length - 1) (by omega)
      have m0 := List.mem_of_getElem? hy0
      have m9 := List.mem_of_getElem? hy9
      refine ⟨_, rfl, g, _, gd, _, _, rfl, h2, T.clGroup, T.na_Group_yards, rfl, yl, _, _, _, rfl, rfl, SqL.of h3, at_int (by decide) (yat hy0), y0.t, _, _, _, rfl, rfl, SqT.of' (h4 y0 m0).1, rfl, ?_⟩
      refine ⟨_, rfl, g, _, gd, _, _, rfl, h2, T.clGroup, T.na_Group_yards, rfl, _, rfl, yl, _, _, _, rfl, rfl, SqL.of h3, at_neg1 (by rw [List.length_map]; exact yat hy9), y9.t, _, _, _, rfl, rfl, SqT.of' (h4 y9 m9).1, rfl, ?_⟩
      refine ⟨sz_le (Nat.le_of_ble_eq_true rfl), fun t nt => ?_⟩
      obtain ⟨LK', J', e1, f', jl', jj⟩ := v1.ex
      have f3 := f'.new_imm (o := .tup [.ref y0.e, .ref y9.x]) nt
      refine k _ ⟨t, y0.e, y9.x, y0.ent, y9.exi⟩ ?_ ⟨LK', _, ⟨eg, ?_, f3, fun x hx => .tail _ (jl' x hx), fun c hc y hy => (jg c hc y hy).mono fun x hx => .tail _ (jj x hx)⟩, fun y hy => ?_⟩
      · show (y0.ent, y9.exi) = rJoin sg (ys.map YA.abs)
        unfold rJoin
        rw [if_neg z, yabs_at hy0, List.length_map, yabs_at hy9]
      · rw [e1]
        show st.links ++ (List.range (ys.length - 1)).flatMap pa = st.links ++ (if sg = 91 then [] else rPairs (ys.map YA.abs))
        rw [if_neg z]
        unfold rPairs
        rw [List.length_map]
      · rw [List.mem_singleton.mp hy]
        exact ⟨.head _, .tail _ (jj _ (jb y0 m0).2.1), .tail _ (jj _ (jb y9 m9).2.2)⟩
end
end K92

/-! K92K: the program reads a text: closed, whole; the yard. -/
set_option Elab.async false
set_option linter.all false
set_option maxRecDepth 100000
set_option maxHeartbeats 4000000
set_option autoImplicit false
namespace K92
open PySem PySem.Spec PyProof.Rows L2
section
variable {P : Program} {w : World} {K : PySem.W.Frag} {mg : Str → Option Value} {base : Heap}
theorem RdG.yard {T : TX K w mg} {H0 H : Hp} {p : Addr} {txt : List Nat} {st : RSt} {I : List YA} {y : YA} (h : RdG T H0 H p txt st I) (m : y ∈ I) : H y.t = some (.tup [.ref y.e, .ref y.x]) ∧ H y.e = some (intsO y.ent) ∧ H y.x = some (intsO y.exi) := by
  obtain ⟨dx, lk, lb, ll, lg, LK, gs, J, ⟨eg, el, f, jl, jg⟩, ji⟩ := h.ex
  have q := ji y m
  exact ⟨f.got q.1, f.got q.2.1, f.got q.2.2⟩
def sp_Reading_closed (P : Program) (w : World) (T : TX K w mg) : Sp := fun vs H Q _ => ∃ (H0 : Hp) (p : Addr) (txt : List Nat) (st st' : RSt) (y : YA) (yd : List Int × List Int), vs = [.ref p, .ref y.t] ∧ RdG T H0 H p txt st [y] ∧ signsOk txt ∧ rClose txt 100 y.abs st = some (yd, st') ∧
  ∀ H' y', y'.abs = yd → RdG T H0 H' p txt st' [y'] → Q (.ref y'.t) H'
theorem c_Reading_closed (T : TX K w mg) : C8.Met P w K mg base 3 T.cReading "closed" (sp_Reading_closed P w T) [] := by
  obtain ⟨f, fd, me, F, b⟩ := T.fn_Reading_closed
  refine C8.met0 T.clReading me F b sc_Reading_closed (fun vs H Q E h => by obtain ⟨_, _, _, _, _, _, _, rfl, _⟩ := h; rfl) (fun cdv A outer s H vs Q E hr h => ?_)
  have hu := hu_of hr
  have nd := sc_Reading_closed.nd
  refine ⟨_, (C8.pss_cut (ps_while PassesOwn.never (pt_truth (pe_fld (pv 0) rfl) (by intro _; rfl)) (pss_cons (ps_set (i := 2) nd rfl (Or.inl rfl) (pe_ix (ix_listK (K := K) rfl) (pe_fld (pv 0) rfl) (pe_un un_neg pe_int) (fun _ _ => rfl)))
      (pss_cons (ps_if (PW.pt (pw_or (pt_cmpR op_ne (C8.pe_mt0 (c_Reading_sign T) hr (by decide) (pv 0)) (pe_ix ix_kdict (C8.pe_gc rfl T.g_CLOSING_yards) (pe_fld (pv 2) rfl) (fun _ _ => rfl)) (nomark _)) (pw_or1 (pt_not (pt_truth (pe_fld (pv 2) rfl) (by intro _; rfl)))))) (pss_one ps_break) pss_nil)
      (pss_cons (ps_expr (pe_bm PySem.F.plainAttrs_list PySem.F.slot_list_append PySem.F.type_list_append mt_append (pe_fld (pv 2) rfl) (pa_cons (pv 1) pa_nil)))
      (pss_cons (ps_expr (pe_bm0 PySem.F.plainAttrs_list PySem.F.slot_list_pop PySem.F.type_list_pop mt_pop (pe_fld (pv 0) rfl)))
      (pss_cons (ps_set (i := 1) nd rfl (Or.inl rfl) (C8.pe_mt (c_Reading_joined T) hr (by decide) (pv 0) (pa_cons (pv 2) pa_nil)))
      (pss_one (ps_fldaug (pv 0) pe_int in_add))))))))
      (pss_one (ps_ret (pv 1)))), ?_⟩
  obtain ⟨H0, p, txt, st, st', y, yd, rfl, tk, ⟨ok1, ok2⟩, e, k⟩ := h
  refine ⟨fun σ H' => ∃ y' u2, σ = [some (.ref p), some (.ref y'.t), u2] ∧ y'.abs = yd ∧ RdG T H0 H' p txt st' [y'], ?_, ?_⟩
  · refine ⟨fun n σ H' => ∃ s y u2, rClose txt n y.abs s = some (yd, st') ∧ σ = [some (.ref p), some (.ref y.t), u2] ∧ RdG T H0 H' p txt s [y], ⟨100, st, y, _, e, rfl, tk⟩, ?_⟩
    rintro n σ H1 ⟨s, y, u2, es, rfl, t1⟩
    obtain ⟨dx, lk, lb, ll, lg, LK, gs, J, ⟨eg, el, f, jl, jg⟩, ji⟩ := t1.ex
    cases n with
    | zero => cases es
    | succ n =>
    unfold rClose at es
    have hp := RL_p f
    cases gs with
    | nil =>
      rw [← eg] at es
      have es : some (y.abs, s) = some (yd, st') := es
      obtain ⟨e1, rfl⟩ := Prod.mk.inj (Option.some.inj es)
      refine ⟨_, rfl, p, _, dx, _, _, rfl, hp, T.clReading, T.na_Reading_groups, rfl, _, .inl ⟨_, SqL.of (RL_g f), rfl⟩, iteF ?_⟩
      exact ⟨y, u2, rfl, e1, t1⟩
    | cons b gs =>
      rw [← eg] at es
      obtain ⟨g, gd, yl, sg, ys⟩ := b
      have es : (if ¬ (sg = 40 ∨ sg = 91) then none else if txt[s.pos]? ≠ some (clos sg) ∨ ys.map YA.abs = [] then some (y.abs, s)
        else if rSmall (ys.map YA.abs ++ [y.abs]) = true ∧ s.links.length ≤ 1000 then rClose txt n (rJoin sg (ys.map YA.abs ++ [y.abs])) { s with groups := gs.map GB.abs, pos := s.pos + 1, links := s.links ++ (if sg = 91 then [] else rPairs (ys.map YA.abs ++ [y.abs])) } else none) = some (yd, st') := es
      by_cases hs : ¬ (sg = 40 ∨ sg = 91)
      · rw [if_pos hs] at es; cases es
      rw [if_neg hs] at es
      have hs : sg = 40 ∨ sg = 91 := Classical.not_not.mp hs
      have hg : H1 g = some (.ins T.cGroup gd [("sign", .str (ch sg)), ("yards", .ref yl)]) := (RL_grp f).1
      have hy : H1 yl = some (.lst (ys.map fun y => V.ref y.t)) := (RL_grp f).2
      have kd : KDct K w T.dCLOSING_yards (ch sg) (.str (ch (clos sg))) := by
        rcases hs with rfl | rfl
        · exact T.cp_CLOSING_yards
        · exact T.cb_CLOSING_yards
      have stop : txt[s.pos]? ≠ some (clos sg) ∨ ys.map YA.abs = [] → ∃ y' u2, ([some (.ref p), some (.ref y.t), some (.ref g)] : L2.St) = [some (.ref p), some (.ref y'.t), u2] ∧ y'.abs = yd ∧ RdG T H0 H1 p txt st' [y'] := fun q => by
        rw [if_pos q] at es
        obtain ⟨e1, rfl⟩ := Prod.mk.inj (Option.some.inj es)
        exact ⟨y, _, rfl, e1, t1⟩
      refine ⟨_, rfl, p, _, dx, _, _, rfl, hp, T.clReading, T.na_Reading_groups, rfl, true, .inl ⟨_, SqL.of (RL_glast f), by simp⟩, ?_⟩
      refine ⟨fun σ H' => ∃ s y u2, rClose txt n y.abs s = some (yd, st') ∧ σ = [some (.ref p), some (.ref y.t), u2] ∧ RdG T H0 H' p txt s [y], fun σ' H' h => ⟨n, by omega, h⟩, ?_⟩
      refine ⟨_, rfl, p, _, dx, _, _, rfl, hp, T.clReading, T.na_Reading_groups, rfl, _, rfl, lg, _, _, _, rfl, rfl, SqL.of (RL_glast f), atI_last _ _, ?_⟩
      refine ⟨_, rfl, p, dx, _, rfl, hp, rfl, p, dx, lk, lb, ll, lg, txt, s.pos, rfl, hp, ok1, _, rfl, g, _, gd, _, _, rfl, hg, T.clGroup, T.na_Group_sign, rfl, _, _, _, rfl, rfl, kd, rfl, _, rfl, ite_cne (fun q => iteT (stop (.inl q))) (fun q => ?_)⟩
      by_cases hn : ys = []
      · subst hn
        exact ⟨_, rfl, g, _, gd, _, _, rfl, hg, T.clGroup, T.na_Group_yards, rfl, _, .inl ⟨_, SqL.of hy, rfl⟩, iteT (stop (.inr rfl))⟩
      refine ⟨_, rfl, g, _, gd, _, _, rfl, hg, T.clGroup, T.na_Group_yards, rfl, true, .inl ⟨_, SqL.of hy, by cases ys with | nil => exact absurd rfl hn | cons _ _ => rfl⟩, iteF ?_⟩
      have nn : ¬ (txt[s.pos]? ≠ some (clos sg) ∨ ys.map YA.abs = []) := fun x => by
        rcases x with x | x
        · exact x q
        · exact hn (List.map_eq_nil_iff.mp x)
      rw [if_neg nn] at es
      by_cases sm : rSmall (ys.map YA.abs ++ [y.abs]) = true ∧ s.links.length ≤ 1000
      case neg => rw [if_neg sm] at es; cases es
      rw [if_pos sm] at es
      have sm' : rSmall ((ys ++ [y]).map YA.abs) = true := by rw [List.map_append]; exact sm.1
      obtain ⟨l1, _, _⟩ := small_of sm'
      rw [List.length_append] at l1
      refine ⟨_, rfl, g, _, gd, _, _, rfl, hg, T.clGroup, T.na_Group_yards, rfl, tyL hy, _, rfl, yl, _, _, rfl, rfl, hy, sz_lt (by rw [List.length_map]; omega), ?_⟩
      have f2 : Fr H0 (upd H1 yl (.lst (ys.map (fun y => V.ref y.t) ++ [V.ref y.t]))) (RL T p dx lk lb ll lg txt s LK (⟨g, gd, yl, sg, ys⟩ :: gs) (⟨g, gd, yl, sg, ys ++ [y]⟩ :: gs)) J := RL_yard (b := ⟨g, gd, yl, sg, ys⟩) f
      have hp2 := RL_p f2
      refine ⟨_, rfl, p, _, dx, _, _, rfl, hp2, T.clReading, T.na_Reading_groups, rfl, tyL (RL_glast f2), lg, _, _, rfl, rfl, RL_glast f2, last_get _ _, ?_⟩
      rw [List.dropLast_concat]
      have f3 := RL_pop f2
      refine ⟨_, rfl, p, dx, _, rfl, RL_p f3, rfl, _, rfl, H0, p, dx, lk, lb, ll, lg, txt, { s with groups := gs.map GB.abs }, LK, gs, gs, ⟨g, gd, yl, sg, ys ++ [y]⟩, J, rfl, ⟨rfl, el, f3, jl, ?_⟩, by simp, sm', sm.2, fun H4 y' ey rd => ?_⟩
      · intro c hc z hz
        rcases List.mem_cons.mp hc with rfl | hc
        · rcases List.mem_append.mp hz with hz | hz
          · exact jg _ (.head _) z hz
          · exact ji z hz
        · exact jg c (.tail _ hc) z hz
      obtain ⟨LK', J', ⟨eg', el', f4, jl', jg'⟩, ji'⟩ := rd.ex
      have f5 := RL_drop f4
      have hp5 := RL_p f5
      refine ⟨_, rfl, p, _, dx, _, _, rfl, hp5, T.clReading, T.na_Reading_at, rfl, _, _, rfl, rfl, dx, _, hp5, Nat.le_of_ble_eq_true rfl, ?_⟩
      refine ⟨_, y', _, ?_, rfl, dx, lk, lb, ll, lg, LK', gs, J', ⟨?_, ?_, RL_pos f5, jl', fun c hc => jg' c (.tail _ hc)⟩, ji'⟩
      · have em : (ys ++ [y]).map YA.abs = ys.map YA.abs ++ [y.abs] := by rw [List.map_append]; rfl
        rw [← em] at es
        rw [ey]
        exact es
      · rfl
      · exact el'
  · rintro σ H1 ⟨y', u2, rfl, ey, t1⟩
    exact ⟨_, rfl, k _ y' ey t1⟩
def sp_Reading_whole (P : Program) (w : World) (T : TX K w mg) : Sp := fun vs H Q _ => ∃ (H0 : Hp) (p : Addr) (txt : List Nat) (st st' : RSt) (yd : List Int × List Int), vs = [.ref p] ∧ RdG T H0 H p txt st [] ∧ signsOk txt ∧ rWhole txt 100 st = some (yd, st') ∧
  ∀ H' y', y'.abs = yd → RdG T H0 H' p txt st' [y'] → Q (.ref y'.t) H'
theorem c_Reading_whole (T : TX K w mg) : C8.Met P w K mg base 4 T.cReading "whole" (sp_Reading_whole P w T) [] := by
  obtain ⟨f, fd, me, F, b⟩ := T.fn_Reading_whole
  refine C8.met0 T.clReading me F b sc_Reading_whole (fun vs H Q E h => by obtain ⟨_, _, _, _, _, _, rfl, _⟩ := h; rfl) (fun cdv A outer s H vs Q E hr h => ?_)
  have hu := hu_of hr
  have nd := sc_Reading_whole.nd
  refine ⟨_, (pss_one (ps_while PassesOwn.never (pt_val pe_bl) (pss_cons (ps_set (i := 1) nd rfl (Or.inl rfl) (C8.pe_mt (c_Reading_closed T) hr (by decide) (pv 0) (pa_cons (C8.pe_mt0 (c_Reading_first_device T) hr (by decide) (pv 0)) pa_nil)))
      (pss_cons (ps_if (pt_not (pt_truth (pe_fld (pv 0) rfl) (by intro _; rfl))) (pss_cons (ps_if (pt_cmpR op_lt (pe_fld (pv 0) rfl) (pe_callB call_len_str (by rfl) T.b_len PySem.boot_len (pa_cons (pe_fld (pv 0) rfl) pa_nil)) (nomark _)) (pss_one ps_never) pss_nil)
      (pss_one (ps_ret (pv 1)))) pss_nil)
      (pss_cons (ps_if (pt_cmpR op_ne (C8.pe_mt0 (c_Reading_sign T) hr (by decide) (pv 0)) pe_str (nomark _)) (pss_one ps_never) pss_nil)
      (pss_cons (ps_expr (pe_bm PySem.F.plainAttrs_list PySem.F.slot_list_append PySem.F.type_list_append mt_append (pe_fld (pe_ix (ix_listK (K := K) rfl) (pe_fld (pv 0) rfl) (pe_un un_neg pe_int) (fun _ _ => rfl)) rfl) (pa_cons (pv 1) pa_nil)))
      (pss_one (ps_fldaug (pv 0) pe_int in_add)))))))), ?_⟩
  obtain ⟨H0, p, txt, st, st', yd, rfl, tk, ⟨ok1, ok2⟩, e, k⟩ := h
  refine ⟨fun n σ H' => ∃ s u1, rWhole txt n s = some (yd, st') ∧ σ = [some (.ref p), u1] ∧ RdG T H0 H' p txt s [], ⟨100, st, _, e, rfl, tk⟩, ?_⟩
  rintro n σ H1 ⟨s, u1, es, rfl, t1⟩
  obtain ⟨dx, lk, lb, ll, lg, LK, gs, J, ⟨eg, el, f, jl, jg⟩, ji⟩ := t1.ex
  cases n with
  | zero => cases es
  | succ n =>
  unfold rWhole at es
  obtain ⟨⟨d, s1⟩, eF, es⟩ := Option.bind_eq_some_iff.mp es
  obtain ⟨⟨yd1, s2⟩, eC, es⟩ := Option.bind_eq_some_iff.mp es
  have es : (match s2.groups with
    | [] => if txt.length ≤ s2.pos then some (yd1, s2) else none
    | g :: gs => if txt[s2.pos]? = some 32 ∧ g.ys.length ≤ 20 then rWhole txt n { s2 with pos := s2.pos + 1, groups := { g with ys := g.ys ++ [yd1] } :: gs } else none) = some (yd, st') := es
  refine ⟨true, rfl, fun σ H' => ∃ s u1, rWhole txt n s = some (yd, st') ∧ σ = [some (.ref p), u1] ∧ RdG T H0 H' p txt s [], fun σ' H' h => ⟨n, by omega, h⟩, ?_⟩
  have hp := RL_p f
  refine ⟨_, rfl, p, dx, _, rfl, hp, rfl, _, rfl, p, dx, _, rfl, hp, rfl, H0, p, txt, s, s1, d, rfl, t1, ⟨ok1, ok2⟩, eF, fun H2 y ey t2 => ⟨H0, p, txt, s1, s2, y, yd1, rfl, t2, ⟨ok1, ok2⟩, by rw [ey]; exact eC, fun H3 y' ey' t3 => ?_⟩⟩
  obtain ⟨dx, lk, lb, ll, lg, LK, gs, J, ⟨eg, el, f, jl, jg⟩, ji⟩ := t3.ex
  have hp := RL_p f
  cases gs with
  | nil =>
    rw [← eg] at es
    have es : (if txt.length ≤ s2.pos then some (yd1, s2) else none) = some (yd, st') := es
    by_cases hl : txt.length ≤ s2.pos
    case neg => rw [if_neg hl] at es; cases es
    rw [if_pos hl] at es
    obtain ⟨rfl, rfl⟩ := Prod.mk.inj (Option.some.inj es)
    refine ⟨_, rfl, p, _, dx, _, _, rfl, hp, T.clReading, T.na_Reading_groups, rfl, _, .inl ⟨_, SqL.of (RL_g f), rfl⟩, iteT ?_⟩
    refine ⟨_, rfl, p, _, dx, _, _, rfl, hp, T.clReading, T.na_Reading_at, rfl, _, rfl, p, _, dx, _, _, rfl, hp, T.clReading, T.na_Reading_text, rfl, _, rfl, ?_, _, _, rfl, rfl, _, rfl, ite2 (fun z => ?_) (fun _ => ?_)⟩
    · show txt.toArray.size ≤ _
      rw [List.size_toArray]
      exact sz_le (by omega)
    · have z := of_decide_eq_true z
      have : (txS txt).length = txt.length := List.size_toArray ..
      rw [this] at z
      omega
    exact ⟨_, rfl, k _ y' ey' t3⟩
  | cons b gs =>
    rw [← eg] at es
    obtain ⟨g, gd, yl, sg, ys⟩ := b
    have es : (if txt[s2.pos]? = some 32 ∧ (ys.map YA.abs).length ≤ 20 then rWhole txt n { s2 with pos := s2.pos + 1, groups := ⟨sg, ys.map YA.abs ++ [yd1]⟩ :: gs.map GB.abs } else none) = some (yd, st') := es
    by_cases hb : txt[s2.pos]? = some 32 ∧ (ys.map YA.abs).length ≤ 20
    case neg => rw [if_neg hb] at es; cases es
    rw [if_pos hb] at es
    have hg : H3 g = some (.ins T.cGroup gd [("sign", .str (ch sg)), ("yards", .ref yl)]) := (RL_grp f).1
    have hy : H3 yl = some (.lst (ys.map fun y => V.ref y.t)) := (RL_grp f).2
    refine ⟨_, rfl, p, _, dx, _, _, rfl, hp, T.clReading, T.na_Reading_groups, rfl, true, .inl ⟨_, SqL.of (RL_glast f), by simp⟩, iteF ?_⟩
    refine ⟨_, rfl, p, dx, _, rfl, hp, rfl, p, dx, lk, lb, ll, lg, txt, s2.pos, rfl, hp, ok1, rfl, _, rfl, ite_cne (d := 32) (fun q => absurd hb.1 q) (fun _ => ?_)⟩
    have hl := hb.2
    rw [List.length_map] at hl
    refine ⟨_, rfl, p, _, dx, _, _, rfl, hp, T.clReading, T.na_Reading_groups, rfl, _, rfl, lg, _, _, _, rfl, rfl, SqL.of (RL_glast f), atI_last _ _, g, _, gd, _, _, rfl, hg, T.clGroup, T.na_Group_yards, rfl, tyL hy, _, rfl, yl, _, _, rfl, rfl, hy, sz_lt (by rw [List.length_map]; omega), ?_⟩
    have f2 : Fr H0 (upd H3 yl (.lst (ys.map (fun y => V.ref y.t) ++ [V.ref y'.t]))) (RL T p dx lk lb ll lg txt s2 LK (⟨g, gd, yl, sg, ys⟩ :: gs) (⟨g, gd, yl, sg, ys ++ [y']⟩ :: gs)) J := RL_yard (b := ⟨g, gd, yl, sg, ys⟩) f
    have f2 : Fr H0 (upd H3 yl (.lst (ys.map (fun y => V.ref y.t) ++ [V.ref y'.t]))) (RL T p dx lk lb ll lg txt s2 LK (⟨g, gd, yl, sg, ys ++ [y']⟩ :: gs) (⟨g, gd, yl, sg, ys ++ [y']⟩ :: gs)) J := by
      have e : (GB.mk g gd yl sg ys :: gs).reverse.map (fun b => V.ref b.g) = (GB.mk g gd yl sg (ys ++ [y']) :: gs).reverse.map fun b => V.ref b.g := by rw [List.reverse_cons, List.reverse_cons, List.map_append, List.map_append]; rfl
      unfold RL at f2 ⊢
      rw [e] at f2
      exact f2
    have hp2 := RL_p f2
    refine ⟨_, rfl, p, _, dx, _, _, rfl, hp2, T.clReading, T.na_Reading_at, rfl, _, _, rfl, rfl, dx, _, hp2, Nat.le_of_ble_eq_true rfl, ?_⟩
    refine ⟨_, _, es, rfl, dx, lk, lb, ll, lg, LK, ⟨g, gd, yl, sg, ys ++ [y']⟩ :: gs, J, ⟨?_, el, RL_pos f2, jl, ?_⟩, (by intro _ z; cases z)⟩
    · show GB.abs ⟨g, gd, yl, sg, ys ++ [y']⟩ :: gs.map GB.abs = _
      unfold GB.abs
      rw [List.map_append, ← ey']
      rfl
    · intro c hc z hz
      rcases List.mem_cons.mp hc with rfl | hc
      · rcases List.mem_append.mp hz with hz | hz
        · exact jg _ (.head _) z hz
        · exact ji z hz
      · exact jg c (.tail _ hc) z hz
end
end K92

/-! K92L: the yard of the program. -/
set_option Elab.async false
set_option linter.all false
set_option maxRecDepth 100000
set_option maxHeartbeats 4000000
set_option autoImplicit false
namespace K92
open PySem PySem.Spec PyProof.Rows L2
section
variable {P : Program} {w : World} {K : PySem.W.Frag} {mg : Str → Option Value} {base : Heap}
def rm (a : Addr) (H : Hp) : Hp := fun b => if b = a then none else H b
theorem rm_ne {a b : Addr} {H : Hp} (h : b ≠ a) : rm a H b = H b := if_neg h
theorem rm_self (a : Addr) (H : Hp) : rm a H a = none := if_pos rfl
theorem rm_same (a : Addr) (H : Hp) : Same (rm a H) H := fun b o h => by
  by_cases e : b = a
  · rw [e, rm_self] at h; cases h
  · rw [rm_ne e] at h; exact h
theorem rm_mono {a : Addr} {H H' : Hp} (s : Same H H') : Same (rm a H) (rm a H') := fun b o h => by
  by_cases e : b = a
  · rw [e, rm_self] at h; cases h
  · rw [rm_ne e] at h ⊢; exact s _ _ h
theorem rm_upd {a : Addr} {H : Hp} {o : HO} : Same (rm a H) (rm a (upd H a o)) := fun b u h => by
  by_cases e : b = a
  · rw [e, rm_self] at h; cases h
  · rw [rm_ne e] at h ⊢; rw [upd_ne e]; exact h
theorem rm_at {a b : Addr} {H : Hp} {o : HO} (h : H b = some o) (n : b ≠ a) : rm a H b = some o := by rw [rm_ne n]; exact h
def rLinks (s : RSt) (yd : List Int × List Int) : List (Int × Int) := s.links ++ (yd.1.map (fun e => ((-1 : Int), e)) ++ yd.2.map fun e => (e, (-1 : Int)))
def txtR (t : List Nat) : Bool := match tParse t, rWhole t 100 rinit with
  | some Y, some (yd, s) => decide (s.kinds = Y.kinds) && decide (s.bounds = Y.bounds) && (rLinks s yd).all (fun l => decide (l ∈ Y.links)) && Y.links.all (fun l => decide (l ∈ rLinks s yd)) && decide ((rLinks s yd).length ≤ 100)
  | _, _ => false
theorem texts_rd : texts.all txtR = true := by decide +kernel
theorem text_read {t : List Nat} {Y : Yd} (h : TxY t Y) : ∃ yd s, rWhole t 100 rinit = some (yd, s) ∧ s.kinds = Y.kinds ∧ s.bounds = Y.bounds ∧ (∀ l ∈ rLinks s yd, l ∈ Y.links) ∧ (∀ l ∈ Y.links, l ∈ rLinks s yd) ∧ (rLinks s yd).length ≤ 100 := by
  have q := (List.all_eq_true.mp texts_rd) t h.mem
  unfold txtR at q
  rw [h.parse] at q
  cases e : rWhole t 100 rinit with
  | none => rw [e] at q; cases q
  | some r =>
    rw [e] at q
    obtain ⟨yd, s⟩ := r
    have q : (decide (s.kinds = Y.kinds) && decide (s.bounds = Y.bounds) && (rLinks s yd).all (fun l => decide (l ∈ Y.links)) && Y.links.all (fun l => decide (l ∈ rLinks s yd)) && decide ((rLinks s yd).length ≤ 100)) = true := q
    simp only [Bool.and_eq_true, decide_eq_true_eq, List.all_eq_true] at q
    obtain ⟨⟨⟨⟨q1, q2⟩, q3⟩, q4⟩, q5⟩ := q
    exact ⟨yd, s, rfl, q1, q2, q3, q4, q5⟩
def yardF (tx : Str) (lk lb ll : Addr) : List (Str × V) := [("text", .str tx), ("kinds", .ref lk), ("bounds", .ref lb), ("links", .ref ll)]
structure YardAt (T : TX K w mg) (H : Hp) (p : Addr) (Y : Yd) : Prop where
  ex : ∃ (dx lk lb ll : Addr) (tx : Str) (xs : List V), H p = some (.ins T.cYard dx (yardF tx lk lb ll)) ∧ H lk = some (.lst (Y.kinds.map fun c => V.str (ch c))) ∧ H lb = some (.lst (Y.bounds.map bndV)) ∧ H ll = some (.lst xs) ∧
    (∀ v ∈ xs, ∃ t l, v = V.ref t ∧ H t = some (pairO l) ∧ l ∈ Y.links) ∧ (∀ l ∈ Y.links, ∃ t, V.ref t ∈ xs ∧ H t = some (pairO l)) ∧ xs.length ≤ 100
theorem YardAt.mono {T : TX K w mg} {H H' : Hp} {p : Addr} {Y : Yd} (s : Same H H') (h : YardAt T H p Y) : YardAt T H' p Y := by
  obtain ⟨dx, lk, lb, ll, tx, xs, h1, h2, h3, h4, h5, h6, h7⟩ := h.ex
  refine ⟨dx, lk, lb, ll, tx, xs, s _ _ h1, s _ _ h2, s _ _ h3, s _ _ h4, fun v hv => ?_, fun l hl => ?_, h7⟩
  · obtain ⟨t, l, e, e2, e3⟩ := h5 v hv
    exact ⟨t, l, e, s _ _ e2, e3⟩
  · obtain ⟨t, e, e2⟩ := h6 l hl
    exact ⟨t, e, s _ _ e2⟩
theorem upd_upd {H : Hp} {a : Addr} {x y : HO} : upd (upd H a x) a y = upd H a y := by
  funext c
  by_cases e : c = a
  · subst e; rw [upd_same, upd_same]
  · rw [upd_ne e, upd_ne e, upd_ne e]
/-- a list of new pairs, turn by turn -/
structure PrsI (G : Hp) (D : Addr) (l : List (Int × Int)) (H : Hp) : Prop where
  same : Same G H
  new : G D = none
  ex : ∃ ds : List Addr, H D = some (.lst (ds.map V.ref)) ∧ Paired (fun d x => H d = some (pairO x)) ds l
theorem PrsI.step {G H : Hp} {D t : Addr} {l : List (Int × Int)} {x : Int × Int} (u : PrsI G D l H) (n : H t = none) (sz : l.length ≤ 1000) : ∃ xs, upd H t (pairO x) D = some (.lst xs) ∧ xs.length < sizeLine ∧ PrsI G D (l ++ [x]) (upd (upd H t (pairO x)) D (.lst (xs ++ [.ref t]))) := by
  obtain ⟨ds, h1, h2⟩ := u.ex
  have hD : upd H t (pairO x) D = some (.lst (ds.map V.ref)) := by rw [upd_ne (ne_of_none h1 n)]; exact h1
  have keep : ∀ {b : Addr} {y : Int × Int}, upd H t (pairO x) b = some (pairO y) → upd (upd H t (pairO x)) D (.lst (ds.map V.ref ++ [.ref t])) b = some (pairO y) := fun z => lock_at hD z (by intro y; cases y)
  refine ⟨_, hD, sz_lt (by rw [List.length_map, paired_len h2]; omega), Same.mut (Same.add u.same n) u.new, u.new, ds ++ [t], by rw [upd_same, List.map_append]; rfl, ?_⟩
  exact paired_snoc (Paired.mapP h2 fun b m q => keep ((Same.new n) _ _ q)) (keep upd_same)
def sp_Yard_init (P : Program) (w : World) (T : TX K w mg) : Sp := fun vs H Q _ => ∃ (H0 : Hp) (p dx : Addr) (txt : List Nat) (Y : Yd), vs = [.ref p, .str (txS txt)] ∧ Fr H0 H [(p, .ins T.cYard dx [])] [] ∧ TxY txt Y ∧ ∀ H', Same H0 H' → YardAt T H' p Y → (∀ a xs, H0 a = some (.lst xs) → YardAt T (rm a H') p Y) → Q .non H'
theorem c_Yard_init (T : TX K w mg) : C8.Mak P w K mg base 6 "Yard" T.cYard (sp_Yard_init P w T) [] := by
  obtain ⟨f, fd, me, F, b⟩ := T.fn_Yard_init
  refine C8.mak0 me T.g_Yard F b .nil sc_Yard_init (fun vs H Q E h => by obtain ⟨_, _, _, _, _, rfl, _⟩ := h; rfl) (fun cdv A outer s H vs Q E hr h => ?_)
  have hu := hu_of hr
  have nd := sc_Yard_init.nd
  refine ⟨_, (pss_cons (ps_set (i := 2) nd rfl (Or.inl rfl) (C8.pe_mk (c_Reading_init T) hr (by decide) rfl (pa_cons (pv 1) pa_nil)))
      (pss_cons (ps_asg (C8.pe_mt0 (c_Reading_whole T) hr (by decide) (pv 2)) (pg_tup (by rfl) (pgs_cons (pg_name (i := 3) nd rfl (Or.inl rfl)) (pgs_cons (pg_name (i := 4) nd rfl (Or.inl rfl)) pgs_nil))))
      (pss_cons (ps_fld (pv 0) (pv 1) rfl)
      (pss_cons (ps_fld (pv 0) (pe_fld (pv 2) rfl) rfl)
      (pss_cons (ps_fld (pv 0) (pe_fld (pv 2) rfl) rfl)
      (pss_cons (ps_set (i := 5) nd rfl (Or.inl rfl) (pe_op op_cat (pe_lc (own := [("entry", 6)]) rfl nd (pi_list (pv 3)) (blkOk_by (N := N_Yard_init) (sc := C8.fnScope s_Yard_init) (by decide +kernel)) (fun _ _ _ _ _ => (pg_name (i := 6) nd rfl (Or.inl rfl))) (fun _ _ _ _ _ => pts_nil) (fun _ _ _ _ _ => (pe_tup (pa_cons (C8.pe_gc rfl T.g_OUTSIDE) (pa_cons (pv 6) pa_nil))))) (pe_lc (own := [("out", 7)]) rfl nd (pi_list (pv 4)) (blkOk_by (N := N_Yard_init) (sc := C8.fnScope s_Yard_init) (by decide +kernel)) (fun _ _ _ _ _ => (pg_name (i := 7) nd rfl (Or.inl rfl))) (fun _ _ _ _ _ => pts_nil) (fun _ _ _ _ _ => (pe_tup (pa_cons (pv 7) (pa_cons (C8.pe_gc rfl T.g_OUTSIDE) pa_nil)))))))
      (pss_one (ps_fld (pv 0) (pe_callB cr_sortedP (by rfl) T.b_sorted boot_sorted_ (pa_cons (pe_op op_cat (pe_fld (pv 2) rfl) (pv 5)) pa_nil)) rfl)))))))), ?_⟩
  obtain ⟨H0, p, dx, txt, Y, rfl, f0, ty, k⟩ := h
  obtain ⟨yd, s, eW, qk, qb, q3, q4, q5⟩ := text_read ty
  have hp0 : H p = some (.ins T.cYard dx []) := f0.get (.head _)
  have np0 : H0 p = none := (f0.own _ (.head _)).1
  refine ⟨_, rfl, fun r rd nr nrd ne => ⟨H, r, rd, txt, rfl, ((Fr.empty H).junk nrd).new_own (by rw [upd_ne (Ne.symm ne)]; exact nr), fun H1 t1 => ⟨rfl, ?_⟩⟩⟩
  have t1x := t1.ex
  obtain ⟨dx1, lk, lb, ll, lg, LK, gs, J, ⟨eg, el, f1, jl, jg⟩, ji⟩ := t1x
  refine ⟨_, rfl, r, dx1, _, rfl, RL_p f1, rfl, H, r, txt, rinit, s, yd, rfl, t1, ty.sg, eW, fun H2 y ey t2 => ?_⟩
  obtain ⟨hyt, hye, hyx⟩ := t2.yard (.head _)
  obtain ⟨dx2, lk, lb, ll, lg, LK, gs, J, ⟨eg, el, f2, jl, jg⟩, ji⟩ := t2.ex
  have hp2 : H2 p = some (.ins T.cYard dx []) := f2.same _ _ hp0
  have own : ∀ x ∈ RL T r dx2 lk lb ll lg txt s LK gs gs, x.1 ≠ p := fun x hx z => by
    have := (f2.own x hx).1
    rw [z, hp0] at this
    cases this
  have nr' : r ≠ p := own _ (.head _)
  have nlk : lk ≠ p := own _ (.tail _ (.head _))
  have nlb : lb ≠ p := own _ (.tail _ (.tail _ (.head _)))
  have nll : ll ≠ p := own _ (.tail _ (.tail _ (.tail _ (.head _))))
  refine ⟨y.t, _, rfl, SqT.of' hyt, rfl, _, _, rfl, _, _, rfl, rfl, ?_⟩
  refine ⟨_, rfl, _, rfl, p, _, dx, _, rfl, hp2, T.clYard, T.na_Yard_text, Nat.le_of_ble_eq_true rfl, ?_⟩
  refine ⟨_, rfl, r, _, dx2, _, _, rfl, by rw [upd_ne nr']; exact RL_p f2, T.clReading, T.na_Reading_kinds, rfl, _, rfl, p, _, dx, _, rfl, upd_same, T.clYard, T.na_Yard_kinds, Nat.le_of_ble_eq_true rfl, ?_⟩
  rw [upd_upd]
  refine ⟨_, rfl, r, _, dx2, _, _, rfl, by rw [upd_ne nr']; exact RL_p f2, T.clReading, T.na_Reading_bounds, rfl, _, rfl, p, _, dx, _, rfl, upd_same, T.clYard, T.na_Yard_bounds, Nat.le_of_ble_eq_true rfl, ?_⟩
  rw [upd_upd]
  have hpG : upd H2 p (.ins T.cYard dx [("text", .str (txS txt)), ("kinds", .ref lk), ("bounds", .ref lb)]) p = some (.ins T.cYard dx [("text", .str (txS txt)), ("kinds", .ref lk), ("bounds", .ref lb)]) := upd_same
  have sG : Same H0 (upd H2 p (.ins T.cYard dx [("text", .str (txS txt)), ("kinds", .ref lk), ("bounds", .ref lb)])) := Same.mut (Same.trans f0.same f2.same) np0
  have kG : ∀ a o, a ≠ p → H2 a = some o → upd H2 p (.ins T.cYard dx [("text", .str (txS txt)), ("kinds", .ref lk), ("bounds", .ref lb)]) a = some o := fun a o n z => by rw [upd_ne n]; exact z
  show tAsg (tOp rCat (tLc (iList K (tVar 3)) (gName 6) tYes (tTup (tCons (tC (.int (-1))) (tCons (tVar 6) tNil))) [6]) (tLc (iList K (tVar 4)) (gName 7) tYes (tTup (tCons (tVar 7) (tCons (tC (.int (-1))) tNil))) [7])) (gName 5) _ _ (upd H2 p (.ins T.cYard dx [("text", .str (txS txt)), ("kinds", .ref lk), ("bounds", .ref lb)]))
  generalize upd H2 p (.ins T.cYard dx [("text", .str (txS txt)), ("kinds", .ref lk), ("bounds", .ref lb)]) = G at hpG sG kG ⊢
  have hr : G r = _ := kG _ _ nr' (RL_p f2)
  have hlk := kG _ _ nlk (RL_k f2)
  have hlb := kG _ _ nlb (RL_b f2)
  have hll := kG _ _ nll (RL_l f2)
  have hLK : ∀ x ∈ LK, G x.1 = some (pairO x.2) := fun x hx => kG _ _ (fun z => by have := f2.got (jl x hx); rw [z, hp2] at this; cases this) (f2.got (jl x hx))
  have he : G y.e = some (intsO y.ent) := kG _ _ (fun z => by rw [z, hp2] at hye; cases hye) hye
  have hx : G y.x = some (intsO y.exi) := kG _ _ (fun z => by rw [z, hp2] at hyx; cases hyx) hyx
  obtain ⟨ey1, ey2⟩ := Prod.mk.inj ey
  have lens : LK.length + (y.ent.length + y.exi.length) ≤ 100 := by
    rw [rLinks, ← el, ← ey1, ← ey2] at q5
    simpa using q5
  refine ⟨_, rfl, y.e, rfl, ⟨_, SqL.of he⟩, fun D nD => ?_⟩
  refine lc_list (K := K) (a := y.e) (xs := y.ent.map V.int) (fun i H' => PrsI G D ((y.ent.take i).map fun e => ((-1 : Int), e)) H') ⟨Same.new nD, nD, [], upd_same, .nil⟩ (fun i H' _ u => SqL.of (u.same _ _ he)) ?_ ?_
  · intro i x H' hx u
    have hi := get_lt hx
    rw [List.length_map] at hi
    obtain ⟨v, hv⟩ := get_some hi
    obtain rfl : x = V.int v := Option.some.inj (hx.symm.trans (map_at hv))
    refine ⟨rfl, _, rfl, sz_le (Nat.le_of_ble_eq_true rfl), fun t nt => ?_⟩
    obtain ⟨xs, e1, e2, e3⟩ := u.step (x := ((-1 : Int), v)) nt (by rw [List.length_map, List.length_take]; omega)
    refine ⟨xs, e1, e2, ?_⟩
    rw [take_snoc hv, List.map_append]
    exact e3
  intro H3 u3
  rw [List.length_map, List.take_length] at u3
  refine ⟨_, rfl, y.x, rfl, ⟨_, SqL.of (u3.same _ _ hx)⟩, fun D2 nD2 => ?_⟩
  refine lc_list (K := K) (a := y.x) (xs := y.exi.map V.int) (fun i H' => PrsI H3 D2 ((y.exi.take i).map fun e => (e, (-1 : Int))) H') ⟨Same.new nD2, nD2, [], upd_same, .nil⟩ (fun i H' _ u => SqL.of (u.same _ _ (u3.same _ _ hx))) ?_ ?_
  · intro i x H' hx u
    have hi := get_lt hx
    rw [List.length_map] at hi
    obtain ⟨v, hv⟩ := get_some hi
    obtain rfl : x = V.int v := Option.some.inj (hx.symm.trans (map_at hv))
    refine ⟨rfl, _, rfl, sz_le (Nat.le_of_ble_eq_true rfl), fun t nt => ?_⟩
    obtain ⟨xs, e1, e2, e3⟩ := u.step (x := (v, (-1 : Int))) nt (by rw [List.length_map, List.length_take]; omega)
    refine ⟨xs, e1, e2, ?_⟩
    rw [take_snoc hv, List.map_append]
    exact e3
  intro H4 u4
  rw [List.length_map, List.take_length] at u4
  obtain ⟨da, ha, pa⟩ := u3.ex
  obtain ⟨db, hb, pb⟩ := u4.ex
  have la := paired_len pa
  have lb' := paired_len pb
  rw [List.length_map] at la lb'
  refine ⟨D, D2, _, _, rfl, rfl, u4.same _ _ ha, hb, sz_le (by rw [List.length_map, List.length_map]; omega), fun q nq => ?_⟩
  have s34 := Same.trans u3.same u4.same
  have s5 := Same.add s34 nq (o := .lst (da.map V.ref ++ db.map V.ref))
  have hr5 := s5 _ _ hr
  refine ⟨_, rfl, r, _, dx2, _, _, rfl, hr5, T.clReading, T.na_Reading_links, rfl, _, rfl, ll, q, _, _, rfl, rfl, s5 _ _ hll, upd_same, sz_le (by rw [List.length_map, List.length_append, List.length_map, List.length_map]; omega), fun q2 nq2 => ?_⟩
  have s6 := Same.add s5 nq2 (o := .lst (LK.map (fun x => V.ref x.1) ++ (da.map V.ref ++ db.map V.ref)))
  have pa6 := Paired.mapP pa fun b m z => (Same.trans u4.same (Same.trans (Same.new nq) (Same.new nq2 (o := .lst (LK.map (fun x => V.ref x.1) ++ (da.map V.ref ++ db.map V.ref)))))) _ _ z
  have pb6 := Paired.mapP pb fun b m z => (Same.trans (Same.new nq) (Same.new nq2 (o := .lst (LK.map (fun x => V.ref x.1) ++ (da.map V.ref ++ db.map V.ref))))) _ _ z
  have mem3 : ∀ l, l ∈ rLinks s yd ↔ l ∈ LK.map (·.2) ∨ l ∈ y.ent.map (fun e => ((-1 : Int), e)) ∨ l ∈ y.exi.map (fun e => (e, (-1 : Int))) := fun l => by
    rw [rLinks, ← el, ← ey1, ← ey2, List.mem_append, List.mem_append]
  have pmem : ∀ {H' : Hp} {ds : List Addr} {L : List (Int × Int)}, Paired (fun d x => H' d = some (pairO x)) ds L → (∀ d ∈ ds, ∃ l, l ∈ L ∧ H' d = some (pairO l)) ∧ ∀ l ∈ L, ∃ d, d ∈ ds ∧ H' d = some (pairO l) := fun {H' ds L} pp => by
    induction pp with
    | nil => exact ⟨(by intro _ z; cases z), (by intro _ z; cases z)⟩
    | cons q _ ih =>
      refine ⟨fun d hd => ?_, fun l hl => ?_⟩
      · rcases List.mem_cons.mp hd with rfl | hd
        · exact ⟨_, .head _, q⟩
        · obtain ⟨l, h1, h2⟩ := ih.1 d hd
          exact ⟨l, .tail _ h1, h2⟩
      · rcases List.mem_cons.mp hl with rfl | hl
        · exact ⟨_, .head _, q⟩
        · obtain ⟨d, h1, h2⟩ := ih.2 l hl
          exact ⟨d, .tail _ h1, h2⟩
  have allp : ∀ v ∈ LK.map (fun x => V.ref x.1) ++ (da.map V.ref ++ db.map V.ref), ∃ t l, v = V.ref t ∧ upd (upd H4 q (.lst (da.map V.ref ++ db.map V.ref))) q2 (.lst (LK.map (fun x => V.ref x.1) ++ (da.map V.ref ++ db.map V.ref))) t = some (pairO l) ∧ l ∈ rLinks s yd := fun v hv => by
    rcases List.mem_append.mp hv with hv | hv
    · obtain ⟨x, hx, rfl⟩ := List.mem_map.mp hv
      exact ⟨x.1, x.2, rfl, s6 _ _ (hLK x hx), (mem3 _).mpr (.inl (List.mem_map_of_mem hx))⟩
    · rcases List.mem_append.mp hv with hv | hv
      · obtain ⟨d, hd, rfl⟩ := List.mem_map.mp hv
        obtain ⟨l, h1, h2⟩ := (pmem pa6).1 d hd
        exact ⟨d, l, rfl, h2, (mem3 _).mpr (.inr (.inl h1))⟩
      · obtain ⟨d, hd, rfl⟩ := List.mem_map.mp hv
        obtain ⟨l, h1, h2⟩ := (pmem pb6).1 d hd
        exact ⟨d, l, rfl, h2, (mem3 _).mpr (.inr (.inr h1))⟩
  refine ⟨q2, _, rfl, SqL.of upd_same, fun v hv => ?_, fun ys q3' perm nq3 => ?_⟩
  · obtain ⟨t, l, e1, e2, _⟩ := allp v hv
    exact ⟨t, _, _, e1, e2⟩
  have s7 := Same.new nq3 (o := .lst ys)
  have s67 := Same.trans s6 s7
  have hp7 := s67 _ _ hpG
  refine ⟨_, rfl, p, _, dx, _, rfl, hp7, T.clYard, T.na_Yard_links, Nat.le_of_ble_eq_true rfl, ?_⟩
  have kF : ∀ a o, (∀ c e f, o ≠ HO.ins c e f) → upd (upd (upd H4 q (.lst (da.map V.ref ++ db.map V.ref))) q2 (.lst (LK.map (fun x => V.ref x.1) ++ (da.map V.ref ++ db.map V.ref)))) q3' (.lst ys) a = some o →
      upd (upd (upd (upd H4 q (.lst (da.map V.ref ++ db.map V.ref))) q2 (.lst (LK.map (fun x => V.ref x.1) ++ (da.map V.ref ++ db.map V.ref)))) q3' (.lst ys)) p (.ins T.cYard dx (yardF (txS txt) lk lb q3')) a = some o := fun a o n z => lock_at hp7 z (n _ _ _)
  have fullS := Same.mut (Same.trans sG s67) np0 (o := .ins T.cYard dx (yardF (txS txt) lk lb q3'))
  have all : ∀ G : Hp, G p = some (.ins T.cYard dx (yardF (txS txt) lk lb q3')) → G lk = some (.lst (s.kinds.map fun c => V.str (ch c))) → G lb = some (.lst (s.bounds.map bndV)) → G q3' = some (.lst ys) →
      (∀ {b : Addr} {l : Int × Int}, upd (upd (upd (upd H4 q (.lst (da.map V.ref ++ db.map V.ref))) q2 (.lst (LK.map (fun x => V.ref x.1) ++ (da.map V.ref ++ db.map V.ref)))) q3' (.lst ys)) p (.ins T.cYard dx (yardF (txS txt) lk lb q3')) b = some (pairO l) → G b = some (pairO l)) → YardAt T G p Y := fun G g1 g2 g3 g4 tu => by
    refine ⟨dx, lk, lb, q3', txS txt, ys, g1, ?_, ?_, g4, fun v hv => ?_, fun l hl => ?_, ?_⟩
    · rw [← qk]; exact g2
    · rw [← qb]; exact g3
    · obtain ⟨t, l, e1, e2, e3⟩ := allp v (perm.mem_iff.mp hv)
      exact ⟨t, l, e1, tu (kF _ _ (by intro _ _ _ z; cases z) (s7 _ _ e2)), q3 l e3⟩
    · have hl' := q4 l hl
      rcases (mem3 l).mp hl' with h | h | h
      · obtain ⟨x, hx, rfl⟩ := List.mem_map.mp h
        exact ⟨x.1, perm.mem_iff.mpr (List.mem_append_left _ (List.mem_map.mpr ⟨x, hx, rfl⟩)), tu (kF _ _ (by intro _ _ _ z; cases z) (s67 _ _ (hLK x hx)))⟩
      · obtain ⟨d, h1, h2⟩ := (pmem pa6).2 l h
        exact ⟨d, perm.mem_iff.mpr (List.mem_append_right _ (List.mem_append_left _ (List.mem_map_of_mem h1))), tu (kF _ _ (by intro _ _ _ z; cases z) (s7 _ _ h2))⟩
      · obtain ⟨d, h1, h2⟩ := (pmem pb6).2 l h
        exact ⟨d, perm.mem_iff.mpr (List.mem_append_right _ (List.mem_append_right _ (List.mem_map_of_mem h1))), tu (kF _ _ (by intro _ _ _ z; cases z) (s7 _ _ h2))⟩
    · rw [perm.length_eq, List.length_append, List.length_append, List.length_map, List.length_map, List.length_map]
      omega
  have g2 := kF _ _ (by intro _ _ _ z; cases z) (s67 _ _ hlk)
  have g3 := kF _ _ (by intro _ _ _ z; cases z) (s67 _ _ hlb)
  have g4 := kF _ _ (by intro _ _ _ z; cases z) (upd_same (H := upd (upd H4 q (.lst (da.map V.ref ++ db.map V.ref))) q2 (.lst (LK.map (fun x => V.ref x.1) ++ (da.map V.ref ++ db.map V.ref)))) (a := q3') (o := .lst ys))
  refine k _ fullS (all _ upd_same g2 g3 g4 fun z => z) fun a xs ha => ?_
  have fr0 : ∀ x ∈ RL T r dx2 lk lb ll lg txt s LK gs gs, x.1 ≠ a := fun x hx z => by
    have := (f2.own x hx).1
    rw [z, f0.same _ _ ha] at this
    cases this
  have pa : p ≠ a := fun z => by rw [z, ha] at np0; cases np0
  have n3 : H0 q3' = none := Same.free (Same.trans sG s6) nq3
  have qa : q3' ≠ a := fun z => by rw [z, ha] at n3; cases n3
  refine all _ (rm_at upd_same pa) (rm_at g2 (fr0 _ (.tail _ (.head _)))) (rm_at g3 (fr0 _ (.tail _ (.tail _ (.head _))))) (rm_at g4 qa) fun {b l} z => rm_at z fun y => ?_
  rw [y, fullS _ _ ha] at z
  cases z
def sp_Yard_len (P : Program) (w : World) (T : TX K w mg) : Sp := fun vs H Q _ => ∃ (p : Addr) (Y : Yd), vs = [.ref p] ∧ YardAt T H p Y ∧ Q (.int (Y.kinds.length : Int)) H
theorem c_Yard_len (T : TX K w mg) : C8.Met P w K mg base 1 T.cYard "__len__" (sp_Yard_len P w T) [] := by
  obtain ⟨f, fd, me, F, b⟩ := T.fn_Yard_len
  refine C8.met0 T.clYard me F b sc_Yard_len (fun vs H Q E h => by obtain ⟨_, _, rfl, _⟩ := h; rfl) (fun cdv A outer s H vs Q E hr h => ?_)
  have hu := hu_of hr
  have nd := sc_Yard_len.nd
  refine ⟨_, (pss_one (ps_ret (pe_callB (call_lenK (K := K) rfl) (by rfl) T.b_len PySem.boot_len (pa_cons (pe_fld (pv 0) rfl) pa_nil)))), ?_⟩
  obtain ⟨p, Y, rfl, ⟨dx, lk, lb, ll, tx, xs, h1, h2, h3, h4, h5⟩, k⟩ := h
  refine ⟨_, rfl, p, _, dx, _, _, rfl, h1, T.clYard, T.na_Yard_kinds, rfl, lk, _, rfl, .inl (SqL.of h2), ?_⟩
  rw [List.length_map]
  exact k
def sp_ends (P : Program) (w : World) (T : TX K w mg) (f : Nat → List Int) : Sp := fun vs H Q _ => ∃ (p : Addr) (Y : Yd) (d : Int) (c : Nat), vs = [.ref p, .int d] ∧ YardAt T H p Y ∧ 0 ≤ d ∧ Y.kinds[d.toNat]? = some c ∧ c ∈ letters ∧ ∀ a, H a = none → Q (.ref a) (upd H a (intsO (f c)))
abbrev sp_Yard_ins (P : Program) (w : World) (T : TX K w mg) : Sp := sp_ends P w T insOf
abbrev sp_Yard_outs (P : Program) (w : World) (T : TX K w mg) : Sp := sp_ends P w T outsOf
theorem c_Yard_ins (T : TX K w mg) : C8.Met P w K mg base 1 T.cYard "ins" (sp_Yard_ins P w T) [] := by
  obtain ⟨f, fd, me, F, b⟩ := T.fn_Yard_ins
  refine C8.met0 T.clYard me F b sc_Yard_ins (fun vs H Q E h => by obtain ⟨_, _, _, _, rfl, _⟩ := h; rfl) (fun cdv A outer s H vs Q E hr h => ?_)
  have hu := hu_of hr
  have nd := sc_Yard_ins.nd
  refine ⟨_, (pss_one (ps_ret (pe_callTy (call_listK (K := K) rfl) (by rfl) T.b_list boot_list_ (pa_cons (pe_ix ix_kdict (C8.pe_gc rfl T.g_INS) (pe_ix (ix_listK (K := K) rfl) (pe_fld (pv 0) rfl) (pv 1) (fun _ _ => rfl)) (fun _ _ => rfl)) pa_nil)))), ?_⟩
  obtain ⟨p, Y, d, c, rfl, ⟨dx, lk, lb, ll, tx, xs, h1, h2, h3, h4, h5⟩, d0, hc, cl, k⟩ := h
  obtain ⟨ta, td, tt⟩ := T.tdI.get c cl
  exact ⟨_, rfl, p, _, dx, _, _, rfl, h1, T.clYard, T.na_Yard_kinds, rfl, _, rfl, lk, _, _, _, rfl, rfl, SqL.of h2, at_int d0 (map_at hc), _, _, _, rfl, rfl, td, ta, _, rfl, .inr (tt _), k⟩
theorem c_Yard_outs (T : TX K w mg) : C8.Met P w K mg base 1 T.cYard "outs" (sp_Yard_outs P w T) [] := by
  obtain ⟨f, fd, me, F, b⟩ := T.fn_Yard_outs
  refine C8.met0 T.clYard me F b sc_Yard_outs (fun vs H Q E h => by obtain ⟨_, _, _, _, rfl, _⟩ := h; rfl) (fun cdv A outer s H vs Q E hr h => ?_)
  have hu := hu_of hr
  have nd := sc_Yard_outs.nd
  refine ⟨_, (pss_one (ps_ret (pe_callTy (call_listK (K := K) rfl) (by rfl) T.b_list boot_list_ (pa_cons (pe_ix ix_kdict (C8.pe_gc rfl T.g_OUTS) (pe_ix (ix_listK (K := K) rfl) (pe_fld (pv 0) rfl) (pv 1) (fun _ _ => rfl)) (fun _ _ => rfl)) pa_nil)))), ?_⟩
  obtain ⟨p, Y, d, c, rfl, ⟨dx, lk, lb, ll, tx, xs, h1, h2, h3, h4, h5⟩, d0, hc, cl, k⟩ := h
  obtain ⟨ta, td, tt⟩ := T.tdO.get c cl
  exact ⟨_, rfl, p, _, dx, _, _, rfl, h1, T.clYard, T.na_Yard_kinds, rfl, _, rfl, lk, _, _, _, rfl, rfl, SqL.of h2, at_int d0 (map_at hc), _, _, _, rfl, rfl, td, ta, _, rfl, .inr (tt _), k⟩
def sp_Yard_room (P : Program) (w : World) (T : TX K w mg) : Sp := fun vs H Q _ => ∃ (p : Addr) (Y : Yd) (d : Int) (b n : Nat), vs = [.ref p, .int d, .int (n : Int)] ∧ YardAt T H p Y ∧ 0 ≤ d ∧ Y.bounds[d.toNat]? = some b ∧ Q (.bl (!decide (0 < b ∧ b ≤ n))) H
theorem c_Yard_room (T : TX K w mg) : C8.Met P w K mg base 1 T.cYard "room" (sp_Yard_room P w T) [] := by
  obtain ⟨f, fd, me, F, b⟩ := T.fn_Yard_room
  refine C8.met0 T.clYard me F b sc_Yard_room (fun vs H Q E h => by obtain ⟨_, _, _, _, _, rfl, _⟩ := h; rfl) (fun cdv A outer s H vs Q E hr h => ?_)
  have hu := hu_of hr
  have nd := sc_Yard_room.nd
  refine ⟨_, (pss_one (ps_ret (pe_or (pe_cmpR op_isN (pe_ix (ix_listK (K := K) rfl) (pe_fld (pv 0) rfl) (pv 1) (fun _ _ => rfl)) pe_non (nomark _)) (pe_one (pe_cmpR op_lt (pv 2) (pe_ix (ix_listK (K := K) rfl) (pe_fld (pv 0) rfl) (pv 1) (fun _ _ => rfl)) (nomark _)))))), ?_⟩
  obtain ⟨p, Y, d, b, n, rfl, ⟨dx, lk, lb, ll, tx, xs, h1, h2, h3, h4, h5⟩, d0, hb, k⟩ := h
  refine ⟨_, rfl, p, _, dx, _, _, rfl, h1, T.clYard, T.na_Yard_bounds, rfl, _, rfl, lb, _, _, _, rfl, rfl, SqL.of h3, at_int d0 (map_at hb), rfl, _, rfl, ?_⟩
  by_cases e : b = 0
  · subst e
    refine iteT ?_
    exact k
  · have bv : bndV b = V.int (b : Int) := if_neg e
    rw [bv]
    refine iteF ?_
    refine ⟨_, rfl, _, rfl, p, _, dx, _, _, rfl, h1, T.clYard, T.na_Yard_bounds, rfl, _, rfl, lb, _, _, _, rfl, rfl, SqL.of h3, at_int d0 (map_at hb), _, _, rfl, bv, ?_⟩
    have : (!decide (0 < b ∧ b ≤ n)) = decide ((n : Int) < (b : Int)) := by
      by_cases z : b ≤ n
      · rw [decide_eq_true (show 0 < b ∧ b ≤ n from ⟨by omega, z⟩), decide_eq_false (by omega)]; rfl
      · rw [decide_eq_false (fun q => z q.2), decide_eq_true (by omega)]; rfl
    rw [this] at k
    exact k
end
end K92

/-! K92N: moves: possible, after. -/
set_option Elab.async false
set_option linter.all false
set_option maxRecDepth 100000
set_option maxHeartbeats 4000000
set_option autoImplicit false
namespace K92
open PySem PySem.Spec PyProof.Rows L2
section
variable {P : Program} {w : World} {K : PySem.W.Frag} {mg : Str → Option Value} {base : Heap}
/-! ### situations and moves as data -/
def tupD (l : List Int) : PyData := .tuple (l.map PyData.int)
def encM (m : Move) : PyData := tupD [m.1, m.2.1, m.2.2.1, m.2.2.2]
def encS (S : Sit) : PyData := .tuple [.int (S.came : Int), .tuple (S.held.map tupD), tupD S.gone]
theorem alike_tup (a b : List Int) : PySem.W.alike (tupD a) (tupD b) = true := by
  show PySem.W.alike (.tuple (a.map PyData.int)) (.tuple (b.map PyData.int)) = true
  rw [PySem.W.alike]
  exact PySem.W.alike_ints a b
theorem alike_tups : ∀ A B : List (List Int), PySem.W.alikeAll (A.map tupD) (B.map tupD) = true
  | [], _ => by simp [PySem.W.alikeAll]
  | _ :: _, [] => by simp [PySem.W.alikeAll]
  | a :: A, b :: B => by
    show PySem.W.alikeAll (tupD a :: A.map tupD) (tupD b :: B.map tupD) = true
    rw [PySem.W.alikeAll, alike_tup, alike_tups A B]
    rfl
theorem alike_S (a b : Sit) : PySem.W.alike (encS a) (encS b) = true := by
  show PySem.W.alike (.tuple [.int _, .tuple _, tupD _]) (.tuple [.int _, .tuple _, tupD _]) = true
  have e : PySem.W.alike (.tuple (a.held.map tupD)) (.tuple (b.held.map tupD)) = true := by rw [PySem.W.alike]; exact alike_tups _ _
  rw [PySem.W.alike, PySem.W.alikeAll, PySem.W.alikeAll, PySem.W.alikeAll, alike_tup, e]
  simp [PySem.W.alike, PySem.W.alikeAll]
theorem depth_tup (l : List Int) : (tupD l).depth = 1 := by
  show (PyData.tuple (l.map PyData.int)).depth = 1
  rw [PyData.depth, PySem.W.depth_ints]
theorem depth_tups : ∀ A : List (List Int), PyData.depthAll (A.map tupD) ≤ 1
  | [] => by simp [PyData.depthAll]
  | a :: A => by
    show PyData.depthAll (tupD a :: A.map tupD) ≤ 1
    rw [PyData.depthAll, depth_tup]
    have := depth_tups A
    omega
theorem depth_S (S : Sit) : (encS S).depth ≤ 3 := by
  show (PyData.tuple [.int _, .tuple _, tupD _]).depth ≤ 3
  rw [PyData.depth, PyData.depthAll, PyData.depthAll, PyData.depthAll, depth_tup, PyData.depth]
  have := depth_tups S.held
  simp [PyData.depth, PyData.depthAll]
  omega
theorem dp_tup {H : Hp} {d : Addr} {l : List Int} (h : H d = some (.tup (l.map V.int))) : Dp K H (.ref d) (tupD l) := .tup (SqT.of' h) (dpAll_ints l)
theorem dp_move {H : Hp} {d : Addr} {m : Move} (h : MoveAt H d m) : Dp K H (.ref d) (encM m) := dp_tup (l := [m.1, m.2.1, m.2.2.1, m.2.2.2]) h
theorem dp_tups {H : Hp} {ds : List Addr} {L : List (List Int)} (h : TupsAt H ds L) : DpAll K H (ds.map V.ref) (L.map tupD) := by
  induction h with
  | nil => exact .nil
  | cons q _ ih => exact .cons (dp_tup q) ih
theorem dp_sit {H : Hp} {q : Addr} {S : Sit} (h : SitAt H q S) : Dp K H (.ref q) (encS S) := by
  obtain ⟨hd, gn, ds, g1, g2, g3, g4⟩ := h.ex
  exact .tup (SqT.of' g1) (.cons (.int _) (.cons (.tup (SqT.of' g2) (dp_tups g3)) (.cons (dp_tup g4) .nil)))
/-- sorted of moves -/
theorem sort_moves {H : Hp} {a : Addr} {L : List (Addr × Move)} {Q : VK} (h : H a = some (.lst (L.map fun x => V.ref x.1))) (hm : ∀ x ∈ L, MoveAt H x.1 x.2) (k : ∀ (L' : List (Addr × Move)) q, L'.Perm L → H q = none → Q (.ref q) (upd H q (.lst (L'.map fun x => V.ref x.1)))) : rSortedD K [.ref a] H Q :=
  ⟨a, Move, encM, L, rfl, SqL.of h, fun p hp => dp_move (hm p hp), PySem.W.AllAlike.of (enc := fun p : Addr × Move => encM p.2) fun _ _ => alike_tup _ _, PySem.W.Sortable.tuples (enc := fun p : Addr × Move => encM p.2) fun _ => ⟨_, _, rfl⟩, fun p _ => by show (tupD _).depth ≤ 8; rw [depth_tup]; omega, k⟩
theorem sort_sits {H : Hp} {a : Addr} {L : List (Addr × Sit)} {Q : VK} (h : H a = some (.lst (L.map fun x => V.ref x.1))) (hm : ∀ x ∈ L, SitAt H x.1 x.2) (k : ∀ (L' : List (Addr × Sit)) q, L'.Perm L → H q = none → Q (.ref q) (upd H q (.lst (L'.map fun x => V.ref x.1)))) : rSortedD K [.ref a] H Q :=
  ⟨a, Sit, encS, L, rfl, SqL.of h, fun p hp => dp_sit (hm p hp), PySem.W.AllAlike.of (enc := fun p : Addr × Sit => encS p.2) fun _ _ => alike_S _ _, PySem.W.Sortable.tuples (enc := fun p : Addr × Sit => encS p.2) fun _ => ⟨_, _, rfl⟩, fun p _ => by have := depth_S p.2; omega, k⟩
/-! ### first_situation -/
def sp_first_situation (P : Program) (w : World) (T : TX K w mg) : Sp := fun vs H Q _ => ∃ (y r : Addr) (Y : Yd) (row : List Int), vs = [.ref y, .ref r] ∧ YardAt T H y Y ∧ RowAt H r row ∧ IsRow row ∧ row.length ≤ 60 ∧ YOk Y ∧ ∀ H' q, Same H H' → SitAt H' q (first Y) → Q (.ref q) H'
theorem c_first_situation (T : TX K w mg) : C8.Cal P w K mg base 3 "first_situation" (sp_first_situation P w T) [] := by
  obtain ⟨f, fd, F, b⟩ := T.fn_first_situation
  refine C8.cal0 F b .nil sc_first_situation (fun vs H Q E h => by obtain ⟨_, _, _, _, rfl, _⟩ := h; rfl) (fun cdv A outer s H vs Q E hr h => ?_)
  have hu := hu_of hr
  have nd := sc_first_situation.nd
  refine ⟨_, (pss_cons (ps_expr (C8.pe_c (c_check_row T) hr (by decide) rfl (pa_cons (pv 1) pa_nil)))
      (pss_one (ps_ret (pe_tup (pa_cons pe_int (pa_cons (pe_callTy (call_tupleK (K := K) rfl) (by rfl) T.b_tuple boot_tuple_ (pa_cons (pe_lc (own := [("_", 2)]) rfl nd (pi_range1 rfl T.b_range (pa_cons (pe_callB (call_lenO (c_Yard_len T) (hr.mono (by decide))) (by rfl) T.b_len PySem.boot_len (pa_cons (pv 0) pa_nil)) pa_nil)) (blkOk_by (N := N_first_situation) (sc := C8.fnScope s_first_situation) (by decide +kernel)) (fun _ _ _ _ _ => (pg_name (i := 2) nd rfl (Or.inl rfl))) (fun _ _ _ _ _ => pts_nil) (fun _ _ _ _ _ => (pe_tup pa_nil))) pa_nil)) (pa_cons (pe_tup pa_nil) pa_nil))))))), ?_⟩
  obtain ⟨y, r, Y, row, rfl, ya, ra, ir, few, ok, k⟩ := h
  have few8 := ok.few
  refine ⟨_, rfl, r, row, rfl, ra, ir, few, fun H1 s1 => ?_⟩
  have ya1 := ya.mono s1
  obtain ⟨dx, lk, lb, ll, tx, xs, h1, h2, h3, h4, h5⟩ := ya1.ex
  refine ⟨_, rfl, y, dx, _, rfl, h1, y, Y, rfl, ya1, _, rfl, by omega, by omega, _, rfl, by omega, by omega, fun D nD => ?_⟩
  refine lc_range (n := Y.kinds.length) (fun i H' => Units H1 D i H') ⟨Same.new nD, nD, [], upd_same, .nil⟩ ?_ ?_
  · intro i H' hi u
    refine ⟨rfl, sz_le (Nat.le_of_ble_eq_true rfl), fun t nt => ?_⟩
    obtain ⟨acc, e1, e2, e3⟩ := u.step (R := fun t xs => Units H1 D (i + 1) (upd (upd H' t (.tup [])) D (.lst (xs ++ [.ref t])))) (Q := fun _ => True) (by omega) (fun _ _ _ _ _ z => z) t nt
    exact ⟨acc, e1, e2, e3⟩
  · intro H' u
    obtain ⟨ds, e1, e2⟩ := u.ex
    rw [← first_held] at e2
    refine ⟨D, _, rfl, .inl ⟨SqL.of e1, fun l nl => ⟨sz_le (Nat.le_of_ble_eq_true rfl), fun g ng => ⟨sz_le (Nat.le_of_ble_eq_true rfl), fun q nq => ?_⟩⟩⟩⟩
    have s1' := Same.new nl (o := .tup (ds.map V.ref))
    have s2 := Same.new ng (o := .tup [])
    have s3 := Same.new nq (o := .tup [.int 0, .ref l, .ref g])
    exact k _ q (Same.trans s1 (Same.trans u.same (Same.trans s1' (Same.trans s2 s3)))) ⟨l, g, ds, upd_same, s3 _ _ (s2 _ _ upd_same), TupsAt.mono (Same.trans s1' (Same.trans s2 s3)) e2, s3 _ _ upd_same⟩
/-! ### the ends -/
def sp_source_ends (P : Program) (w : World) (T : TX K w mg) : Sp := fun vs H Q _ => ∃ (y r q : Addr) (Y : Yd) (row : List Int) (S : Sit) (s : Int), vs = [.ref y, .ref r, .ref q, .int s] ∧ YardAt T H y Y ∧ RowAt H r row ∧ SitAt H q S ∧ YOk Y ∧ WFS Y row S ∧ -1 ≤ s ∧ s < Y.kinds.length ∧
  ∀ a, H a = none → Q (.ref a) (upd H a (intsO (srcEnds Y row S s)))
theorem c_source_ends (T : TX K w mg) : C8.Cal P w K mg base 2 "source_ends" (sp_source_ends P w T) [] := by
  obtain ⟨f, fd, F, b⟩ := T.fn_source_ends
  refine C8.cal0 F b .nil sc_source_ends (fun vs H Q E h => by obtain ⟨_, _, _, _, _, _, _, rfl, _⟩ := h; rfl) (fun cdv A outer s H vs Q E hr h => ?_)
  have hu := hu_of hr
  have nd := sc_source_ends.nd
  refine ⟨_, (pss_cons (ps_asg (pv 2) (pg_tup (by rfl) (pgs_cons (pg_name (i := 4) nd rfl (Or.inl rfl)) (pgs_cons (pg_name (i := 5) nd rfl (Or.inl rfl)) (pgs_cons (pg_name (i := 6) nd rfl (Or.inl rfl)) pgs_nil)))))
      (pss_cons (ps_if (pt_cmpR op_eq (pv 3) (C8.pe_gc rfl T.g_OUTSIDE) (nomark _)) (pss_one (ps_ret (pe_ifExp (pt_cmpR op_lt (pv 4) (pe_callB (call_lenK (K := K) rfl) (by rfl) T.b_len PySem.boot_len (pa_cons (pv 1) pa_nil)) (nomark _)) (pe_lst (pa_cons pe_int pa_nil)) (pe_lst pa_nil)))) pss_nil)
      (pss_one (ps_ret (pe_ifExp (pt_truth (pe_ix (ix_tupK (K := K) rfl) (pv 5) (pv 3) (fun _ _ => rfl)) (by intro _; rfl)) (C8.pe_mt (c_Yard_outs T) hr (by decide) (pv 0) (pa_cons (pv 3) pa_nil)) (pe_lst pa_nil)))))), ?_⟩
  obtain ⟨y, r, q, Y, row, S, s, rfl, ya, ra, sa, ok, wf, s0, s1, k⟩ := h
  obtain ⟨dx, lk, lb, ll, tx, xs, h1, h2, h3, h4, h5⟩ := ya.ex
  obtain ⟨hd, gn, ds, g1, g2, g3, g4⟩ := sa.ex
  unfold srcEnds at k
  refine ⟨_, rfl, q, _, rfl, SqT.of' g1, rfl, _, _, rfl, _, _, rfl, _, _, rfl, rfl, ?_⟩
  refine ⟨_, rfl, rfl, _, rfl, ite_eq (fun z => ?_) (fun z => ?_)⟩
  · rw [if_pos z] at k
    refine ⟨_, rfl, _, rfl, r, _, rfl, .inl (SqL.of ra), _, _, rfl, rfl, _, rfl, ?_⟩
    rw [List.length_map]
    by_cases c : S.came < row.length
    · rw [decide_eq_true (by omega : (S.came : Int) < (row.length : Int))]
      rw [if_pos c] at k
      exact iteT ⟨sz_le (Nat.le_of_ble_eq_true rfl), k⟩
    · rw [decide_eq_false (by omega : ¬ (S.came : Int) < (row.length : Int))]
      rw [if_neg c] at k
      exact iteF ⟨sz_le (Nat.le_of_ble_eq_true rfl), k⟩
  · rw [if_neg z] at k
    have h0 : 0 ≤ s := by omega
    have hl : s.toNat < Y.kinds.length := by omega
    obtain ⟨l, hl'⟩ := get_some (L := S.held) (i := s.toNat) (by rw [wf.held]; exact hl)
    obtain ⟨d, hd1, hd2⟩ := g3.get hl'
    obtain ⟨c, hc⟩ := get_some (L := Y.kinds) (i := s.toNat) hl
    rw [getD_at hl', getD_at hc] at k
    refine ⟨_, rfl, _, rfl, hd, _, _, _, rfl, rfl, SqT.of' g2, at_int h0 (map_at hd1), _, .inr (.inl ⟨_, SqT.of' hd2, rfl⟩), ?_⟩
    cases l with
    | nil =>
      rw [if_pos rfl] at k
      exact iteF ⟨sz_le (Nat.le_of_ble_eq_true rfl), k⟩
    | cons v l =>
      rw [if_neg (by simp)] at k
      refine iteT ?_
      exact ⟨_, rfl, y, dx, _, rfl, h1, rfl, _, rfl, y, Y, s, c, rfl, ya, h0, hc, ok.let_ c (List.mem_of_getElem? hc), k⟩
def sp_target_ends (P : Program) (w : World) (T : TX K w mg) : Sp := fun vs H Q _ => ∃ (y q : Addr) (Y : Yd) (row : List Int) (S : Sit) (t : Int), vs = [.ref y, .ref q, .int t] ∧ YardAt T H y Y ∧ SitAt H q S ∧ YOk Y ∧ WFS Y row S ∧ -1 ≤ t ∧ t < Y.kinds.length ∧
  ∀ a, H a = none → Q (.ref a) (upd H a (intsO (tgtEnds Y S t)))
theorem c_target_ends (T : TX K w mg) : C8.Cal P w K mg base 2 "target_ends" (sp_target_ends P w T) [] := by
  obtain ⟨f, fd, F, b⟩ := T.fn_target_ends
  refine C8.cal0 F b .nil sc_target_ends (fun vs H Q E h => by obtain ⟨_, _, _, _, _, _, rfl, _⟩ := h; rfl) (fun cdv A outer s H vs Q E hr h => ?_)
  have hu := hu_of hr
  have nd := sc_target_ends.nd
  refine ⟨_, (pss_cons (ps_if (pt_cmpR op_eq (pv 2) (C8.pe_gc rfl T.g_OUTSIDE) (nomark _)) (pss_one (ps_ret (pe_lst (pa_cons pe_int pa_nil)))) pss_nil)
      (pss_one (ps_ret (pe_ifExp (pt_val (C8.pe_mt (c_Yard_room T) hr (by decide) (pv 0) (pa_cons (pv 2) (pa_cons (pe_callB (call_lenK (K := K) rfl) (by rfl) T.b_len PySem.boot_len (pa_cons (pe_ix (ix_tupK (K := K) rfl) (pe_ix (ix_tupK (K := K) rfl) (pv 1) pe_int (fun _ _ => rfl)) (pv 2) (fun _ _ => rfl)) pa_nil)) pa_nil)))) (C8.pe_mt (c_Yard_ins T) hr (by decide) (pv 0) (pa_cons (pv 2) pa_nil)) (pe_lst pa_nil))))), ?_⟩
  obtain ⟨y, q, Y, row, S, t, rfl, ya, sa, ok, wf, s0, s1, k⟩ := h
  obtain ⟨dx, lk, lb, ll, tx, xs, h1, h2, h3, h4, h5⟩ := ya.ex
  obtain ⟨hd, gn, ds, g1, g2, g3, g4⟩ := sa.ex
  unfold tgtEnds at k
  refine ⟨_, rfl, rfl, _, rfl, ite_eq (fun z => ?_) (fun z => ?_)⟩
  · rw [if_pos z] at k
    exact ⟨sz_le (Nat.le_of_ble_eq_true rfl), k⟩
  · rw [if_neg z] at k
    have h0 : 0 ≤ t := by omega
    have hl : t.toNat < Y.kinds.length := by omega
    obtain ⟨l, hl'⟩ := get_some (L := S.held) (i := t.toNat) (by rw [wf.held]; exact hl)
    obtain ⟨d, hd1, hd2⟩ := g3.get hl'
    obtain ⟨c, hc⟩ := get_some (L := Y.kinds) (i := t.toNat) hl
    obtain ⟨b, hb⟩ := get_some (L := Y.bounds) (i := t.toNat) (by rw [ok.len]; exact hl)
    rw [getD_at hl', getD_at hc, getD_at hb] at k
    refine ⟨_, rfl, y, dx, _, rfl, h1, rfl, _, rfl, _, rfl, q, _, _, _, rfl, rfl, SqT.of' g1, rfl, _, rfl, hd, _, _, _, rfl, rfl, SqT.of' g2, at_int h0 (map_at hd1), d, _, rfl, .inr (SqT.of' hd2), y, Y, t, b, l.length, ?_, ya, h0, hb, _, rfl, ?_⟩
    · rw [List.length_map]
      rfl
    by_cases e : b = 0 ∨ l.length < b
    · rw [if_pos e] at k
      have : (!decide (0 < b ∧ b ≤ l.length)) = true := by rw [decide_eq_false (by omega)]; rfl
      rw [this]
      refine iteT ?_
      exact ⟨_, rfl, y, dx, _, rfl, h1, rfl, _, rfl, y, Y, t, c, rfl, ya, h0, hc, ok.let_ c (List.mem_of_getElem? hc), k⟩
    · rw [if_neg e] at k
      have : (!decide (0 < b ∧ b ≤ l.length)) = false := by rw [decide_eq_true (by omega)]; rfl
      rw [this]
      exact iteF ⟨sz_le (Nat.le_of_ble_eq_true rfl), k⟩
end
end K92

/-! K92O: moves: possible, after. -/
set_option Elab.async false
set_option linter.all false
set_option maxRecDepth 100000
set_option maxHeartbeats 4000000
set_option autoImplicit false
namespace K92
open PySem PySem.Spec PyProof.Rows L2
section
variable {P : Program} {w : World} {K : PySem.W.Frag} {mg : Str → Option Value} {base : Heap}
theorem paired_ex {α β : Type} {R : α → β → Prop} : ∀ {xs : List α}, (∀ x ∈ xs, ∃ y, R x y) → ∃ ys, Paired R xs ys
  | [], _ => ⟨[], .nil⟩
  | x :: xs, h => by
    obtain ⟨y, hy⟩ := h x (.head _)
    obtain ⟨ys, hs⟩ := paired_ex (xs := xs) fun z hz => h z (.tail _ hz)
    exact ⟨y :: ys, .cons hy hs⟩
theorem paired_mem {α β : Type} {R : α → β → Prop} {xs : List α} {ys : List β} (h : Paired R xs ys) : (∀ x ∈ xs, ∃ y ∈ ys, R x y) ∧ ∀ y ∈ ys, ∃ x ∈ xs, R x y := by
  induction h with
  | nil => exact ⟨(by intro _ z; cases z), (by intro _ z; cases z)⟩
  | cons q _ ih =>
    refine ⟨fun x hx => ?_, fun y hy => ?_⟩
    · rcases List.mem_cons.mp hx with rfl | hx
      · exact ⟨_, .head _, q⟩
      · obtain ⟨y, h1, h2⟩ := ih.1 x hx
        exact ⟨y, .tail _ h1, h2⟩
    · rcases List.mem_cons.mp hy with rfl | hy
      · exact ⟨_, .head _, q⟩
      · obtain ⟨x, h1, h2⟩ := ih.2 y hy
        exact ⟨x, .tail _ h1, h2⟩
theorem pairO_inj {a b : Int × Int} (h : pairO a = pairO b) : a = b := by
  unfold pairO at h
  injection h with h
  injection h with h1 h
  injection h with h2 h
  injection h1 with h1
  injection h2 with h2
  exact Prod.ext h1 h2
/-- the links of the yard, one by one -/
theorem YardAt.lks {T : TX K w mg} {H : Hp} {p : Addr} {Y : Yd} (h : YardAt T H p Y) : ∃ (dx lk lb ll : Addr) (tx : Str) (xs : List V) (ls : List (Int × Int)), H p = some (.ins T.cYard dx (yardF tx lk lb ll)) ∧ H ll = some (.lst xs) ∧
    Paired (fun v l => ∃ t, v = V.ref t ∧ H t = some (pairO l)) xs ls ∧ (∀ l, l ∈ ls ↔ l ∈ Y.links) ∧ ls.length ≤ 100 := by
  obtain ⟨dx, lk, lb, ll, tx, xs, h1, h2, h3, h4, h5, h6, h7⟩ := h.ex
  obtain ⟨ls, hp⟩ := paired_ex (R := fun v l => ∃ t, v = V.ref t ∧ H t = some (pairO l)) (xs := xs) fun v hv => by
    obtain ⟨t, l, e1, e2, _⟩ := h5 v hv
    exact ⟨l, t, e1, e2⟩
  obtain ⟨m1, m2⟩ := paired_mem hp
  refine ⟨dx, lk, lb, ll, tx, xs, ls, h1, h4, hp, fun l => ⟨fun hl => ?_, fun hl => ?_⟩, by rw [← paired_len hp]; exact h7⟩
  · obtain ⟨v, hv, t, e1, e2⟩ := m2 l hl
    obtain ⟨t', l', e1', e2', e3⟩ := h5 v hv
    rw [e1] at e1'
    injection e1' with e1'
    subst e1'
    rw [e2] at e2'
    rw [pairO_inj (Option.some.inj e2')]
    exact e3
  · obtain ⟨t, ht, e⟩ := h6 l hl
    obtain ⟨l', hl', t', e1, e2⟩ := m1 _ ht
    injection e1 with e1
    subst e1
    rw [e] at e2
    rw [pairO_inj (Option.some.inj e2)]
    exact hl'
/-- a list of new moves, turn by turn -/
structure MvI (G : Hp) (D : Addr) (c : Nat) (ms : List Move) (H : Hp) : Prop where
  same : Same G H
  new : G D = none
  small : ms.length ≤ c
  ex : ∃ L : List (Addr × Move), H D = some (.lst (L.map fun x => V.ref x.1)) ∧ L.map (·.2) = ms ∧ ∀ x ∈ L, MoveAt H x.1 x.2
theorem MvI.mono {G H H' : Hp} {D : Addr} {c : Nat} {ms : List Move} (u : MvI G D c ms H) (s : Same H H') : MvI G D c ms H' := by
  obtain ⟨L, h1, h2, h3⟩ := u.ex
  exact ⟨Same.trans u.same s, u.new, u.small, L, s _ _ h1, h2, fun x hx => s _ _ (h3 x hx)⟩
theorem MvI.up {G H : Hp} {D : Addr} {c c' : Nat} {ms : List Move} (u : MvI G D c ms H) (e : c ≤ c') : MvI G D c' ms H := ⟨u.same, u.new, Nat.le_trans u.small e, u.ex⟩
theorem MvI.step {G H : Hp} {D t : Addr} {c : Nat} {ms : List Move} {m : Move} (u : MvI G D c ms H) (n : H t = none) (sz : c ≤ 100000) :
    ∃ xs, upd H t (.tup [.int m.1, .int m.2.1, .int m.2.2.1, .int m.2.2.2]) D = some (.lst xs) ∧ xs.length < sizeLine ∧ MvI G D (c + 1) (ms ++ [m]) (upd (upd H t (.tup [.int m.1, .int m.2.1, .int m.2.2.1, .int m.2.2.2])) D (.lst (xs ++ [.ref t]))) := by
  obtain ⟨L, h1, h2, h3⟩ := u.ex
  have sm := u.small
  have s1 := Same.new n (o := .tup [.int m.1, .int m.2.1, .int m.2.2.1, .int m.2.2.2])
  have hD := s1 _ _ h1
  have keep : ∀ {b : Addr} {xs : List V}, upd H t (.tup [.int m.1, .int m.2.1, .int m.2.2.1, .int m.2.2.2]) b = some (.tup xs) → upd (upd H t (.tup [.int m.1, .int m.2.1, .int m.2.2.1, .int m.2.2.2])) D (.lst (L.map (fun x => V.ref x.1) ++ [.ref t])) b = some (.tup xs) := fun z => lock_at hD z (by intro y; cases y)
  have hl : L.length ≤ c := by rw [← List.length_map (f := (·.2)), h2]; exact sm
  refine ⟨_, hD, sz_lt (by rw [List.length_map]; omega), Same.mut (Same.add u.same n) u.new, u.new, by rw [List.length_append]; simp; omega, L ++ [(t, m)], by rw [upd_same, List.map_append]; rfl, by rw [List.map_append, h2]; rfl, fun x hx => ?_⟩
  rcases List.mem_append.mp hx with hx | hx
  · exact keep (s1 _ _ (h3 x hx))
  · rw [List.mem_singleton.mp hx]
    exact keep upd_same
theorem srcEnds_len (Y : Yd) (row : List Int) (S : Sit) (s : Int) : (srcEnds Y row S s).length ≤ 2 := by
  unfold srcEnds outsOf
  repeat' split
  all_goals simp
theorem tgtEnds_len (Y : Yd) (S : Sit) (t : Int) : (tgtEnds Y S t).length ≤ 2 := by
  unfold tgtEnds insOf
  repeat' split
  all_goals simp
def pmv (Y : Yd) (row : List Int) (S : Sit) (l : Int × Int) : List Move := (srcEnds Y row S l.1).flatMap fun o => (tgtEnds Y S l.2).map fun e => (l.1, o, l.2, e)
def sp_possible (P : Program) (w : World) (T : TX K w mg) : Sp := fun vs H Q _ => ∃ (y r q : Addr) (Y : Yd) (row : List Int) (S : Sit), vs = [.ref y, .ref r, .ref q] ∧ YardAt T H y Y ∧ RowAt H r row ∧ SitAt H q S ∧ YOk Y ∧ WFS Y row S ∧
  ∀ H' a (L : List (Addr × Move)), Same H H' → H a = none → H' a = some (.lst (L.map fun x => V.ref x.1)) → (∀ x ∈ L, MoveAt H' x.1 x.2) → (∀ m, m ∈ L.map (·.2) ↔ ∃ S', made Y row S m = some S') → (∀ x ∈ L, -1 ≤ x.2.1 ∧ x.2.1 < Y.kinds.length ∧ -1 ≤ x.2.2.2.1 ∧ x.2.2.2.1 < Y.kinds.length) → Q (.ref a) H'
theorem c_possible (T : TX K w mg) : C8.Cal P w K mg base 3 "possible" (sp_possible P w T) [] := by
  obtain ⟨f, fd, F, b⟩ := T.fn_possible
  refine C8.cal0 F b .nil sc_possible (fun vs H Q E h => by obtain ⟨_, _, _, _, _, _, rfl, _⟩ := h; rfl) (fun cdv A outer s H vs Q E hr h => ?_)
  have hu := hu_of hr
  have nd := sc_possible.nd
  refine ⟨_, (pss_cons (ps_set (i := 3) nd rfl (Or.inl rfl) (pe_lst pa_nil))
      (pss_cons (ps_for PassesOwn.never rfl (pi_list (pe_fld (pv 0) rfl)) (pg_tup (by rfl) (pgs_cons (pg_name (i := 4) nd rfl (Or.inl rfl)) (pgs_cons (pg_name (i := 5) nd rfl (Or.inl rfl)) pgs_nil))) (pss_one (ps_for PassesOwn.never rfl (pi_list (C8.pe_c (c_source_ends T) hr (by decide) rfl (pa_cons (pv 0) (pa_cons (pv 1) (pa_cons (pv 2) (pa_cons (pv 4) pa_nil)))))) (pg_name (i := 6) nd rfl (Or.inl rfl)) (pss_one (ps_for PassesOwn.never rfl (pi_list (C8.pe_c (c_target_ends T) hr (by decide) rfl (pa_cons (pv 0) (pa_cons (pv 2) (pa_cons (pv 5) pa_nil))))) (pg_name (i := 7) nd rfl (Or.inl rfl)) (pss_one (ps_expr (pe_bm PySem.F.plainAttrs_list PySem.F.slot_list_append PySem.F.type_list_append mt_append (pv 3) (pa_cons (pe_tup (pa_cons (pv 4) (pa_cons (pv 6) (pa_cons (pv 5) (pa_cons (pv 7) pa_nil))))) pa_nil)))))))))
      (pss_one (ps_ret (pe_callB (cr_sortedD hr.units) (by rfl) T.b_sorted boot_sorted_ (pa_cons (pv 3) pa_nil)))))), ?_⟩
  obtain ⟨y, r, q, Y, row, S, rfl, ya, ra, sa, ok, wf, k⟩ := h
  refine ⟨sz_le (Nat.le_of_ble_eq_true rfl), fun D nD => ?_⟩
  have sD := Same.new nD (o := .lst [])
  obtain ⟨dx, lk, lb, ll, tx, xs, ls, h1, h4, hp, hl, h100⟩ := ya.lks
  have m0 : MvI H D 0 [] (upd H D (.lst [])) := ⟨sD, nD, Nat.le_refl _, [], upd_same, rfl, (by intro _ z; cases z)⟩
  refine ⟨_, rfl, y, _, dx, _, _, rfl, sD _ _ h1, T.clYard, T.na_Yard_links, rfl, ll, rfl, ⟨_, SqL.of (sD _ _ h4)⟩, ?_⟩
  refine for_list (xs := xs) (fun i σ H' => ∃ u4 u5 u6 u7, σ = [some (.ref y), some (.ref r), some (.ref q), some (.ref D), u4, u5, u6, u7] ∧ MvI H D (i * 4) ((ls.take i).flatMap (pmv Y row S)) H') ⟨none, none, none, none, rfl, m0⟩ (fun _ _ _ _ ⟨_, _, _, _, _, u⟩ => SqL.of (u.same _ _ h4)) ?_ ?_
  · rintro i x σ H1 hx ⟨u4, u5, u6, u7, rfl, m1⟩
    obtain ⟨⟨s, t⟩, hli⟩ := get_some (L := ls) (i := i) (by rw [← paired_len hp]; exact get_lt hx)
    obtain ⟨v', e1, tt, e2, e3⟩ := paired_get' hp hli
    obtain rfl : v' = x := Option.some.inj (e1.symm.trans hx)
    subst e2
    have inl : (s, t) ∈ Y.links := (hl _).mp (List.mem_of_getElem? hli)
    obtain ⟨b1, b2, b3, b4⟩ := ok.lnk _ inl
    have i100 : i < 100 := by have := get_lt hli; omega
    refine ⟨tt, _, rfl, SqT.of' (m1.same _ _ e3), rfl, _, _, rfl, _, _, rfl, rfl, ?_⟩
    refine ⟨_, rfl, _, rfl, _, rfl, _, rfl, y, r, q, Y, row, S, s, rfl, ya.mono m1.same, m1.same _ _ ra, sa.mono m1.same, ok, wf, b1, b2, fun a na => ?_⟩
    have aD : a ≠ D := fun z => by obtain ⟨L0, hL0, _⟩ := m1.ex; rw [z, hL0] at na; cases na
    have m2 := m1.mono (Same.new na (o := intsO (srcEnds Y row S s)))
    refine ⟨a, rfl, ⟨_, SqL.of upd_same⟩, ?_⟩
    have lsrc := srcEnds_len Y row S s
    refine for_list (xs := (srcEnds Y row S s).map V.int) (fun j σ H' => ∃ u6 u7, σ = [some (.ref y), some (.ref r), some (.ref q), some (.ref D), some (.int s), some (.int t), u6, u7] ∧ H' a = some (intsO (srcEnds Y row S s)) ∧
      MvI H D (i * 4 + j * 2) ((ls.take i).flatMap (pmv Y row S) ++ ((srcEnds Y row S s).take j).flatMap fun o => (tgtEnds Y S t).map fun e => (s, o, t, e)) H') ⟨_, _, rfl, upd_same, by simpa using m2⟩ (fun _ _ _ _ ⟨_, _, _, z, _⟩ => SqL.of z) ?_ ?_
    · rintro j x σ H2 hx ⟨u6, u7, rfl, ha, m3⟩
      have hj := get_lt hx
      rw [List.length_map] at hj
      obtain ⟨o, ho⟩ := get_some hj
      obtain rfl : x = V.int o := Option.some.inj (hx.symm.trans (map_at ho))
      refine ⟨_, rfl, _, rfl, _, rfl, y, q, Y, row, S, t, rfl, ya.mono m3.same, sa.mono m3.same, ok, wf, b3, b4, fun a2 na2 => ?_⟩
      have aD2 : a2 ≠ D := fun z => by obtain ⟨L0, hL0, _⟩ := m3.ex; rw [z, hL0] at na2; cases na2
      have m4 := m3.mono (Same.new na2 (o := intsO (tgtEnds Y S t)))
      have ha' := (Same.new na2 (o := intsO (tgtEnds Y S t))) _ _ ha
      have ltgt := tgtEnds_len Y S t
      refine ⟨a2, rfl, ⟨_, SqL.of upd_same⟩, ?_⟩
      refine for_list (xs := (tgtEnds Y S t).map V.int) (fun n σ H' => ∃ u7, σ = [some (.ref y), some (.ref r), some (.ref q), some (.ref D), some (.int s), some (.int t), some (.int o), u7] ∧ H' a = some (intsO (srcEnds Y row S s)) ∧ H' a2 = some (intsO (tgtEnds Y S t)) ∧
        MvI H D (i * 4 + j * 2 + n) (((ls.take i).flatMap (pmv Y row S) ++ ((srcEnds Y row S s).take j).flatMap fun o => (tgtEnds Y S t).map fun e => (s, o, t, e)) ++ ((tgtEnds Y S t).take n).map fun e => (s, o, t, e)) H') ⟨_, rfl, ha', upd_same, by simpa using m4⟩ (fun _ _ _ _ ⟨_, _, _, z, _⟩ => SqL.of z) ?_ ?_
      · rintro n x σ H3 hx ⟨u7, rfl, ha3, ha4, m5⟩
        have hn := get_lt hx
        rw [List.length_map] at hn
        obtain ⟨e, he⟩ := get_some hn
        obtain rfl : x = V.int e := Option.some.inj (hx.symm.trans (map_at he))
        obtain ⟨LL0, hLL, _⟩ := m5.ex
        refine ⟨_, rfl, tyL hLL, _, rfl, _, rfl, _, rfl, _, rfl, sz_le (Nat.le_of_ble_eq_true rfl), fun mv nmv => ?_⟩
        obtain ⟨ys, e1, e2, m6⟩ := m5.step (m := (s, o, t, e)) nmv (by omega)
        refine ⟨D, ys, _, rfl, rfl, e1, e2, ?_⟩
        have nD' : ∀ {b : Addr} {o' : HO}, H3 b = some o' → b ≠ D → upd (upd H3 mv (.tup [.int s, .int o, .int t, .int e])) D (.lst (ys ++ [.ref mv])) b = some o' := fun z nb => by rw [upd_ne nb]; exact (Same.new nmv) _ _ z
        refine ⟨_, rfl, nD' ha3 aD, nD' ha4 aD2, ?_⟩
        rw [take_snoc he, List.map_append, ← List.append_assoc]
        exact m6
      · rintro σ H3 ⟨u7, rfl, ha3, ha4, m5⟩
        rw [List.length_map, List.take_length] at m5
        refine ⟨_, _, rfl, ha3, ?_⟩
        rw [take_snoc ho, List.flatMap_append, ← List.append_assoc]
        have m6 := m5.up (c' := i * 4 + (j + 1) * 2) (by omega)
        simpa using m6
    · rintro σ H2 ⟨u6, u7, rfl, ha, m3⟩
      rw [List.length_map, List.take_length] at m3
      refine ⟨_, _, _, _, rfl, ?_⟩
      rw [take_snoc hli, List.flatMap_append]
      have m6 := m3.up (c' := (i + 1) * 4) (by omega)
      simpa [pmv] using m6
  · rintro σ H1 ⟨u4, u5, u6, u7, rfl, m1⟩
    rw [paired_len hp, List.take_length] at m1
    obtain ⟨L, e1, e2, e3⟩ := m1.ex
    refine ⟨_, rfl, sort_moves e1 e3 fun L' q' perm nq => ?_⟩
    have s2 := Same.new nq (o := .lst (L'.map fun x => V.ref x.1))
    have mem : ∀ m, m ∈ L'.map (·.2) ↔ m ∈ ls.flatMap (pmv Y row S) := fun m => by rw [(perm.map (·.2)).mem_iff, e2]
    have lnk : ∀ m, m ∈ ls.flatMap (pmv Y row S) → (m.1, m.2.2.1) ∈ Y.links := fun m hm => by
      obtain ⟨l, hl1, hl2⟩ := List.mem_flatMap.mp hm
      obtain ⟨o, ho1, ho2⟩ := List.mem_flatMap.mp hl2
      obtain ⟨e, he1, rfl⟩ := List.mem_map.mp ho2
      exact (hl l).mp hl1
    refine k _ q' L' (Same.trans m1.same s2) (Same.free m1.same nq) upd_same (fun x hx => s2 _ _ (e3 x (perm.mem_iff.mp hx))) (fun m => ?_) (fun x hx => ?_)
    · rw [mem]
      obtain ⟨s, se, t, te⟩ := m
      constructor
      · intro hm
        have h3 := lnk _ hm
        obtain ⟨b1, b2, b3, b4⟩ := ok.lnk _ h3
        refine (made_iff b1 b3).mpr ⟨h3, ?_⟩
        obtain ⟨l, hl1, hl2⟩ := List.mem_flatMap.mp hm
        obtain ⟨o, ho1, ho2⟩ := List.mem_flatMap.mp hl2
        obtain ⟨e, he1, he2⟩ := List.mem_map.mp ho2
        obtain ⟨l1, l2⟩ := l
        simp only [Prod.mk.injEq] at he2
        obtain ⟨rfl, rfl, rfl, rfl⟩ := he2
        exact ⟨ho1, he1⟩
      · intro hm
        obtain ⟨S', hS'⟩ := hm
        obtain ⟨h3, _⟩ := made_parts hS'
        obtain ⟨b1, b2, b3, b4⟩ := ok.lnk _ h3
        obtain ⟨_, h5, h6⟩ := (made_iff b1 b3).mp ⟨S', hS'⟩
        exact List.mem_flatMap.mpr ⟨(s, t), (hl _).mpr h3, List.mem_flatMap.mpr ⟨se, h5, List.mem_map.mpr ⟨te, h6, rfl⟩⟩⟩
    · have h3 := lnk x.2 ((mem _).mp (List.mem_map_of_mem hx))
      exact ok.lnk _ h3
/-! ### after -/
def sp_wagon_of (P : Program) (w : World) (T : TX K w mg) : Sp := fun vs H Q _ => ∃ (r q mv : Addr) (Y : Yd) (row : List Int) (S S1 : Sit) (m : Move) (wg : Int), vs = [.ref r, .ref q, .ref mv] ∧ RowAt H r row ∧ SitAt H q S ∧ MoveAt H mv m ∧ -1 ≤ m.1 ∧ src Y row S m.1 m.2.1 = some (wg, S1) ∧ Q (.int wg) H
theorem c_wagon_of (T : TX K w mg) : C8.Cal P w K mg base 1 "wagon_of" (sp_wagon_of P w T) [] := by
  obtain ⟨f, fd, F, b⟩ := T.fn_wagon_of
  refine C8.cal0 F b .nil sc_wagon_of (fun vs H Q E h => by obtain ⟨_, _, _, _, _, _, _, _, _, rfl, _⟩ := h; rfl) (fun cdv A outer s H vs Q E hr h => ?_)
  have hu := hu_of hr
  have nd := sc_wagon_of.nd
  refine ⟨_, (pss_cons (ps_asg (pv 1) (pg_tup (by rfl) (pgs_cons (pg_name (i := 3) nd rfl (Or.inl rfl)) (pgs_cons (pg_name (i := 4) nd rfl (Or.inl rfl)) (pgs_cons (pg_name (i := 5) nd rfl (Or.inl rfl)) pgs_nil)))))
      (pss_cons (ps_if (pt_cmpR op_eq (pe_ix (ix_tupK (K := K) rfl) (pv 2) pe_int (fun _ _ => rfl)) (C8.pe_gc rfl T.g_OUTSIDE) (nomark _)) (pss_one (ps_ret (pe_ix (ix_listK (K := K) rfl) (pv 0) (pv 3) (fun _ _ => rfl)))) pss_nil)
      (pss_one (ps_ret (pe_ix (ix_tupK (K := K) rfl) (pe_ix (ix_tupK (K := K) rfl) (pv 4) (pe_ix (ix_tupK (K := K) rfl) (pv 2) pe_int (fun _ _ => rfl)) (fun _ _ => rfl)) (pe_ifExp (pt_cmpR op_eq (pe_ix (ix_tupK (K := K) rfl) (pv 2) pe_int (fun _ _ => rfl)) (C8.pe_gc rfl T.g_LEFT) (nomark _)) pe_int (pe_un un_neg pe_int)) (fun _ _ => rfl)))))), ?_⟩
  obtain ⟨r, q, mv, Y, row, S, S1, m, wg, rfl, ra, sa, ma, m0, e, k⟩ := h
  obtain ⟨hd, gn, ds, g1, g2, g3, g4⟩ := sa.ex
  obtain ⟨s, se, t, te⟩ := m
  refine ⟨_, rfl, q, _, rfl, SqT.of' g1, rfl, _, _, rfl, _, _, rfl, _, _, rfl, rfl, ?_⟩
  refine ⟨_, rfl, mv, _, _, _, rfl, rfl, SqT.of' ma, rfl, rfl, _, rfl, ite_eq (fun z => ?_) (fun z => ?_)⟩
  · have z : s = -1 := z
    unfold src at e
    rw [if_pos (show s < 0 by omega)] at e
    by_cases se0 : se = 0
    · rw [if_pos se0] at e
      cases hw : row[S.came]? with
      | none => rw [hw] at e; cases e
      | some v =>
        rw [hw] at e
        have e : some (v, { S with came := S.came + 1 }) = some (wg, S1) := e
        obtain ⟨rfl, _⟩ := Prod.mk.inj (Option.some.inj e)
        exact ⟨_, rfl, _, rfl, r, _, _, _, rfl, rfl, SqL.of ra, atI_nat (map_at hw), k⟩
    · rw [if_neg se0] at e; cases e
  · have z : s ≠ -1 := z
    have m0 : -1 ≤ s := m0
    have h0 : 0 ≤ s := by omega
    unfold src at e
    rw [if_neg (show ¬ s < 0 by omega)] at e
    by_cases ho : se ∈ outsOf (Y.kinds.getD s.toNat 0)
    · rw [if_pos ho] at e
      cases hp : popEnd se (S.held.getD s.toNat []) with
      | none => rw [hp] at e; cases e
      | some v =>
        rw [hp] at e
        obtain ⟨v, l'⟩ := v
        have e : some (v, { S with held := S.held.set s.toNat l' }) = some (wg, S1) := e
        obtain ⟨rfl, _⟩ := Prod.mk.inj (Option.some.inj e)
        have ne := popEnd_some hp
        have hl := getD_of_ne ne
        obtain ⟨d, hd1, hd2⟩ := g3.get hl
        refine ⟨_, rfl, _, rfl, mv, _, _, _, rfl, rfl, SqT.of' ma, rfl, hd, _, _, _, rfl, rfl, SqT.of' g2, at_int h0 (map_at hd1), ?_⟩
        refine ⟨_, rfl, mv, _, _, _, rfl, rfl, SqT.of' ma, rfl, rfl, _, rfl, ?_⟩
        rcases outs_01 ho with rfl | rfl
        · refine iteT ?_
          unfold popEnd at hp
          rw [if_pos rfl] at hp
          generalize S.held.getD s.toNat [] = l at hp hl hd2
          cases l with
          | nil => cases hp
          | cons x l2 =>
            obtain ⟨rfl, _⟩ := Prod.mk.inj (Option.some.inj hp)
            exact ⟨d, _, _, _, rfl, rfl, SqT.of' hd2, at_int (s := 0) (by decide) rfl, k⟩
        · refine iteF ?_
          unfold popEnd at hp
          rw [if_neg (by decide)] at hp
          generalize S.held.getD s.toNat [] = l at hp hl hd2
          cases hg : l.getLast? with
          | none => rw [hg] at hp; cases hp
          | some x =>
            rw [hg] at hp
            obtain ⟨rfl, _⟩ := Prod.mk.inj (Option.some.inj hp)
            refine ⟨_, rfl, d, _, _, _, rfl, rfl, SqT.of' hd2, at_neg1 ?_, k⟩
            rw [List.length_map]
            exact map_at (by rw [← List.getLast?_eq_getElem?]; exact hg)
    · rw [if_neg ho] at e; cases e
theorem TupsAt.set {H : Hp} {ds : List Addr} {L : List (List Int)} (h : TupsAt H ds L) : ∀ {i : Nat} {d : Addr} {l : List Int}, H d = some (.tup (l.map V.int)) → TupsAt H (ds.set i d) (L.set i l) := by
  induction h with
  | nil => intro i d l _; exact .nil
  | cons q r ih =>
    intro i d l hd
    cases i with
    | zero => exact .cons hd r
    | succ i => exact .cons q (ih hd)
theorem sIx_neg1 (n : Nat) : HT.sIx n n (some (-1)) = n - 1 := by
  show (if (-1 : Int) < 0 then ((-1) + (n : Int)).toNat else min (-1 : Int).toNat n) = _
  rw [if_pos (by decide)]
  omega
def sp_after (P : Program) (w : World) (T : TX K w mg) : Sp := fun vs H Q _ => ∃ (r q mv : Addr) (Y : Yd) (row : List Int) (S S' : Sit) (m : Move), vs = [.ref r, .ref q, .ref mv] ∧ RowAt H r row ∧ SitAt H q S ∧ MoveAt H mv m ∧ WFS Y row S ∧ YOk Y ∧ made Y row S m = some S' ∧
  ∀ H' q', Same H H' → SitAt H' q' S' → Q (.ref q') H'
theorem c_after (T : TX K w mg) : C8.Cal P w K mg base 2 "after" (sp_after P w T) [] := by
  obtain ⟨f, fd, F, b⟩ := T.fn_after
  refine C8.cal0 F b .nil sc_after (fun vs H Q E h => by obtain ⟨_, _, _, _, _, _, _, _, rfl, _⟩ := h; rfl) (fun cdv A outer s H vs Q E hr h => ?_)
  have hu := hu_of hr
  have nd := sc_after.nd
  refine ⟨_, (pss_cons (ps_asg (pv 1) (pg_tup (by rfl) (pgs_cons (pg_name (i := 3) nd rfl (Or.inl rfl)) (pgs_cons (pg_name (i := 4) nd rfl (Or.inl rfl)) (pgs_cons (pg_name (i := 5) nd rfl (Or.inl rfl)) pgs_nil)))))
      (pss_cons (ps_set (i := 6) nd rfl (Or.inl rfl) (C8.pe_c (c_wagon_of T) hr (by decide) rfl (pa_cons (pv 0) (pa_cons (pv 1) (pa_cons (pv 2) pa_nil)))))
      (pss_cons (ps_set (i := 7) nd rfl (Or.inl rfl) (pe_callTy (call_listK (K := K) rfl) (by rfl) T.b_list boot_list_ (pa_cons (pv 4) pa_nil)))
      (pss_cons (ps_asg (pv 2) (pg_tup (by rfl) (pgs_cons (pg_name (i := 8) nd rfl (Or.inl rfl)) (pgs_cons (pg_name (i := 9) nd rfl (Or.inl rfl)) (pgs_cons (pg_name (i := 10) nd rfl (Or.inl rfl)) (pgs_cons (pg_name (i := 11) nd rfl (Or.inl rfl)) pgs_nil))))))
      (C8.pss_cut (ps_if (pt_cmpR op_eq (pv 8) (C8.pe_gc rfl T.g_OUTSIDE) (nomark _)) (pss_one (ps_aug (i := 3) nd rfl (Or.inl rfl) pe_int ip_add)) (pss_one (ps_if (pt_cmpR op_eq (pv 9) (C8.pe_gc rfl T.g_LEFT) (nomark _)) (pss_one (ps_asg (pe_slice sl_tupA (pe_ix (ix_listK (K := K) rfl) (pv 7) (pv 8) (fun _ _ => rfl)) (po_some pe_int) po_none) (pg_sub (pv 7) (pv 8) set_list))) (pss_one (ps_asg (pe_slice sl_tupA (pe_ix (ix_listK (K := K) rfl) (pv 7) (pv 8) (fun _ _ => rfl)) po_none (po_some (pe_un un_neg pe_int))) (pg_sub (pv 7) (pv 8) set_list))))))
      (C8.pss_cut (ps_if (pt_cmpR op_eq (pv 10) (C8.pe_gc rfl T.g_OUTSIDE) (nomark _)) (pss_one (ps_set (i := 5) nd rfl (Or.inl rfl) (pe_op op_catA (pv 5) (pe_tup (pa_cons (pv 6) pa_nil))))) (pss_one (ps_if (pt_cmpR op_eq (pv 11) (C8.pe_gc rfl T.g_LEFT) (nomark _)) (pss_one (ps_asg (pe_op op_catA (pe_tup (pa_cons (pv 6) pa_nil)) (pe_ix (ix_listK (K := K) rfl) (pv 7) (pv 10) (fun _ _ => rfl))) (pg_sub (pv 7) (pv 10) set_list))) (pss_one (ps_asg (pe_op op_catA (pe_ix (ix_listK (K := K) rfl) (pv 7) (pv 10) (fun _ _ => rfl)) (pe_tup (pa_cons (pv 6) pa_nil))) (pg_sub (pv 7) (pv 10) set_list))))))
      (pss_one (ps_ret (pe_tup (pa_cons (pv 3) (pa_cons (pe_callTy (call_tupleK (K := K) rfl) (by rfl) T.b_tuple boot_tuple_ (pa_cons (pv 7) pa_nil)) (pa_cons (pv 5) pa_nil)))))))))))), ?_⟩
  obtain ⟨r, q, mv, Y, row, S, S', m, rfl, ra, sa, ma, wf, ok, em, k⟩ := h
  obtain ⟨lnk, wg, S1, e1, e2⟩ := made_parts em
  obtain ⟨b1, b2, b3, b4⟩ := ok.lnk _ lnk
  obtain ⟨hd, gn, ds, g1, g2, g3, g4⟩ := sa.ex
  obtain ⟨wl, wc, wsum⟩ := src_wf wf e1
  have few := wf.few
  have few8 := ok.few
  refine ⟨_, rfl, q, _, rfl, SqT.of' g1, rfl, _, _, rfl, _, _, rfl, _, _, rfl, rfl, ?_⟩
  refine ⟨_, rfl, _, rfl, _, rfl, r, q, mv, Y, row, S, S1, m, wg, rfl, ra, sa, ma, b1, e1, ?_⟩
  obtain ⟨s, se, t, te⟩ := m
  have e1 : src Y row S s se = some (wg, S1) := e1
  have e2 : tgt Y wg (S.held.getD t.toNat []).length S1 t te = some S' := e2
  have b1 : -1 ≤ s := b1
  have b2 : s < Y.kinds.length := b2
  have b3 : -1 ≤ t := b3
  have b4 : t < Y.kinds.length := b4
  refine ⟨_, rfl, hd, _, rfl, .inr (SqT.of' g2), fun D nD => ?_⟩
  have sD := Same.new nD (o := .lst (ds.map V.ref))
  refine ⟨_, rfl, mv, _, rfl, SqT.of' (sD _ _ ma), rfl, _, _, rfl, _, _, rfl, _, _, rfl, _, _, rfl, rfl, ?_⟩
  refine ⟨fun σ H' => ∃ ds1, σ = [some (.ref r), some (.ref q), some (.ref mv), some (.int (S1.came : Int)), some (.ref hd), some (.ref gn), some (.int wg), some (.ref D), some (.int s), some (.int se), some (.int t), some (.int te)] ∧ Same H H' ∧ H' D = some (.lst ((ds1 : List Addr).map V.ref)) ∧ TupsAt H' ds1 S1.held, ?_, ?_⟩
  · refine ⟨_, rfl, rfl, _, rfl, ite_eq (fun z => ?_) (fun z => ?_)⟩
    · have z : s = -1 := z
      unfold src at e1
      rw [if_pos (show s < 0 by omega)] at e1
      by_cases se0 : se = 0
      · rw [if_pos se0] at e1
        cases hw : row[S.came]? with
        | none => rw [hw] at e1; cases e1
        | some v =>
          rw [hw] at e1
          have e1 : some (v, { S with came := S.came + 1 }) = some (wg, S1) := e1
          obtain ⟨_, rfl⟩ := Prod.mk.inj (Option.some.inj e1)
          exact ⟨_, rfl, _, _, rfl, rfl, ds, rfl, sD, upd_same, g3.mono sD⟩
      · rw [if_neg se0] at e1; cases e1
    · have z : s ≠ -1 := z
      have h0 : 0 ≤ s := by omega
      unfold src at e1
      rw [if_neg (show ¬ s < 0 by omega)] at e1
      by_cases ho : se ∈ outsOf (Y.kinds.getD s.toNat 0)
      case neg => rw [if_neg ho] at e1; cases e1
      rw [if_pos ho] at e1
      cases hp : popEnd se (S.held.getD s.toNat []) with
      | none => rw [hp] at e1; cases e1
      | some v =>
      rw [hp] at e1
      obtain ⟨v, l'⟩ := v
      have e1 : some (v, { S with held := S.held.set s.toNat l' }) = some (wg, S1) := e1
      obtain ⟨rfl, rfl⟩ := Prod.mk.inj (Option.some.inj e1)
      have ne := popEnd_some hp
      have hl := getD_of_ne ne
      obtain ⟨d, hd1, hd2⟩ := g3.get hl
      have fin : ∀ p, upd H D (.lst (ds.map V.ref)) p = none → ∃ ds1, ([some (.ref r), some (.ref q), some (.ref mv), some (.int (S.came : Int)), some (.ref hd), some (.ref gn), some (.int v), some (.ref D), some (.int s), some (.int se), some (.int t), some (.int te)] : L2.St) =
          [some (.ref r), some (.ref q), some (.ref mv), some (.int (S.came : Int)), some (.ref hd), some (.ref gn), some (.int v), some (.ref D), some (.int s), some (.int se), some (.int t), some (.int te)] ∧
          Same H (upd (upd (upd H D (.lst (ds.map V.ref))) p (.tup (l'.map V.int))) D (.lst ((ds.map V.ref).set s.toNat (.ref p)))) ∧ (upd (upd (upd H D (.lst (ds.map V.ref))) p (.tup (l'.map V.int))) D (.lst ((ds.map V.ref).set s.toNat (.ref p)))) D = some (.lst ((ds1 : List Addr).map V.ref)) ∧
          TupsAt (upd (upd (upd H D (.lst (ds.map V.ref))) p (.tup (l'.map V.int))) D (.lst ((ds.map V.ref).set s.toNat (.ref p)))) ds1 (S.held.set s.toNat l') := fun p np => by
        have s2 := Same.add sD np (o := .tup (l'.map V.int))
        have hD2 := (Same.new np (o := .tup (l'.map V.int))) _ _ upd_same
        refine ⟨ds.set s.toNat p, rfl, Same.mut s2 nD, by rw [upd_same, List.map_set], ?_⟩
        have keep : ∀ {b : Addr} {xs : List V}, upd (upd H D (.lst (ds.map V.ref))) p (.tup (l'.map V.int)) b = some (.tup xs) → upd (upd (upd H D (.lst (ds.map V.ref))) p (.tup (l'.map V.int))) D (.lst ((ds.map V.ref).set s.toNat (.ref p))) b = some (.tup xs) := fun z => lock_at hD2 z (by intro y; cases y)
        exact TupsAt.set (Paired.mapP g3 fun b m z => keep (s2 _ _ z)) (keep upd_same)
      have ixs : ixN (ds.map V.ref).length s = some s.toNat := by
        unfold ixN
        rw [List.length_map, if_pos h0, if_pos (by have := get_lt hd1; omega)]
      have hlen : (S.held.getD s.toNat []).length = l'.length + 1 := popEnd_length hp
      refine ⟨_, rfl, rfl, _, rfl, ite_eq (fun y => ?_) (fun y => ?_)⟩
      · have y : se = 0 := y
        subst y
        have el : cutV ((S.held.getD s.toNat []).map V.int) (some 1) none = l'.map V.int := by
          unfold popEnd at hp
          rw [if_pos rfl] at hp
          generalize S.held.getD s.toNat [] = l at hp hlen
          cases l with
          | nil => cases hp
          | cons x l2 =>
            obtain ⟨_, rfl⟩ := Prod.mk.inj (Option.some.inj hp)
            unfold cutV
            rw [show HT.sIx ((x :: l2).map V.int).length 0 (some 1) = 1 from (HT.sIx_nat _ 0 1).trans (Nat.min_eq_left (by simp)), HT.sIx_none]
            rw [List.map_cons, List.drop_one, List.tail_cons, List.length_cons, Nat.add_sub_cancel]
            exact List.take_of_length_le (Nat.le_refl _)
        refine ⟨_, rfl, _, rfl, D, _, _, _, rfl, rfl, SqL.of upd_same, at_int h0 (map_at hd1), _, rfl, d, _, rfl, SqT.of' (sD _ _ hd2), fun bad => ?_, fun _ p np => ?_⟩
        · exfalso
          have := bad.1
          rw [show ∀ n, HT.sIx n 0 (some 1) = min 1 n from fun n => HT.sIx_nat n 0 1, List.length_map] at this
          omega
        · rw [el]
          exact ⟨_, rfl, _, rfl, D, _, _, _, rfl, rfl, (Same.new np) _ _ upd_same, ixs, fin p np⟩
      · have y : se ≠ 0 := y
        have se1 : se = 1 := by rcases outs_01 ho with h | h; exact absurd h y; exact h
        subst se1
        have el : cutV ((S.held.getD s.toNat []).map V.int) none (some (-1)) = l'.map V.int := by
          unfold popEnd at hp
          rw [if_neg (by decide)] at hp
          generalize S.held.getD s.toNat [] = l at hp hlen
          cases hg : l.getLast? with
          | none => rw [hg] at hp; cases hp
          | some x =>
            rw [hg] at hp
            obtain ⟨_, rfl⟩ := Prod.mk.inj (Option.some.inj hp)
            have hx : HT.sIx (l.map V.int).length (l.map V.int).length (some (-1)) = l.length - 1 := by rw [sIx_neg1, List.length_map]
            unfold cutV
            rw [hx, HT.sIx_none, List.drop_zero, Nat.sub_zero, ← List.map_take, List.dropLast_eq_take]
        refine ⟨_, rfl, _, rfl, D, _, _, _, rfl, rfl, SqL.of upd_same, at_int h0 (map_at hd1), _, rfl, _, rfl, d, _, rfl, SqT.of' (sD _ _ hd2), fun bad => ?_, fun _ p np => ?_⟩
        · exfalso
          have := bad.2
          rw [sIx_neg1, List.length_map] at this
          omega
        · rw [el]
          exact ⟨_, rfl, _, rfl, D, _, _, _, rfl, rfl, (Same.new np) _ _ upd_same, ixs, fin p np⟩
  · rintro σ H1 ⟨ds1, rfl, s1, hD1, t1⟩
    have g4' : H1 gn = some (.tup (S.gone.map V.int)) := s1 _ _ g4
    have sgone : S1.gone = S.gone := src_gone e1
    refine ⟨fun σ H' => ∃ ds2 g', σ = [some (.ref r), some (.ref q), some (.ref mv), some (.int (S'.came : Int)), some (.ref hd), some (.ref g'), some (.int wg), some (.ref D), some (.int s), some (.int se), some (.int t), some (.int te)] ∧ Same H H' ∧ H' D = some (.lst ((ds2 : List Addr).map V.ref)) ∧ TupsAt H' ds2 S'.held ∧ H' g' = some (.tup (S'.gone.map V.int)), ?_, ?_⟩
    · refine ⟨_, rfl, rfl, _, rfl, ite_eq (fun z => ?_) (fun z => ?_)⟩
      · have z : t = -1 := z
        unfold tgt at e2
        rw [if_pos (show t < 0 by omega)] at e2
        by_cases te0 : te = 0
        case neg => rw [if_neg te0] at e2; cases e2
        rw [if_pos te0] at e2
        obtain rfl := Option.some.inj e2
        refine ⟨_, rfl, _, rfl, sz_le (Nat.le_of_ble_eq_true rfl), fun b nb => ?_⟩
        have s2 := Same.new nb (o := .tup [.int wg])
        refine ⟨gn, b, _, _, rfl, rfl, SqT.of' (s2 _ _ g4'), SqT.of' upd_same, sz_le ?_, fun xn => ?_, fun _ bad => (nomatch bad), fun _ _ p np => ?_⟩
        · rw [List.length_map, ← sgone]
          simp only [List.length_cons, List.length_nil]
          omega
        · refine ⟨ds1, b, rfl, Same.trans s1 s2, s2 _ _ hD1, t1.mono s2, ?_⟩
          have : S.gone = [] := List.map_eq_nil_iff.mp xn
          show _ = some (HO.tup ((S1.gone ++ [wg]).map V.int))
          rw [sgone, this, upd_same]
          rfl
        · have s3 := Same.add s2 np (o := .tup (S.gone.map V.int ++ [.int wg]))
          refine ⟨ds1, p, rfl, Same.trans s1 s3, s3 _ _ hD1, t1.mono s3, ?_⟩
          show _ = some (HO.tup ((S1.gone ++ [wg]).map V.int))
          rw [sgone, upd_same, List.map_append] <;> rfl
      · have z : t ≠ -1 := z
        have h0 : 0 ≤ t := by omega
        unfold tgt at e2
        rw [if_neg (show ¬ t < 0 by omega)] at e2
        by_cases c0 : te ∈ insOf (Y.kinds.getD t.toNat 0) ∧ ¬ (0 < Y.bounds.getD t.toNat 0 ∧ Y.bounds.getD t.toNat 0 ≤ (S.held.getD t.toNat []).length)
        case neg => rw [if_neg c0] at e2; cases e2
        rw [if_pos c0] at e2
        obtain rfl := Option.some.inj e2
        obtain ⟨l, hl⟩ := get_some (L := S1.held) (i := t.toNat) (by rw [wl]; omega)
        obtain ⟨d, hd1, hd2⟩ := t1.get hl
        have tl := total_le (List.mem_of_getElem? hl)
        have hlg : S1.held.getD t.toNat [] = l := getD_at hl
        have ixt : ixN (ds1.map V.ref).length t = some t.toNat := by
          unfold ixN
          rw [List.length_map, if_pos h0, if_pos (by have := get_lt hd1; omega)]
        have fin2 : ∀ (G : Hp) (p : Addr), Same H1 G → G p = some (.tup ((putEnd te wg l).map V.int)) → ∃ ds2 g', ([some (.ref r), some (.ref q), some (.ref mv), some (.int (S1.came : Int)), some (.ref hd), some (.ref gn), some (.int wg), some (.ref D), some (.int s), some (.int se), some (.int t), some (.int te)] : L2.St) =
            [some (.ref r), some (.ref q), some (.ref mv), some (.int (S1.came : Int)), some (.ref hd), some (.ref g'), some (.int wg), some (.ref D), some (.int s), some (.int se), some (.int t), some (.int te)] ∧
            Same H (upd G D (.lst ((ds1.map V.ref).set t.toNat (.ref p)))) ∧ (upd G D (.lst ((ds1.map V.ref).set t.toNat (.ref p)))) D = some (.lst ((ds2 : List Addr).map V.ref)) ∧ TupsAt (upd G D (.lst ((ds1.map V.ref).set t.toNat (.ref p)))) ds2 (S1.held.set t.toNat (putEnd te wg (S1.held.getD t.toNat []))) ∧
            (upd G D (.lst ((ds1.map V.ref).set t.toNat (.ref p)))) g' = some (.tup (S1.gone.map V.int)) := fun G p sg hp => by
          have hDG := sg _ _ hD1
          have keep : ∀ {b : Addr} {xs : List V}, G b = some (.tup xs) → upd G D (.lst ((ds1.map V.ref).set t.toNat (.ref p))) b = some (.tup xs) := fun z => lock_at hDG z (by intro y; cases y)
          refine ⟨ds1.set t.toNat p, gn, rfl, Same.mut (Same.trans s1 sg) nD, by rw [upd_same, List.map_set], ?_, by rw [sgone]; exact keep (sg _ _ g4')⟩
          rw [hlg]
          exact TupsAt.set (Paired.mapP t1 fun b m z => keep (sg _ _ z)) (keep hp)
        have llen : l.length + 1 ≤ 1000000 := by omega
        refine ⟨_, rfl, rfl, _, rfl, ite_eq (fun y => ?_) (fun y => ?_)⟩
        · have y : te = 0 := y
          subst y
          refine ⟨_, rfl, sz_le (Nat.le_of_ble_eq_true rfl), fun b nb => ?_⟩
          have s2 := Same.new nb (o := .tup [.int wg])
          refine ⟨_, rfl, _, rfl, D, _, _, _, rfl, rfl, SqL.of (s2 _ _ hD1), at_int h0 (map_at hd1), b, d, _, _, rfl, rfl, SqT.of' upd_same, SqT.of' (s2 _ _ hd2), sz_le (by rw [List.length_map]; simp only [List.length_cons, List.length_nil]; omega), fun bad => (nomatch bad), fun _ xn => ?_, fun _ _ p np => ?_⟩
          · have : l = [] := List.map_eq_nil_iff.mp xn
            exact ⟨_, rfl, _, rfl, D, _, _, _, rfl, rfl, s2 _ _ hD1, ixt, fin2 _ b s2 (by rw [this, upd_same]; rfl)⟩
          · have s3 := Same.add s2 np (o := .tup ([.int wg] ++ l.map V.int))
            exact ⟨_, rfl, _, rfl, D, _, _, _, rfl, rfl, s3 _ _ hD1, ixt, fin2 _ p s3 (by rw [upd_same]; rfl)⟩
        · have y : te ≠ 0 := y
          have te1 : te = 1 := by rcases ins_01 c0.1 with h | h; exact absurd h y; exact h
          subst te1
          refine ⟨_, rfl, _, rfl, D, _, _, _, rfl, rfl, SqL.of hD1, at_int h0 (map_at hd1), _, rfl, sz_le (Nat.le_of_ble_eq_true rfl), fun b nb => ?_⟩
          have s2 := Same.new nb (o := .tup [.int wg])
          have pe : putEnd 1 wg l = l ++ [wg] := rfl
          refine ⟨d, b, _, _, rfl, rfl, SqT.of' (s2 _ _ hd2), SqT.of' upd_same, sz_le (by rw [List.length_map]; simp only [List.length_cons, List.length_nil]; omega), fun xn => ?_, fun _ bad => (nomatch bad), fun _ _ p np => ?_⟩
          · have : l = [] := List.map_eq_nil_iff.mp xn
            exact ⟨_, rfl, _, rfl, D, _, _, _, rfl, rfl, s2 _ _ hD1, ixt, fin2 _ b s2 (by rw [this, upd_same]; rfl)⟩
          · have s3 := Same.add s2 np (o := .tup (l.map V.int ++ [.int wg]))
            exact ⟨_, rfl, _, rfl, D, _, _, _, rfl, rfl, s3 _ _ hD1, ixt, fin2 _ p s3 (by rw [upd_same, pe, List.map_append]; rfl)⟩
    · rintro σ H2 ⟨ds2, g', rfl, s2, hD2, t2, hg2⟩
      refine ⟨_, rfl, _, rfl, D, _, rfl, .inl ⟨SqL.of hD2, fun l nl => ⟨_, rfl, sz_le (Nat.le_of_ble_eq_true rfl), fun q' nq => ?_⟩⟩⟩
      have s3 := Same.new nl (o := .tup (ds2.map V.ref))
      have s4 := Same.new nq (o := .tup [.int (S'.came : Int), .ref l, .ref g'])
      have s34 := Same.trans s3 s4
      exact k _ q' (Same.trans s2 s34) ⟨l, g', ds2, upd_same, s4 _ _ upd_same, t2.mono s34, s34 _ _ hg2⟩
end
end K92

/-! K92P: the search. -/
set_option Elab.async false
set_option linter.all false
set_option maxRecDepth 100000
set_option maxHeartbeats 4000000
set_option autoImplicit false
namespace K92
open PySem PySem.Spec PyProof.Rows L2
section
variable {P : Program} {w : World} {K : PySem.W.Frag} {mg : Str → Option Value} {base : Heap}
def searchF (y wl ml kd ol : Addr) (fb : Bool) : List (Str × V) := [("yard", .ref y), ("wagons", .ref wl), ("met", .ref ml), ("known", .ref kd), ("origin", .ref ol), ("found", .bl fb)]
def OrgAt (H : Hp) (os : List V) : Prop := ∀ (i : Nat) (v : V), os[i]? = some v → 0 < i → ∃ (t : Addr) (j : Nat) (mv : Addr) (m : Move), v = V.ref t ∧ H t = some (.tup [.int (j : Int), .ref mv]) ∧ j < i ∧ MoveAt H mv m
theorem OrgAt.mono {H H' : Hp} {os : List V} (s : Same H H') (h : OrgAt H os) : OrgAt H' os := fun i v e hi => by
  obtain ⟨t, j, mv, m, e1, e2, e3, e4⟩ := h i v e hi
  exact ⟨t, j, mv, m, e1, s _ _ e2, e3, s _ _ e4⟩
theorem OrgAt.lock {H : Hp} {os : List V} {d : Addr} {u x : HO} (h : OrgAt H os) (hd : H d = some u) (nt : ∀ xs, u ≠ .tup xs) : OrgAt (upd H d x) os := fun i v e hi => by
  obtain ⟨t, j, mv, m, e1, e2, e3, e4⟩ := h i v e hi
  exact ⟨t, j, mv, m, e1, lock_at hd e2 (fun z => nt _ z.symm), e3, lock_at hd e4 (fun z => nt _ z.symm)⟩
theorem MoveAt.lock {H : Hp} {a : Addr} {m : Move} {d : Addr} {u x : HO} (h : MoveAt H a m) (hd : H d = some u) (nt : ∀ xs, u ≠ .tup xs) : MoveAt (upd H d x) a m := lock_at hd h (fun z => nt _ z.symm)
structure SrA (P : Program) (w : World) (T : TX K w mg) (H0 H : Hp) (p y wl : Addr) (row : List Int) (ms : List (Sit × Addr)) (fb : Bool) (J : List (Addr × HO)) : Prop where
  ex : ∃ dx ml kd ol os, Fr H0 H [(p, .ins T.cSearch dx (searchF y wl ml kd ol fb)), (ml, .lst (ms.map fun x => V.ref x.2)), (kd, ND P w kd ms), (ol, .lst os)] ((wl, intsO row) :: J) ∧ KeysAt H ms ∧ OrgAt H os ∧ os.length = ms.length
theorem SrA.mono {P : Program} {T : TX K w mg} {H0 H H' : Hp} {p y wl : Addr} {row : List Int} {ms : List (Sit × Addr)} {fb : Bool} {J : List (Addr × HO)} (h : SrA P w T H0 H p y wl row ms fb J) (s : Same H H') : SrA P w T H0 H' p y wl row ms fb J := by
  obtain ⟨dx, ml, kd, ol, os, f, a, b, c⟩ := h.ex
  exact ⟨dx, ml, kd, ol, os, f.mono s, a.mono s, b.mono s, c⟩
theorem SrA.same {P : Program} {T : TX K w mg} {H0 H : Hp} {p y wl : Addr} {row : List Int} {ms : List (Sit × Addr)} {fb : Bool} {J : List (Addr × HO)} (h : SrA P w T H0 H p y wl row ms fb J) : Same H0 H := by
  obtain ⟨dx, ml, kd, ol, os, f, a, b, c⟩ := h.ex
  exact f.same
theorem SrA.less {P : Program} {T : TX K w mg} {H0 H : Hp} {p y wl : Addr} {row : List Int} {ms : List (Sit × Addr)} {fb : Bool} {J : List (Addr × HO)} (h : SrA P w T H0 H p y wl row ms fb J) : SrA P w T H0 H p y wl row ms fb [] := by
  obtain ⟨dx, ml, kd, ol, os, f, a, b, c⟩ := h.ex
  exact ⟨dx, ml, kd, ol, os, f.less (fun x hx => by rw [List.mem_singleton.mp hx]; exact .head _), a, b, c⟩
/-- what a search has met -/
structure SI (Y : Yd) (row : List Int) (ms : List (Sit × Addr)) (fb : Bool) (k : Nat) : Prop where
  first : K92.first Y ∈ ms.map (·.1)
  reach : ∀ x ∈ ms, Reach Y row x.1
  lv : ∀ x ∈ ms, live x.1 = true
  no : fb = false → ∀ x ∈ ms, x.1.gone.length ≠ row.length
  yes : fb = true → ∃ x ∈ ms, x.1.gone.length = row.length
  len : ms.length ≤ 4000
  done : fb = false → ∀ i x, i < k → ms[i]? = some x → ∀ m S', made Y row x.1 m = some S' → live S' = true → S' ∈ ms.map (·.1)
def sp_Search_is_goal (P : Program) (w : World) (T : TX K w mg) : Sp := fun vs H Q _ => ∃ (p dx wl q : Addr) (fs : List (Str × V)) (S : Sit) (row : List Int), vs = [.ref p, .ref q] ∧ H p = some (.ins T.cSearch dx fs) ∧ fs.lookup ("wagons" : Str) = some (.ref wl) ∧ SitAt H q S ∧ RowAt H wl row ∧
  Q (.bl (decide (S.gone.length = row.length))) H
theorem c_Search_is_goal (T : TX K w mg) : C8.Met P w K mg base 1 T.cSearch "is_goal" (sp_Search_is_goal P w T) [] := by
  obtain ⟨f, fd, me, F, b⟩ := T.fn_Search_is_goal
  refine C8.met0 T.clSearch me F b sc_Search_is_goal (fun vs H Q E h => by obtain ⟨_, _, _, _, _, _, _, rfl, _⟩ := h; rfl) (fun cdv A outer s H vs Q E hr h => ?_)
  have hu := hu_of hr
  have nd := sc_Search_is_goal.nd
  refine ⟨_, (pss_one (ps_ret (pe_cmpR op_eq (pe_callB (call_lenK (K := K) rfl) (by rfl) T.b_len PySem.boot_len (pa_cons (pe_ix (ix_tupK (K := K) rfl) (pv 1) pe_int (fun _ _ => rfl)) pa_nil)) (pe_callB (call_lenK (K := K) rfl) (by rfl) T.b_len PySem.boot_len (pa_cons (pe_fld (pv 0) rfl) pa_nil)) (nomark _)))), ?_⟩
  obtain ⟨p, dx, wl, q, fs, S, row, rfl, hp, hl, sq, ra, k⟩ := h
  obtain ⟨hd, gn, ds, g1, g2, g3, g4⟩ := sq.ex
  refine ⟨_, rfl, q, _, _, _, rfl, rfl, SqT.of' g1, rfl, gn, _, rfl, .inr (SqT.of' g4), _, rfl, p, _, dx, _, _, rfl, hp, T.clSearch, T.na_Search_wagons, hl, wl, _, rfl, .inl (SqL.of ra), rfl, ?_⟩
  rw [List.length_map, List.length_map]
  have e : decide (V.int (S.gone.length : Int) = V.int (row.length : Int)) = decide (S.gone.length = row.length) := by
    by_cases z : S.gone.length = row.length
    · rw [decide_eq_true z, decide_eq_true (by rw [z])]
    · rw [decide_eq_false z, decide_eq_false (fun y => z (by injection y with y; omega))]
  show Q (.bl (decide (V.int (S.gone.length : Int) = V.int (row.length : Int)))) H
  rw [e]
  exact k
def sp_Search_init (P : Program) (w : World) (T : TX K w mg) : Sp := fun vs H Q _ => ∃ (H0 : Hp) (p dx y r q : Addr) (row : List Int) (S : Sit), vs = [.ref p, .ref y, .ref r, .ref q] ∧ Fr H0 H [(p, .ins T.cSearch dx [])] [] ∧ RowAt H r row ∧ SitAt H q S ∧
  ∀ H' wl, SrA P w T H0 H' p y wl row [(S, q)] (decide (S.gone.length = row.length)) [] → Q .non H'
theorem c_Search_init (T : TX K w mg) : C8.Mak P w K mg base 2 "Search" T.cSearch (sp_Search_init P w T) [] := by
  obtain ⟨f, fd, me, F, b⟩ := T.fn_Search_init
  refine C8.mak0 me T.g_Search F b .nil sc_Search_init (fun vs H Q E h => by obtain ⟨_, _, _, _, _, _, _, _, rfl, _⟩ := h; rfl) (fun cdv A outer s H vs Q E hr h => ?_)
  have hu := hu_of hr
  have nd := sc_Search_init.nd
  refine ⟨_, (pss_cons (ps_fld (pv 0) (pv 1) rfl)
      (pss_cons (ps_fld (pv 0) (pe_callTy (call_listK (K := K) rfl) (by rfl) T.b_list boot_list_ (pa_cons (pv 2) pa_nil)) rfl)
      (pss_cons (ps_fld (pv 0) (pe_lst (pa_cons (pv 3) pa_nil)) rfl)
      (pss_cons (ps_fld (pv 0) (pe_dispN (hu20 hr) (pv 3) pe_bl) rfl)
      (pss_cons (ps_fld (pv 0) (pe_lst (pa_cons pe_non pa_nil)) rfl)
      (pss_one (ps_fld (pv 0) (C8.pe_mt (c_Search_is_goal T) hr (by decide) (pv 0) (pa_cons (pv 3) pa_nil)) rfl))))))), ?_⟩
  obtain ⟨H0, p, dx, y, r, q, row, S, rfl, f0, ra, sq, k⟩ := h
  have hp0 := f0.get (.head _)
  refine ⟨_, rfl, _, rfl, p, _, dx, _, rfl, hp0, T.clSearch, T.na_Search_yard, Nat.le_of_ble_eq_true rfl, ?_⟩
  have f1 := f0.set (L1 := []) (o' := .ins T.cSearch dx [("yard", .ref y)])
  have ra1 : RowAt (upd H p (.ins T.cSearch dx [("yard", .ref y)])) r row := lock_at hp0 ra (by intro z; cases z)
  have sq1 : SitAt (upd H p (.ins T.cSearch dx [("yard", .ref y)])) q S := sq.lock hp0 (by intro _ z; cases z)
  refine ⟨_, rfl, r, _, rfl, .inl (SqL.of ra1), fun wl nwl => ?_⟩
  have f2 := f1.new_imm (o := intsO row) nwl
  have sq2 := sq1.mono (Same.new nwl (o := intsO row))
  have hp2 := f2.get (.head _)
  refine ⟨_, rfl, p, _, dx, _, rfl, hp2, T.clSearch, T.na_Search_wagons, Nat.le_of_ble_eq_true rfl, ?_⟩
  have f3 := f2.set (L1 := []) (o' := .ins T.cSearch dx [("yard", .ref y), ("wagons", .ref wl)])
  have sq3 := sq2.lock (x := .ins T.cSearch dx [("yard", .ref y), ("wagons", .ref wl)]) hp2 (by intro _ z; cases z)
  refine ⟨_, rfl, sz_le (Nat.le_of_ble_eq_true rfl), fun ml nml => ?_⟩
  have f4 := (f3.new_own (o := .lst [.ref q]) nml).perm (List.Perm.swap ..)
  have sq4 := sq3.mono (Same.new nml (o := .lst [.ref q]))
  have hp4 := f4.get (.head _)
  refine ⟨_, rfl, p, _, dx, _, rfl, hp4, T.clSearch, T.na_Search_met, Nat.le_of_ble_eq_true rfl, ?_⟩
  have f5 := f4.set (L1 := []) (o' := .ins T.cSearch dx [("yard", .ref y), ("wagons", .ref wl), ("met", .ref ml)])
  have sq5 := sq4.lock (x := .ins T.cSearch dx [("yard", .ref y), ("wagons", .ref wl), ("met", .ref ml)]) hp4 (by intro _ z; cases z)
  intro kd nkd
  have f6 := f5.new_own (o := ND P w kd []) nkd
  have sq6 := sq5.mono (Same.new nkd (o := ND P w kd []))
  refine ⟨_, rfl, q, S, rfl, rfl, upd_same, sq6, ?_⟩
  have f7 := (f6.set (L1 := []) (o' := ND P w kd [(S, q)])).perm (List.Perm.swap ..)
  have sq7 := sq6.lock (x := ND P w kd [(S, q)]) (f6.get (.head _)) (by intro _ z; cases z)
  have hp7 := f7.get (.head _)
  refine ⟨_, rfl, p, _, dx, _, rfl, hp7, T.clSearch, T.na_Search_known, Nat.le_of_ble_eq_true rfl, ?_⟩
  have f8 := f7.set (L1 := []) (o' := .ins T.cSearch dx [("yard", .ref y), ("wagons", .ref wl), ("met", .ref ml), ("known", .ref kd)])
  have sq8 := sq7.lock (x := .ins T.cSearch dx [("yard", .ref y), ("wagons", .ref wl), ("met", .ref ml), ("known", .ref kd)]) hp7 (by intro _ z; cases z)
  refine ⟨sz_le (Nat.le_of_ble_eq_true rfl), fun ol nol => ?_⟩
  have f9 := (f8.new_own (o := .lst [V.non]) nol).perm (List.Perm.swap ..)
  have sq9 := sq8.mono (Same.new nol (o := .lst [V.non]))
  have hp9 := f9.get (.head _)
  refine ⟨_, rfl, p, _, dx, _, rfl, hp9, T.clSearch, T.na_Search_origin, Nat.le_of_ble_eq_true rfl, ?_⟩
  have f10 := f9.set (L1 := []) (o' := .ins T.cSearch dx [("yard", .ref y), ("wagons", .ref wl), ("met", .ref ml), ("known", .ref kd), ("origin", .ref ol)])
  have sq10 := sq9.lock (x := .ins T.cSearch dx [("yard", .ref y), ("wagons", .ref wl), ("met", .ref ml), ("known", .ref kd), ("origin", .ref ol)]) hp9 (by intro _ z; cases z)
  have hp10 := f10.get (.head _)
  refine ⟨_, rfl, p, dx, _, rfl, hp10, rfl, _, rfl, p, dx, wl, q, _, S, row, rfl, hp10, rfl, sq10, f10.got (.head _), ?_⟩
  refine ⟨_, rfl, p, _, dx, _, rfl, hp10, T.clSearch, T.na_Search_found, Nat.le_of_ble_eq_true rfl, ?_⟩
  have f11 := f10.set (L1 := []) (o' := .ins T.cSearch dx (searchF y wl ml kd ol (decide (S.gone.length = row.length))))
  have sq11 := sq10.lock (x := .ins T.cSearch dx (searchF y wl ml kd ol (decide (S.gone.length = row.length)))) hp10 (by intro _ z; cases z)
  refine k _ wl ⟨dx, ml, kd, ol, [V.non], f11.perm ?_, ?_, ?_, rfl⟩
  · exact ((List.reverse_perm [_, _, _]).cons _)
  · intro x hx
    rw [List.mem_singleton.mp hx]
    exact sq11
  · intro i v e hi
    have := get_lt e
    simp at this
    omega
def sp_Search_look (P : Program) (w : World) (T : TX K w mg) : Sp := fun vs H Q E => ∃ (H0 : Hp) (p y wl : Addr) (Y : Yd) (row : List Int) (ms : List (Sit × Addr)) (n : Nat), vs = [.ref p, .int (n : Int)] ∧ SrA P w T H0 H p y wl row ms false [] ∧ SI Y row ms false n ∧ n < ms.length ∧ YardAt T H0 y Y ∧ YOk Y ∧ row.length ≤ 60 ∧
  (∀ H' ms' fb, SrA P w T H0 H' p y wl row ms' fb [] → SI Y row ms' fb (n + 1) → Q .non H') ∧ ∀ H', Same H0 H' → E (.ref T.cTooLarge) none H'
theorem c_Search_look (T : TX K w mg) : MetX P w K mg base 4 T.cSearch "look" (sp_Search_look P w T) := by
  obtain ⟨f, fd, me, F, b⟩ := T.fn_Search_look
  refine met0X T.clSearch me F b sc_Search_look (fun vs H Q E h => by obtain ⟨_, _, _, _, _, _, _, _, rfl, _⟩ := h; rfl) (fun cdv A outer s H vs Q E hr h => ?_)
  have hu := hu_of hr
  have nd := sc_Search_look.nd
  refine ⟨_, (pss_cons (ps_set (i := 2) nd rfl (Or.inl rfl) (pe_ix (ix_listK (K := K) rfl) (pe_fld (pv 0) rfl) (pv 1) (fun _ _ => rfl)))
      (pss_one (ps_for (passes_of rfl) rfl (pi_list (C8.pe_c (c_possible T) hr (by decide) rfl (pa_cons (pe_fld (pv 0) rfl) (pa_cons (pe_fld (pv 0) rfl) (pa_cons (pv 2) pa_nil))))) (pg_name (i := 3) nd rfl (Or.inl rfl)) (pss_cons (ps_set (i := 4) nd rfl (Or.inl rfl) (C8.pe_c (c_after T) hr (by decide) rfl (pa_cons (pe_fld (pv 0) rfl) (pa_cons (pv 2) (pa_cons (pv 3) pa_nil)))))
      (pss_cons (ps_if (PW.pt (pw_or (pt_cmp (pc_ninN (hu20 hr) (pv 4) (pe_fld (pv 0) rfl))) (pw_or1 (pt_not (pt_val (C8.pe_c (c_is_live T) hr (by decide) rfl (pa_cons (pv 4) pa_nil))))))) (pss_one ps_continue) pss_nil)
      (pss_cons (ps_if (pt_cmpR op_eq (pe_callB (call_lenK (K := K) rfl) (by rfl) T.b_len PySem.boot_len (pa_cons (pe_fld (pv 0) rfl) pa_nil)) (C8.pe_gc rfl T.g_MOST_SITUATIONS) (nomark _)) (pss_one (ps_raise rfl (takes_of rfl rfl rfl rfl) (pmk_own PySem.F.excBase_ValueError T.xTL T.g_TooLarge T.k_TooLarge (raises_own T.bTL T.tTL) (by exact rfl)))) pss_nil)
      (pss_cons (ps_nput (hu20 hr) (pe_fld (pv 0) rfl) (pv 4) pe_bl rfl)
      (pss_cons (ps_expr (pe_bm PySem.F.plainAttrs_list PySem.F.slot_list_append PySem.F.type_list_append mt_append (pe_fld (pv 0) rfl) (pa_cons (pv 4) pa_nil)))
      (pss_cons (ps_expr (pe_bm PySem.F.plainAttrs_list PySem.F.slot_list_append PySem.F.type_list_append mt_append (pe_fld (pv 0) rfl) (pa_cons (pe_tup (pa_cons (pv 1) (pa_cons (pv 3) pa_nil))) pa_nil)))
      (pss_one (ps_if (pt_val (C8.pe_mt (c_Search_is_goal T) hr (by decide) (pv 0) (pa_cons (pv 4) pa_nil))) (pss_cons (ps_fld (pv 0) pe_bl rfl)
      (pss_one ps_retN)) pss_nil))))))))))), ?_⟩
  obtain ⟨H0, p, y, wl, Y, row, ms, n, rfl, sr, si, hn, ya, ok, few, kQ, kE⟩ := h
  obtain ⟨dx, ml, kd, ol, os, f, ks, og, lo⟩ := sr.ex
  obtain ⟨⟨S, q⟩, hS⟩ := get_some hn
  have mS := List.mem_of_getElem? hS
  have wS : WFS Y row S := reach_wf ok few (si.reach _ mS)
  have sq : SitAt H q S := ks _ mS
  have hp := f.get (.head _)
  have hm : H ml = some (.lst (ms.map fun x => V.ref x.2)) := f.get (.tail _ (.head _))
  refine ⟨_, rfl, p, _, dx, _, _, rfl, hp, T.clSearch, T.na_Search_met, rfl, _, rfl, ml, _, _, _, rfl, rfl, SqL.of hm, atI_nat (map_at hS), ?_⟩
  -- for move in possible(..)
  have raw : RowAt H wl row := f.got (.head _)
  refine ⟨_, rfl, p, _, dx, _, _, rfl, hp, T.clSearch, T.na_Search_yard, rfl, _, rfl, p, _, dx, _, _, rfl, hp, T.clSearch, T.na_Search_wagons, rfl, _, rfl, y, wl, q, Y, row, S, rfl, ya.mono sr.same, raw, sq, ok, wS, fun H1 a0 L s1 na0 ha0 hmv hmem hlim => ?_⟩
  refine ⟨a0, rfl, ⟨_, SqL.of ha0⟩, ?_⟩
  have fJ : Fr H0 H1 [(p, .ins T.cSearch dx (searchF y wl ml kd ol false)), (ml, .lst (ms.map fun x => V.ref x.2)), (kd, ND P w kd ms), (ol, .lst os)] ((wl, intsO row) :: [(a0, .lst (L.map fun x => V.ref x.1))]) := by
    have g := f.mono s1
    refine ⟨g.same, g.nd, g.own, fun x hx => ?_⟩
    rcases List.mem_cons.mp hx with rfl | hx
    · exact g.imm _ (.head _)
    · rw [List.mem_singleton.mp hx]
      refine ⟨ha0, fun mm => ?_⟩
      obtain ⟨x, hx, ex⟩ := List.mem_map.mp mm
      have q1 := (f.own x hx).2
      have ex : x.1 = a0 := ex
      rw [ex, na0] at q1
      cases q1
  refine for_list (xs := L.map fun x => V.ref x.1) (fun j σ H' => ∃ ms' u3 u4, σ = [some (.ref p), some (.int (n : Int)), some (.ref q), u3, u4] ∧ SrA P w T H0 H' p y wl row ms' false [(a0, .lst (L.map fun x => V.ref x.1))] ∧ SI Y row ms' false n ∧ ms'[n]? = some (S, q) ∧ SitAt H' q S ∧ (∀ x ∈ L, MoveAt H' x.1 x.2) ∧
    (∀ x ∈ L.take j, ∀ S', made Y row S x.2 = some S' → live S' = true → S' ∈ ms'.map (·.1)))
    ⟨ms, none, none, rfl, ⟨dx, ml, kd, ol, os, fJ, ks.mono s1, og.mono s1, lo⟩, si, hS, sq.mono s1, hmv, (by intro _ z; cases z)⟩ ?_ ?_ ?_
  · rintro i σ H' _ ⟨ms', u3, u4, rfl, sr', _⟩
    obtain ⟨dx, ml, kd, ol, os, f, _⟩ := sr'.ex
    exact SqL.of (f.got (.tail _ (.head _)))
  · rintro j x σ H2 hx ⟨ms', u3, u4, rfl, sr', si', hS', sq', hmv', dn⟩
    obtain ⟨dx, ml, kd, ol, os, f, ks, og, lo⟩ := sr'.ex
    have ex : ∃ z, L[j]? = some z ∧ x = V.ref z.1 := by
      rw [List.getElem?_map] at hx
      cases e : L[j]? with
      | none => rw [e] at hx; cases hx
      | some z => rw [e] at hx; exact ⟨z, rfl, (Option.some.inj hx).symm⟩
    obtain ⟨⟨mv, m⟩, hL, rfl⟩ := ex
    have mL := List.mem_of_getElem? hL
    obtain ⟨S', eS'⟩ := (hmem m).mp (List.mem_map_of_mem (f := (·.2)) mL)
    have hp := f.get (.head _)
    have raw : RowAt H2 wl row := f.got (.head _)
    have wS' : WFS Y row S' := made_wf ok wS eS'
    have sum' := wS'.sum
    have came' := wS'.came
    refine ⟨_, rfl, p, _, dx, _, _, rfl, hp, T.clSearch, T.na_Search_wagons, rfl, _, rfl, _, rfl, wl, q, mv, Y, row, S, S', m, rfl, raw, sq', hmv' _ mL, wS, ok, eS', fun H3 q2 s3 sq2 => ?_⟩
    have f3 := f.mono s3
    have hp3 := f3.get (.head _)
    have hkd3 : H3 kd = some (ND P w kd ms') := f3.get (.tail _ (.tail _ (.head _)))
    have next : (live S' = true → S' ∈ ms'.map (·.1)) → ∀ (H4 : Hp), Same H3 H4 → ∃ ms'' u3 u4, ([some (.ref p), some (.int (n : Int)), some (.ref q), some (.ref mv), some (.ref q2)] : L2.St) = [some (.ref p), some (.int (n : Int)), some (.ref q), u3, u4] ∧ SrA P w T H0 H4 p y wl row ms'' false [(a0, .lst (L.map fun x => V.ref x.1))] ∧ SI Y row ms'' false n ∧ ms''[n]? = some (S, q) ∧ SitAt H4 q S ∧ (∀ x ∈ L, MoveAt H4 x.1 x.2) ∧
        (∀ x ∈ L.take (j + 1), ∀ S', made Y row S x.2 = some S' → live S' = true → S' ∈ ms''.map (·.1)) := fun h4 H4 s4 => by
      have s34 := Same.trans s3 s4
      refine ⟨ms', _, _, rfl, sr'.mono s34, si', hS', sq'.mono s34, fun x hx => s34 _ _ (hmv' x hx), fun x hx S2 e2 l2 => ?_⟩
      rw [take_snoc hL] at hx
      rcases List.mem_append.mp hx with hx | hx
      · exact dn x hx S2 e2 l2
      · rw [List.mem_singleton.mp hx] at e2
        obtain rfl : S' = S2 := Option.some.inj (eS'.symm.trans e2)
        exact h4 l2
    refine ⟨_, rfl, _, rfl, p, _, dx, _, _, rfl, hp3, T.clSearch, T.na_Search_known, rfl, kd, q2, S', ms', rfl, rfl, .inl hkd3, ks.mono s3, sq2, _, rfl, ite2 (fun z => ?_) (fun z => ?_)⟩
    · have mem : S' ∈ ms'.map (·.1) := of_decide_eq_true z
      exact iteT (next (fun _ => mem) _ (same_refl _))
    have nmem : S' ∉ ms'.map (·.1) := fun y => z (decide_eq_true y)
    refine ⟨_, rfl, q2, S', rfl, sq2, by omega, fun H4 s4 => ⟨_, rfl, ?_⟩⟩
    by_cases lv : live S' = true
    case neg =>
      have : live S' = false := by simpa using lv
      rw [this]
      exact iteT (next (fun y => absurd y lv) _ s4)
    rw [lv]
    refine iteF ?_
    have f4 := f3.mono s4
    have hp4 := f4.get (.head _)
    have hm4 : H4 ml = some (.lst (ms'.map fun x => V.ref x.2)) := f4.get (.tail _ (.head _))
    have s34 := Same.trans s3 s4
    refine ⟨_, rfl, p, _, dx, _, _, rfl, hp4, T.clSearch, T.na_Search_met, rfl, ml, _, rfl, .inl (SqL.of hm4), rfl, _, rfl, ite_eq (fun _ => ?_) (fun y4 => ?_)⟩
    · exact kE _ f4.same
    rw [List.length_map] at y4
    have lt : ms'.length < 4000 := by have := si'.len; omega
    have sq4 : SitAt H4 q2 S' := sq2.mono s4
    have hkd4 : H4 kd = some (ND P w kd ms') := f4.get (.tail _ (.tail _ (.head _)))
    refine ⟨_, rfl, p, _, dx, _, _, rfl, hp4, T.clSearch, T.na_Search_known, rfl, _, rfl, kd, q2, S', ms', rfl, rfl, rfl, hkd4, ks.mono s34, sq4, sz_lt (by omega), ?_⟩
    have np : ndPut ms' S' q2 = ms' ++ [(S', q2)] := if_neg nmem
    rw [np]
    have f5 := f4.set (L1 := [_, _]) (a := kd) (o' := ND P w kd (ms' ++ [(S', q2)]))
    have ne1 : ∀ xs, ND P w kd ms' ≠ HO.tup xs := by intro _ z; cases z
    have sq5 := sq4.lock (x := ND P w kd (ms' ++ [(S', q2)])) hkd4 ne1
    have sS5 := (sq'.mono s34).lock (x := ND P w kd (ms' ++ [(S', q2)])) hkd4 ne1
    have ks5 := (ks.mono s34).lock (x := ND P w kd (ms' ++ [(S', q2)])) hkd4 ne1
    have og5 := (og.mono s34).lock (x := ND P w kd (ms' ++ [(S', q2)])) hkd4 ne1
    have mv5 : ∀ x ∈ L, MoveAt (upd H4 kd (ND P w kd (ms' ++ [(S', q2)]))) x.1 x.2 := fun x hx => MoveAt.lock (s34 _ _ (hmv' x hx)) hkd4 ne1
    have hp5 := f5.get (.head _)
    have hm5 : upd H4 kd (ND P w kd (ms' ++ [(S', q2)])) ml = some (.lst (ms'.map fun x => V.ref x.2)) := f5.get (.tail _ (.head _))
    refine ⟨_, rfl, p, _, dx, _, _, rfl, hp5, T.clSearch, T.na_Search_met, rfl, tyL hm5, _, rfl, ml, _, _, rfl, rfl, hm5, sz_lt (by rw [List.length_map]; omega), ?_⟩
    have em : ms'.map (fun x => V.ref x.2) ++ [V.ref q2] = (ms' ++ [(S', q2)]).map fun x => V.ref x.2 := by rw [List.map_append]; rfl
    rw [em]
    have f6 := f5.set (L1 := [_]) (a := ml) (o' := .lst ((ms' ++ [(S', q2)]).map fun x => V.ref x.2))
    have ne2 : ∀ xs, HO.lst (ms'.map fun x => V.ref x.2) ≠ HO.tup xs := by intro _ z; cases z
    have sq6 := sq5.lock (x := .lst ((ms' ++ [(S', q2)]).map fun x => V.ref x.2)) hm5 ne2
    have sS6 := sS5.lock (x := .lst ((ms' ++ [(S', q2)]).map fun x => V.ref x.2)) hm5 ne2
    have ks6 := ks5.lock (x := .lst ((ms' ++ [(S', q2)]).map fun x => V.ref x.2)) hm5 ne2
    have og6 := og5.lock (x := .lst ((ms' ++ [(S', q2)]).map fun x => V.ref x.2)) hm5 ne2
    have mv6 : ∀ x ∈ L, MoveAt (upd (upd H4 kd (ND P w kd (ms' ++ [(S', q2)]))) ml (.lst ((ms' ++ [(S', q2)]).map fun x => V.ref x.2))) x.1 x.2 := fun x hx => MoveAt.lock (mv5 x hx) hm5 ne2
    have hp6 := f6.get (.head _)
    have ho6 : (upd (upd H4 kd (ND P w kd (ms' ++ [(S', q2)]))) ml (.lst ((ms' ++ [(S', q2)]).map fun x => V.ref x.2))) ol = some (.lst os) := f6.get (.tail _ (.tail _ (.tail _ (.head _))))
    refine ⟨_, rfl, p, _, dx, _, _, rfl, hp6, T.clSearch, T.na_Search_origin, rfl, tyL ho6, _, rfl, _, rfl, sz_le (Nat.le_of_ble_eq_true rfl), fun t nt => ?_⟩
    have s7 := Same.new nt (o := .tup [.int (n : Int), .ref mv])
    have f7 := f6.junk (o := .tup [.int (n : Int), .ref mv]) nt
    refine ⟨ol, os, _, rfl, rfl, s7 _ _ ho6, sz_lt (by omega), ?_⟩
    have f8 := f7.set (L1 := [_, _, _]) (a := ol) (o' := .lst (os ++ [.ref t]))
    have ho7 := s7 _ _ ho6
    have ne3 : ∀ xs, HO.lst os ≠ HO.tup xs := by intro _ z; cases z
    have sq8 := (sq6.mono s7).lock (x := .lst (os ++ [.ref t])) ho7 ne3
    have sS8 := (sS6.mono s7).lock (x := .lst (os ++ [.ref t])) ho7 ne3
    have ks8 := (ks6.mono s7).lock (x := .lst (os ++ [.ref t])) ho7 ne3
    have og8 := (og6.mono s7).lock (x := .lst (os ++ [.ref t])) ho7 ne3
    have mv8 : ∀ x ∈ L, MoveAt (upd (upd (upd (upd H4 kd (ND P w kd (ms' ++ [(S', q2)]))) ml (.lst ((ms' ++ [(S', q2)]).map fun x => V.ref x.2))) t (.tup [.int (n : Int), .ref mv])) ol (.lst (os ++ [.ref t]))) x.1 x.2 := fun x hx => MoveAt.lock (s7 _ _ (mv6 x hx)) ho7 ne3
    have t8 : upd (upd (upd (upd H4 kd (ND P w kd (ms' ++ [(S', q2)]))) ml (.lst ((ms' ++ [(S', q2)]).map fun x => V.ref x.2))) t (.tup [.int (n : Int), .ref mv])) ol (.lst (os ++ [.ref t])) t = some (.tup [.int (n : Int), .ref mv]) := lock_at ho7 upd_same (fun z => ne3 _ z.symm)
    have hp8 := f8.get (.head _)
    have ks9 : KeysAt (upd (upd (upd (upd H4 kd (ND P w kd (ms' ++ [(S', q2)]))) ml (.lst ((ms' ++ [(S', q2)]).map fun x => V.ref x.2))) t (.tup [.int (n : Int), .ref mv])) ol (.lst (os ++ [.ref t]))) (ms' ++ [(S', q2)]) := fun x hx => by
      rcases List.mem_append.mp hx with hx | hx
      · exact ks8 x hx
      · rw [List.mem_singleton.mp hx]; exact sq8
    have lo9 : (os ++ [V.ref t]).length = (ms' ++ [(S', q2)]).length := by rw [List.length_append, List.length_append, lo]; rfl
    have n1 : n < ms'.length := get_lt hS'
    have og9 : OrgAt (upd (upd (upd (upd H4 kd (ND P w kd (ms' ++ [(S', q2)]))) ml (.lst ((ms' ++ [(S', q2)]).map fun x => V.ref x.2))) t (.tup [.int (n : Int), .ref mv])) ol (.lst (os ++ [.ref t]))) (os ++ [V.ref t]) := fun i v e hi => by
      by_cases c : i < os.length
      · rw [List.getElem?_append_left c] at e
        exact og8 i v e hi
      · have : i = os.length := by have := get_lt e; rw [List.length_append] at this; simp at this; omega
        subst this
        rw [List.getElem?_append_right (Nat.le_refl _), Nat.sub_self] at e
        have e : some (V.ref t) = some v := e
        exact ⟨t, n, mv, m, (Option.some.inj e).symm, t8, by omega, mv8 _ mL⟩
    have sr9 : SrA P w T H0 (upd (upd (upd (upd H4 kd (ND P w kd (ms' ++ [(S', q2)]))) ml (.lst ((ms' ++ [(S', q2)]).map fun x => V.ref x.2))) t (.tup [.int (n : Int), .ref mv])) ol (.lst (os ++ [.ref t]))) p y wl row (ms' ++ [(S', q2)]) false [(a0, .lst (L.map fun x => V.ref x.1))] := ⟨dx, ml, kd, ol, _, f8, ks9, og9, lo9⟩
    have re9 : ∀ x ∈ ms' ++ [(S', q2)], Reach Y row x.1 := fun x hx => by
      rcases List.mem_append.mp hx with hx | hx
      · exact si'.reach x hx
      · rw [List.mem_singleton.mp hx]; exact .step (si'.reach _ (List.mem_of_getElem? hS')) eS'
    have lv9 : ∀ x ∈ ms' ++ [(S', q2)], live x.1 = true := fun x hx => by
      rcases List.mem_append.mp hx with hx | hx
      · exact si'.lv x hx
      · rw [List.mem_singleton.mp hx]; exact lv
    have sub : ∀ z, z ∈ ms'.map (·.1) → z ∈ (ms' ++ [(S', q2)]).map (·.1) := fun z hz => by rw [List.map_append]; exact List.mem_append_left _ hz
    have new : S' ∈ (ms' ++ [(S', q2)]).map (·.1) := by rw [List.map_append]; exact List.mem_append_right _ (.head _)
    have len9 : (ms' ++ [(S', q2)]).length ≤ 4000 := by rw [List.length_append]; simp; omega
    refine ⟨_, rfl, p, dx, _, rfl, hp8, rfl, _, rfl, p, dx, wl, q2, _, S', row, rfl, hp8, rfl, sq8, f8.got (.head _), _, rfl, ite2 (fun g => ?_) (fun g => ?_)⟩
    · have g := of_decide_eq_true g
      refine ⟨_, rfl, p, _, dx, _, rfl, hp8, T.clSearch, T.na_Search_found, Nat.le_of_ble_eq_true rfl, ?_⟩
      have f9 := f8.set (L1 := []) (o' := .ins T.cSearch dx (searchF y wl ml kd ol true))
      have ne4 : ∀ xs, HO.ins T.cSearch dx (searchF y wl ml kd ol false) ≠ HO.tup xs := by intro _ z; cases z
      refine kQ _ _ true ⟨dx, ml, kd, ol, _, f9.less (fun x hx => by rw [List.mem_singleton.mp hx]; exact .head _), ks9.lock hp8 ne4, og9.lock hp8 ne4, lo9⟩ ⟨sub _ si'.first, re9, lv9, (by intro z; cases z), fun _ => ⟨_, List.mem_append_right _ (.head _), g⟩, len9, (by intro z; cases z)⟩
    · have g : S'.gone.length ≠ row.length := fun z => g (decide_eq_true z)
      refine ⟨_, _, _, rfl, sr9, ⟨sub _ si'.first, re9, lv9, fun _ x hx => ?_, (by intro z; cases z), len9, fun _ i x hi hx m2 S2 e2 l2 => ?_⟩, ?_, sS8, mv8, fun x hx S2 e2 l2 => ?_⟩
      · rcases List.mem_append.mp hx with hx | hx
        · exact si'.no rfl x hx
        · rw [List.mem_singleton.mp hx]; exact g
      · rw [List.getElem?_append_left (by omega)] at hx
        exact sub _ (si'.done rfl i x hi hx m2 S2 e2 l2)
      · rw [List.getElem?_append_left n1]; exact hS'
      · rw [take_snoc hL] at hx
        rcases List.mem_append.mp hx with hx | hx
        · exact sub _ (dn x hx S2 e2 l2)
        · rw [List.mem_singleton.mp hx] at e2
          obtain rfl : S' = S2 := Option.some.inj (eS'.symm.trans e2)
          exact new
  · rintro σ H2 ⟨ms', u3, u4, rfl, sr', si', hS', sq', hmv', dn⟩
    rw [List.length_map, List.take_length] at dn
    refine kQ _ ms' false sr'.less ⟨si'.first, si'.reach, si'.lv, si'.no, si'.yes, si'.len, fun _ i x hi hx m S' e l => ?_⟩
    by_cases c : i < n
    · exact si'.done rfl i x c hx m S' e l
    · obtain rfl : i = n := by omega
      obtain rfl : x = (S, q) := Option.some.inj (hx.symm.trans hS')
      obtain ⟨z, hz, ez⟩ := List.mem_map.mp ((hmem m).mpr ⟨S', e⟩)
      exact dn z hz S' (by rw [ez]; exact e) l
end
end K92

/-! K92Q: the search: finish, way, solve, closed lists. -/
set_option Elab.async false
set_option linter.all false
set_option maxRecDepth 100000
set_option maxHeartbeats 4000000
set_option autoImplicit false
namespace K92
open PySem PySem.Spec PyProof.Rows L2
section
variable {P : Program} {w : World} {K : PySem.W.Frag} {mg : Str → Option Value} {base : Heap}
theorem SI.full {Y : Yd} {row : List Int} {ms : List (Sit × Addr)} {fb : Bool} {k : Nat} (s : SI Y row ms fb k) (h : fb = false → ms.length ≤ k) : SI Y row ms fb ms.length :=
  ⟨s.first, s.reach, s.lv, s.no, s.yes, s.len, fun e i x hi hx => s.done e i x (Nat.lt_of_lt_of_le hi (h e)) hx⟩
theorem SI.upk {Y : Yd} {row : List Int} {ms : List (Sit × Addr)} {k k' : Nat} (s : SI Y row ms true k) : SI Y row ms true k' :=
  ⟨s.first, s.reach, s.lv, s.no, s.yes, s.len, fun e => by cases e⟩
theorem SI.noway {Y : Yd} {row : List Int} {ms : List (Sit × Addr)} (s : SI Y row ms false ms.length) : ¬ Way Y row := by
  refine search_noway (met := ms.map (·.1)) s.first (fun S hS => ?_) (fun S hS m S' e l => ?_)
  · obtain ⟨x, hx, rfl⟩ := List.mem_map.mp hS
    exact s.no rfl x hx
  · obtain ⟨x, hx, rfl⟩ := List.mem_map.mp hS
    obtain ⟨i, hi⟩ := List.getElem?_of_mem hx
    exact s.done rfl i x (get_lt hi) hi m S' e l
theorem SI.way {Y : Yd} {row : List Int} {ms : List (Sit × Addr)} {k : Nat} (s : SI Y row ms true k) : Way Y row := by
  obtain ⟨x, hx, e⟩ := s.yes rfl
  exact ⟨x.1, s.reach x hx, live_gone (s.lv x hx) e⟩
def sp_Search_finish (P : Program) (w : World) (T : TX K w mg) : Sp := fun vs H Q E => ∃ (H0 : Hp) (p y wl : Addr) (Y : Yd) (row : List Int) (ms : List (Sit × Addr)) (fb : Bool), vs = [.ref p] ∧ SrA P w T H0 H p y wl row ms fb [] ∧ SI Y row ms fb 0 ∧ YardAt T H0 y Y ∧ YOk Y ∧ row.length ≤ 60 ∧
  (∀ H' ms' fb', SrA P w T H0 H' p y wl row ms' fb' [] → SI Y row ms' fb' ms'.length → Q .non H') ∧ ∀ H', Same H0 H' → E (.ref T.cTooLarge) none H'
theorem c_Search_finish (T : TX K w mg) : MetX P w K mg base 5 T.cSearch "finish" (sp_Search_finish P w T) := by
  obtain ⟨f, fd, me, F, b⟩ := T.fn_Search_finish
  refine met0X T.clSearch me F b sc_Search_finish (fun vs H Q E h => by obtain ⟨_, _, _, _, _, _, _, _, rfl, _⟩ := h; rfl) (fun cdv A outer s H vs Q E hr h => ?_)
  have hu := hu_of hr
  have nd := sc_Search_finish.nd
  refine ⟨_, (pss_cons (ps_set (i := 1) nd rfl (Or.inl rfl) pe_int)
      (pss_one (ps_while (passes_of rfl) (PW.pt (pw_and (pt_not (pt_val (pe_fld (pv 0) rfl))) (pw_and1 (pt_cmpR op_lt (pv 1) (pe_callB (call_lenK (K := K) rfl) (by rfl) T.b_len PySem.boot_len (pa_cons (pe_fld (pv 0) rfl) pa_nil)) (nomark _))))) (pss_cons (ps_expr (pe_mtX (c_Search_look T) hr (by decide) (passes_call (takes_of rfl rfl rfl rfl) (fun _ _ _ _ h => h)) (pv 0) (pa_cons (pv 1) pa_nil)))
      (pss_one (ps_aug (i := 1) nd rfl (Or.inl rfl) pe_int ip_add)))))), ?_⟩
  obtain ⟨H0, p, y, wl, Y, row, ms, fb, rfl, sr, si, ya, ok, few, kQ, kE⟩ := h
  refine ⟨fun m σ H' => ∃ ms' fb' n, σ = [some (.ref p), some (.int ((n : Nat) : Int))] ∧ SrA P w T H0 H' p y wl row ms' fb' [] ∧ SI Y row ms' fb' n ∧ m = 4001 - n, ⟨4001, ms, fb, 0, rfl, sr, si, rfl⟩, ?_⟩
  rintro m σ H1 ⟨ms', fb', n, rfl, sr', si', rfl⟩
  obtain ⟨dx, ml, kd, ol, os, f, ks, og, lo⟩ := sr'.ex
  have hp := f.get (.head _)
  have hm : H1 ml = some (.lst (ms'.map fun x => V.ref x.2)) := f.get (.tail _ (.head _))
  refine ⟨_, rfl, p, _, dx, _, _, rfl, hp, T.clSearch, T.na_Search_found, rfl, _, rfl, ?_⟩
  cases fb' with
  | true => exact iteF (kQ _ ms' true sr' si'.upk)
  | false =>
    refine iteT ?_
    refine ⟨_, rfl, _, rfl, p, _, dx, _, _, rfl, hp, T.clSearch, T.na_Search_met, rfl, ml, _, rfl, .inl (SqL.of hm), _, _, rfl, rfl, _, rfl, ite2 (fun z => ?_) (fun z => ?_)⟩
    · have z := of_decide_eq_true z
      rw [List.length_map] at z
      have lt : n < ms'.length := by omega
      have l4 := si'.len
      refine ⟨fun σ H' => ∃ ms' fb', σ = [some (.ref p), some (.int (((n + 1 : Nat) : Nat) : Int))] ∧ SrA P w T H0 H' p y wl row ms' fb' [] ∧ SI Y row ms' fb' (n + 1), fun σ' H' ⟨ms', fb', e, a, b⟩ => ⟨4001 - (n + 1), by omega, ms', fb', n + 1, e, a, b, rfl⟩, ?_⟩
      refine ⟨_, rfl, p, dx, _, rfl, hp, rfl, _, rfl, H0, p, y, wl, Y, row, ms', n, rfl, sr', si', lt, ya, ok, few, fun H2 ms2 fb2 sr2 si2 => ?_, kE⟩
      exact ⟨_, rfl, _, _, rfl, rfl, ms2, fb2, rfl, sr2, si2⟩
    · have z : ¬ ((n : Int) < ((ms'.map fun x => V.ref x.2).length : Int)) := fun q => z (decide_eq_true q)
      rw [List.length_map] at z
      exact kQ _ ms' false sr' (si'.full fun _ => by omega)
def sp_Search_way (P : Program) (w : World) (T : TX K w mg) : Sp := fun vs H Q _ => ∃ (H0 : Hp) (p y wl : Addr) (row : List Int) (ms : List (Sit × Addr)) (fb : Bool), vs = [.ref p] ∧ SrA P w T H0 H p y wl row ms fb [] ∧ ms ≠ [] ∧ ms.length ≤ 4000 ∧ ∀ H' a mvs, Same H H' → H a = none → MovesAt H' a mvs → Q (.ref a) H'
theorem c_Search_way (T : TX K w mg) : C8.Met P w K mg base 1 T.cSearch "way" (sp_Search_way P w T) [] := by
  obtain ⟨f, fd, me, F, b⟩ := T.fn_Search_way
  refine C8.met0 T.clSearch me F b sc_Search_way (fun vs H Q E h => by obtain ⟨_, _, _, _, _, _, _, rfl, _⟩ := h; rfl) (fun cdv A outer s H vs Q E hr h => ?_)
  have hu := hu_of hr
  have nd := sc_Search_way.nd
  refine ⟨_, (pss_cons (ps_set (i := 1) nd rfl (Or.inl rfl) (pe_lst pa_nil))
      (pss_cons (ps_set (i := 2) nd rfl (Or.inl rfl) (pe_op op_sub (pe_callB (call_lenK (K := K) rfl) (by rfl) T.b_len PySem.boot_len (pa_cons (pe_fld (pv 0) rfl) pa_nil)) pe_int))
      (C8.pss_cut (ps_while PassesOwn.never (pt_cmpR op_gt (pv 2) pe_int (nomark _)) (pss_cons (ps_asg (pe_ix (ix_listK (K := K) rfl) (pe_fld (pv 0) rfl) (pv 2) (fun _ _ => rfl)) (pg_tup (by rfl) (pgs_cons (pg_name (i := 2) nd rfl (Or.inl rfl)) (pgs_cons (pg_name (i := 3) nd rfl (Or.inl rfl)) pgs_nil))))
      (pss_one (ps_expr (pe_bm PySem.F.plainAttrs_list PySem.F.slot_list_append PySem.F.type_list_append mt_append (pv 1) (pa_cons (pv 3) pa_nil))))))
      (pss_cons (ps_expr (pe_bm0 PySem.F.plainAttrs_list PySem.F.slot_list_reverse PySem.F.type_list_reverse mt_reverse (pv 1)))
      (pss_one (ps_ret (pv 1))))))), ?_⟩
  obtain ⟨H0, p, y, wl, row, ms, fb, rfl, sr, ne, l4, k⟩ := h
  obtain ⟨dx, ml, kd, ol, os, f, ks, og, lo⟩ := sr.ex
  have hp := f.get (.head _)
  have hm : H ml = some (.lst (ms.map fun x => V.ref x.2)) := f.get (.tail _ (.head _))
  have ho : H ol = some (.lst os) := f.get (.tail _ (.tail _ (.tail _ (.head _))))
  have pos : 0 < ms.length := List.length_pos_iff.mpr ne
  refine ⟨sz_le (Nat.le_of_ble_eq_true rfl), fun D nD => ?_⟩
  have sD := Same.new nD (o := .lst [])
  refine ⟨_, rfl, p, _, dx, _, _, rfl, sD _ _ hp, T.clSearch, T.na_Search_met, rfl, ml, _, rfl, .inl (SqL.of (sD _ _ hm)), _, _, rfl, rfl, ?_⟩
  have e0 : (((ms.map fun x => V.ref x.2).length : Nat) : Int) - 1 = ((ms.length - 1 : Nat) : Int) := by rw [List.length_map]; omega
  refine ⟨fun σ H' => ∃ (L : List (Addr × Move)) (i3 u3 : Option V), σ = [some (.ref p), some (.ref D), i3, u3] ∧ Same H H' ∧ H' D = some (.lst (L.map fun x => V.ref x.1)) ∧ (∀ x ∈ L, MoveAt H' x.1 x.2), ?_, ?_⟩
  · refine ⟨fun m σ H' => ∃ (i : Nat) (L : List (Addr × Move)) (u3 : Option V), σ = [some (.ref p), some (.ref D), some (.int (i : Int)), u3] ∧ i < ms.length ∧ m = i ∧ L.length + i ≤ ms.length ∧ Same H H' ∧ H' D = some (.lst (L.map fun x => V.ref x.1)) ∧ (∀ x ∈ L, MoveAt H' x.1 x.2),
      ⟨ms.length - 1, ms.length - 1, [], none, by rw [← e0]; rfl, by omega, rfl, by simp, sD, upd_same, (by intro _ z; cases z)⟩, ?_⟩
    rintro i σ H1 ⟨i0, L, u3, rfl, hi, rfl, hl, s1, hD, hmv⟩
    refine ⟨_, rfl, _, _, rfl, rfl, _, rfl, ite2 (fun z => ?_) (fun _ => ⟨L, _, _, rfl, s1, hD, hmv⟩)⟩
    have z := of_decide_eq_true z
    have ip : 0 < i := by omega
    obtain ⟨v, hv⟩ := get_some (L := os) (i := i) (by rw [lo]; exact hi)
    obtain ⟨t, j, mv, mm, rfl, e2, e3, e4⟩ := og i v hv ip
    refine ⟨fun σ H' => ∃ (i' : Nat) (L : List (Addr × Move)) (u3 : Option V), i' < i ∧ σ = [some (.ref p), some (.ref D), some (.int (i' : Int)), u3] ∧ i' < ms.length ∧ L.length + i' ≤ ms.length ∧ Same H H' ∧ H' D = some (.lst (L.map fun x => V.ref x.1)) ∧ (∀ x ∈ L, MoveAt H' x.1 x.2), fun σ' H' ⟨i', L, u3, a, b, c, d, e⟩ => ⟨i', a, i', L, u3, b, c, rfl, d, e⟩, ?_⟩
    refine ⟨_, rfl, p, _, dx, _, _, rfl, s1 _ _ hp, T.clSearch, T.na_Search_origin, rfl, _, rfl, ol, _, _, _, rfl, rfl, SqL.of (s1 _ _ ho), atI_nat hv, t, _, rfl, SqT.of' (s1 _ _ e2), rfl, _, _, rfl, _, _, rfl, rfl, ?_⟩
    refine ⟨_, rfl, tyL hD, _, rfl, D, _, _, rfl, rfl, hD, sz_lt (by rw [List.length_map]; omega), ?_⟩
    have keep : ∀ {b : Addr} {xs : List V}, H1 b = some (.tup xs) → upd H1 D (.lst (L.map (fun x => V.ref x.1) ++ [.ref mv])) b = some (.tup xs) := fun z => lock_at hD z (by intro y; cases y)
    refine ⟨j, L ++ [(mv, mm)], _, e3, rfl, (by omega), (by rw [List.length_append]; simp; omega), Same.mut s1 nD, by rw [upd_same, List.map_append]; rfl, fun x hx => ?_⟩
    rcases List.mem_append.mp hx with hx | hx
    · exact keep (hmv x hx)
    · rw [List.mem_singleton.mp hx]
      exact keep (s1 _ _ e4)
  · rintro σ H1 ⟨L, i3, u3, rfl, s1, hD, hmv⟩
    refine ⟨_, rfl, tyL hD, D, _, rfl, rfl, hD, ?_⟩
    have keep : ∀ {b : Addr} {xs : List V}, H1 b = some (.tup xs) → upd H1 D (.lst (L.map fun x => V.ref x.1).reverse) b = some (.tup xs) := fun z => lock_at hD z (by intro y; cases y)
    have pr : ∀ L' : List (Addr × Move), (∀ x ∈ L', MoveAt H1 x.1 x.2) → Paired (fun x m => MoveAt (upd H1 D (.lst (L.map fun x => V.ref x.1).reverse)) x m) (L'.map (·.1)) (L'.map (·.2)) := fun L' => by
      induction L' with
      | nil => intro _; exact .nil
      | cons a L' ih => intro hh; exact .cons (keep (hh a (.head _))) (ih fun x hx => hh x (.tail _ hx))
    refine ⟨_, rfl, k _ D (L.reverse.map (·.2)) (Same.mut s1 nD) nD ⟨L.reverse.map (·.1), ?_, pr L.reverse fun x hx => hmv x (List.mem_reverse.mp hx)⟩⟩
    rw [upd_same, List.map_map, ← List.map_reverse]
    rfl
theorem first_live (Y : Yd) : live (first Y) = true := rfl
def sp_search_from (P : Program) (w : World) (T : TX K w mg) : Sp := fun vs H Q E => ∃ (y r q : Addr) (Y : Yd) (row : List Int), vs = [.ref y, .ref r, .ref q] ∧ YardAt T H y Y ∧ RowAt H r row ∧ SitAt H q (first Y) ∧ YOk Y ∧ row.length ≤ 60 ∧
  (∀ H' x wl ms fb, SrA P w T H H' x y wl row ms fb [] → SI Y row ms fb ms.length → Q (.ref x) H') ∧ ∀ H', Same H H' → E (.ref T.cTooLarge) none H'
theorem c_search_from (T : TX K w mg) : CalX P w K mg base 7 "search_from" (sp_search_from P w T) := by
  obtain ⟨f, fd, F, b⟩ := T.fn_search_from
  refine cal0X F b sc_search_from (fun vs H Q E h => by obtain ⟨_, _, _, _, _, rfl, _⟩ := h; rfl) (fun cdv A outer s H vs Q E hr h => ?_)
  have hu := hu_of hr
  have nd := sc_search_from.nd
  refine ⟨_, (pss_cons (ps_set (i := 3) nd rfl (Or.inl rfl) (C8.pe_mk (c_Search_init T) hr (by decide) rfl (pa_cons (pv 0) (pa_cons (pv 1) (pa_cons (pv 2) pa_nil)))))
      (pss_cons (ps_expr (pe_mtX0 (c_Search_finish T) hr (by decide) (passes_call (takes_of rfl rfl rfl rfl) (fun _ _ _ _ h => h)) (pv 3)))
      (pss_one (ps_ret (pv 3))))), ?_⟩
  obtain ⟨y, r, q, Y, row, rfl, ya, ra, sq, ok, few, kQ, kE⟩ := h
  refine ⟨_, rfl, _, rfl, _, rfl, fun x dx nx nd ne => ?_⟩
  have s0 : Same H (upd (upd H dx (.own x)) x (.ins T.cSearch dx [])) := Same.add (Same.new nd) (by rw [upd_ne (Ne.symm ne)]; exact nx)
  refine ⟨H, x, dx, y, r, q, row, first Y, rfl, ((Fr.empty H).junk nd).new_own (by rw [upd_ne (Ne.symm ne)]; exact nx), s0 _ _ ra, sq.mono s0, fun H1 wl sr => ⟨rfl, ?_⟩⟩
  obtain ⟨dx', ml, kd, ol, os, f, ks, og, lo⟩ := sr.ex
  have si : SI Y row [(first Y, q)] (decide ((first Y).gone.length = row.length)) 0 := by
    refine ⟨.head _, ?_, ?_, ?_, ?_, by simp, ?_⟩
    · intro z hz; rw [List.mem_singleton.mp hz]; exact .init
    · intro z hz; rw [List.mem_singleton.mp hz]; rfl
    · intro e z hz; rw [List.mem_singleton.mp hz]; exact of_decide_eq_false e
    · intro e; exact ⟨_, .head _, of_decide_eq_true e⟩
    · intro _ i x hi; omega
  refine ⟨_, rfl, x, dx', _, rfl, f.get (.head _), rfl, H, x, y, wl, Y, row, _, _, rfl, sr, si, ya, ok, few, fun H2 ms fb sr2 si2 => ?_, kE⟩
  exact ⟨_, rfl, kQ _ x wl ms fb sr2 si2⟩
def sp_solve (P : Program) (w : World) (T : TX K w mg) : Sp := fun vs H Q E => ∃ (y r : Addr) (Y : Yd) (row : List Int), vs = [.ref y, .ref r] ∧ YardAt T H y Y ∧ RowAt H r row ∧ IsRow row ∧ row.length ≤ 60 ∧ YOk Y ∧
  (∀ H', Same H H' → ¬ Way Y row → Q .non H') ∧ (∀ H' a mvs, Same H H' → H a = none → MovesAt H' a mvs → Way Y row → Q (.ref a) H') ∧ ∀ H', Same H H' → E (.ref T.cTooLarge) none H'
theorem c_solve (T : TX K w mg) : CalX P w K mg base 9 "solve" (sp_solve P w T) := by
  obtain ⟨f, fd, F, b⟩ := T.fn_solve
  refine cal0X F b sc_solve (fun vs H Q E h => by obtain ⟨_, _, _, _, rfl, _⟩ := h; rfl) (fun cdv A outer s H vs Q E hr h => ?_)
  have hu := hu_of hr
  have nd := sc_solve.nd
  refine ⟨_, (pss_cons (ps_set (i := 2) nd rfl (Or.inl rfl) (pe_cX (c_search_from T) hr (by decide) rfl (passes_call (takes_of rfl rfl rfl rfl) (fun _ _ _ _ h => h)) (pa_cons (pv 0) (pa_cons (pv 1) (pa_cons (C8.pe_c (c_first_situation T) hr (by decide) rfl (pa_cons (pv 0) (pa_cons (pv 1) pa_nil))) pa_nil)))))
      (pss_cons (ps_if (pt_val (pe_fld (pv 2) rfl)) (pss_one (ps_ret (C8.pe_mt0 (c_Search_way T) hr (by decide) (pv 2)))) pss_nil)
      (pss_one (ps_ret pe_non)))), ?_⟩
  obtain ⟨y, r, Y, row, rfl, ya, ra, ir, few, ok, kN, kW, kE⟩ := h
  refine ⟨_, rfl, _, rfl, _, rfl, _, rfl, y, r, Y, row, rfl, ya, ra, ir, few, ok, fun H1 q s1 sq => ?_⟩
  refine ⟨y, r, q, Y, row, rfl, ya.mono s1, s1 _ _ ra, sq, ok, few, fun H2 x wl ms fb sr si => ?_, fun H2 s2 => kE _ (Same.trans s1 s2)⟩
  have s2 := Same.trans s1 sr.same
  obtain ⟨dx, ml, kd, ol, os, f, ks, og, lo⟩ := sr.ex
  have hp := f.get (.head _)
  refine ⟨_, rfl, x, _, dx, _, _, rfl, hp, T.clSearch, T.na_Search_found, rfl, _, rfl, ?_⟩
  cases fb with
  | true =>
    refine iteT ?_
    refine ⟨_, rfl, x, dx, _, rfl, hp, rfl, H1, x, y, wl, row, ms, true, rfl, sr, fun z => ?_, si.len, fun H3 a mvs s3 na mv => kW _ a mvs (Same.trans s2 s3) (Same.free s2 na) mv si.way⟩
    have := si.first
    rw [z] at this
    cases this
  | false => exact iteF (kN _ s2 si.noway)
def sp_can_sort (P : Program) (w : World) (T : TX K w mg) : Sp := fun vs H Q E => ∃ (y r : Addr) (Y : Yd) (row : List Int), vs = [.ref y, .ref r] ∧ YardAt T H y Y ∧ RowAt H r row ∧ IsRow row ∧ row.length ≤ 60 ∧ YOk Y ∧
  (∀ H', Same H H' → ¬ Way Y row → Q (.bl false) H') ∧ (∀ H', Same H H' → Way Y row → Q (.bl true) H') ∧ ∀ H', Same H H' → E (.ref T.cTooLarge) none H'
theorem c_can_sort (T : TX K w mg) : CalX P w K mg base 10 "can_sort" (sp_can_sort P w T) := by
  obtain ⟨f, fd, F, b⟩ := T.fn_can_sort
  refine cal0X F b sc_can_sort (fun vs H Q E h => by obtain ⟨_, _, _, _, rfl, _⟩ := h; rfl) (fun cdv A outer s H vs Q E hr h => ?_)
  have hu := hu_of hr
  have nd := sc_can_sort.nd
  refine ⟨_, (pss_one (ps_ret (pe_cmpR op_notN (pe_cX (c_solve T) hr (by decide) rfl (passes_call (takes_of rfl rfl rfl rfl) (fun _ _ _ _ h => h)) (pa_cons (pv 0) (pa_cons (pv 1) pa_nil))) pe_non (nomark _)))), ?_⟩
  obtain ⟨y, r, Y, row, rfl, ya, ra, ir, few, ok, kN, kW, kE⟩ := h
  exact ⟨_, rfl, _, rfl, y, r, Y, row, rfl, ya, ra, ir, few, ok, fun H1 s1 nw => ⟨rfl, kN _ s1 nw⟩, fun H1 a mvs s1 _ _ wy => ⟨rfl, kW _ s1 wy⟩, kE⟩
def sp_closed_list (P : Program) (w : World) (T : TX K w mg) : Sp := fun vs H Q E => ∃ (y r : Addr) (Y : Yd) (row : List Int), vs = [.ref y, .ref r] ∧ YardAt T H y Y ∧ RowAt H r row ∧ IsRow row ∧ row.length ≤ 60 ∧ YOk Y ∧
  (∀ H', Same H H' → Q .non H') ∧ (∀ H' a Ss, Same H H' → H a = none → SitsAt H' a Ss → (∀ x ∈ Ss, WFS Y row x.1) → Ss ≠ [] → Ss.length ≤ 4000 → Q (.ref a) H') ∧ ∀ H', Same H H' → E (.ref T.cTooLarge) none H'
theorem c_closed_list (T : TX K w mg) : CalX P w K mg base 9 "closed_list" (sp_closed_list P w T) := by
  obtain ⟨f, fd, F, b⟩ := T.fn_closed_list
  refine cal0X F b sc_closed_list (fun vs H Q E h => by obtain ⟨_, _, _, _, rfl, _⟩ := h; rfl) (fun cdv A outer s H vs Q E hr h => ?_)
  have hu := hu_of hr
  have nd := sc_closed_list.nd
  refine ⟨_, (pss_cons (ps_set (i := 2) nd rfl (Or.inl rfl) (pe_cX (c_search_from T) hr (by decide) rfl (passes_call (takes_of rfl rfl rfl rfl) (fun _ _ _ _ h => h)) (pa_cons (pv 0) (pa_cons (pv 1) (pa_cons (C8.pe_c (c_first_situation T) hr (by decide) rfl (pa_cons (pv 0) (pa_cons (pv 1) pa_nil))) pa_nil)))))
      (pss_cons (ps_if (pt_val (pe_fld (pv 2) rfl)) (pss_one (ps_ret pe_non)) pss_nil)
      (pss_one (ps_ret (pe_callB (cr_sortedD hr.units) (by rfl) T.b_sorted boot_sorted_ (pa_cons (pe_fld (pv 2) rfl) pa_nil)))))), ?_⟩
  obtain ⟨y, r, Y, row, rfl, ya, ra, ir, few, ok, kN, kW, kE⟩ := h
  refine ⟨_, rfl, _, rfl, _, rfl, _, rfl, y, r, Y, row, rfl, ya, ra, ir, few, ok, fun H1 q s1 sq => ?_⟩
  refine ⟨y, r, q, Y, row, rfl, ya.mono s1, s1 _ _ ra, sq, ok, few, fun H2 x wl ms fb sr si => ?_, fun H2 s2 => kE _ (Same.trans s1 s2)⟩
  have s2 := Same.trans s1 sr.same
  obtain ⟨dx, ml, kd, ol, os, f, ks, og, lo⟩ := sr.ex
  have hp := f.get (.head _)
  have hm : H2 ml = some (.lst (ms.map fun x => V.ref x.2)) := f.get (.tail _ (.head _))
  refine ⟨_, rfl, x, _, dx, _, _, rfl, hp, T.clSearch, T.na_Search_found, rfl, _, rfl, ?_⟩
  cases fb with
  | true => exact iteT (kN _ s2)
  | false =>
    refine iteF ?_
    refine ⟨_, rfl, x, _, dx, _, _, rfl, hp, T.clSearch, T.na_Search_met, rfl, ?_⟩
    have hm' : H2 ml = some (.lst ((ms.map fun x => (x.2, x.1)).map fun x => V.ref x.1)) := by rw [List.map_map]; exact hm
    refine sort_sits hm' (fun z hz => ?_) (fun L' a perm na => ?_)
    · obtain ⟨u, hu, rfl⟩ := List.mem_map.mp hz
      exact ks u hu
    have s3 := Same.new na (o := .lst (L'.map fun x => V.ref x.1))
    have back : ∀ z ∈ L'.map (fun x => (x.2, x.1)), z ∈ ms := fun z hz => by
      obtain ⟨u, hu, rfl⟩ := List.mem_map.mp hz
      obtain ⟨v, hv, rfl⟩ := List.mem_map.mp (perm.mem_iff.mp hu)
      exact hv
    refine kW _ a (L'.map fun x => (x.2, x.1)) (Same.trans s2 s3) (Same.free s2 na) ⟨?_, fun z hz => (ks z (back z hz)).mono s3⟩ (fun z hz => reach_wf ok few (si.reach z (back z hz))) ?_ ?_
    · rw [List.map_map]; exact upd_same
    · intro z
      have l1 := congrArg List.length z
      rw [List.length_map, perm.length_eq, List.length_map] at l1
      have := si.first
      rw [List.length_eq_zero_iff.mp l1] at this
      cases this
    · rw [List.length_map, perm.length_eq, List.length_map]
      exact si.len
end
end K92

/-! K92S: the law draws: numbers, rows, texts. -/
set_option Elab.async false
set_option linter.all false
set_option maxRecDepth 100000
set_option maxHeartbeats 4000000
set_option autoImplicit false
namespace K92
open PySem PySem.Spec PyProof.Rows L2
section
variable {P : Program} {w : World} {K : PySem.W.Frag} {mg : Str → Option Value} {base : Heap}
/-! ### the list of draws: what stands beside it -/
theorem rm_mut {a r : Addr} {H H2 : Hp} {o : HO} (s : Same (rm a H) (rm a H2)) (n : H r = none) : Same (rm a H) (rm a (upd H2 r o)) := fun b u h => by
  have h0 := rm_same a _ _ _ h
  have br : b ≠ r := fun z => by rw [z, n] at h0; cases h0
  have q := s _ _ h
  by_cases e : b = a
  · rw [e, rm_self] at h; cases h
  · rw [rm_ne e] at q ⊢; rw [upd_ne br]; exact q
structure Dr (a : Addr) (H : Hp) : Prop where
  ex : ∃ ns : List Int, H a = some (.lst (ns.map V.int)) ∧ ∀ x ∈ ns, 0 ≤ x ∧ x < 1000
theorem Dr.mono {a : Addr} {H H' : Hp} (s : Same H H') (d : Dr a H) : Dr a H' := by
  obtain ⟨ns, h1, h2⟩ := d.ex
  exact ⟨ns, s _ _ h1, h2⟩
theorem Dr.ne {a b : Addr} {H : Hp} (d : Dr a H) (h : H b = none) : b ≠ a := fun z => by
  obtain ⟨ns, h1, h2⟩ := d.ex
  rw [z, h1] at h
  cases h
def sp__law_number (P : Program) (w : World) (T : TX K w mg) : Sp := fun vs H Q _ => ∃ i : Int, vs = [.int i] ∧ ∀ j : Int, 0 ≤ j → Q (.int j) H
theorem c__law_number (T : TX K w mg) : C8.Cal P w K mg base 1 "_law_number" (sp__law_number P w T) [] := by
  obtain ⟨f, fd, F, b⟩ := T.fn__law_number
  refine C8.cal0 F b .nil sc__law_number (fun vs H Q E h => by obtain ⟨_, rfl, _⟩ := h; rfl) (fun cdv A outer s H vs Q E hr h => ?_)
  have hu := hu_of hr
  have nd := sc__law_number.nd
  refine ⟨_, (pss_cons (ps_if (pt_cmpR op_lt (pv 0) pe_int (nomark _)) (pss_one (ps_ret (pe_op op_sub pe_int (pv 0)))) pss_nil)
      (pss_one (ps_ret (pv 0)))), ?_⟩
  obtain ⟨i, rfl, k⟩ := h
  refine ⟨_, rfl, _, _, rfl, rfl, _, rfl, ite2 (fun z => ?_) (fun z => ?_)⟩
  · have z := of_decide_eq_true z
    exact ⟨_, rfl, _, _, rfl, rfl, k _ (by omega)⟩
  · have z : ¬ i < 0 := fun q => z (decide_eq_true q)
    exact ⟨_, rfl, k i (by omega)⟩
def sp__law_draw (P : Program) (w : World) (T : TX K w mg) : Sp := fun vs H Q _ => ∃ a : Addr, vs = [.ref a] ∧ Dr a H ∧ ∀ H' i, Same (rm a H) (rm a H') → Dr a H' → 0 ≤ i → i < 1000 → Q (.int i) H'
theorem c__law_draw (T : TX K w mg) : C8.Cal P w K mg base 1 "_law_draw" (sp__law_draw P w T) [] := by
  obtain ⟨f, fd, F, b⟩ := T.fn__law_draw
  refine C8.cal0 F b .nil sc__law_draw (fun vs H Q E h => by obtain ⟨_, rfl, _⟩ := h; rfl) (fun cdv A outer s H vs Q E hr h => ?_)
  have hu := hu_of hr
  have nd := sc__law_draw.nd
  refine ⟨_, (pss_cons (ps_if (pt_truth (pv 0) (by intro _; rfl)) (pss_one (ps_ret (pe_bm0 PySem.F.plainAttrs_list PySem.F.slot_list_pop PySem.F.type_list_pop mt_pop (pv 0)))) pss_nil)
      (pss_one (ps_ret pe_int))), ?_⟩
  obtain ⟨a, rfl, ⟨ns, h1, h2⟩, k⟩ := h
  refine ⟨_, rfl, _, .inl ⟨_, SqL.of h1, rfl⟩, ?_⟩
  rcases List.eq_nil_or_concat ns with rfl | ⟨l, x, rfl⟩
  · exact iteF (k H 0 (same_refl _) ⟨[], h1, h2⟩ (by decide) (by decide))
  · have e : (!((l.concat x).map V.int).isEmpty) = true := by rw [List.concat_eq_append]; simp
    rw [e]
    rw [List.concat_eq_append, List.map_append] at h1
    have h1 : H a = some (.lst (l.map V.int ++ [V.int x])) := h1
    refine iteT ⟨_, rfl, tyL h1, a, _, _, rfl, rfl, h1, last_get _ _, ?_⟩
    rw [List.dropLast_concat]
    have hx := h2 x (by rw [List.concat_eq_append]; simp)
    exact k _ x rm_upd ⟨l, upd_same, fun z hz => h2 z (by rw [List.concat_eq_append]; simp [hz])⟩ hx.1 hx.2
def sp__law_pick (P : Program) (w : World) (T : TX K w mg) : Sp := fun vs H Q _ => ∃ (a : Addr) (n : Int), vs = [.ref a, .int n] ∧ Dr a H ∧ 0 < n ∧ ∀ H' (i : Nat), Same (rm a H) (rm a H') → Dr a H' → (i : Int) < n → Q (.int (i : Int)) H'
theorem c__law_pick (T : TX K w mg) : C8.Cal P w K mg base 2 "_law_pick" (sp__law_pick P w T) [] := by
  obtain ⟨f, fd, F, b⟩ := T.fn__law_pick
  refine C8.cal0 F b .nil sc__law_pick (fun vs H Q E h => by obtain ⟨_, _, rfl, _⟩ := h; rfl) (fun cdv A outer s H vs Q E hr h => ?_)
  have hu := hu_of hr
  have nd := sc__law_pick.nd
  refine ⟨_, (pss_one (ps_ret (pe_op op_mod (pe_callTy call_int1 (by rfl) T.b_int boot_int_ (pa_cons (C8.pe_c (c__law_draw T) hr (by decide) rfl (pa_cons (pv 0) pa_nil)) pa_nil)) (pv 1)))), ?_⟩
  obtain ⟨a, n, rfl, d, hn, k⟩ := h
  refine ⟨_, rfl, a, rfl, d, fun H1 i s1 d1 i0 i1 => .inl ⟨i, rfl, _, rfl, _, _, rfl, rfl, hn, ?_⟩⟩
  have e : i % n = (((i % n).toNat : Nat) : Int) := by have := Int.emod_nonneg i (by omega : n ≠ 0); omega
  show Q (.int (i % n)) H1
  rw [e]
  refine k H1 _ s1 d1 ?_
  rw [← e]
  exact Int.emod_lt_of_pos i hn
theorem P1 : (0 : Int) < 2147483647 := by decide
theorem P2 : (0 : Int) < 2147483629 := by decide
theorem P3 : (0 : Int) < 1000 := by decide
def sp__law_draws (P : Program) (w : World) (T : TX K w mg) : Sp := fun vs H Q _ => ∃ (s : Addr) (xs : List Int), vs = [.ref s] ∧ SqL K H s (xs.map V.int) ∧ xs.length ≤ 63 ∧ ∀ H' a, Same H H' → H a = none → Dr a H' → Q (.ref a) H'
/-- the list in the making -/
structure DrN (H : Hp) (D : Addr) (c : Nat) (H' : Hp) : Prop where
  same : Same H H'
  new : H D = none
  ex : ∃ ns : List Int, H' D = some (.lst (ns.map V.int)) ∧ (∀ x ∈ ns, 0 ≤ x ∧ x < 1000) ∧ ns.length ≤ c
theorem DrN.up {H H' : Hp} {D : Addr} {c c' : Nat} (d : DrN H D c H') (h : c ≤ c') : DrN H D c' H' := by
  obtain ⟨ns, a, b, e⟩ := d.ex
  exact ⟨d.same, d.new, ns, a, b, Nat.le_trans e h⟩
theorem DrN.push {H H' : Hp} {D : Addr} {c : Nat} {x : Int} (d : DrN H D c H') (h0 : 0 ≤ x) (h1 : x < 1000) (sz : c ≤ 100000) : ∃ xs, H' D = some (.lst xs) ∧ xs.length < sizeLine ∧ DrN H D (c + 1) (upd H' D (.lst (xs ++ [.int x]))) := by
  obtain ⟨ns, a, b, e⟩ := d.ex
  refine ⟨_, a, sz_lt (by rw [List.length_map]; omega), Same.mut d.same d.new, d.new, ns ++ [x], by rw [upd_same, List.map_append]; rfl, fun z hz => ?_, by rw [List.length_append]; simp; omega⟩
  rcases List.mem_append.mp hz with hz | hz
  · exact b z hz
  · rw [List.mem_singleton.mp hz]; exact ⟨h0, h1⟩
theorem mod1000 (i : Int) : 0 ≤ i % 1000 ∧ i % 1000 < 1000 := ⟨Int.emod_nonneg i (by decide), Int.emod_lt_of_pos i (by decide)⟩
theorem c__law_draws (T : TX K w mg) : C8.Cal P w K mg base 3 "_law_draws" (sp__law_draws P w T) [] := by
  obtain ⟨f, fd, F, b⟩ := T.fn__law_draws
  refine C8.cal0 F b .nil sc__law_draws (fun vs H Q E h => by obtain ⟨_, _, rfl, _⟩ := h; rfl) (fun cdv A outer s H vs Q E hr h => ?_)
  have hu := hu_of hr
  have nd := sc__law_draws.nd
  refine ⟨_, (pss_cons (ps_set (i := 1) nd rfl (Or.inl rfl) (pe_lst pa_nil))
      (pss_cons (ps_set (i := 2) nd rfl (Or.inl rfl) pe_int)
      (pss_cons (ps_for PassesOwn.never rfl (pi_list (pv 0)) (pg_name (i := 3) nd rfl (Or.inl rfl)) (pss_cons (ps_set (i := 4) nd rfl (Or.inl rfl) (C8.pe_c (c__law_number T) hr (by decide) rfl (pa_cons (pv 3) pa_nil)))
      (pss_cons (ps_set (i := 2) nd rfl (Or.inl rfl) (pe_op op_mod (pe_callTy call_int1 (by rfl) T.b_int boot_int_ (pa_cons (pe_op op_add (pe_op op_mul (pv 2) pe_int) (pv 4)) pa_nil)) pe_int))
      (pss_one (ps_if (pt_cmpR op_ge (pv 4) pe_int (nomark _)) (pss_one (ps_for PassesOwn.never rfl (pi_range1 rfl T.b_range (pa_cons pe_int pa_nil)) (pg_name (i := 5) nd rfl (Or.inl rfl)) (pss_cons (ps_if (pt_cmpR op_eq (pv 4) pe_int (nomark _)) (pss_one ps_break) pss_nil)
      (pss_cons (ps_expr (pe_bm PySem.F.plainAttrs_list PySem.F.slot_list_append PySem.F.type_list_append mt_append (pv 1) (pa_cons (pe_op op_mod (pe_callTy call_int1 (by rfl) T.b_int boot_int_ (pa_cons (pv 4) pa_nil)) pe_int) pa_nil)))
      (pss_one (ps_set (i := 4) nd rfl (Or.inl rfl) (pe_op op_fdiv (pv 4) pe_int))))))) (pss_cons (ps_set (i := 6) nd rfl (Or.inl rfl) (pe_op op_mod (pe_callTy call_int1 (by rfl) T.b_int boot_int_ (pa_cons (pe_op op_add (pe_op op_mul (pv 4) pe_int) pe_int) pa_nil)) pe_int))
      (pss_cons (ps_set (i := 7) nd rfl (Or.inl rfl) (pe_op op_mod (pe_callTy call_int1 (by rfl) T.b_int boot_int_ (pa_cons (pe_op op_add (pe_op op_mul (pv 6) pe_int) (pv 4)) pa_nil)) pe_int))
      (pss_one (ps_expr (pe_bm PySem.F.plainAttrs_list PySem.F.slot_list_extend PySem.F.type_list_extend mt_extend (pv 1) (pa_cons (pe_lst (pa_cons (pe_op op_mod (pe_callTy call_int1 (by rfl) T.b_int boot_int_ (pa_cons (pv 4) pa_nil)) pe_int) (pa_cons (pe_op op_mod (pe_callTy call_int1 (by rfl) T.b_int boot_int_ (pa_cons (pv 6) pa_nil)) pe_int) (pa_cons (pe_op op_mod (pe_callTy call_int1 (by rfl) T.b_int boot_int_ (pa_cons (pv 7) pa_nil)) pe_int) pa_nil)))) pa_nil)))))))))))
      (pss_cons (ps_for PassesOwn.never rfl (pi_range1 rfl T.b_range (pa_cons pe_int pa_nil)) (pg_name (i := 5) nd rfl (Or.inl rfl)) (pss_cons (ps_set (i := 2) nd rfl (Or.inl rfl) (pe_op op_mod (pe_callTy call_int1 (by rfl) T.b_int boot_int_ (pa_cons (pe_op op_add (pe_op op_mul (pv 2) pe_int) pe_int) pa_nil)) pe_int))
      (pss_one (ps_expr (pe_bm PySem.F.plainAttrs_list PySem.F.slot_list_append PySem.F.type_list_append mt_append (pv 1) (pa_cons (pe_op op_mod (pe_callTy call_int1 (by rfl) T.b_int boot_int_ (pa_cons (pe_op op_fdiv (pv 2) pe_int) pa_nil)) pe_int) pa_nil))))))
      (pss_cons (ps_expr (pe_bm0 PySem.F.plainAttrs_list PySem.F.slot_list_reverse PySem.F.type_list_reverse mt_reverse (pv 1)))
      (pss_one (ps_ret (pv 1)))))))), ?_⟩
  obtain ⟨s, xs, rfl, hs, h63, k⟩ := h
  refine ⟨sz_le (Nat.le_of_ble_eq_true rfl), fun D nD => ?_⟩
  have d0 : DrN H D 0 (upd H D (.lst [])) := ⟨Same.new nD, nD, [], upd_same, (by intro _ z; cases z), Nat.le_refl _⟩
  have hseq : ∀ {H'}, Same H H' → SqL K H' s (xs.map V.int) := fun {H'} q => q.seq hs
  refine ⟨_, rfl, s, rfl, ⟨_, hseq d0.same⟩, ?_⟩
  refine for_list (xs := xs.map V.int) (fun i σ H' => ∃ (sd : Int) (u3 u4 u5 u6 u7 : Option V), σ = [some (.ref s), some (.ref D), some (.int sd), u3, u4, u5, u6, u7] ∧ DrN H D (i * 100) H') ⟨7, none, none, none, none, none, rfl, d0⟩ (fun _ _ _ _ ⟨_, _, _, _, _, _, _, d⟩ => hseq d.same) ?_ ?_
  · rintro i x σ H1 hx ⟨sd, u3, u4, u5, u6, u7, rfl, d1⟩
    have hi := get_lt hx
    rw [List.length_map] at hi
    obtain ⟨v, hv⟩ := get_some hi
    obtain rfl : x = V.int v := Option.some.inj (hx.symm.trans (map_at hv))
    refine ⟨_, rfl, v, rfl, fun r r0 => ?_⟩
    refine ⟨_, rfl, _, _, rfl, rfl, .inr ⟨by decide, by decide⟩, _, rfl, _, _, rfl, rfl, .inl ⟨_, rfl, _, _, rfl, rfl, P1, ?_⟩⟩
    refine ⟨_, rfl, _, _, rfl, rfl, _, rfl, ite2 (fun z => ?_) (fun z => ?_)⟩
    · refine ⟨_, rfl, by decide, by decide, ?_⟩
      refine for_range (n := 60) (fun j σ H' => ∃ (sd rr : Int) (u3 u5 u6 u7 : Option V), σ = [some (.ref s), some (.ref D), some (.int sd), u3, some (.int rr), u5, u6, u7] ∧ DrN H D (i * 100 + j) H') ⟨_, _, _, _, _, _, rfl, d1.up (by omega)⟩ ?_ ?_
      · rintro j σ H2 hj ⟨sd, rr, u3, u5, u6, u7, rfl, d2⟩
        refine ⟨_, rfl, rfl, _, rfl, ite_eq (fun _ => ?_) (fun _ => ?_)⟩
        · exact ⟨_, _, _, _, _, _, rfl, d2.up (by omega)⟩
        · obtain ⟨ys, e1, e2, d3⟩ := d2.push (mod1000 rr).1 (mod1000 rr).2 (by omega)
          refine ⟨_, rfl, tyL e1, _, rfl, .inl ⟨_, rfl, _, _, rfl, rfl, P3, D, ys, _, rfl, rfl, e1, e2, ?_⟩⟩
          refine ⟨_, rfl, _, _, rfl, rfl, ⟨by decide, by decide⟩, ?_⟩
          exact ⟨_, _, _, _, _, _, rfl, d3⟩
      · rintro σ H2 ⟨sd, rr, u3, u5, u6, u7, rfl, d2⟩
        exact ⟨_, _, _, _, _, _, rfl, d2.up (by omega)⟩
    · refine ⟨_, rfl, _, _, rfl, rfl, .inr ⟨by decide, by decide⟩, _, _, rfl, rfl, .inl ⟨_, rfl, _, _, rfl, rfl, P1, ?_⟩⟩
      refine ⟨_, rfl, _, _, rfl, rfl, .inr ⟨by decide, by decide⟩, _, rfl, _, _, rfl, rfl, .inl ⟨_, rfl, _, _, rfl, rfl, P2, ?_⟩⟩
      obtain ⟨ns, e1, e2, e3⟩ := d1.ex
      refine ⟨_, rfl, tyL e1, _, rfl, .inl ⟨_, rfl, _, _, rfl, rfl, P3, _, rfl, .inl ⟨_, rfl, _, _, rfl, rfl, P3, _, rfl, .inl ⟨_, rfl, _, _, rfl, rfl, P3, ?_⟩⟩⟩⟩
      refine ⟨sz_le (Nat.le_of_ble_eq_true rfl), fun q nq => ⟨D, q, _, _, rfl, rfl, (Same.new nq) _ _ e1, upd_same, sz_le (by rw [List.length_map]; simp only [List.length_cons, List.length_nil]; omega), ?_⟩⟩
      refine ⟨_, _, _, _, _, _, rfl, Same.mut (Same.add d1.same nq) d1.new, d1.new, ns ++ [_, _, _], by rw [upd_same, List.map_append]; rfl, fun z hz => ?_, by rw [List.length_append]; simp only [List.length_cons, List.length_nil]; omega⟩
      rcases List.mem_append.mp hz with hz | hz
      · exact e2 z hz
      · simp only [List.mem_cons, List.not_mem_nil, or_false] at hz
        rcases hz with rfl | rfl | rfl
        · exact mod1000 _
        · exact mod1000 _
        · exact mod1000 _
  · rintro σ H1 ⟨sd, u3, u4, u5, u6, u7, rfl, d1⟩
    rw [List.length_map] at d1
    refine ⟨_, rfl, by decide, by decide, ?_⟩
    refine for_range (n := 200) (fun j σ H' => ∃ (sd : Int) (u3 u4 u5 u6 u7 : Option V), σ = [some (.ref s), some (.ref D), some (.int sd), u3, u4, u5, u6, u7] ∧ DrN H D (xs.length * 100 + j) H') ⟨_, _, _, _, _, _, rfl, d1⟩ ?_ ?_
    · rintro j σ H2 hj ⟨sd, u3, u4, u5, u6, u7, rfl, d2⟩
      refine ⟨_, rfl, _, _, rfl, rfl, .inr ⟨by decide, by decide⟩, _, _, rfl, rfl, .inl ⟨_, rfl, _, _, rfl, rfl, P1, ?_⟩⟩
      obtain ⟨ys, e1, e2, d3⟩ := d2.push (x := ((sd * 48271 + 12345) % 2147483647 / 7) % 1000) (mod1000 _).1 (mod1000 _).2 (by omega)
      refine ⟨_, rfl, tyL e1, _, rfl, _, _, rfl, rfl, ⟨by decide, by decide⟩, .inl ⟨_, rfl, _, _, rfl, rfl, P3, D, ys, _, rfl, rfl, e1, e2, ?_⟩⟩
      exact ⟨_, _, _, _, _, _, rfl, d3⟩
    · rintro σ H2 ⟨sd, u3, u4, u5, u6, u7, rfl, d2⟩
      obtain ⟨ns, e1, e2, e3⟩ := d2.ex
      refine ⟨_, rfl, tyL e1, D, _, rfl, rfl, e1, ?_⟩
      rw [← List.map_reverse]
      exact ⟨_, rfl, k _ D (Same.mut d2.same nD) nD ⟨ns.reverse, upd_same, fun z hz => e2 z (List.mem_reverse.mp hz)⟩⟩
/-! ### a row -/
def sp__law_row (P : Program) (w : World) (T : TX K w mg) : Sp := fun vs H Q _ => ∃ (a : Addr) (n : Nat), vs = [.ref a, .int (n : Int)] ∧ Dr a H ∧ n ≤ 10 ∧ ∀ H' r row, Same (rm a H) (rm a H') → Dr a H' → RowAt (rm a H') r row → IsRow row → row.length = n → Q (.ref r) H'
theorem c__law_row (T : TX K w mg) : C8.Cal P w K mg base 4 "_law_row" (sp__law_row P w T) [] := by
  obtain ⟨f, fd, F, b⟩ := T.fn__law_row
  refine C8.cal0 F b .nil sc__law_row (fun vs H Q E h => by obtain ⟨_, _, rfl, _⟩ := h; rfl) (fun cdv A outer s H vs Q E hr h => ?_)
  have hu := hu_of hr
  have nd := sc__law_row.nd
  refine ⟨_, (pss_cons (ps_set (i := 2) nd rfl (Or.inl rfl) (pe_lst pa_nil))
      (pss_cons (ps_for PassesOwn.never rfl (pi_range1 rfl T.b_range (pa_cons (pv 1) pa_nil)) (pg_name (i := 3) nd rfl (Or.inl rfl)) (pss_one (ps_expr (pe_bm PySem.F.plainAttrs_list PySem.F.slot_list_insert PySem.F.type_list_insert mt_insert (pv 2) (pa_cons (C8.pe_c (c__law_pick T) hr (by decide) rfl (pa_cons (pv 0) (pa_cons (pe_op op_add (pv 3) pe_int) pa_nil))) (pa_cons (pe_op op_add (pv 3) pe_int) pa_nil))))))
      (pss_one (ps_ret (pv 2))))), ?_⟩
  obtain ⟨a, n, rfl, d, hn, k⟩ := h
  refine ⟨sz_le (Nat.le_of_ble_eq_true rfl), fun r nr => ?_⟩
  have ra := d.ne nr
  have s0 := rm_mono (a := a) (Same.new nr (o := .lst []))
  refine ⟨_, rfl, _, rfl, by omega, by omega, ?_⟩
  rw [show ((n : Int)).toNat = n by omega]
  refine for_range (n := n) (fun i σ H' => ∃ (row : List Int) (u3 : Option V), σ = [some (.ref a), some (.int (n : Int)), some (.ref r), u3] ∧ Same (rm a H) (rm a H') ∧ Dr a H' ∧ H' r = some (.lst (row.map V.int)) ∧ row.Perm (upTo i)) ⟨[], none, rfl, s0, d.mono (Same.new nr), upd_same, .nil⟩ ?_ ?_
  · rintro i σ H1 hi ⟨row, u3, rfl, s1, d1, h1, p1⟩
    have hl : row.length = i := by rw [p1.length_eq, upTo_length]
    refine ⟨_, rfl, tyL h1, _, rfl, _, rfl, _, _, rfl, rfl, a, _, rfl, d1, by omega, fun H2 j s2 d2 hj => ?_⟩
    have h2 : H2 r = some (.lst (row.map V.int)) := rm_same a _ _ _ (s2 _ _ (rm_at h1 ra))
    refine ⟨_, rfl, _, _, rfl, rfl, r, _, _, _, rfl, rfl, h2, sz_lt (by rw [List.length_map]; omega), by omega, by omega, ?_⟩
    have e0 : (fun i j : Int => V.int (i + j)) (0 + (i : Int)) 1 = V.int ((i : Int) + 1) := by show V.int (0 + (i : Int) + 1) = _; rw [Int.zero_add]
    rw [e0]
    refine ⟨row.take j ++ ((i : Int) + 1) :: row.drop j, _, rfl, rm_mut (Same.trans s1 s2) nr, ?_, ?_, ?_⟩
    · obtain ⟨ns, q1, q2⟩ := d2.ex
      exact ⟨ns, by rw [upd_ne ra.symm]; exact q1, q2⟩
    · rw [upd_same, show ((j : Int)).toNat = j by omega, List.map_append, List.map_cons, List.map_take, List.map_drop]
      simp
    · rw [upTo_succ]
      have : (row.take j ++ ((i : Int) + 1) :: row.drop j).Perm (((i : Int) + 1) :: row) := by
        have q := List.perm_middle (a := (i : Int) + 1) (l₁ := row.take j) (l₂ := row.drop j)
        rw [List.take_append_drop] at q
        exact q
      exact this.trans ((List.perm_append_singleton _ _).symm.trans (p1.append_right _))
  · rintro σ H1 ⟨row, u3, rfl, s1, d1, h1, p1⟩
    have hl : row.length = n := by rw [p1.length_eq, upTo_length]
    exact ⟨_, rfl, k _ r row s1 d1 (rm_at h1 ra) (by unfold IsRow; rw [hl]; exact p1) hl⟩
/-! ### a text -/
def sp__law_device (P : Program) (w : World) (T : TX K w mg) : Sp := fun vs H Q _ => ∃ a : Addr, vs = [.ref a] ∧ Dr a H ∧ ∀ H' t, Same (rm a H) (rm a H') → Dr a H' → t ∈ devs → Q (.str (txS t)) H'
theorem dev_at {i j : Nat} (hi : i < 6) (hj : j < 5) : ∃ c u, (("ssqdio" : Str).cps.toList)[i]? = some c ∧ ([V.str "", V.str "", V.str "1", V.str "2", V.str "3"] : List V)[j]? = some (V.str (txS u)) ∧ c :: u ∈ devs := by
  have h1 : ∃ c, (("ssqdio" : Str).cps.toList)[i]? = some c ∧ c ∈ [115, 113, 100, 105, 111] := by
    have : ∀ i, i < 6 → ∃ c, (("ssqdio" : Str).cps.toList)[i]? = some c ∧ c ∈ [115, 113, 100, 105, 111] := by
      intro i hi
      obtain rfl | rfl | rfl | rfl | rfl | rfl : i = 0 ∨ i = 1 ∨ i = 2 ∨ i = 3 ∨ i = 4 ∨ i = 5 := by omega
      all_goals exact ⟨_, rfl, by decide⟩
    exact this i hi
  have h2 : ∃ u, ([V.str "", V.str "", V.str "1", V.str "2", V.str "3"] : List V)[j]? = some (V.str (txS u)) ∧ u ∈ [[], [49], [50], [51]] := by
    obtain rfl | rfl | rfl | rfl | rfl : j = 0 ∨ j = 1 ∨ j = 2 ∨ j = 3 ∨ j = 4 := by omega
    · exact ⟨[], rfl, by decide⟩
    · exact ⟨[], rfl, by decide⟩
    · exact ⟨[49], rfl, by decide⟩
    · exact ⟨[50], rfl, by decide⟩
    · exact ⟨[51], rfl, by decide⟩
  obtain ⟨c, e1, hc⟩ := h1
  obtain ⟨u, e2, hu⟩ := h2
  refine ⟨c, u, e1, e2, ?_⟩
  revert c u
  intro c e1 hc u e2 hu
  have all : ∀ c ∈ [115, 113, 100, 105, 111], ∀ u ∈ [[], [49], [50], [51]], c :: u ∈ devs := by decide
  exact all c hc u hu
theorem tx_app (a b : List Nat) : txS a ++ txS b = txS (a ++ b) := by
  show (⟨a.toArray ++ b.toArray⟩ : Str) = ⟨(a ++ b).toArray⟩
  rw [List.append_toArray]
theorem tx_len (a : List Nat) : (txS a).length = a.length := List.size_toArray ..
theorem devs_small {t : List Nat} (h : t ∈ devs) : t.length ≤ 2 := by
  have : ∀ t ∈ devs, t.length ≤ 2 := by decide
  exact this t h
theorem c__law_device (T : TX K w mg) : C8.Cal P w K mg base 3 "_law_device" (sp__law_device P w T) [] := by
  obtain ⟨f, fd, F, b⟩ := T.fn__law_device
  refine C8.cal0 F b .nil sc__law_device (fun vs H Q E h => by obtain ⟨_, rfl, _⟩ := h; rfl) (fun cdv A outer s H vs Q E hr h => ?_)
  have hu := hu_of hr
  have nd := sc__law_device.nd
  refine ⟨_, (pss_one (ps_ret (pe_op op_add_str (pe_ix ix_str pe_str (C8.pe_c (c__law_pick T) hr (by decide) rfl (pa_cons (pv 0) (pa_cons pe_int pa_nil))) (fun _ _ => rfl)) (pe_ix (ix_listK (K := K) rfl) (pe_lst (pa_cons pe_str (pa_cons pe_str (pa_cons pe_str (pa_cons pe_str (pa_cons pe_str pa_nil)))))) (C8.pe_c (c__law_pick T) hr (by decide) rfl (pa_cons (pv 0) (pa_cons pe_int pa_nil))) (fun _ _ => rfl))))), ?_⟩
  obtain ⟨a, rfl, d, k⟩ := h
  refine ⟨_, rfl, a, 6, rfl, d, by decide, fun H1 i s1 d1 hi => ?_⟩
  have hi : i < 6 := by omega
  obtain ⟨c, _, hc, _, _⟩ := dev_at hi (show 0 < 5 by decide)
  refine ⟨_, _, c, rfl, rfl, sz_le (Nat.le_of_ble_eq_true rfl), atI_nat hc, sz_le (Nat.le_of_ble_eq_true rfl), fun l nl => ?_⟩
  have d1' := d1.mono (Same.new nl (o := .lst [V.str "", V.str "", V.str "1", V.str "2", V.str "3"]))
  have la := d1.ne nl
  refine ⟨_, rfl, a, 5, rfl, d1', by decide, fun H2 j s2 d2 hj => ?_⟩
  obtain ⟨c', u, hc', hu, m⟩ := dev_at hi (show j < 5 by omega)
  obtain rfl : c' = c := Option.some.inj (hc'.symm.trans hc)
  have hl : H2 l = some (.lst [V.str "", V.str "", V.str "1", V.str "2", V.str "3"]) := rm_same a _ _ _ (s2 _ _ (rm_at upd_same la))
  have sm := devs_small m
  refine ⟨l, _, _, _, rfl, rfl, SqL.of hl, atI_nat hu, _, _, rfl, rfl, sz_le ?_, ?_⟩
  · rw [tx_len]
    show 1 + u.length ≤ _
    rw [List.length_cons] at sm
    omega
  · have e : (ch c' ++ txS u : Str) = txS (c' :: u) := tx_app [c'] u
    rw [e]
    exact k H2 _ (Same.trans s1 (Same.trans (rm_mono (Same.new nl)) s2)) d2 m
def sp__law_yard (P : Program) (w : World) (T : TX K w mg) : Sp := fun vs H Q _ => ∃ a : Addr, vs = [.ref a] ∧ Dr a H ∧ ∀ H' t, Same (rm a H) (rm a H') → Dr a H' → t ∈ texts → Q (.str (txS t)) H'
theorem t_one {x : List Nat} (h : x ∈ devs) : x ∈ texts := List.mem_append_left _ h
theorem t_par {x y : List Nat} (h : x ∈ devs) (h2 : y ∈ devs) : 40 :: (x ++ 32 :: (y ++ [41])) ∈ texts := List.mem_append_right _ (List.mem_append_left _ (List.mem_flatMap.mpr ⟨x, h, List.mem_map.mpr ⟨y, h2, rfl⟩⟩))
theorem t_brk {x y : List Nat} (h : x ∈ devs) (h2 : y ∈ devs) : 91 :: (x ++ 32 :: (y ++ [93])) ∈ texts := List.mem_append_right _ (List.mem_append_right _ (List.mem_append_left _ (List.mem_flatMap.mpr ⟨x, h, List.mem_map.mpr ⟨y, h2, rfl⟩⟩)))
theorem t_mix {x y : List Nat} (h : x ∈ devs) (h2 : y ∈ devs) : 40 :: (x ++ 32 :: 91 :: (y ++ [32, 115, 49, 93, 41])) ∈ texts := List.mem_append_right _ (List.mem_append_right _ (List.mem_append_right _ (List.mem_append_left _ (List.mem_flatMap.mpr ⟨x, h, List.mem_map.mpr ⟨y, h2, rfl⟩⟩))))
theorem t_fix {x : List Nat} (h : x ∈ fixed) : x ∈ texts := List.mem_append_right _ (List.mem_append_right _ (List.mem_append_right _ (List.mem_append_right _ h)))
theorem str_small {a b : Str} {n : Nat} (h1 : a.length ≤ n) (h2 : b.length ≤ n) (h : n ≤ 1000) : a.length + b.length ≤ sizeLine := sz_le (by omega)
def fixV : List V := [V.str "s", V.str "s1", V.str "s2", V.str "q", V.str "q2", V.str "[q q]", V.str "[s1 s1]", V.str "(s1 s1)"]
theorem fix_at {j : Nat} (h : j < 8) : ∃ u, fixV[j]? = some (V.str (txS u)) ∧ u ∈ fixed := by
  obtain rfl | rfl | rfl | rfl | rfl | rfl | rfl | rfl : j = 0 ∨ j = 1 ∨ j = 2 ∨ j = 3 ∨ j = 4 ∨ j = 5 ∨ j = 6 ∨ j = 7 := by omega
  · exact ⟨[115], rfl, by decide⟩
  · exact ⟨[115, 49], rfl, by decide⟩
  · exact ⟨[115, 50], rfl, by decide⟩
  · exact ⟨[113], rfl, by decide⟩
  · exact ⟨[113, 50], rfl, by decide⟩
  · exact ⟨[91, 113, 32, 113, 93], rfl, by decide⟩
  · exact ⟨[91, 115, 49, 32, 115, 49, 93], rfl, by decide⟩
  · exact ⟨[40, 115, 49, 32, 115, 49, 41], rfl, by decide⟩
theorem q_str {x y : Str} {Q : VK} {H : Hp} (e : x = y) (h : Q (.str y) H) : Q (.str x) H := by rw [e]; exact h
theorem c__law_yard (T : TX K w mg) : C8.Cal P w K mg base 4 "_law_yard" (sp__law_yard P w T) [] := by
  obtain ⟨f, fd, F, b⟩ := T.fn__law_yard
  refine C8.cal0 F b .nil sc__law_yard (fun vs H Q E h => by obtain ⟨_, rfl, _⟩ := h; rfl) (fun cdv A outer s H vs Q E hr h => ?_)
  have hu := hu_of hr
  have nd := sc__law_yard.nd
  refine ⟨_, (pss_cons (ps_set (i := 1) nd rfl (Or.inl rfl) (C8.pe_c (c__law_pick T) hr (by decide) rfl (pa_cons (pv 0) (pa_cons pe_int pa_nil))))
      (pss_cons (ps_set (i := 2) nd rfl (Or.inl rfl) (C8.pe_c (c__law_device T) hr (by decide) rfl (pa_cons (pv 0) pa_nil)))
      (pss_cons (ps_set (i := 3) nd rfl (Or.inl rfl) (C8.pe_c (c__law_device T) hr (by decide) rfl (pa_cons (pv 0) pa_nil)))
      (pss_cons (ps_if (pt_cmpR op_lt (pv 1) pe_int (nomark _)) (pss_one (ps_ret (pv 2))) pss_nil)
      (pss_cons (ps_if (pt_cmpR op_eq (pv 1) pe_int (nomark _)) (pss_one (ps_ret (pe_op op_add_str (pe_op op_add_str (pe_op op_add_str (pe_op op_add_str pe_str (pv 2)) pe_str) (pv 3)) pe_str))) pss_nil)
      (pss_cons (ps_if (pt_cmpR op_eq (pv 1) pe_int (nomark _)) (pss_one (ps_ret (pe_op op_add_str (pe_op op_add_str (pe_op op_add_str (pe_op op_add_str pe_str (pv 2)) pe_str) (pv 3)) pe_str))) pss_nil)
      (pss_cons (ps_if (pt_cmpR op_eq (pv 1) pe_int (nomark _)) (pss_one (ps_ret (pe_op op_add_str (pe_op op_add_str (pe_op op_add_str (pe_op op_add_str pe_str (pv 2)) pe_str) (pv 3)) pe_str))) pss_nil)
      (pss_one (ps_ret (pe_ix (ix_listK (K := K) rfl) (pe_lst (pa_cons pe_str (pa_cons pe_str (pa_cons pe_str (pa_cons pe_str (pa_cons pe_str (pa_cons pe_str (pa_cons pe_str (pa_cons pe_str pa_nil))))))))) (C8.pe_c (c__law_pick T) hr (by decide) rfl (pa_cons (pv 0) (pa_cons pe_int pa_nil))) (fun _ _ => rfl))))))))))), ?_⟩
  obtain ⟨a, rfl, d, k⟩ := h
  refine ⟨_, rfl, a, 8, rfl, d, by decide, fun H1 i s1 d1 hi => ?_⟩
  refine ⟨_, rfl, a, rfl, d1, fun H2 x s2 d2 hx => ?_⟩
  refine ⟨_, rfl, a, rfl, d2, fun H3 y s3 d3 hy => ?_⟩
  have s123 := Same.trans s1 (Same.trans s2 s3)
  have lx := devs_small hx
  have ly := devs_small hy
  have al : ∀ u v : List Nat, u.length + v.length ≤ 100 → (txS u).length + (txS v).length ≤ sizeLine := fun u v h => sz_le (by rw [tx_len, tx_len]; omega)
  refine ⟨_, rfl, _, _, rfl, rfl, _, rfl, ite2 (fun _ => ⟨_, rfl, k H3 x s123 d3 (t_one hx)⟩) (fun _ => ?_)⟩
  refine ⟨_, rfl, rfl, _, rfl, ite_eq (fun _ => ?_) (fun _ => ?_)⟩
  · refine ⟨_, rfl, txS [40], _, rfl, rfl, al [40] x (by simp; omega), ?_⟩
    rw [tx_app]
    refine ⟨_, txS [32], rfl, rfl, al _ [32] (by simp; omega), ?_⟩
    rw [tx_app]
    refine ⟨_, rfl, _, _, rfl, rfl, al _ y (by simp; omega), ?_⟩
    rw [tx_app]
    refine ⟨_, txS [41], rfl, rfl, al _ [41] (by simp; omega), ?_⟩
    rw [tx_app]
    refine q_str (congrArg txS ?_) (k H3 _ s123 d3 (t_par hx hy))
    simp
  refine ⟨_, rfl, rfl, _, rfl, ite_eq (fun _ => ?_) (fun _ => ?_)⟩
  · refine ⟨_, rfl, txS [91], _, rfl, rfl, al [91] x (by simp; omega), ?_⟩
    rw [tx_app]
    refine ⟨_, txS [32], rfl, rfl, al _ [32] (by simp; omega), ?_⟩
    rw [tx_app]
    refine ⟨_, rfl, _, _, rfl, rfl, al _ y (by simp; omega), ?_⟩
    rw [tx_app]
    refine ⟨_, txS [93], rfl, rfl, al _ [93] (by simp; omega), ?_⟩
    rw [tx_app]
    refine q_str (congrArg txS ?_) (k H3 _ s123 d3 (t_brk hx hy))
    simp
  refine ⟨_, rfl, rfl, _, rfl, ite_eq (fun _ => ?_) (fun _ => ?_)⟩
  · refine ⟨_, rfl, txS [40], _, rfl, rfl, al [40] x (by simp; omega), ?_⟩
    rw [tx_app]
    refine ⟨_, txS [32, 91], rfl, rfl, al _ [32, 91] (by simp; omega), ?_⟩
    rw [tx_app]
    refine ⟨_, rfl, _, _, rfl, rfl, al _ y (by simp; omega), ?_⟩
    rw [tx_app]
    refine ⟨_, txS [32, 115, 49, 93, 41], rfl, rfl, al _ [32, 115, 49, 93, 41] (by simp; omega), ?_⟩
    rw [tx_app]
    refine q_str (congrArg txS ?_) (k H3 _ s123 d3 (t_mix hx hy))
    simp
  refine ⟨sz_le (Nat.le_of_ble_eq_true rfl), fun l nl => ?_⟩
  have la := d3.ne nl
  refine ⟨_, rfl, a, 8, rfl, d3.mono (Same.new nl), by decide, fun H4 j s4 d4 hj => ?_⟩
  obtain ⟨u, hu, mu⟩ := fix_at (show j < 8 by omega)
  have hl : H4 l = some (.lst fixV) := rm_same a _ _ _ (s4 _ _ (rm_at upd_same la))
  exact ⟨l, _, _, _, rfl, rfl, SqL.of hl, atI_nat hu, k H4 u (Same.trans s123 (Same.trans (rm_mono (Same.new nl)) s4)) d4 (t_fix mu)⟩
end
end K92

/-! K92U: the law's own plan of a text. -/
set_option Elab.async false
set_option linter.all false
set_option maxRecDepth 100000
set_option maxHeartbeats 4000000
set_option autoImplicit false
namespace K92
open PySem PySem.Spec PyProof.Rows L2
section
variable {P : Program} {w : World} {K : PySem.W.Frag} {mg : Str → Option Value} {base : Heap}
structure PSt where
  parts : List (List Nat)
  depth : Int
  start : Nat
def pstep (txt : List Nat) (at_ : Nat) (c : Nat) (s : PSt) : PSt :=
  let d := if c ∈ [40, 91] then s.depth + 1 else if c ∈ [41, 93] then s.depth - 1 else s.depth
  if (c = 32 ∧ d = 1) ∨ (c ∈ [41, 93] ∧ d = 0) then ⟨s.parts ++ [(txt.drop s.start).take (at_ - s.start)], d, at_ + 1⟩ else ⟨s.parts, d, s.start⟩
def pgo (txt : List Nat) : Nat → PSt
  | 0 => ⟨[], 0, 1⟩
  | n + 1 => match txt[n]? with
    | none => pgo txt n
    | some c => pstep txt n c (pgo txt n)
def lparts (txt : List Nat) : List (List Nat) := (pgo txt txt.length).parts
theorem slice2 (l : List Nat) (s a : Nat) (h : a ≤ l.length) : Txt.slice (txS l) (some (s : Int)) (some (a : Int)) = txS ((l.drop s).take (a - s)) := by
  rw [← C8.cutS_slice]
  unfold cutS
  rw [HT.sIx_nat, HT.sIx_nat, tx_len]
  show (⟨((l.drop (min s l.length)).take (min a l.length - min s l.length)).toArray⟩ : Str) = _
  rw [Nat.min_eq_left h]
  by_cases c : s ≤ l.length
  · rw [Nat.min_eq_left c]
  · rw [Nat.min_eq_right (by omega), List.drop_length, List.drop_eq_nil_of_le (by omega)]
    simp
theorem pstep_len (txt : List Nat) (a c : Nat) (s : PSt) : (pstep txt a c s).parts.length ≤ s.parts.length + 1 := by
  unfold pstep
  dsimp only
  repeat' split
  all_goals simp
theorem pgo_len (txt : List Nat) : ∀ n, (pgo txt n).parts.length ≤ n
  | 0 => Nat.le_refl _
  | n + 1 => by
    have h := pgo_len txt n
    unfold pgo
    split
    · omega
    · have := pstep_len txt n ‹Nat› (pgo txt n)
      omega
def sp__law_parts (P : Program) (w : World) (T : TX K w mg) : Sp := fun vs H Q _ => ∃ txt : List Nat, vs = [.str (txS txt)] ∧ txt.length ≤ 1000 ∧ ∀ H' p, Same H H' → H p = none → H' p = some (.lst ((lparts txt).map fun t => V.str (txS t))) → Q (.ref p) H'
theorem tx_at {txt : List Nat} {i c : Nat} (h : txt[i]? = some c) : atI (txS txt).cps.toList (i : Int) = some c := atI_nat (by rw [show (txS txt).cps.toList = txt from List.toList_toArray ..]; exact h)
theorem c__law_parts (T : TX K w mg) : C8.Cal P w K mg base 1 "_law_parts" (sp__law_parts P w T) [] := by
  obtain ⟨f, fd, F, b⟩ := T.fn__law_parts
  refine C8.cal0 F b .nil sc__law_parts (fun vs H Q E h => by obtain ⟨_, rfl, _⟩ := h; rfl) (fun cdv A outer s H vs Q E hr h => ?_)
  have hu := hu_of hr
  have nd := sc__law_parts.nd
  refine ⟨_, (pss_cons (ps_set (i := 1) nd rfl (Or.inl rfl) (pe_lst pa_nil))
      (pss_cons (ps_set (i := 2) nd rfl (Or.inl rfl) pe_int)
      (pss_cons (ps_set (i := 3) nd rfl (Or.inl rfl) pe_int)
      (pss_cons (ps_for PassesOwn.never rfl (pi_range1 rfl T.b_range (pa_cons (pe_callB call_len_str (by rfl) T.b_len PySem.boot_len (pa_cons (pv 0) pa_nil)) pa_nil)) (pg_name (i := 4) nd rfl (Or.inl rfl)) (C8.pss_cut (ps_if (pt_cmpR op_in_sign (pe_ix ix_str (pv 0) (pv 4) (fun _ _ => rfl)) pe_str (by rfl)) (pss_one (ps_set (i := 2) nd rfl (Or.inl rfl) (pe_op op_add (pv 2) pe_int))) (pss_one (ps_if (pt_cmpR op_in_sign (pe_ix ix_str (pv 0) (pv 4) (fun _ _ => rfl)) pe_str (by rfl)) (pss_one (ps_set (i := 2) nd rfl (Or.inl rfl) (pe_op op_sub (pv 2) pe_int))) pss_nil)))
      (pss_one (ps_if (PW.pt (pw_or (PW.pt (pw_and (pt_cmpR op_eq (pe_ix ix_str (pv 0) (pv 4) (fun _ _ => rfl)) pe_str (nomark _)) (pw_and1 (pt_cmpR op_eq (pv 2) pe_int (nomark _))))) (pw_or1 (PW.pt (pw_and (pt_cmpR op_in_sign (pe_ix ix_str (pv 0) (pv 4) (fun _ _ => rfl)) pe_str (by rfl)) (pw_and1 (pt_cmpR op_eq (pv 2) pe_int (nomark _)))))))) (pss_cons (ps_expr (pe_bm PySem.F.plainAttrs_list PySem.F.slot_list_append PySem.F.type_list_append mt_append (pv 1) (pa_cons (pe_slice C8.sl_txt (pv 0) (po_some (pv 3)) (po_some (pv 4))) pa_nil)))
      (pss_one (ps_set (i := 3) nd rfl (Or.inl rfl) (pe_op op_add (pv 4) pe_int)))) pss_nil))))
      (pss_one (ps_ret (pv 1))))))), ?_⟩
  obtain ⟨txt, rfl, hl, k⟩ := h
  refine ⟨sz_le (Nat.le_of_ble_eq_true rfl), fun D nD => ?_⟩
  refine ⟨_, rfl, _, rfl, sz_le (by rw [tx_len]; omega), _, rfl, by rw [tx_len]; omega, by rw [tx_len]; omega, ?_⟩
  rw [tx_len, show ((txt.length : Int)).toNat = txt.length by omega]
  refine for_range (n := txt.length) (fun i σ H' => ∃ u4, σ = [some (.str (txS txt)), some (.ref D), some (.int (pgo txt i).depth), some (.int ((pgo txt i).start : Int)), u4] ∧ Same H H' ∧ H' D = some (.lst ((pgo txt i).parts.map fun t => V.str (txS t)))) ⟨none, rfl, Same.new nD, upd_same⟩ ?_ ?_
  · rintro i σ H1 hi ⟨u4, rfl, s1, hD⟩
    obtain ⟨c, hc⟩ := get_some hi
    have hz : (txS txt).length ≤ sizeLine := sz_le (by rw [tx_len]; omega)
    have e0 : (0 : Int) + (i : Int) = (i : Int) := Int.zero_add _
    rw [e0]
    have pe : pgo txt (i + 1) = pstep txt i c (pgo txt i) := by show (match txt[i]? with | none => _ | some c => _) = _; rw [hc]
    have pl := pgo_len txt i
    generalize hd : (if c ∈ [40, 91] then (pgo txt i).depth + 1 else if c ∈ [41, 93] then (pgo txt i).depth - 1 else (pgo txt i).depth) = d
    have pe : pgo txt (i + 1) = if (c = 32 ∧ d = 1) ∨ (c ∈ [41, 93] ∧ d = 0) then ⟨(pgo txt i).parts ++ [(txt.drop (pgo txt i).start).take (i - (pgo txt i).start)], d, i + 1⟩ else ⟨(pgo txt i).parts, d, (pgo txt i).start⟩ := by rw [pe, ← hd]; rfl
    refine ⟨fun σ H' => σ = [some (.str (txS txt)), some (.ref D), some (.int d), some (.int ((pgo txt i).start : Int)), some (.int (i : Int))] ∧ H' = H1, ?_, ?_⟩
    · refine ⟨_, rfl, _, rfl, _, _, c, rfl, rfl, hz, tx_at hc, c, _, rfl, rfl, _, rfl, ite2 (fun z => ?_) (fun z => ?_)⟩
      · have z : c ∈ [40, 91] := of_decide_eq_true z
        rw [if_pos z] at hd
        exact ⟨_, rfl, _, _, rfl, rfl, by rw [← hd]; rfl, rfl⟩
      · have z : ¬ c ∈ [40, 91] := fun q => z (decide_eq_true q)
        rw [if_neg z] at hd
        refine ⟨_, rfl, _, rfl, _, _, c, rfl, rfl, hz, tx_at hc, c, _, rfl, rfl, _, rfl, ite2 (fun y => ?_) (fun y => ?_)⟩
        · have y : c ∈ [41, 93] := of_decide_eq_true y
          rw [if_pos y] at hd
          exact ⟨_, rfl, _, _, rfl, rfl, by rw [← hd]; rfl, rfl⟩
        · have y : ¬ c ∈ [41, 93] := fun q => y (decide_eq_true q)
          rw [if_neg y] at hd
          exact ⟨by rw [← hd]; rfl, rfl⟩
    · rintro σ H2 ⟨rfl, rfl⟩
      have yes : (c = 32 ∧ d = 1) ∨ (c ∈ [41, 93] ∧ d = 0) → (fun H' => ∃ u4, ([some (.str (txS txt)), some (.ref D), some (.int d), some (.int ((i : Int) + 1)), some (.int (i : Int))] : L2.St) = [some (.str (txS txt)), some (.ref D), some (.int (pgo txt (i + 1)).depth), some (.int ((pgo txt (i + 1)).start : Int)), u4] ∧ Same H H' ∧ H' D = some (.lst ((pgo txt (i + 1)).parts.map fun t => V.str (txS t)))) (upd H2 D (.lst ((pgo txt i).parts.map (fun t => V.str (txS t)) ++ [V.str (txS ((txt.drop (pgo txt i).start).take (i - (pgo txt i).start)))]))) := fun q => by
        rw [pe, if_pos q]
        exact ⟨_, rfl, Same.mut s1 nD, by rw [upd_same, List.map_append]; rfl⟩
      have no : ¬ ((c = 32 ∧ d = 1) ∨ (c ∈ [41, 93] ∧ d = 0)) → ∃ u4, ([some (.str (txS txt)), some (.ref D), some (.int d), some (.int ((pgo txt i).start : Int)), some (.int (i : Int))] : L2.St) = [some (.str (txS txt)), some (.ref D), some (.int (pgo txt (i + 1)).depth), some (.int ((pgo txt (i + 1)).start : Int)), u4] ∧ Same H H2 ∧ H2 D = some (.lst ((pgo txt (i + 1)).parts.map fun t => V.str (txS t))) := fun q => by
        rw [pe, if_neg q]
        exact ⟨_, rfl, s1, hD⟩
      refine ⟨_, rfl, _, rfl, _, _, c, rfl, rfl, hz, tx_at hc, rfl, _, rfl, ite_ceq (d := 32) (fun z => ?_) (fun z => ?_)⟩
      · refine ⟨_, rfl, rfl, _, rfl, ?_⟩
        by_cases x : d = 1
        · subst x
          refine iteT ?_
          refine ⟨_, rfl, tyL hD, _, rfl, _, rfl, _, rfl, _, rfl, _, rfl, _, rfl, hz, ?_⟩
          rw [slice2 _ _ _ (by omega)]
          exact ⟨D, _, _, rfl, rfl, hD, sz_lt (by rw [List.length_map]; omega), _, rfl, _, _, rfl, rfl, yes (.inl ⟨z, rfl⟩)⟩
        · rw [decide_eq_false (fun q : V.int d = V.int 1 => x (V.int.inj q))]
          have nq : ¬ ((c = 32 ∧ d = 1) ∨ (c ∈ [41, 93] ∧ d = 0)) := by
            rintro (h | h)
            · exact x h.2
            · have := h.1; rw [z] at this; simp at this
          refine iteF ?_
          refine ⟨_, rfl, _, rfl, _, _, c, rfl, rfl, hz, tx_at hc, c, _, rfl, rfl, _, rfl, ite2 (fun y => ?_) (fun y => iteF (no nq))⟩
          have y : c ∈ [41, 93] := of_decide_eq_true y
          rw [z] at y
          simp at y
      · refine iteF ?_
        refine ⟨_, rfl, _, rfl, _, _, c, rfl, rfl, hz, tx_at hc, c, _, rfl, rfl, _, rfl, ite2 (fun y => ?_) (fun y => ?_)⟩
        · have y : c ∈ [41, 93] := of_decide_eq_true y
          refine ⟨_, rfl, rfl, _, rfl, ?_⟩
          by_cases x : d = 0
          · subst x
            refine iteT ?_
            refine ⟨_, rfl, tyL hD, _, rfl, _, rfl, _, rfl, _, rfl, _, rfl, _, rfl, hz, ?_⟩
            rw [slice2 _ _ _ (by omega)]
            exact ⟨D, _, _, rfl, rfl, hD, sz_lt (by rw [List.length_map]; omega), _, rfl, _, _, rfl, rfl, yes (.inr ⟨y, rfl⟩)⟩
          · rw [decide_eq_false (fun q : V.int d = V.int 0 => x (V.int.inj q))]
            exact iteF (no (by
              rintro (h | h)
              · exact z h.1
              · exact x h.2))
        · have y : ¬ c ∈ [41, 93] := fun q => y (decide_eq_true q)
          exact iteF (no (by
            rintro (h | h)
            · exact z h.1
            · exact y h.1))
  · rintro σ H1 ⟨u4, rfl, s1, hD⟩
    exact ⟨_, rfl, k _ D s1 nD hD⟩
end
end K92

/-! K92V: the law's own plan of a text: ends, plan. -/
set_option Elab.async false
set_option linter.all false
set_option maxRecDepth 100000
set_option maxHeartbeats 4000000
set_option autoImplicit false
namespace K92
open PySem PySem.Spec PyProof.Rows L2
section
variable {P : Program} {w : World} {K : PySem.W.Frag} {mg : Str → Option Value} {base : Heap}
def eBnd : List Nat → Nat
  | [] => 0
  | d :: _ => d - 48
abbrev ESt := (List Int × List Int) × List (Nat × Nat) × List (Int × Int)
def eOk (r : ESt) : Bool := decide (r.1.1.length ≤ 100) && (decide (r.1.2.length ≤ 100) && (decide (r.2.1.length ≤ 100) && decide (r.2.2.length ≤ 1000)))
def ejoin (sg : Nat) (s r : ESt) : ESt :=
  if sg = 91 then ((s.1.1 ++ r.1.1, s.1.2 ++ r.1.2), r.2.1, r.2.2) else ((if s.1.1 = [] then r.1.1 else s.1.1, r.1.2), r.2.1, r.2.2 ++ s.1.2.flatMap fun o => r.1.1.map fun t => (o, t))
def lends : Nat → List Nat → Nat → List (Nat × Nat) → List (Int × Int) → Option ESt
  | 0, _, _, _, _ => none
  | n + 1, txt, fst, dv, lk => match txt with
    | [] => none
    | c :: r => if c ∈ [40, 91] then
        (lparts txt).foldl (fun o part => o.bind fun s => (lends n part s.2.1.length s.2.1 s.2.2).bind fun r => if eOk s = true ∧ eOk r = true ∧ part.length ≤ 1000 then some (ejoin c s r) else none) (some (([], []), dv, lk))
      else if (r = [] ∨ (49 ≤ r.getD 0 0 ∧ r.getD 0 0 ≤ 54)) ∧ dv.length ≤ 100 then some (([(fst : Int)], [(fst : Int)]), dv ++ [(c, eBnd r)], lk) else none
theorem foldl_none {α β : Type} (g : β → α → Option β) : ∀ l : List α, l.foldl (fun o a => o.bind fun s => g s a) none = none
  | [] => rfl
  | a :: l => foldl_none g l
theorem foldl_take {α β : Type} {g : β → α → Option β} {l : List α} {b : Option β} {r : β} (h : l.foldl (fun o a => o.bind fun s => g s a) b = some r) (i : Nat) : ∃ s, (l.take i).foldl (fun o a => o.bind fun s => g s a) b = some s := by
  rw [← List.take_append_drop i l, List.foldl_append] at h
  cases e : (l.take i).foldl (fun o a => o.bind fun s => g s a) b with
  | none => rw [e, foldl_none] at h; cases h
  | some s => exact ⟨s, rfl⟩
def dvO (d : Nat × Nat) : HO := .tup [.str (ch d.1), .int (d.2 : Int)]
structure EnF (H0 H : Hp) (dv lk : Addr) (DV : List (Addr × Nat × Nat)) (LK : List (Addr × Int × Int)) (J : List (Addr × HO)) : Prop where
  f : Fr H0 H [(dv, .lst (DV.map fun x => V.ref x.1)), (lk, .lst (LK.map fun x => V.ref x.1))] J
  jd : ∀ x ∈ DV, (x.1, dvO x.2) ∈ J
  jl : ∀ x ∈ LK, (x.1, pairO x.2) ∈ J
theorem Fr.add {H0 H H' : Hp} {L I : List (Addr × HO)} {a : Addr} {o : HO} (f : Fr H0 H L I) (s : Same H H') (n : H a = none) (h : H' a = some o) : Fr H0 H' L ((a, o) :: I) := by
  have g := f.mono s
  refine ⟨g.same, g.nd, g.own, fun x hx => ?_⟩
  rcases List.mem_cons.mp hx with rfl | hx
  · refine ⟨h, fun mm => ?_⟩
    obtain ⟨x, hx, ex⟩ := List.mem_map.mp mm
    have q1 := (f.own x hx).2
    rw [ex, n] at q1
    cases q1
  · exact g.imm x hx
theorem Fr.addT {H0 H : Hp} {L I I2 : List (Addr × HO)} (f : Fr H0 H L I) (hl : ∀ x ∈ L, ∃ xs, x.2 = HO.lst xs) (h2 : ∀ x ∈ I2, H x.1 = some x.2 ∧ ∃ xs, x.2 = HO.tup xs) : Fr H0 H L (I2 ++ I) := by
  refine ⟨f.same, f.nd, f.own, fun x hx => ?_⟩
  rcases List.mem_append.mp hx with hx | hx
  · obtain ⟨e1, xs, e2⟩ := h2 x hx
    refine ⟨e1, fun mm => ?_⟩
    obtain ⟨z, hz, ez⟩ := List.mem_map.mp mm
    obtain ⟨ys, e3⟩ := hl z hz
    have q1 := (f.own z hz).2
    rw [ez, e1, e2, e3] at q1
    cases q1
  · exact f.imm x hx
def sp__law_ends (P : Program) (w : World) (T : TX K w mg) (n : Nat) : Sp := fun vs H Q _ => ∃ (H0 : Hp) (txt : List Nat) (fst : Nat) (dv lk : Addr) (DV : List (Addr × Nat × Nat)) (LK : List (Addr × Int × Int)) (J : List (Addr × HO)) (R : ESt), vs = [.str (txS txt), .int (fst : Int), .ref dv, .ref lk] ∧
  EnF H0 H dv lk DV LK J ∧ txt.length ≤ 1000 ∧ lends n txt fst (DV.map (·.2)) (LK.map (·.2)) = some R ∧
  ∀ H' t e x DV' LK' J', EnF H0 H' dv lk DV' LK' J' → (∀ z ∈ J, z ∈ J') → DV'.map (·.2) = R.2.1 → LK'.map (·.2) = R.2.2 → (t, HO.tup [.ref e, .ref x]) ∈ J' → (e, intsO R.1.1) ∈ J' → (x, intsO R.1.2) ∈ J' → Q (.ref t) H'
theorem c__law_ends (T : TX K w mg) : ∀ n, C8.Cal P w K mg base (8 + n) "_law_ends" (sp__law_ends P w T n) []
  | 0 => by
    obtain ⟨f, fd, F, b⟩ := T.fn__law_ends
    refine C8.cal0 (k := 7) F b .nil sc__law_ends (fun vs H Q E h => by obtain ⟨_, _, _, _, _, _, _, _, _, rfl, _⟩ := h; rfl) (fun cdv A outer s H vs Q E hr h => ?_)
    obtain ⟨_, _, _, _, _, _, _, _, _, _, _, _, z, _⟩ := h
    cases z
  | n + 1 => by
    have ih := c__law_ends T n
    obtain ⟨f, fd, F, b⟩ := T.fn__law_ends
    refine C8.cal0 (k := 8 + n) F b .nil sc__law_ends (fun vs H Q E h => by obtain ⟨_, _, _, _, _, _, _, _, _, rfl, _⟩ := h; rfl) (fun cdv A outer s H vs Q E hr h => ?_)
    have hu := hu_of hr
    have nd := sc__law_ends.nd
    refine ⟨_, (pss_cons (ps_if (pt_cmpR op_notIn_sign (pe_ix ix_str (pv 0) pe_int (fun _ _ => rfl)) pe_str (by rfl)) (pss_cons (ps_set (i := 4) nd rfl (Or.inl rfl) pe_int)
      (C8.pss_cut (ps_if (pt_cmpR op_gt (pe_callB call_len_str (by rfl) T.b_len PySem.boot_len (pa_cons (pv 0) pa_nil)) pe_int (nomark _)) (pss_one (ps_set (i := 4) nd rfl (Or.inl rfl) (pe_callTy call_int_str (by rfl) T.b_int boot_int_ (pa_cons (pe_ix ix_str (pv 0) pe_int (fun _ _ => rfl)) pa_nil)))) pss_nil)
      (pss_cons (ps_expr (pe_bm PySem.F.plainAttrs_list PySem.F.slot_list_append PySem.F.type_list_append mt_append (pv 2) (pa_cons (pe_tup (pa_cons (pe_ix ix_str (pv 0) pe_int (fun _ _ => rfl)) (pa_cons (pv 4) pa_nil))) pa_nil)))
      (pss_one (ps_ret (pe_tup (pa_cons (pe_lst (pa_cons (pv 1) pa_nil)) (pa_cons (pe_lst (pa_cons (pv 1) pa_nil)) pa_nil)))))))) pss_nil)
      (pss_cons (ps_set (i := 5) nd rfl (Or.inl rfl) (pe_lst pa_nil))
      (pss_cons (ps_set (i := 6) nd rfl (Or.inl rfl) (pe_lst pa_nil))
      (pss_cons (ps_for PassesOwn.never rfl (pi_list (C8.pe_c (c__law_parts T) hr (by omega) rfl (pa_cons (pv 0) pa_nil))) (pg_name (i := 7) nd rfl (Or.inl rfl)) (pss_cons (ps_asg (C8.pe_c ih hr (Nat.le_refl _) rfl (pa_cons (pv 7) (pa_cons (pe_callB (call_lenK (K := K) rfl) (by rfl) T.b_len PySem.boot_len (pa_cons (pv 2) pa_nil)) (pa_cons (pv 2) (pa_cons (pv 3) pa_nil))))) (pg_tup (by rfl) (pgs_cons (pg_name (i := 8) nd rfl (Or.inl rfl)) (pgs_cons (pg_name (i := 9) nd rfl (Or.inl rfl)) pgs_nil))))
      (pss_cons (ps_if (pt_cmpR op_eq (pe_ix ix_str (pv 0) pe_int (fun _ _ => rfl)) pe_str (nomark _)) (pss_cons (ps_set (i := 5) nd rfl (Or.inl rfl) (pe_op op_cat (pv 5) (pv 8)))
      (pss_cons (ps_set (i := 6) nd rfl (Or.inl rfl) (pe_op op_cat (pv 6) (pv 9)))
      (pss_one ps_continue))) pss_nil)
      (pss_cons (ps_for PassesOwn.never rfl (pi_list (pv 6)) (pg_name (i := 10) nd rfl (Or.inr rfl)) (pss_one (ps_expr (pe_bm PySem.F.plainAttrs_list PySem.F.slot_list_extend PySem.F.type_list_extend mt_extend (pv 3) (pa_cons (pe_lc (own := [("_law_target", 11)]) rfl nd (pi_list (pv 8)) (blkOk_by (N := N__law_ends) (sc := C8.fnScope s__law_ends) (by decide +kernel)) (fun _ _ _ _ _ => (pg_name (i := 11) nd rfl (Or.inl rfl))) (fun _ _ _ _ _ => pts_nil) (fun _ _ _ _ _ => (pe_tup (pa_cons (pv 10) (pa_cons (pv 11) pa_nil))))) pa_nil)))))
      (C8.pss_cut (ps_if (pt_not (pt_truth (pv 5) (by intro _; rfl))) (pss_one (ps_set (i := 5) nd rfl (Or.inl rfl) (pv 8))) pss_nil)
      (pss_one (ps_set (i := 6) nd rfl (Or.inl rfl) (pv 9))))))))
      (pss_one (ps_ret (pe_tup (pa_cons (pv 5) (pa_cons (pv 6) pa_nil))))))))), ?_⟩
    obtain ⟨H0, txt, fst, dv, lk, DV, LK, J, R, rfl, ⟨fr, jd, jl⟩, tl, e, k⟩ := h
    cases txt with
    | nil => cases e
    | cons c r =>
    have hz : (txS (c :: r)).length ≤ sizeLine := sz_le (by rw [tx_len]; omega)
    have h0 : atI (txS (c :: r)).cps.toList 0 = some c := tx_at (i := 0) rfl
    have e : (if c ∈ [40, 91] then
        (lparts (c :: r)).foldl (fun o part => o.bind fun s => (lends n part s.2.1.length s.2.1 s.2.2).bind fun r => if eOk s = true ∧ eOk r = true ∧ part.length ≤ 1000 then some (ejoin c s r) else none) (some (([], []), DV.map (·.2), LK.map (·.2)))
      else if (r = [] ∨ (49 ≤ r.getD 0 0 ∧ r.getD 0 0 ≤ 54)) ∧ (DV.map (·.2)).length ≤ 100 then some (([(fst : Int)], [(fst : Int)]), DV.map (·.2) ++ [(c, eBnd r)], LK.map (·.2)) else none) = some R := e
    refine ⟨_, rfl, _, _, c, rfl, rfl, hz, h0, c, _, rfl, rfl, _, rfl, ite2 (fun z => ?_) (fun z => ?_)⟩
    · have z : c ∉ [40, 91] := by
        have z : (!decide (c ∈ [40, 91])) = true := z
        simpa using z
      rw [if_neg z] at e
      by_cases g : (r = [] ∨ (49 ≤ r.getD 0 0 ∧ r.getD 0 0 ≤ 54)) ∧ (DV.map (·.2)).length ≤ 100
      case neg => rw [if_neg g] at e; cases e
      rw [if_pos g] at e
      obtain rfl := Option.some.inj e
      refine ⟨fun σ H' => σ = [some (.str (txS (c :: r))), some (.int (fst : Int)), some (.ref dv), some (.ref lk), some (.int (eBnd r : Int)), none, none, none, none, none, none, none] ∧ H' = H, ?_, ?_⟩
      · refine ⟨_, rfl, _, rfl, hz, _, _, rfl, rfl, _, rfl, ite2 (fun y => ?_) (fun y => ?_)⟩
        · have y := of_decide_eq_true y
          rw [tx_len] at y
          cases r with
          | nil => simp at y
          | cons d r2 =>
            have gd : 49 ≤ d ∧ d ≤ 54 := by
              rcases g.1 with q | q
              · cases q
              · exact q
            have h1 : atI (txS (c :: d :: r2)).cps.toList 1 = some d := tx_at (i := 1) rfl
            refine ⟨_, rfl, _, _, d, rfl, rfl, hz, h1, _, ((d - 48 : Nat) : Int), rfl, ?_, Nat.le_of_ble_eq_true rfl, rfl, rfl⟩
            have dig : ∀ c ∈ [49, 50, 51, 52, 53, 54], PySem.intText? (ch c) = some ((c - 48 : Nat) : Int) := by decide +kernel
            exact dig d (by simp; omega)
        · cases r with
          | nil => exact ⟨rfl, rfl⟩
          | cons d r2 => exact absurd (decide_eq_true (by rw [tx_len]; simp; omega)) y
      · rintro σ H1 ⟨rfl, rfl⟩
        have hdv : H1 dv = some (.lst (DV.map fun x => V.ref x.1)) := fr.get (.head _)
        have lg := g.2
        rw [List.length_map] at lg
        refine ⟨_, rfl, tyL hdv, _, rfl, _, _, c, rfl, rfl, hz, h0, _, rfl, sz_le (Nat.le_of_ble_eq_true rfl), fun t nt => ?_⟩
        have f1 := fr.new_imm (o := dvO (c, eBnd r)) nt
        refine ⟨dv, _, _, rfl, rfl, (Same.new nt) _ _ hdv, sz_lt (by rw [List.length_map]; omega), ?_⟩
        have f2 := f1.set (L1 := []) (o' := .lst (DV.map (fun x => V.ref x.1) ++ [V.ref t]))
        have em : DV.map (fun x => V.ref x.1) ++ [V.ref t] = (DV ++ [(t, c, eBnd r)]).map fun x => V.ref x.1 := by rw [List.map_append]; rfl
        rw [em] at f2
        refine ⟨_, rfl, sz_le (Nat.le_of_ble_eq_true rfl), fun e1 ne => ?_⟩
        rw [em] at ne ⊢
        have f3 := f2.new_imm (o := intsO [(fst : Int)]) ne
        refine ⟨_, rfl, sz_le (Nat.le_of_ble_eq_true rfl), fun x1 nx => ?_⟩
        have f4 := f3.new_imm (o := intsO [(fst : Int)]) nx
        refine ⟨sz_le (Nat.le_of_ble_eq_true rfl), fun t1 nt1 => ?_⟩
        have f5 := f4.new_imm (o := .tup [.ref e1, .ref x1]) nt1
        refine k _ t1 e1 x1 (DV ++ [(t, c, eBnd r)]) LK _ ⟨f5, fun x hx => ?_, fun x hx => .tail _ (.tail _ (.tail _ (.tail _ (jl x hx))))⟩ (fun z hz => .tail _ (.tail _ (.tail _ (.tail _ hz)))) (by rw [List.map_append]; rfl) rfl (.head _) (.tail _ (.tail _ (.head _))) (.tail _ (.head _))
        rcases List.mem_append.mp hx with hx | hx
        · exact .tail _ (.tail _ (.tail _ (.tail _ (jd x hx))))
        · rw [List.mem_singleton.mp hx]
          exact .tail _ (.tail _ (.tail _ (.head _)))
    · have z : c ∈ [40, 91] := by
        have z : ¬ (!decide (c ∈ [40, 91])) = true := z
        simp at z ⊢
        omega
      rw [if_pos z] at e
      refine ⟨sz_le (Nat.le_of_ble_eq_true rfl), fun e0 ne0 => ?_⟩
      have f1 := fr.new_imm (o := intsO []) ne0
      refine ⟨sz_le (Nat.le_of_ble_eq_true rfl), fun x0 nx0 => ?_⟩
      have f2 := f1.new_imm (o := intsO []) nx0
      refine ⟨_, rfl, c :: r, rfl, tl, fun H1 pl s1 npl hpl => ?_⟩
      have f3 := f2.add s1 npl hpl
      refine ⟨pl, rfl, ⟨_, SqL.of hpl⟩, ?_⟩
      let G : ESt → List Nat → Option ESt := fun s part => (lends n part s.2.1.length s.2.1 s.2.2).bind fun r => if eOk s = true ∧ eOk r = true ∧ part.length ≤ 1000 then some (ejoin c s r) else none
      have e : (lparts (c :: r)).foldl (fun o part => o.bind fun s => G s part) (some (([], []), DV.map (·.2), LK.map (·.2))) = some R := e
      refine for_list (xs := (lparts (c :: r)).map fun t => V.str (txS t)) (fun i σ H' => ∃ (s : ESt) (ea xa : Addr) (u7 u8 u9 u10 : Option V) (DV' : List (Addr × Nat × Nat)) (LK' : List (Addr × Int × Int)) (J' : List (Addr × HO)),
        ((lparts (c :: r)).take i).foldl (fun o part => o.bind fun s => G s part) (some (([], []), DV.map (·.2), LK.map (·.2))) = some s ∧
        σ = [some (.str (txS (c :: r))), some (.int (fst : Int)), some (.ref dv), some (.ref lk), none, some (.ref ea), some (.ref xa), u7, u8, u9, u10, none] ∧ EnF H0 H' dv lk DV' LK' J' ∧ DV'.map (·.2) = s.2.1 ∧ LK'.map (·.2) = s.2.2 ∧
        (ea, intsO s.1.1) ∈ J' ∧ (xa, intsO s.1.2) ∈ J' ∧ (pl, HO.lst ((lparts (c :: r)).map fun t => V.str (txS t))) ∈ J' ∧ ∀ z ∈ J, z ∈ J')
        ⟨_, e0, x0, none, none, none, none, DV, LK, _, rfl, rfl, ⟨f3, fun x hx => .tail _ (.tail _ (.tail _ (jd x hx))), fun x hx => .tail _ (.tail _ (.tail _ (jl x hx)))⟩, rfl, rfl, .tail _ (.tail _ (.head _)), .tail _ (.head _), .head _, fun z hz => .tail _ (.tail _ (.tail _ hz))⟩ ?_ ?_ ?_
      · rintro i σ H' _ ⟨s, ea, xa, u7, u8, u9, u10, DV', LK', J', _, _, ⟨g1, _, _⟩, _, _, _, _, m3, _⟩
        exact SqL.of (g1.got m3)
      · rintro i x σ H2 hx ⟨s, ea, xa, u7, u8, u9, u10, DV', LK', J', es, rfl, ⟨g1, g2, g3⟩, d1, d2, m1, m2, m3, m4⟩
        have hi := get_lt hx
        rw [List.length_map] at hi
        obtain ⟨part, hp⟩ := get_some hi
        obtain rfl : x = V.str (txS part) := Option.some.inj (hx.symm.trans (map_at hp))
        obtain ⟨s', es'⟩ := foldl_take e (i + 1)
        rw [take_snoc hp, List.foldl_append, es] at es'
        have es' : G s part = some s' := es'
        obtain ⟨rr, er, es'⟩ := Option.bind_eq_some_iff.mp es'
        by_cases ok : eOk s = true ∧ eOk rr = true ∧ part.length ≤ 1000
        case neg => rw [if_neg ok] at es'; cases es'
        rw [if_pos ok] at es'
        obtain ⟨ok1, ok2, ok3⟩ := ok
        have nxt : ((lparts (c :: r)).take (i + 1)).foldl (fun o part => o.bind fun s => G s part) (some (([], []), DV.map (·.2), LK.map (·.2))) = some (ejoin c s rr) := by
          rw [take_snoc hp, List.foldl_append, es, Option.some.inj es']
          show G s part = some s'
          show (lends n part s.2.1.length s.2.1 s.2.2).bind _ = _
          rw [er]
          show (if eOk s = true ∧ eOk rr = true ∧ part.length ≤ 1000 then some (ejoin c s rr) else none) = some s'
          rw [if_pos ⟨ok1, ok2, ok3⟩]
          exact es'
        simp only [eOk, Bool.and_eq_true, decide_eq_true_eq] at ok1 ok2
        obtain ⟨o1, o2, o3, o4⟩ := ok1
        obtain ⟨p1, p2, p3, p4⟩ := ok2
        have hdv : H2 dv = some (.lst (DV'.map fun x => V.ref x.1)) := g1.get (.head _)
        rw [← d1, ← d2] at er
        refine ⟨_, rfl, _, rfl, dv, _, rfl, .inl (SqL.of hdv), _, rfl, _, rfl, ?_⟩
        refine ⟨H0, part, (DV'.map (·.2)).length, dv, lk, DV', LK', J', rr, (by simp only [List.length_map]; rfl), ⟨g1, g2, g3⟩, ok3, er, fun H3 t e2 x2 DV2 LK2 J2 en sub q1 q2 mt me mx => ?_⟩
        obtain ⟨k1, k2, k3⟩ := en
        refine ⟨t, _, rfl, SqT.of' (k1.got mt), rfl, _, _, rfl, _, _, rfl, rfl, ?_⟩
        refine ⟨_, rfl, _, _, c, rfl, rfl, hz, h0, rfl, _, rfl, ite_ceq (d := 91) (fun y => ?_) (fun y => ?_)⟩
        · have ej : ejoin c s rr = ((s.1.1 ++ rr.1.1, s.1.2 ++ rr.1.2), rr.2.1, rr.2.2) := if_pos y
          refine ⟨_, rfl, _, rfl, ea, e2, _, _, rfl, rfl, k1.got (sub _ m1), k1.got me, sz_le (by rw [List.length_map, List.length_map]; omega), fun q nq => ?_⟩
          rw [← List.map_append] at *
          have k4 := k1.new_imm (o := intsO (s.1.1 ++ rr.1.1)) nq
          refine ⟨_, rfl, _, rfl, xa, x2, _, _, rfl, rfl, k4.got (.tail _ (sub _ m2)), k4.got (.tail _ mx), sz_le (by rw [List.length_map, List.length_map]; omega), fun q' nq' => ?_⟩
          rw [← List.map_append (f := V.int) (l₁ := s.1.2)]
          have k5 := k4.new_imm (o := intsO (s.1.2 ++ rr.1.2)) nq'
          refine ⟨_, q, q', _, _, _, _, DV2, LK2, _, nxt, rfl, ⟨k5, fun x hx => .tail _ (.tail _ (k2 x hx)), fun x hx => .tail _ (.tail _ (k3 x hx))⟩, ?_, ?_, ?_, ?_, .tail _ (.tail _ (sub _ m3)), fun z hz => .tail _ (.tail _ (sub _ (m4 z hz)))⟩
          · rw [ej]; exact q1
          · rw [ej]; exact q2
          · rw [ej]; exact .tail _ (.head _)
          · rw [ej]; exact .head _
        · have ej : ejoin c s rr = ((if s.1.1 = [] then rr.1.1 else s.1.1, rr.1.2), rr.2.1, rr.2.2 ++ s.1.2.flatMap fun o => rr.1.1.map fun t => (o, t)) := if_neg y
          refine ⟨_, rfl, xa, rfl, ⟨_, SqL.of (k1.got (sub _ m2))⟩, ?_⟩
          refine for_list (xs := s.1.2.map V.int) (fun j σ H' => ∃ (u10 : Option V) (LK3 : List (Addr × Int × Int)) (J3 : List (Addr × HO)), σ = [some (.str (txS (c :: r))), some (.int (fst : Int)), some (.ref dv), some (.ref lk), none, some (.ref ea), some (.ref xa), some (.str (txS part)), some (.ref e2), some (.ref x2), u10, none] ∧
            EnF H0 H' dv lk DV2 LK3 J3 ∧ LK3.map (·.2) = rr.2.2 ++ (s.1.2.take j).flatMap (fun o => rr.1.1.map fun t => (o, t)) ∧ LK3.length ≤ 1000 + j * 100 ∧ ∀ z ∈ J2, z ∈ J3)
            ⟨u10, LK2, J2, rfl, ⟨k1, k2, k3⟩, by rw [q2]; simp, by rw [← List.length_map (f := (·.2)), q2]; omega, fun z hz => hz⟩ (fun _ _ _ _ ⟨_, _, _, _, ⟨w1, _, _⟩, _, _, ss⟩ => SqL.of (w1.got (ss _ (sub _ m2)))) ?_ ?_
          · rintro j x σ H4 hx ⟨u10, LK3, J3, rfl, ⟨w1, w2, w3⟩, l3, l4, ss⟩
            have hj := get_lt hx
            rw [List.length_map] at hj
            obtain ⟨ov, hov⟩ := get_some hj
            obtain rfl : x = V.int ov := Option.some.inj (hx.symm.trans (map_at hov))
            have hlk : H4 lk = some (.lst (LK3.map fun x => V.ref x.1)) := w1.get (.tail _ (.head _))
            have he2 : H4 e2 = some (intsO rr.1.1) := w1.got (ss _ me)
            refine ⟨_, rfl, tyL hlk, _, rfl, e2, rfl, ⟨_, SqL.of he2⟩, fun D nD => ?_⟩
            refine lc_list (K := K) (a := e2) (xs := rr.1.1.map V.int) (fun i H' => PrsI H4 D ((rr.1.1.take i).map fun t => (ov, t)) H') ⟨Same.new nD, nD, [], upd_same, .nil⟩ (fun i H' _ u => SqL.of (u.same _ _ he2)) ?_ ?_
            · intro i x H' hx u
              have hi := get_lt hx
              rw [List.length_map] at hi
              obtain ⟨v, hv⟩ := get_some hi
              obtain rfl : x = V.int v := Option.some.inj (hx.symm.trans (map_at hv))
              refine ⟨rfl, _, rfl, _, rfl, sz_le (Nat.le_of_ble_eq_true rfl), fun t nt => ?_⟩
              obtain ⟨xs, e1, e2, e3⟩ := u.step (x := (ov, v)) nt (by rw [List.length_map, List.length_take]; omega)
              refine ⟨xs, e1, e2, ?_⟩
              rw [take_snoc hv, List.map_append]
              exact e3
            intro H5 u5
            rw [List.length_map, List.take_length] at u5
            obtain ⟨ds, hD, pd⟩ := u5.ex
            have ld := paired_len pd
            rw [List.length_map] at ld
            refine ⟨lk, D, _, _, rfl, rfl, u5.same _ _ hlk, hD, sz_le (by rw [List.length_map, List.length_map]; omega), ?_⟩
            have zp : ∀ {as : List Addr} {bs : List (Int × Int)}, Paired (fun d x => H5 d = some (pairO x)) as bs → (as.zip bs).map (·.1) = as ∧ (as.zip bs).map (·.2) = bs ∧ ∀ x ∈ as.zip bs, H5 x.1 = some (pairO x.2) := fun {as bs} pp => by
              induction pp with
              | nil => exact ⟨rfl, rfl, (by intro _ z; cases z)⟩
              | cons q _ ih =>
                refine ⟨by rw [List.zip_cons_cons, List.map_cons, ih.1], by rw [List.zip_cons_cons, List.map_cons, ih.2.1], fun x hx => ?_⟩
                rw [List.zip_cons_cons] at hx
                rcases List.mem_cons.mp hx with rfl | hx
                · exact q
                · exact ih.2.2 x hx
            obtain ⟨z1, z2, z3⟩ := zp pd
            generalize hNW : ds.zip (rr.1.1.map fun t => (ov, t)) = NW at z1 z2 z3
            have w4 := (w1.mono u5.same).addT (I2 := NW.map fun x => (x.1, pairO x.2)) (fun x hx => by
              rcases List.mem_cons.mp hx with rfl | hx
              · exact ⟨_, rfl⟩
              · rw [List.mem_singleton.mp hx]; exact ⟨_, rfl⟩) (fun x hx => by
              obtain ⟨z, hz, rfl⟩ := List.mem_map.mp hx
              exact ⟨z3 z hz, _, rfl⟩)
            have w5 := w4.set (L1 := [_]) (a := lk) (o' := .lst ((LK3 ++ NW).map fun x => V.ref x.1))
            have em : LK3.map (fun x => V.ref x.1) ++ ds.map V.ref = (LK3 ++ NW).map fun x => V.ref x.1 := by
              rw [List.map_append, ← z1, List.map_map]; rfl
            rw [em]
            refine ⟨_, LK3 ++ NW, _, rfl, ⟨w5, fun x hx => List.mem_append_right _ (w2 x hx), fun x hx => ?_⟩, ?_, ?_, fun z hz => List.mem_append_right _ (ss z hz)⟩
            · rcases List.mem_append.mp hx with hx | hx
              · exact List.mem_append_right _ (w3 x hx)
              · exact List.mem_append_left _ (List.mem_map_of_mem (f := fun x : Addr × Int × Int => (x.1, pairO x.2)) hx)
            · rw [List.map_append, l3, z2, take_snoc hov, List.flatMap_append, List.append_assoc]
              simp
            · have : NW.length = rr.1.1.length := by rw [← List.length_map (f := (·.2)) (as := NW), z2, List.length_map]
              rw [List.length_append]
              omega
          · rintro σ H4 ⟨u10, LK3, J3, rfl, ⟨w1, w2, w3⟩, l3, l4, ss⟩
            rw [List.length_map, List.take_length] at l3
            refine ⟨fun σ H' => ∃ ea', σ = [some (.str (txS (c :: r))), some (.int (fst : Int)), some (.ref dv), some (.ref lk), none, some (.ref ea'), some (.ref xa), some (.str (txS part)), some (.ref e2), some (.ref x2), u10, none] ∧ H' = H4 ∧ (ea', intsO (if s.1.1 = [] then rr.1.1 else s.1.1)) ∈ J3, ?_, ?_⟩
            · by_cases y1 : s.1.1 = []
              · rw [if_pos y1]
                have hea := w1.got (ss _ (sub _ m1))
                rw [y1] at hea
                refine ⟨_, rfl, _, .inl ⟨_, SqL.of hea, rfl⟩, iteT ?_⟩
                exact ⟨_, rfl, e2, rfl, rfl, ss _ me⟩
              · rw [if_neg y1]
                have hea := w1.got (ss _ (sub _ m1))
                refine ⟨_, rfl, true, .inl ⟨_, SqL.of hea, ?_⟩, iteF ⟨ea, rfl, rfl, ss _ (sub _ m1)⟩⟩
                cases hh : s.1.1 with
                | nil => exact absurd hh y1
                | cons _ _ => rfl
            · rintro σ H5 ⟨ea', rfl, rfl, mea⟩
              refine ⟨_, rfl, ?_⟩
              refine ⟨_, ea', x2, _, _, _, _, DV2, LK3, J3, nxt, rfl, ⟨w1, w2, w3⟩, ?_, ?_, ?_, ?_, ss _ (sub _ m3), fun z hz => ss _ (sub _ (m4 z hz))⟩
              · rw [ej]; exact q1
              · rw [ej]; exact l3
              · rw [ej]; exact mea
              · rw [ej]; exact ss _ mx
      · rintro σ H2 ⟨s, ea, xa, u7, u8, u9, u10, DV', LK', J', es, rfl, ⟨g1, g2, g3⟩, d1, d2, m1, m2, m3, m4⟩
        rw [List.length_map, List.take_length, e] at es
        obtain rfl := Option.some.inj es
        refine ⟨_, rfl, _, rfl, sz_le (Nat.le_of_ble_eq_true rfl), fun t nt => ?_⟩
        have g4 := g1.new_imm (o := .tup [.ref ea, .ref xa]) nt
        exact k _ t ea xa DV' LK' _ ⟨g4, fun x hx => .tail _ (g2 x hx), fun x hx => .tail _ (g3 x hx)⟩ (fun z hz => .tail _ (m4 z hz)) d1 d2 (.head _) (.tail _ m1) (.tail _ m2)
end
end K92

/-! K92W: the law's own plan and moves. -/
set_option Elab.async false
set_option linter.all false
set_option maxRecDepth 100000
set_option maxHeartbeats 4000000
set_option autoImplicit false
namespace K92
open PySem PySem.Spec PyProof.Rows L2
section
variable {P : Program} {w : World} {K : PySem.W.Frag} {mg : Str → Option Value} {base : Heap}
/-! ### the plan -/
structure PlanAt (H : Hp) (pl : Addr) (Y : Yd) : Prop where
  ex : ∃ (dv lk : Addr) (DV : List (Addr × Nat × Nat)) (xs : List V) (ls : List (Int × Int)), H pl = some (.tup [.ref dv, .ref lk]) ∧ H dv = some (.lst (DV.map fun x => V.ref x.1)) ∧ (∀ x ∈ DV, H x.1 = some (dvO x.2)) ∧ DV.map (·.2) = Y.kinds.zip Y.bounds ∧
    H lk = some (.lst xs) ∧ Paired (fun v l => ∃ t, v = V.ref t ∧ H t = some (pairO l)) xs ls ∧ (∀ l, l ∈ ls ↔ l ∈ Y.links) ∧ ls.length ≤ 100
theorem PlanAt.mono {H H' : Hp} {pl : Addr} {Y : Yd} (s : Same H H') (h : PlanAt H pl Y) : PlanAt H' pl Y := by
  obtain ⟨dv, lk, DV, xs, ls, h1, h2, h3, h4, h5, h6, h7⟩ := h.ex
  exact ⟨dv, lk, DV, xs, ls, s _ _ h1, s _ _ h2, fun x hx => s _ _ (h3 x hx), h4, s _ _ h5, Paired.mapP h6 fun _ _ ⟨t, e, q⟩ => ⟨t, e, s _ _ q⟩, h7⟩
def planL (r : ESt) : List (Int × Int) := r.2.2 ++ r.1.1.map (fun e => ((-1 : Int), e)) ++ r.1.2.map fun e => (e, (-1 : Int))
def txtP (t : List Nat) : Bool := match tParse t, lends 4 t 0 [] [] with
  | some Y, some r => decide (r.2.1 = Y.kinds.zip Y.bounds) && (planL r).all (fun l => decide (l ∈ Y.links)) && Y.links.all (fun l => decide (l ∈ planL r)) && decide ((planL r).length ≤ 100)
  | _, _ => false
theorem texts_pl : texts.all txtP = true := by decide +kernel
theorem text_plan {t : List Nat} {Y : Yd} (h : TxY t Y) : ∃ r, lends 4 t 0 [] [] = some r ∧ r.2.1 = Y.kinds.zip Y.bounds ∧ (∀ l, l ∈ planL r ↔ l ∈ Y.links) ∧ (planL r).length ≤ 100 := by
  have q := (List.all_eq_true.mp texts_pl) t h.mem
  unfold txtP at q
  rw [h.parse] at q
  cases e : lends 4 t 0 [] [] with
  | none => rw [e] at q; cases q
  | some r =>
    rw [e] at q
    have q : (decide (r.2.1 = Y.kinds.zip Y.bounds) && (planL r).all (fun l => decide (l ∈ Y.links)) && Y.links.all (fun l => decide (l ∈ planL r)) && decide ((planL r).length ≤ 100)) = true := q
    simp only [Bool.and_eq_true, decide_eq_true_eq, List.all_eq_true] at q
    obtain ⟨⟨⟨q1, q2⟩, q3⟩, q4⟩ := q
    exact ⟨r, rfl, q1, fun l => ⟨q2 l, q3 l⟩, q4⟩
def sp__law_plan (P : Program) (w : World) (T : TX K w mg) : Sp := fun vs H Q _ => ∃ (txt : List Nat) (Y : Yd), vs = [.str (txS txt)] ∧ TxY txt Y ∧ ∀ H' pl, Same H H' → PlanAt H' pl Y → (∀ a xs, H a = some (.lst xs) → PlanAt (rm a H') pl Y) → Q (.ref pl) H'
theorem prs_zip {H : Hp} {as : List Addr} {bs : List (Int × Int)} (pp : Paired (fun d x => H d = some (pairO x)) as bs) : Paired (fun v l => ∃ t, v = V.ref t ∧ H t = some (pairO l)) (as.map V.ref) bs := by
  induction pp with
  | nil => exact .nil
  | cons q _ ih => exact .cons ⟨_, rfl, q⟩ ih
theorem paired_app {α β : Type} {R : α → β → Prop} {as as' : List α} {bs bs' : List β} (h : Paired R as bs) (h' : Paired R as' bs') : Paired R (as ++ as') (bs ++ bs') := by
  induction h with
  | nil => exact h'
  | cons q _ ih => exact .cons q ih
theorem c__law_plan (T : TX K w mg) : C8.Cal P w K mg base 13 "_law_plan" (sp__law_plan P w T) [] := by
  obtain ⟨f, fd, F, b⟩ := T.fn__law_plan
  refine C8.cal0 F b .nil sc__law_plan (fun vs H Q E h => by obtain ⟨_, _, rfl, _⟩ := h; rfl) (fun cdv A outer s H vs Q E hr h => ?_)
  have hu := hu_of hr
  have nd := sc__law_plan.nd
  refine ⟨_, (pss_cons (ps_set (i := 1) nd rfl (Or.inl rfl) (pe_lst pa_nil))
      (pss_cons (ps_set (i := 2) nd rfl (Or.inl rfl) (pe_lst pa_nil))
      (pss_cons (ps_asg (C8.pe_c (c__law_ends T 4) hr (by decide) rfl (pa_cons (pv 0) (pa_cons pe_int (pa_cons (pv 1) (pa_cons (pv 2) pa_nil))))) (pg_tup (by rfl) (pgs_cons (pg_name (i := 3) nd rfl (Or.inl rfl)) (pgs_cons (pg_name (i := 4) nd rfl (Or.inl rfl)) pgs_nil))))
      (pss_one (ps_ret (pe_tup (pa_cons (pv 1) (pa_cons (pe_op op_cat (pe_op op_cat (pv 2) (pe_lc (own := [("_law_device_here", 5)]) rfl nd (pi_list (pv 3)) (blkOk_by (N := N__law_plan) (sc := C8.fnScope s__law_plan) (by decide +kernel)) (fun _ _ _ _ _ => (pg_name (i := 5) nd rfl (Or.inl rfl))) (fun _ _ _ _ _ => pts_nil) (fun _ _ _ _ _ => (pe_tup (pa_cons (pe_un un_neg pe_int) (pa_cons (pv 5) pa_nil)))))) (pe_lc (own := [("_law_device_here", 5)]) rfl nd (pi_list (pv 4)) (blkOk_by (N := N__law_plan) (sc := C8.fnScope s__law_plan) (by decide +kernel)) (fun _ _ _ _ _ => (pg_name (i := 5) nd rfl (Or.inl rfl))) (fun _ _ _ _ _ => pts_nil) (fun _ _ _ _ _ => (pe_tup (pa_cons (pv 5) (pa_cons (pe_un un_neg pe_int) pa_nil)))))) pa_nil)))))))), ?_⟩
  obtain ⟨txt, Y, rfl, ty, k⟩ := h
  obtain ⟨rr, er, e1, e2, e3⟩ := text_plan ty
  refine ⟨sz_le (Nat.le_of_ble_eq_true rfl), fun dv ndv => ?_⟩
  have f1 := (Fr.empty H).new_own (o := .lst []) ndv
  refine ⟨sz_le (Nat.le_of_ble_eq_true rfl), fun lk nlk => ?_⟩
  have f2 := (f1.new_own (o := .lst []) nlk).perm (List.Perm.swap ..)
  refine ⟨_, rfl, _, rfl, _, rfl, H, txt, 0, dv, lk, [], [], [], rr, rfl, ⟨f2, (by intro _ z; cases z), (by intro _ z; cases z)⟩, ty.sg.1, er, fun H1 t e x DV LK J ⟨f3, jd, jl⟩ _ d1 d2 mt me mx => ?_⟩
  refine ⟨t, _, rfl, SqT.of' (f3.got mt), rfl, _, _, rfl, _, _, rfl, rfl, ?_⟩
  have he := f3.got me
  have hx := f3.got mx
  have hdv : H1 dv = some (.lst (DV.map fun x => V.ref x.1)) := f3.get (.head _)
  have hlk : H1 lk = some (.lst (LK.map fun x => V.ref x.1)) := f3.get (.tail _ (.head _))
  have len : LK.length + rr.1.1.length + rr.1.2.length ≤ 100 := by
    have e4 := e3
    rw [planL, ← d2] at e4
    simp only [List.length_append, List.length_map] at e4
    omega
  refine ⟨_, rfl, _, rfl, _, rfl, e, rfl, ⟨_, SqL.of he⟩, fun D nD => ?_⟩
  refine lc_list (K := K) (a := e) (xs := rr.1.1.map V.int) (fun i H' => PrsI H1 D ((rr.1.1.take i).map fun e => ((-1 : Int), e)) H') ⟨Same.new nD, nD, [], upd_same, .nil⟩ (fun i H' _ u => SqL.of (u.same _ _ he)) ?_ ?_
  · intro i x H' hx u
    have hi := get_lt hx
    rw [List.length_map] at hi
    obtain ⟨v, hv⟩ := get_some hi
    obtain rfl : x = V.int v := Option.some.inj (hx.symm.trans (map_at hv))
    refine ⟨rfl, _, rfl, _, rfl, sz_le (Nat.le_of_ble_eq_true rfl), fun t nt => ?_⟩
    obtain ⟨xs, e1, e2, e3⟩ := u.step (x := ((-1 : Int), v)) nt (by rw [List.length_map, List.length_take]; omega)
    refine ⟨xs, e1, e2, ?_⟩
    rw [take_snoc hv, List.map_append]
    exact e3
  intro H3 u3
  rw [List.length_map, List.take_length] at u3
  obtain ⟨da, ha, pa⟩ := u3.ex
  have la := paired_len pa
  rw [List.length_map] at la
  refine ⟨lk, D, _, _, rfl, rfl, u3.same _ _ hlk, ha, sz_le (by rw [List.length_map, List.length_map]; omega), fun q nq => ?_⟩
  have s4 := Same.add u3.same nq (o := .lst (LK.map (fun x => V.ref x.1) ++ da.map V.ref))
  have hq4 : upd H3 q (.lst (LK.map (fun x => V.ref x.1) ++ da.map V.ref)) q = some (.lst (LK.map (fun x => V.ref x.1) ++ da.map V.ref)) := upd_same
  have pa4 := Paired.mapP pa fun _ _ z => (Same.new nq (o := .lst (LK.map (fun x => V.ref x.1) ++ da.map V.ref))) _ _ z
  refine ⟨_, rfl, x, rfl, ⟨_, SqL.of (s4 _ _ hx)⟩, fun D2 nD2 => ?_⟩
  refine lc_list (K := K) (a := x) (xs := rr.1.2.map V.int) (fun i H' => PrsI (upd H3 q (.lst (LK.map (fun x => V.ref x.1) ++ da.map V.ref))) D2 ((rr.1.2.take i).map fun e => (e, (-1 : Int))) H') ⟨Same.new nD2, nD2, [], upd_same, .nil⟩ (fun i H' _ u => SqL.of (u.same _ _ (s4 _ _ hx))) ?_ ?_
  · intro i x H' hx u
    have hi := get_lt hx
    rw [List.length_map] at hi
    obtain ⟨v, hv⟩ := get_some hi
    obtain rfl : x = V.int v := Option.some.inj (hx.symm.trans (map_at hv))
    refine ⟨rfl, _, rfl, _, rfl, sz_le (Nat.le_of_ble_eq_true rfl), fun t nt => ?_⟩
    obtain ⟨xs, e1, e2, e3⟩ := u.step (x := (v, (-1 : Int))) nt (by rw [List.length_map, List.length_take]; omega)
    refine ⟨xs, e1, e2, ?_⟩
    rw [take_snoc hv, List.map_append]
    exact e3
  intro H5 u5
  rw [List.length_map, List.take_length] at u5
  obtain ⟨db, hb, pb⟩ := u5.ex
  have lb := paired_len pb
  rw [List.length_map] at lb
  refine ⟨q, D2, _, _, rfl, rfl, u5.same _ _ hq4, hb, sz_le (by rw [List.length_append, List.length_map, List.length_map, List.length_map]; omega), fun q2 nq2 => ?_⟩
  have s6 := Same.trans s4 (Same.add u5.same nq2 (o := .lst ((LK.map (fun x => V.ref x.1) ++ da.map V.ref) ++ db.map V.ref)))
  refine ⟨sz_le (Nat.le_of_ble_eq_true rfl), fun pl npl => ?_⟩
  have s7 := Same.new npl (o := .tup [.ref dv, .ref q2])
  have s67 := Same.trans s6 s7
  have s57 := Same.trans (Same.new nq2 (o := .lst ((LK.map (fun x => V.ref x.1) ++ da.map V.ref) ++ db.map V.ref))) s7
  have all : ∀ G : Hp, G pl = some (.tup [.ref dv, .ref q2]) → G dv = some (.lst (DV.map fun x => V.ref x.1)) → G q2 = some (.lst ((LK.map (fun x => V.ref x.1) ++ da.map V.ref) ++ db.map V.ref)) →
      (∀ {b : Addr} {xs : List V}, upd (upd H5 q2 (.lst ((LK.map (fun x => V.ref x.1) ++ da.map V.ref) ++ db.map V.ref))) pl (.tup [.ref dv, .ref q2]) b = some (.tup xs) → G b = some (.tup xs)) → PlanAt G pl Y := fun G g1 g2 g3 tu => by
    have hLK : ∀ L : List (Addr × Int × Int), (∀ x ∈ L, H1 x.1 = some (pairO x.2)) → Paired (fun v l => ∃ t, v = V.ref t ∧ G t = some (pairO l)) (L.map fun x => V.ref x.1) (L.map (·.2)) := fun L => by
      induction L with
      | nil => intro _; exact .nil
      | cons a L ih => intro hh; exact .cons ⟨_, rfl, tu (s67 _ _ (hh a (.head _)))⟩ (ih fun x hx => hh x (.tail _ hx))
    refine ⟨dv, q2, DV, _, planL rr, g1, g2, fun x hx => tu (s67 _ _ (f3.got (jd x hx))), ?_, g3, ?_, e2, e3⟩
    · rw [d1, e1]
    · unfold planL
      rw [← d2]
      refine paired_app (paired_app (hLK LK fun x hx => f3.got (jl x hx)) ?_) ?_
      · exact prs_zip (Paired.mapP pa4 fun _ _ z => tu (s57 _ _ (u5.same _ _ z)))
      · exact prs_zip (Paired.mapP pb fun _ _ z => tu (s57 _ _ z))
  have sA := Same.trans f3.same s67
  refine k _ pl sA (all _ upd_same (s67 _ _ hdv) (s7 _ _ upd_same) fun z => z) fun a xs ha => ?_
  have nq20 : H q2 = none := Same.free (Same.trans f3.same (Same.trans s4 u5.same)) nq2
  have npl0 : H pl = none := Same.free (Same.trans f3.same s6) npl
  have dva : dv ≠ a := fun z => by rw [z, ha] at ndv; cases ndv
  have q2a : q2 ≠ a := fun z => by rw [z, ha] at nq20; cases nq20
  have pla : pl ≠ a := fun z => by rw [z, ha] at npl0; cases npl0
  refine all _ (rm_at upd_same pla) (rm_at (s67 _ _ hdv) dva) (rm_at (s7 _ _ upd_same) q2a) fun {b ys} z => rm_at z fun y => ?_
  rw [y, sA _ _ ha] at z
  cases z
def sp__law_first (P : Program) (w : World) (T : TX K w mg) : Sp := fun vs H Q _ => ∃ (pl : Addr) (Y : Yd), vs = [.ref pl] ∧ PlanAt H pl Y ∧ YOk Y ∧ ∀ H' q, Same H H' → SitAt H' q (first Y) → Q (.ref q) H'
theorem c__law_first (T : TX K w mg) : C8.Cal P w K mg base 1 "_law_first" (sp__law_first P w T) [] := by
  obtain ⟨f, fd, F, b⟩ := T.fn__law_first
  refine C8.cal0 F b .nil sc__law_first (fun vs H Q E h => by obtain ⟨_, _, rfl, _⟩ := h; rfl) (fun cdv A outer s H vs Q E hr h => ?_)
  have hu := hu_of hr
  have nd := sc__law_first.nd
  refine ⟨_, (pss_one (ps_ret (pe_tup (pa_cons pe_int (pa_cons (pe_callTy (call_tupleK (K := K) rfl) (by rfl) T.b_tuple boot_tuple_ (pa_cons (pe_lc (own := [("_law_device_here", 1)]) rfl nd (pi_list (pe_ix (ix_tupK (K := K) rfl) (pv 0) pe_int (fun _ _ => rfl))) (blkOk_by (N := N__law_first) (sc := C8.fnScope s__law_first) (by decide +kernel)) (fun _ _ _ _ _ => (pg_name (i := 1) nd rfl (Or.inl rfl))) (fun _ _ _ _ _ => pts_nil) (fun _ _ _ _ _ => (pe_tup pa_nil))) pa_nil)) (pa_cons (pe_tup pa_nil) pa_nil)))))), ?_⟩
  obtain ⟨p, Y, rfl, tr, ok, k⟩ := h
  obtain ⟨dv, lk, DV, xs, ls, h1, h2, h3, h4, h5⟩ := tr.ex
  have few := ok.few
  have dl : DV.length = Y.kinds.length := by
    have := congrArg List.length h4
    rw [List.length_map, List.length_zip, ok.len, Nat.min_self] at this
    exact this
  refine ⟨_, rfl, p, _, _, _, rfl, rfl, SqT.of' h1, rfl, dv, rfl, ⟨_, SqL.of h2⟩, fun D nD => ?_⟩
  refine lc_list (K := K) (a := dv) (xs := DV.map fun x => V.ref x.1) (fun i H' => Units H D i H') ⟨Same.new nD, nD, [], upd_same, .nil⟩ (fun i H' _ u => SqL.of (u.same _ _ h2)) ?_ ?_
  · intro i x H' hx u
    have hi := get_lt hx
    rw [List.length_map] at hi
    refine ⟨rfl, sz_le (Nat.le_of_ble_eq_true rfl), fun t nt => ?_⟩
    obtain ⟨acc, e1, e2, e3⟩ := u.step (R := fun t xs => Units H D (i + 1) (upd (upd H' t (.tup [])) D (.lst (xs ++ [.ref t])))) (Q := fun _ => True) (by omega) (fun _ _ _ _ _ z => z) t nt
    exact ⟨acc, e1, e2, e3⟩
  · intro H' u
    obtain ⟨ds, e1, e2⟩ := u.ex
    rw [List.length_map, dl, ← first_held] at e2
    refine ⟨D, _, rfl, .inl ⟨SqL.of e1, fun l nl => ⟨sz_le (Nat.le_of_ble_eq_true rfl), fun g ng => ⟨sz_le (Nat.le_of_ble_eq_true rfl), fun q nq => ?_⟩⟩⟩⟩
    have s1 := Same.new nl (o := .tup (ds.map V.ref))
    have s2 := Same.new ng (o := .tup [])
    have s3 := Same.new nq (o := .tup [.int 0, .ref l, .ref g])
    exact k _ q (Same.trans u.same (Same.trans s1 (Same.trans s2 s3))) ⟨l, g, ds, upd_same, s3 _ _ (s2 _ _ upd_same), TupsAt.mono (Same.trans s1 (Same.trans s2 s3)) e2, s3 _ _ upd_same⟩
end
end K92

/-! K92X: the law's own moves: moved. -/
set_option Elab.async false
set_option linter.all false
set_option maxRecDepth 100000
set_option maxHeartbeats 4000000
set_option autoImplicit false
namespace K92
open PySem PySem.Spec PyProof.Rows L2
section
variable {P : Program} {w : World} {K : PySem.W.Frag} {mg : Str → Option Value} {base : Heap}
theorem keepP {H : Hp} {D : Addr} {o : HO} {as : List Addr} {bs : List (List Int)} (p : Paired (fun a l => H a = some (.lst (l.map V.int))) as bs) : (∀ a ∈ as, a ≠ D) → Paired (fun b l => upd H D o b = some (.lst (l.map V.int))) as bs := by
  induction p with
  | nil => intro _; exact .nil
  | cons q r ih => intro kp; exact .cons (by rw [upd_ne (kp _ (.head _))]; exact q) (ih fun a m => kp a (.tail _ m))
theorem LL.put {H0 H : Hp} {D a' : Addr} {ls : List Addr} {L : List (List Int)} {i' : Nat} {l' : List Int} (h : LL H0 H D ls L) (e : H a' = some (.lst (l'.map V.int))) (n0 : H0 a' = none) (n1 : a' ∉ ls) (n2 : a' ≠ D) : LL H0 (upd H D (.lst ((ls.set i' a').map V.ref))) D (ls.set i' a') (L.set i' l') := by
  have mem : ∀ {a : Addr} {as : List Addr} {i : Nat}, a ∈ as.set i a' → a ∈ as ∨ a = a' := fun {a as i} m => by
    rcases List.mem_or_eq_of_mem_set m with h | h
    · exact .inl h
    · exact .inr h
  refine ⟨upd_same, h.new, ?_, ?_, fun a m => ?_⟩
  · have go : ∀ {as : List Addr} {bs : List (List Int)} {i : Nat}, (∀ a ∈ as, a ≠ D) → Paired (fun a l => H a = some (.lst (l.map V.int))) as bs → Paired (fun b l => upd H D (.lst ((ls.set i' a').map V.ref)) b = some (.lst (l.map V.int))) (as.set i a') (bs.set i l') := by
      intro as bs i kp p
      induction p generalizing i with
      | nil => exact .nil
      | cons q r ih =>
        cases i with
        | zero => exact .cons (by rw [upd_ne n2]; exact e) (keepP r fun a m => kp a (.tail _ m))
        | succ i => exact .cons (by rw [upd_ne (kp _ (.head _))]; exact q) (ih fun a m => kp a (.tail _ m))
    exact go (fun a m => (h.out a m).2) h.each
  · have gd : ∀ {as : List Addr} {i : Nat}, as.Nodup → a' ∉ as → (as.set i a').Nodup := by
      intro as
      induction as with
      | nil => intro i _ _; exact List.nodup_nil
      | cons x as ih =>
        intro i nd nm
        obtain ⟨q1, q2⟩ := List.nodup_cons.mp nd
        cases i with
        | zero => exact List.nodup_cons.mpr ⟨fun m => nm (.tail _ m), q2⟩
        | succ i =>
          refine List.nodup_cons.mpr ⟨fun m => ?_, ih q2 fun m => nm (.tail _ m)⟩
          rcases mem m with m | m
          · exact q1 m
          · exact nm (by rw [← m]; exact .head _)
    exact gd h.nd n1
  · rcases mem m with m | rfl
    · exact h.out a m
    · exact ⟨n0, n2⟩
theorem rd_notIn {H : Hp} {lk b : Addr} {xs : List V} {ls : List (Int × Int)} {l : Int × Int} {Q : VK} (h1 : H lk = some (.lst xs)) (hp : Paired (fun v l => ∃ t, v = V.ref t ∧ H t = some (pairO l)) xs ls) (hb : H b = some (pairO l)) (k : Q (.bl (!decide (l ∈ ls))) H) : rNotInD K (.ref b) (.ref lk) H Q := by
  have e : ∀ a b : Int × Int, PyData.eqv (tupD [a.1, a.2]) (tupD [b.1, b.2]) = decide (a = b) := fun a b => by
    show PyData.eqvAll ([a.1, a.2].map PyData.int) ([b.1, b.2].map PyData.int) = _
    rw [eqvAll_ints]
    by_cases z : a = b
    · rw [z]; simp
    · have : ¬ [a.1, a.2] = [b.1, b.2] := fun q => z (by simp at q; exact Prod.ext q.1 q.2)
      rw [decide_eq_false this, decide_eq_false z]
  refine ⟨tupD [l.1, l.2], ls.map fun l => tupD [l.1, l.2], dp_tup (l := [l.1, l.2]) hb, .lst (SqL.of h1) ?_, ?_, ?_, ?_⟩
  · clear k h1
    induction hp with
    | nil => exact .nil
    | cons q _ ih => obtain ⟨t, rfl, q⟩ := q; exact .cons (dp_tup (l := [_, _]) q) ih
  · unfold SeqAt.shaped
    rw [depth_tup]
    show (PyData.canLayAll0 ([l.1, l.2].map PyData.int) && true) = true
    rw [canLay_ints]; rfl
  · unfold SeqAt.shaped
    have d1 : ∀ A : List (Int × Int), PyData.depthAll (A.map fun l => tupD [l.1, l.2]) ≤ 1 := fun A => by
      induction A with
      | nil => simp [PyData.depthAll]
      | cons a A ih =>
        show PyData.depthAll (tupD [a.1, a.2] :: A.map fun l => tupD [l.1, l.2]) ≤ 1
        rw [PyData.depthAll, depth_tup]
        omega
    have d2 : ∀ A : List (Int × Int), PyData.canLayAll0 (A.map fun l => tupD [l.1, l.2]) = true := fun A => by
      induction A with
      | nil => rfl
      | cons a A ih =>
        show (PyData.canLayAll0 ([a.1, a.2].map PyData.int) && PyData.canLayAll0 (A.map fun l => tupD [l.1, l.2])) = true
        rw [canLay_ints, ih]; rfl
    have d3 : (PyData.list (ls.map fun l => tupD [l.1, l.2])).depth ≤ 64 := by
      rw [PyData.depth]
      have := d1 ls
      omega
    rw [decide_eq_true d3]
    show (PyData.canLayAll0 (ls.map fun l => tupD [l.1, l.2]) && true) = true
    rw [d2]; rfl
  · have : ((ls.map fun l => tupD [l.1, l.2]).any fun z => PyData.eqv z (tupD [l.1, l.2])) = decide (l ∈ ls) := by
      rw [List.any_map]
      clear k h1 hp
      induction ls with
      | nil => rfl
      | cons a ls ih =>
        rw [List.any_cons]
        rw [ih]
        show (PyData.eqv (tupD [a.1, a.2]) (tupD [l.1, l.2]) || decide (l ∈ ls)) = _
        rw [e]
        by_cases z : a = l
        · subst z; simp
        · have : ¬ l = a := fun q => z q.symm
          simp [z, this]
    rw [this]
    exact k
/-- the table of the law's ends -/
def lawD (a b c d e : Addr) : List (Key × V) := [(.inr "s", .ref a), (.inr "q", .ref b), (.inr "d", .ref c), (.inr "i", .ref d), (.inr "o", .ref e)]
theorem lawD_get {H : Hp} {a b c d e : Addr} {f : Nat → List Int} (h1 : H a = some (intsO (f 115))) (h2 : H b = some (intsO (f 113))) (h3 : H c = some (intsO (f 100))) (h4 : H d = some (intsO (f 105))) (h5 : H e = some (intsO (f 111))) {k : Nat} (hk : k ∈ letters) :
    ∃ z, valV (lawD a b c d e) (.inr (ch k)) = some (.ref z) ∧ H z = some (intsO (f k)) := by
  simp only [letters, List.mem_cons, List.not_mem_nil, or_false] at hk
  rcases hk with rfl | rfl | rfl | rfl | rfl
  · exact ⟨a, rfl, h1⟩
  · exact ⟨b, rfl, h2⟩
  · exact ⟨c, rfl, h3⟩
  · exact ⟨d, rfl, h4⟩
  · exact ⟨e, rfl, h5⟩
theorem asg_of {te : TE} {g : TG} {D : Ends} {σ : L2.St} {H : Hp} (h : te σ H fun x H1 => g x σ H1 D.nx) : tAsg te g D σ H := h
theorem disp5 {σ : L2.St} {H : Hp} {Q : VK} {t1 t2 t3 t4 t5 : TE} {l1 l2 l3 l4 l5 : List Int} (e1 : ∀ H Q, (∀ a, H a = none → Q (.ref a) (upd H a (intsO l1))) → t1 σ H Q) (e2 : ∀ H Q, (∀ a, H a = none → Q (.ref a) (upd H a (intsO l2))) → t2 σ H Q)
    (e3 : ∀ H Q, (∀ a, H a = none → Q (.ref a) (upd H a (intsO l3))) → t3 σ H Q) (e4 : ∀ H Q, (∀ a, H a = none → Q (.ref a) (upd H a (intsO l4))) → t4 σ H Q) (e5 : ∀ H Q, (∀ a, H a = none → Q (.ref a) (upd H a (intsO l5))) → t5 σ H Q)
    (k : ∀ G p a b c d e, Same H G → G p = some (.dK (lawD a b c d e)) → G a = some (intsO l1) → G b = some (intsO l2) → G c = some (intsO l3) → G d = some (intsO l4) → G e = some (intsO l5) → Q (.ref p) G) :
    tDisp [(tC (.str "s"), t1), (tC (.str "q"), t2), (tC (.str "d"), t3), (tC (.str "i"), t4), (tC (.str "o"), t5)] σ H Q := by
  intro p np
  refine e1 _ _ fun a na => e2 _ _ fun b nb => e3 _ _ fun c nc => e4 _ _ fun d nd => e5 _ _ fun e ne => ?_
  have s1 := Same.new na (o := intsO l1)
  have s2 := Same.new nb (o := intsO l2)
  have s3 := Same.new nc (o := intsO l3)
  have s4 := Same.new nd (o := intsO l4)
  have s5 := Same.new ne (o := intsO l5)
  have s15 := Same.trans s1 (Same.trans s2 (Same.trans s3 (Same.trans s4 s5)))
  have hp0 : upd H p (.dK []) p = some (.dK []) := upd_same
  have hp := s15 _ _ hp0
  refine ⟨hp, lawD a b c d e, rfl, by show 5 ≤ 15; decide, ?_⟩
  have kp : ∀ {z : Addr} {l : List Int} {x : HO}, (upd (upd (upd (upd (upd (upd H p (.dK [])) a (intsO l1)) b (intsO l2)) c (intsO l3)) d (intsO l4)) e (intsO l5)) z = some (intsO l) → upd (upd (upd (upd (upd (upd (upd H p (.dK [])) a (intsO l1)) b (intsO l2)) c (intsO l3)) d (intsO l4)) e (intsO l5)) p x z = some (intsO l) := fun q => lock_at hp q (by intro y; cases y)
  refine k _ p a b c d e (Same.mut (Same.trans (Same.new np) s15) np) upd_same (kp ?_) (kp ?_) (kp ?_) (kp ?_) (kp upd_same)
  · exact (Same.trans s2 (Same.trans s3 (Same.trans s4 s5))) _ _ upd_same
  · exact (Same.trans s3 (Same.trans s4 s5)) _ _ upd_same
  · exact (Same.trans s4 s5) _ _ upd_same
  · exact s5 _ _ upd_same
theorem pop_law {e : Int} {l : List Int} (he : e = 0 ∨ e = 1) (hl : l ≠ []) : ∃ w l', popEnd e l = some (w, l') ∧ atI (l.map V.int) (0 - e) = some (.int w) ∧ cutV (l.map V.int) (some (1 - e)) (some ((((l.map V.int).length : Nat) : Int) - e)) = l'.map V.int := by
  rcases he with rfl | rfl
  · cases l with
    | nil => exact absurd rfl hl
    | cons x l =>
      refine ⟨x, l, rfl, at_int (s := 0) (by decide) rfl, ?_⟩
      unfold cutV
      rw [show ((1 : Int) - 0) = ((1 : Nat) : Int) from rfl, show ((((x :: l).map V.int).length : Nat) : Int) - 0 = ((((x :: l).map V.int).length : Nat) : Int) by omega, HT.sIx_nat, HT.sIx_nat]
      simp
      exact List.take_of_length_le (by simp)
  · obtain ⟨x, hx⟩ : ∃ x, l.getLast? = some x := by
      cases h : l.getLast? with
      | none => exact absurd (List.getLast?_eq_none_iff.mp h) hl
      | some x => exact ⟨x, rfl⟩
    have hn : 0 < l.length := List.length_pos_iff.mpr hl
    refine ⟨x, l.dropLast, ?_, ?_, ?_⟩
    · unfold popEnd; rw [if_neg (by decide), hx]; rfl
    · refine at_neg1 ?_
      rw [List.length_map]
      exact map_at (by rw [← List.getLast?_eq_getElem?]; exact hx)
    · unfold cutV
      rw [show ((1 : Int) - 1) = ((0 : Nat) : Int) from rfl, show (((l.map V.int).length : Nat) : Int) - 1 = ((l.length - 1 : Nat) : Int) by rw [List.length_map]; omega, HT.sIx_nat, HT.sIx_nat, List.length_map, Nat.min_eq_left (by omega), Nat.min_eq_left (by omega), List.drop_zero, Nat.sub_zero, ← List.map_take, List.dropLast_eq_take]
def sp__law_moved (P : Program) (w : World) (T : TX K w mg) : Sp := fun vs H Q _ => ∃ (pl r q mv : Addr) (Y : Yd) (row : List Int) (S : Sit) (m : Move), vs = [.ref pl, .ref r, .ref q, .ref mv] ∧ PlanAt H pl Y ∧ RowAt H r row ∧ SitAt H q S ∧ MoveAt H mv m ∧ YOk Y ∧ WFS Y row S ∧
  (∀ H', Same H H' → made Y row S m = none → Q .non H') ∧ (∀ H' q' S', Same H H' → made Y row S m = some S' → SitAt H' q' S' → Q (.ref q') H')
theorem PlanAt.dev {H : Hp} {pl : Addr} {Y : Yd} (ok : YOk Y) {dv : Addr} {DV : List (Addr × Nat × Nat)} (h4 : DV.map (·.2) = Y.kinds.zip Y.bounds) (h3 : ∀ x ∈ DV, H x.1 = some (dvO x.2)) {i c b : Nat} (hc : Y.kinds[i]? = some c) (hb : Y.bounds[i]? = some b) :
    ∃ a, (DV.map fun x => V.ref x.1)[i]? = some (V.ref a) ∧ H a = some (dvO (c, b)) := by
  have z : (Y.kinds.zip Y.bounds)[i]? = some (c, b) := by rw [List.getElem?_zip_eq_some]; exact ⟨hc, hb⟩
  rw [← h4, List.getElem?_map] at z
  cases e : DV[i]? with
  | none => rw [e] at z; cases z
  | some x =>
    rw [e] at z
    have z : some x.2 = some (c, b) := z
    have q := h3 x (List.mem_of_getElem? e)
    rw [Option.some.inj z] at q
    exact ⟨x.1, map_at e, q⟩
theorem c__law_moved (T : TX K w mg) : C8.Cal P w K mg base 1 "_law_moved" (sp__law_moved P w T) [] := by
  obtain ⟨f, fd, F, b⟩ := T.fn__law_moved
  refine C8.cal0 F b .nil sc__law_moved (fun vs H Q E h => by obtain ⟨_, _, _, _, _, _, _, _, rfl, _⟩ := h; rfl) (fun cdv A outer s H vs Q E hr h => ?_)
  have hu := hu_of hr
  have nd := sc__law_moved.nd
  refine ⟨_, (pss_cons (ps_asg (pv 2) (pg_tup (by rfl) (pgs_cons (pg_name (i := 4) nd rfl (Or.inl rfl)) (pgs_cons (pg_name (i := 5) nd rfl (Or.inl rfl)) (pgs_cons (pg_name (i := 6) nd rfl (Or.inl rfl)) pgs_nil)))))
      (pss_cons (ps_asg (pv 3) (pg_tup (by rfl) (pgs_cons (pg_name (i := 7) nd rfl (Or.inl rfl)) (pgs_cons (pg_name (i := 8) nd rfl (Or.inl rfl)) (pgs_cons (pg_name (i := 9) nd rfl (Or.inl rfl)) (pgs_cons (pg_name (i := 10) nd rfl (Or.inl rfl)) pgs_nil))))))
      (pss_cons (ps_if (pt_cmpR (op_notInD (ru65 hr)) (pe_tup (pa_cons (pv 7) (pa_cons (pv 9) pa_nil))) (pe_ix (ix_tupK (K := K) rfl) (pv 0) pe_int (fun _ _ => rfl)) (by rfl)) (pss_one (ps_ret pe_non)) pss_nil)
      (pss_cons (ps_setLc (own := [("_law_inside", 17)]) (i := 11) rfl nd rfl rfl (sw_true rfl rfl rfl (by decide +kernel)) (pi_tup (pv 5)) (blkOk_by (N := N__law_moved) (sc := C8.fnScope s__law_moved) (by decide +kernel)) (fun _ _ _ _ _ => (pg_name (i := 17) nd rfl (Or.inl rfl))) (fun _ _ _ _ _ => pts_nil) (fun _ _ _ _ _ => (pe_callTy (call_listK (K := K) rfl) (by rfl) T.b_list boot_list_ (pa_cons (pv 17) pa_nil))))
      (C8.pss_cut (ps_if (pt_cmpR op_lt (pv 7) pe_int (nomark _)) (pss_cons (ps_if (PW.pt (pw_or (pt_cmpR op_ne (pv 8) pe_int (nomark _)) (pw_or1 (pt_cmpR op_eq (pv 4) (pe_callB (call_lenK (K := K) rfl) (by rfl) T.b_len PySem.boot_len (pa_cons (pv 1) pa_nil)) (nomark _))))) (pss_one (ps_ret pe_non)) pss_nil)
      (pss_cons (ps_set (i := 12) nd rfl (Or.inl rfl) (pe_ix (ix_listK (K := K) rfl) (pv 1) (pv 4) (fun _ _ => rfl)))
      (pss_one (ps_set (i := 4) nd rfl (Or.inl rfl) (pe_op op_add (pv 4) pe_int))))) (pss_cons (ps_set (i := 13) nd rfl (Or.inl rfl) (pe_disp (pps_cons pe_str (pe_lst (pa_cons pe_int pa_nil)) (pps_cons pe_str (pe_lst (pa_cons pe_int pa_nil)) (pps_cons pe_str (pe_lst (pa_cons pe_int (pa_cons pe_int pa_nil))) (pps_cons pe_str (pe_lst (pa_cons pe_int (pa_cons pe_int pa_nil))) (pps_cons pe_str (pe_lst (pa_cons pe_int pa_nil)) pps_nil))))) (by rfl) (by rfl) (fun z => by cases z) (by decide)))
      (pss_cons (ps_if (PW.pt (pw_or (pt_cmpR op_notIn_seq (pv 8) (pe_dget hu (pv 13) (pe_ix (ix_tupK (K := K) rfl) (pe_ix (ix_listK (K := K) rfl) (pe_ix (ix_tupK (K := K) rfl) (pv 0) pe_int (fun _ _ => rfl)) (pv 7) (fun _ _ => rfl)) pe_int (fun _ _ => rfl)) (fun _ _ => rfl)) (by rfl)) (pw_or1 (pt_not (pt_truth (pe_ix (ix_listK (K := K) rfl) (pv 11) (pv 7) (fun _ _ => rfl)) (by intro _; rfl)))))) (pss_one (ps_ret pe_non)) pss_nil)
      (pss_cons (ps_set (i := 12) nd rfl (Or.inl rfl) (pe_ix (ix_listK (K := K) rfl) (pe_ix (ix_listK (K := K) rfl) (pv 11) (pv 7) (fun _ _ => rfl)) (pe_op op_sub pe_int (pv 8)) (fun _ _ => rfl)))
      (pss_one (ps_asg (pe_slice sl_list (pe_ix (ix_listK (K := K) rfl) (pv 11) (pv 7) (fun _ _ => rfl)) (po_some (pe_op op_sub pe_int (pv 8))) (po_some (pe_op op_sub (pe_callB (call_lenK (K := K) rfl) (by rfl) T.b_len PySem.boot_len (pa_cons (pe_ix (ix_listK (K := K) rfl) (pv 11) (pv 7) (fun _ _ => rfl)) pa_nil)) (pv 8)))) (pg_sub (pv 11) (pv 7) set_list)))))))
      (pss_cons (ps_if (pt_cmpR op_lt (pv 9) pe_int (nomark _)) (pss_cons (ps_if (pt_cmpR op_ne (pv 10) pe_int (nomark _)) (pss_one (ps_ret pe_non)) pss_nil)
      (pss_one (ps_ret (pe_tup (pa_cons (pv 4) (pa_cons (pe_callTy (call_tupleK (K := K) rfl) (by rfl) T.b_tuple boot_tuple_ (pa_cons (pe_lc (own := [("_law_inside", 17)]) rfl nd (pi_list (pv 11)) (blkOk_by (N := N__law_moved) (sc := C8.fnScope s__law_moved) (by decide +kernel)) (fun _ _ _ _ _ => (pg_name (i := 17) nd rfl (Or.inl rfl))) (fun _ _ _ _ _ => pts_nil) (fun _ _ _ _ _ => (pe_callTy (call_tupleK (K := K) rfl) (by rfl) T.b_tuple boot_tuple_ (pa_cons (pv 17) pa_nil)))) pa_nil)) (pa_cons (pe_op op_catA (pv 6) (pe_tup (pa_cons (pv 12) pa_nil))) pa_nil))))))) pss_nil)
      (pss_cons (ps_set (i := 14) nd rfl (Or.inl rfl) (pe_disp (pps_cons pe_str (pe_lst (pa_cons pe_int pa_nil)) (pps_cons pe_str (pe_lst (pa_cons pe_int pa_nil)) (pps_cons pe_str (pe_lst (pa_cons pe_int (pa_cons pe_int pa_nil))) (pps_cons pe_str (pe_lst (pa_cons pe_int pa_nil)) (pps_cons pe_str (pe_lst (pa_cons pe_int (pa_cons pe_int pa_nil))) pps_nil))))) (by rfl) (by rfl) (fun z => by cases z) (by decide)))
      (pss_cons (ps_asg (pe_ix (ix_listK (K := K) rfl) (pe_ix (ix_tupK (K := K) rfl) (pv 0) pe_int (fun _ _ => rfl)) (pv 9) (fun _ _ => rfl)) (pg_tup (by rfl) (pgs_cons (pg_name (i := 15) nd rfl (Or.inl rfl)) (pgs_cons (pg_name (i := 16) nd rfl (Or.inl rfl)) pgs_nil))))
      (pss_cons (ps_if (PW.pt (pw_or (pt_cmpR op_notIn_seq (pv 10) (pe_dget hu (pv 14) (pv 15) (fun _ _ => rfl)) (by rfl)) (pw_or1 (pt_chain op_lt op_le pe_int (pv 16) (pe_callB (call_lenK (K := K) rfl) (by rfl) T.b_len PySem.boot_len (pa_cons (pe_ix (ix_tupK (K := K) rfl) (pv 5) (pv 9) (fun _ _ => rfl)) pa_nil)))))) (pss_one (ps_ret pe_non)) pss_nil)
      (C8.pss_cut (ps_if (pt_cmpR op_eq (pv 10) pe_int (nomark _)) (pss_one (ps_asg (pe_op op_cat (pe_lst (pa_cons (pv 12) pa_nil)) (pe_ix (ix_listK (K := K) rfl) (pv 11) (pv 9) (fun _ _ => rfl))) (pg_sub (pv 11) (pv 9) set_list))) (pss_one (ps_asg (pe_op op_cat (pe_ix (ix_listK (K := K) rfl) (pv 11) (pv 9) (fun _ _ => rfl)) (pe_lst (pa_cons (pv 12) pa_nil))) (pg_sub (pv 11) (pv 9) set_list))))
      (pss_one (ps_ret (pe_tup (pa_cons (pv 4) (pa_cons (pe_callTy (call_tupleK (K := K) rfl) (by rfl) T.b_tuple boot_tuple_ (pa_cons (pe_lc (own := [("_law_inside", 17)]) rfl nd (pi_list (pv 11)) (blkOk_by (N := N__law_moved) (sc := C8.fnScope s__law_moved) (by decide +kernel)) (fun _ _ _ _ _ => (pg_name (i := 17) nd rfl (Or.inl rfl))) (fun _ _ _ _ _ => pts_nil) (fun _ _ _ _ _ => (pe_callTy (call_tupleK (K := K) rfl) (by rfl) T.b_tuple boot_tuple_ (pa_cons (pv 17) pa_nil)))) pa_nil)) (pa_cons (pv 6) pa_nil)))))))))))))))), ?_⟩
  obtain ⟨pl, r, q, mv, Y, row, S, m, rfl, pa, ra, sa, ma, ok, wf, k0, k1⟩ := h
  obtain ⟨dv, lk, DV, xs, lks, h1, h2, h3, h4, h5, h6, h7, h8⟩ := pa.ex
  obtain ⟨hd, gn, ds, g1, g2, g3, g4⟩ := sa.ex
  obtain ⟨s, se, t, te⟩ := m
  refine ⟨_, rfl, q, _, rfl, SqT.of' g1, rfl, _, _, rfl, _, _, rfl, _, _, rfl, rfl, ?_⟩
  refine ⟨_, rfl, mv, _, rfl, SqT.of' ma, rfl, _, _, rfl, _, _, rfl, _, _, rfl, _, _, rfl, rfl, ?_⟩
  refine ⟨_, rfl, _, rfl, sz_le (Nat.le_of_ble_eq_true rfl), fun b nb => ?_⟩
  have s1 : Same H (upd H b (.tup [.int s, .int t])) := Same.new nb
  refine ⟨_, rfl, pl, _, _, _, rfl, rfl, SqT.of' (s1 _ _ h1), rfl, rd_notIn (l := (s, t)) (s1 _ _ h5) (Paired.mapP h6 fun _ _ ⟨t, e, q⟩ => ⟨t, e, s1 _ _ q⟩) upd_same ⟨_, rfl, ite2 (fun z => ?_) (fun z => ?_)⟩⟩
  · refine k0 _ s1 ?_
    have hl : (s, t) ∉ Y.links := fun y => by
      have := (h7 _).mpr y
      simp [this] at z
    unfold made
    exact if_neg hl
  have hl : (s, t) ∈ Y.links := (h7 _).mp (by simpa using z)
  obtain ⟨b1, b2, b3, b4⟩ := ok.lnk _ hl
  have few : S.held.length ≤ 8 := by rw [wf.held]; exact ok.few
  show tAsg (tLc (iTup K (tVar 5)) (gName 17) tYes (tCB (rListOf K) (tCons (tVar 17) tNil)) [17]) (gName 11) _ _ _
  refine asg_of ?_
  refine rd_lists (i := 5) (j := 17) (by rfl) (by intro _; rfl) (by intro _; rfl) (s1 _ _ g2) (g3.mono s1) (by omega) (fun H2 D ls s2 ll2 => ?_)
  have s2' : Same H H2 := Same.trans s1 s2
  have ll3 : LL H H2 D ls S.held := ⟨ll2.top, Same.free s1 ll2.new, ll2.each, ll2.nd, fun a m => ⟨Same.free s1 (ll2.out a m).1, (ll2.out a m).2⟩⟩
  have nD0 : H D = none := Same.free s1 ll2.new
  refine ⟨fun σ' H' => ∃ (wg : Int) (S1 : Sit) (ls' : List Addr) (u13 : Option V), src Y row S s se = some (wg, S1) ∧ σ' = [some (.ref pl), some (.ref r), some (.ref q), some (.ref mv), some (.int S1.came), some (.ref hd), some (.ref gn), some (.int s), some (.int se), some (.int t), some (.int te), some (.ref D), some (.int wg), u13, none, none, none, none] ∧ Same H H' ∧ LL H H' D ls' S1.held, ?_, ?_⟩
  · refine ⟨_, rfl, _, _, rfl, rfl, _, rfl, ?_⟩
    refine ite2 (fun z => ?_) (fun z => ?_)
    · have hs : s < 0 := of_decide_eq_true z
      have sn : ∀ e, src Y row S s se = none → made Y row S (s, se, e, te) = none := fun e h => by unfold made; split; rw [show src Y row S (s, se, e, te).1 (s, se, e, te).2.1 = none from h]; rfl; rfl
      refine ⟨_, rfl, rfl, _, rfl, ite_ne (fun z => ?_) (fun z => ?_)⟩
      · exact iteT (k0 _ s2' (sn _ (by unfold src; rw [if_pos hs, if_neg z])))
      refine ⟨_, rfl, _, rfl, r, _, rfl, .inl (SqL.of (s2' _ _ ra)), rfl, _, rfl, ite_eq (fun y => ?_) (fun y => ?_)⟩
      · rw [List.length_map] at y
        exact k0 _ s2' (sn _ (by unfold src; rw [if_pos hs, if_pos z, List.getElem?_eq_none (by omega)]; rfl))
      rw [List.length_map] at y
      have wc := wf.came
      obtain ⟨wg, hw⟩ := get_some (L := row) (i := S.came) (by omega)
      refine ⟨_, rfl, _, rfl, r, _, _, _, rfl, rfl, SqL.of (s2' _ _ ra), atI_nat (map_at hw), ?_⟩
      refine ⟨_, rfl, _, _, rfl, rfl, ?_⟩
      exact ⟨wg, { S with came := S.came + 1 }, ls, _, by unfold src; rw [if_pos hs, if_pos z, hw]; rfl, rfl, s2', ll3⟩
    · have hs : ¬ s < 0 := fun y => z (decide_eq_true y)
      have sn : ∀ e, src Y row S s se = none → made Y row S (s, se, e, te) = none := fun e h => by unfold made; split; rw [show src Y row S (s, se, e, te).1 (s, se, e, te).2.1 = none from h]; rfl; rfl
      have h0 : 0 ≤ s := by omega
      have h0' : s.toNat < Y.kinds.length := by have : s < (Y.kinds.length : Int) := b2; omega
      obtain ⟨c, hc⟩ := get_some (L := Y.kinds) (i := s.toNat) h0'
      obtain ⟨bd, hb⟩ := get_some (L := Y.bounds) (i := s.toNat) (by rw [ok.len]; exact h0')
      obtain ⟨da, hda, hdv⟩ := PlanAt.dev (pl := pl) (dv := dv) ok h4 h3 hc hb
      show tAsg (tDisp _) (gName 13) _ _ _
      refine asg_of ?_
      refine disp5 (l1 := [1]) (l2 := [0]) (l3 := [0, 1]) (l4 := [0, 1]) (l5 := [1]) (fun H Q h => ⟨sz_le (Nat.le_of_ble_eq_true rfl), h⟩) (fun H Q h => ⟨sz_le (Nat.le_of_ble_eq_true rfl), h⟩) (fun H Q h => ⟨sz_le (Nat.le_of_ble_eq_true rfl), h⟩) (fun H Q h => ⟨sz_le (Nat.le_of_ble_eq_true rfl), h⟩) (fun H Q h => ⟨sz_le (Nat.le_of_ble_eq_true rfl), h⟩) (fun G p x1 x2 x3 x4 x5 sG hp v1 v2 v3 v4 v5 => ?_)
      obtain ⟨zv, ez, hz⟩ := lawD_get (f := outsOf) v1 v2 v3 v4 v5 (ok.let_ c (List.mem_of_getElem? hc))
      have s3' := Same.trans s2' sG
      have ll4 := ll3.mono sG
      refine ⟨_, rfl, _, rfl, _, rfl, pl, _, _, _, rfl, rfl, SqT.of' (s3' _ _ h1), rfl, _, rfl, dv, _, _, _, rfl, rfl, SqL.of (s3' _ _ h2), at_int h0 hda, da, _, _, _, rfl, rfl, SqT.of' (s3' _ _ hdv), rfl, p, _, rfl, .inl ⟨_, .inr (ch c), .inl hp, rfl, ez.symm⟩, zv, _, rfl, .inl (SqL.of hz), rfl, ints_flat _, _, rfl, ?_⟩
      rw [inV_int]
      refine ite2 (fun z => ?_) (fun z => ?_)
      · refine iteT (k0 _ s3' (sn _ ?_))
        have z' : se ∉ outsOf c := by simpa using z
        unfold src
        rw [if_neg hs, getD_at hc, if_neg z']
      have hse : se ∈ outsOf c := by simpa using z
      obtain ⟨l, hl'⟩ := get_some (L := S.held) (i := s.toNat) (by rw [wf.held]; exact h0')
      obtain ⟨a1, ha1, hal⟩ := ll4.get hl'
      by_cases ln : l = []
      · subst ln
        refine ⟨_, rfl, _, rfl, D, _, _, _, rfl, rfl, SqL.of ll4.top, at_int h0 (map_at ha1), _, .inl ⟨_, SqL.of hal, rfl⟩, iteT (k0 _ s3' (sn _ ?_))⟩
        unfold src
        rw [if_neg hs, getD_at hc, if_pos hse, getD_at hl']
        unfold popEnd
        split <;> rfl
      refine ⟨_, rfl, _, rfl, D, _, _, _, rfl, rfl, SqL.of ll4.top, at_int h0 (map_at ha1), true, .inl ⟨_, SqL.of hal, by cases l with | nil => exact absurd rfl ln | cons _ _ => rfl⟩, iteF ?_⟩
      obtain ⟨wg, l', p1, p2, p3⟩ := pop_law (outs_01 hse) ln
      refine ⟨_, rfl, _, rfl, D, _, _, _, rfl, rfl, SqL.of ll4.top, at_int h0 (map_at ha1), _, rfl, _, _, rfl, rfl, a1, _, _, _, rfl, rfl, SqL.of hal, p2, ?_⟩
      refine ⟨_, rfl, _, rfl, D, _, _, _, rfl, rfl, SqL.of ll4.top, at_int h0 (map_at ha1), _, rfl, _, _, rfl, rfl, _, rfl, _, rfl, _, rfl, D, _, _, _, rfl, rfl, SqL.of ll4.top, at_int h0 (map_at ha1), a1, _, rfl, .inl (SqL.of hal), _, rfl, _, _, rfl, rfl, _, rfl, a1, _, rfl, SqL.of hal, fun p2' np2 => ?_⟩
      have p3' : cutV (l.map V.int) (some (1 - (s, se, t, te).2.1)) (some ((((l.map V.int).length : Nat) : Int) - (s, se, t, te).2.1)) = l'.map V.int := p3
      rw [p3']
      have s5 := Same.add s3' np2 (o := intsO l')
      have ll5 := ll4.mono (Same.new np2 (o := intsO l'))
      have ixs : ixN (ls.map V.ref).length s = some s.toNat := by
        unfold ixN
        rw [List.length_map, if_pos h0, if_pos (by have := get_lt ha1; omega)]
      have nm : p2' ∉ ls := fun m => by
        obtain ⟨m1, m2⟩ := List.getElem?_of_mem m
        obtain ⟨l2, e2⟩ := get_some (L := S.held) (i := m1) (by rw [← paired_len ll4.each]; exact get_lt m2)
        obtain ⟨a2, ea2, ha2⟩ := ll4.get e2
        have : a2 = p2' := Option.some.inj (ea2.symm.trans m2)
        rw [this, np2] at ha2
        cases ha2
      refine ⟨_, rfl, _, rfl, D, _, _, s.toNat, rfl, rfl, ll5.top, ixs, ?_⟩
      refine ⟨wg, { S with held := S.held.set s.toNat l' }, ls.set s.toNat p2', _, by unfold src; rw [if_neg hs, getD_at hc, if_pos hse, getD_at hl', p1]; rfl, rfl, Same.mut s5 nD0, ?_⟩
      rw [← List.map_set]
      exact ll5.put upd_same (Same.free s3' np2) nm (ne_of_none ll4.top np2).symm
  · rintro σ' H' ⟨wg, S1, ls', u13, e, rfl, s3, ll4⟩
    obtain ⟨wl, wc, ws⟩ := src_wf wf e
    have wf3 := wf.few
    have sn : tgt Y wg (S.held.getD t.toNat []).length S1 t te = none → made Y row S (s, se, t, te) = none := fun h => by
      show (if (s, t) ∈ Y.links then (src Y row S s se).bind fun p => tgt Y p.1 (S.held.getD t.toNat []).length p.2 t te else none) = none
      rw [if_pos hl, e]
      exact h
    have fewk := ok.few
    have sy : ∀ S', tgt Y wg (S.held.getD t.toNat []).length S1 t te = some S' → made Y row S (s, se, t, te) = some S' := fun S' h => made_of (m := (s, se, t, te)) hl e h
    refine ⟨_, rfl, _, _, rfl, rfl, _, rfl, ?_⟩
    refine ite2 (fun z => ?_) (fun z => ?_)
    · have ht : t < 0 := of_decide_eq_true z
      refine ⟨_, rfl, rfl, _, rfl, ite_ne (fun z => ?_) (fun z => ?_)⟩
      · exact k0 _ s3 (sn (by unfold tgt; rw [if_pos ht, if_neg z]))
      refine ⟨_, rfl, ?_⟩
      show tCB (rTupOf K) (tCons (tLc (iList K (tVar 11)) (gName 17) tYes (tCB (rTupOf K) (tCons (tVar 17) tNil)) [17]) tNil) _ _ _
      refine rd_tuples (i := 11) (j := 17) (by rfl) (by intro _; rfl) (by intro _; rfl) ll4 (by omega) (fun H3 hd' ds' s4 e1 e2 => ?_)
      have g4' := s4 _ _ (s3 _ _ g4)
      have sgone : S1.gone = S.gone := src_gone e
      refine ⟨_, rfl, _, rfl, sz_le (Nat.le_of_ble_eq_true rfl), fun b nb => ?_⟩
      have s2b := Same.new nb (o := .tup [.int wg])
      have done : ∀ (G : Hp) (g : Addr), Same H3 G → G g = some (.tup ((S1.gone ++ [wg]).map V.int)) → ∀ q', G q' = none → Q (.ref q') (upd G q' (.tup [.int S1.came, .ref hd', .ref g])) := fun G g sg hg q' nq => by
        have s6 := Same.new nq (o := .tup [.int S1.came, .ref hd', .ref g])
        have s46 := Same.trans sg s6
        exact k1 _ q' _ (Same.trans s3 (Same.trans s4 s46)) (sy { S1 with gone := S1.gone ++ [wg] } (by unfold tgt; rw [if_pos ht, if_pos z])) ⟨hd', g, ds', upd_same, s46 _ _ e1, e2.mono s46, s6 _ _ hg⟩
      refine ⟨gn, b, _, _, rfl, rfl, SqT.of' (s2b _ _ g4'), SqT.of' upd_same, sz_le (by rw [List.length_map, ← sgone]; simp only [List.length_cons, List.length_nil]; omega), fun xn => ⟨sz_le (Nat.le_of_ble_eq_true rfl), fun q' nq => ?_⟩, fun _ bad => (nomatch bad), fun _ _ p np => ⟨sz_le (Nat.le_of_ble_eq_true rfl), fun q' nq => ?_⟩⟩
      · refine done _ b s2b ?_ q' nq
        have : S.gone = [] := List.map_eq_nil_iff.mp xn
        rw [sgone, this, upd_same]; rfl
      · refine done _ p (Same.add s2b np) ?_ q' nq
        rw [sgone, upd_same, List.map_append] <;> rfl
    · have ht : ¬ t < 0 := fun y => z (decide_eq_true y)
      have h0 : 0 ≤ t := by omega
      have h0' : t.toNat < Y.kinds.length := by have : t < (Y.kinds.length : Int) := b4; omega
      obtain ⟨c, hc⟩ := get_some (L := Y.kinds) (i := t.toNat) h0'
      obtain ⟨bd, hb⟩ := get_some (L := Y.bounds) (i := t.toNat) (by rw [ok.len]; exact h0')
      obtain ⟨l0, hl0⟩ := get_some (L := S.held) (i := t.toNat) (by rw [wf.held]; exact h0')
      obtain ⟨d0, hd0, hdt⟩ := g3.get hl0
      obtain ⟨da, hda, hdv⟩ := PlanAt.dev (pl := pl) (dv := dv) ok h4 h3 hc hb
      show tAsg (tDisp _) (gName 14) _ _ _
      refine asg_of ?_
      refine disp5 (l1 := [1]) (l2 := [1]) (l3 := [0, 1]) (l4 := [1]) (l5 := [0, 1]) (fun H Q h => ⟨sz_le (Nat.le_of_ble_eq_true rfl), h⟩) (fun H Q h => ⟨sz_le (Nat.le_of_ble_eq_true rfl), h⟩) (fun H Q h => ⟨sz_le (Nat.le_of_ble_eq_true rfl), h⟩) (fun H Q h => ⟨sz_le (Nat.le_of_ble_eq_true rfl), h⟩) (fun H Q h => ⟨sz_le (Nat.le_of_ble_eq_true rfl), h⟩) (fun G p x1 x2 x3 x4 x5 sG hp v1 v2 v3 v4 v5 => ?_)
      obtain ⟨zv, ez, hz⟩ := lawD_get (f := insOf) v1 v2 v3 v4 v5 (ok.let_ c (List.mem_of_getElem? hc))
      have s3' := Same.trans s3 sG
      have ll5 := ll4.mono sG
      refine ⟨_, rfl, pl, _, _, _, rfl, rfl, SqT.of' (s3' _ _ h1), rfl, _, rfl, dv, _, _, _, rfl, rfl, SqL.of (s3' _ _ h2), at_int h0 hda, da, _, rfl, SqT.of' (s3' _ _ hdv), rfl, _, _, rfl, _, _, rfl, rfl, ?_⟩
      refine ⟨_, rfl, _, rfl, _, rfl, p, _, rfl, .inl ⟨_, .inr (ch c), .inl hp, rfl, ez.symm⟩, zv, _, rfl, .inl (SqL.of hz), rfl, ints_flat _, _, rfl, ?_⟩
      rw [inV_int]
      refine ite2 (fun z => ?_) (fun z => ?_)
      · refine iteT (k0 _ s3' (sn ?_))
        have z' : te ∉ insOf c := by simpa using z
        unfold tgt
        rw [if_neg ht, getD_at hc, if_neg (fun q => z' q.1)]
      have hte : te ∈ insOf c := by simpa using z
      refine ⟨_, rfl, _, _, rfl, rfl, _, rfl, ?_⟩
      refine chain_len (n := l0.length) (fun Q' q' => ⟨_, rfl, _, rfl, hd, _, _, _, rfl, rfl, SqT.of' (s3' _ _ g2), at_int h0 (map_at hd0), d0, _, rfl, .inr (SqT.of' (s3' _ _ hdt)), by rw [List.length_map]; exact q'⟩) ?_
      refine ⟨_, rfl, ite2 (fun z => ?_) (fun z => ?_)⟩
      · refine k0 _ s3' (sn ?_)
        unfold tgt
        rw [if_neg ht, getD_at hb, getD_at hl0, if_neg (fun q => q.2 (of_decide_eq_true z))]
      have hbd : ¬ (0 < bd ∧ bd ≤ l0.length) := fun y => z (decide_eq_true y)
      obtain ⟨l, hl'⟩ := get_some (L := S1.held) (i := t.toNat) (by rw [wl]; exact h0')
      obtain ⟨a1, ha1, hal⟩ := ll5.get hl'
      have tl := total_le (List.mem_of_getElem? hl')
      have ixt : ixN (ls'.map V.ref).length t = some t.toNat := by
        unfold ixN
        rw [List.length_map, if_pos h0, if_pos (by have := get_lt ha1; omega)]
      have fresh : ∀ {G2 : Hp} {p : Addr}, Same G G2 → G2 p = none → H p = none ∧ p ∉ ls' ∧ p ≠ D := fun {G2 p} sg np => by
        refine ⟨Same.free (Same.trans s3' sg) np, fun m => ?_, fun z => ?_⟩
        · obtain ⟨m1, m2⟩ := List.getElem?_of_mem m
          obtain ⟨l2, e2⟩ := get_some (L := S1.held) (i := m1) (by rw [← paired_len ll5.each]; exact get_lt m2)
          obtain ⟨a2, ea2, ha2⟩ := ll5.get e2
          have : a2 = p := Option.some.inj (ea2.symm.trans m2)
          rw [this] at ha2
          have := sg _ _ ha2
          rw [np] at this
          cases this
        · have := sg _ _ ll5.top
          rw [← z, np] at this
          cases this
      refine ⟨fun σ' H' => ∃ ls2, σ' = [some (.ref pl), some (.ref r), some (.ref q), some (.ref mv), some (.int S1.came), some (.ref hd), some (.ref gn), some (.int s), some (.int se), some (.int t), some (.int te), some (.ref D), some (.int wg), u13, some (.ref p), some (.str (ch c)), some (.int (bd : Int)), none] ∧ Same H H' ∧ LL H H' D ls2 (S1.held.set t.toNat (putEnd te wg l)), ?_, ?_⟩
      · refine ⟨_, rfl, rfl, _, rfl, ite_eq (fun y => ?_) (fun y => ?_)⟩
        · have y : te = 0 := y
          refine ⟨_, rfl, sz_le (Nat.le_of_ble_eq_true rfl), fun b nb => ?_⟩
          have sb := Same.new nb (o := .lst [.int wg])
          refine ⟨_, rfl, _, rfl, D, _, _, _, rfl, rfl, SqL.of (sb _ _ ll5.top), at_int h0 (map_at ha1), b, a1, _, _, rfl, rfl, upd_same, sb _ _ hal, sz_le (by rw [List.length_map]; simp only [List.length_cons, List.length_nil]; omega), fun q' nq => ?_⟩
          have sq := Same.add sb nq (o := .lst ([.int wg] ++ l.map V.int))
          obtain ⟨n0, n1, n2⟩ := fresh sb nq
          have ll6 := ll5.mono sq
          refine ⟨_, rfl, _, rfl, D, _, _, t.toNat, rfl, rfl, ll6.top, ixt, ?_⟩
          refine ⟨ls'.set t.toNat q', rfl, Same.mut (Same.trans s3' sq) nD0, ?_⟩
          rw [← List.map_set]
          exact ll6.put (by rw [upd_same, y]; rfl) n0 n1 n2
        · have y : te ≠ 0 := y
          have te1 : te = 1 := by rcases ins_01 hte with h | h; exact absurd h y; exact h
          refine ⟨_, rfl, _, rfl, D, _, _, _, rfl, rfl, SqL.of ll5.top, at_int h0 (map_at ha1), _, rfl, sz_le (Nat.le_of_ble_eq_true rfl), fun b nb => ?_⟩
          have sb := Same.new nb (o := .lst [.int wg])
          refine ⟨a1, b, _, _, rfl, rfl, sb _ _ hal, upd_same, sz_le (by rw [List.length_map]; simp only [List.length_cons, List.length_nil]; omega), fun q' nq => ?_⟩
          have sq := Same.add sb nq (o := .lst (l.map V.int ++ [.int wg]))
          obtain ⟨n0, n1, n2⟩ := fresh sb nq
          have ll6 := ll5.mono sq
          refine ⟨_, rfl, _, rfl, D, _, _, t.toNat, rfl, rfl, ll6.top, ixt, ?_⟩
          refine ⟨ls'.set t.toNat q', rfl, Same.mut (Same.trans s3' sq) nD0, ?_⟩
          rw [← List.map_set]
          refine ll6.put ?_ n0 n1 n2
          rw [upd_same, te1]
          show _ = some (HO.lst ((l ++ [wg]).map V.int))
          rw [List.map_append]; rfl
      · rintro σ' H4 ⟨ls2, rfl, s4, ll7⟩
        refine ⟨_, rfl, ?_⟩
        show tCB (rTupOf K) (tCons (tLc (iList K (tVar 11)) (gName 17) tYes (tCB (rTupOf K) (tCons (tVar 17) tNil)) [17]) tNil) _ _ _
        refine rd_tuples (i := 11) (j := 17) (by rfl) (by intro _; rfl) (by intro _; rfl) ll7 (by rw [List.length_set]; omega) (fun H5 hd' ds' s5 e1 e2 => ?_)
        refine ⟨_, rfl, sz_le (Nat.le_of_ble_eq_true rfl), fun q' nq' => ?_⟩
        have s6 : Same H5 (upd H5 q' (.tup [.int S1.came, .ref hd', .ref gn])) := Same.new nq'
        refine k1 _ _ _ (Same.trans s4 (Same.trans s5 s6)) (sy { S1 with held := S1.held.set t.toNat (putEnd te wg l) } ?_) ⟨hd', gn, ds', upd_same, s6 _ _ e1, e2.mono s6, ?_⟩
        · unfold tgt
          rw [if_neg ht, getD_at hc, getD_at hb, getD_at hl0, if_pos ⟨hte, hbd⟩, getD_at hl']
        · show _ = some (HO.tup (S1.gone.map V.int))
          rw [src_gone e]
          exact s6 _ _ (s5 _ _ (s4 _ _ g4))
end
end K92

/-! K92AA: the law's own walk. -/
set_option Elab.async false
set_option linter.all false
set_option maxRecDepth 100000
set_option maxHeartbeats 4000000
set_option autoImplicit false
namespace K92
open PySem PySem.Spec PyProof.Rows L2
section
variable {P : Program} {w : World} {K : PySem.W.Frag} {mg : Str → Option Value} {base : Heap}
def FndAt (H : Hp) (t : Addr) (m : Move) (S : Sit) : Prop := ∃ mv q, H t = some (.tup [.ref mv, .ref q]) ∧ MoveAt H mv m ∧ SitAt H q S
theorem FndAt.mono {H H' : Hp} {t : Addr} {m : Move} {S : Sit} (s : Same H H') (h : FndAt H t m S) : FndAt H' t m S := by
  obtain ⟨mv, q, a, b, c⟩ := h
  exact ⟨mv, q, s _ _ a, s _ _ b, c.mono s⟩
theorem FndAt.lock {H : Hp} {t : Addr} {m : Move} {S : Sit} {d : Addr} {u x : HO} (h : FndAt H t m S) (hd : H d = some u) (nt : ∀ xs, u ≠ .tup xs) : FndAt (upd H d x) t m S := by
  obtain ⟨mv, q, a, b, c⟩ := h
  exact ⟨mv, q, lock_at hd a (fun z => nt _ z.symm), lock_at hd b (fun z => nt _ z.symm), c.lock hd nt⟩
def encF (x : Move × Sit) : PyData := .tuple [encM x.1, encS x.2]
theorem alike_F (a b : Move × Sit) : PySem.W.alike (encF a) (encF b) = true := by
  show PySem.W.alike (.tuple [encM a.1, encS a.2]) (.tuple [encM b.1, encS b.2]) = true
  rw [PySem.W.alike, PySem.W.alikeAll, PySem.W.alikeAll, alike_S, show PySem.W.alike (encM a.1) (encM b.1) = true from alike_tup _ _]
  simp [PySem.W.alikeAll]
theorem depth_F (x : Move × Sit) : (encF x).depth ≤ 4 := by
  show (PyData.tuple [encM x.1, encS x.2]).depth ≤ 4
  rw [PyData.depth, PyData.depthAll, PyData.depthAll, show (encM x.1).depth = 1 from depth_tup _]
  have := depth_S x.2
  simp [PyData.depthAll]
  omega
theorem dp_F {H : Hp} {t : Addr} {m : Move} {S : Sit} (h : FndAt H t m S) : Dp K H (.ref t) (encF (m, S)) := by
  obtain ⟨mv, q, a, b, c⟩ := h
  exact .tup (SqT.of' a) (.cons (dp_move b) (.cons (dp_sit c) .nil))
theorem sort_F {H : Hp} {a : Addr} {L : List (Addr × Move × Sit)} {Q : VK} (h : H a = some (.lst (L.map fun x => V.ref x.1))) (hm : ∀ x ∈ L, FndAt H x.1 x.2.1 x.2.2) (k : ∀ (L' : List (Addr × Move × Sit)) q, L'.Perm L → H q = none → Q (.ref q) (upd H q (.lst (L'.map fun x => V.ref x.1)))) : rSortedD K [.ref a] H Q :=
  ⟨a, Move × Sit, encF, L, rfl, SqL.of h, fun p hp => dp_F (hm p hp), PySem.W.AllAlike.of (enc := fun p : Addr × Move × Sit => encF p.2) fun _ _ => alike_F _ _, PySem.W.Sortable.tuples (enc := fun p : Addr × Move × Sit => encF p.2) fun _ => ⟨_, _, rfl⟩, fun p _ => by have := depth_F p.2; omega, k⟩
/-- the findings in the making -/
structure FnI (G : Hp) (D : Addr) (f : Move → Option Sit) (c : Nat) (H : Hp) : Prop where
  same : Same G H
  new : G D = none
  ex : ∃ L : List (Addr × Move × Sit), H D = some (.lst (L.map fun x => V.ref x.1)) ∧ (∀ x ∈ L, FndAt H x.1 x.2.1 x.2.2 ∧ f x.2.1 = some x.2.2) ∧ L.length ≤ c
theorem FnI.up {G H : Hp} {D : Addr} {f : Move → Option Sit} {c c' : Nat} (u : FnI G D f c H) (e : c ≤ c') : FnI G D f c' H := by
  obtain ⟨L, a, b, d⟩ := u.ex
  exact ⟨u.same, u.new, L, a, b, Nat.le_trans d e⟩
theorem FnI.mono {G H H' : Hp} {D : Addr} {f : Move → Option Sit} {c : Nat} (u : FnI G D f c H) (s : Same H H') : FnI G D f c H' := by
  obtain ⟨L, a, b, d⟩ := u.ex
  exact ⟨Same.trans u.same s, u.new, L, s _ _ a, fun x hx => ⟨(b x hx).1.mono s, (b x hx).2⟩, d⟩
def sp__law_after (P : Program) (w : World) (T : TX K w mg) : Sp := fun vs H Q _ => ∃ (pl r q : Addr) (Y : Yd) (row : List Int) (S : Sit), vs = [.ref pl, .ref r, .ref q] ∧ PlanAt H pl Y ∧ RowAt H r row ∧ SitAt H q S ∧ YOk Y ∧ WFS Y row S ∧
  ∀ H' a (L : List (Addr × Move × Sit)), Same H H' → H' a = some (.lst (L.map fun x => V.ref x.1)) → (∀ x ∈ L, FndAt H' x.1 x.2.1 x.2.2 ∧ made Y row S x.2.1 = some x.2.2) → L.length ≤ 400 → Q (.ref a) H'
theorem c__law_after (T : TX K w mg) : C8.Cal P w K mg base 2 "_law_after" (sp__law_after P w T) [] := by
  obtain ⟨f, fd, F, b⟩ := T.fn__law_after
  refine C8.cal0 F b .nil sc__law_after (fun vs H Q E h => by obtain ⟨_, _, _, _, _, _, rfl, _⟩ := h; rfl) (fun cdv A outer s H vs Q E hr h => ?_)
  have hu := hu_of hr
  have nd := sc__law_after.nd
  refine ⟨_, (pss_cons (ps_set (i := 3) nd rfl (Or.inl rfl) (pe_lst pa_nil))
      (pss_cons (ps_for PassesOwn.never rfl (pi_list (pe_ix (ix_tupK (K := K) rfl) (pv 0) pe_int (fun _ _ => rfl))) (pg_tup (by rfl) (pgs_cons (pg_name (i := 4) nd rfl (Or.inl rfl)) (pgs_cons (pg_name (i := 5) nd rfl (Or.inl rfl)) pgs_nil))) (pss_one (ps_for PassesOwn.never rfl (pi_list (pe_lst (pa_cons (pe_tup (pa_cons pe_int (pa_cons pe_int pa_nil))) (pa_cons (pe_tup (pa_cons pe_int (pa_cons pe_int pa_nil))) (pa_cons (pe_tup (pa_cons pe_int (pa_cons pe_int pa_nil))) (pa_cons (pe_tup (pa_cons pe_int (pa_cons pe_int pa_nil))) pa_nil)))))) (pg_name (i := 6) nd rfl (Or.inl rfl)) (pss_cons (ps_set (i := 7) nd rfl (Or.inl rfl) (C8.pe_c (c__law_moved T) hr (by decide) rfl (pa_cons (pv 0) (pa_cons (pv 1) (pa_cons (pv 2) (pa_cons (pe_tup (pa_cons (pv 4) (pa_cons (pe_ix (ix_tupK (K := K) rfl) (pv 6) pe_int (fun _ _ => rfl)) (pa_cons (pv 5) (pa_cons (pe_ix (ix_tupK (K := K) rfl) (pv 6) pe_int (fun _ _ => rfl)) pa_nil))))) pa_nil))))))
      (pss_one (ps_if (pt_cmpR op_notN (pv 7) pe_non (nomark _)) (pss_one (ps_expr (pe_bm PySem.F.plainAttrs_list PySem.F.slot_list_append PySem.F.type_list_append mt_append (pv 3) (pa_cons (pe_tup (pa_cons (pe_tup (pa_cons (pv 4) (pa_cons (pe_ix (ix_tupK (K := K) rfl) (pv 6) pe_int (fun _ _ => rfl)) (pa_cons (pv 5) (pa_cons (pe_ix (ix_tupK (K := K) rfl) (pv 6) pe_int (fun _ _ => rfl)) pa_nil))))) (pa_cons (pv 7) pa_nil))) pa_nil)))) pss_nil))))))
      (pss_one (ps_ret (pe_callB (cr_sortedD hr.units) (by rfl) T.b_sorted boot_sorted_ (pa_cons (pv 3) pa_nil)))))), ?_⟩
  obtain ⟨pl, r, q, Y, row, S, rfl, pa, ra, sa, ok, wf, k⟩ := h
  obtain ⟨dv, lk, DV, xs, ls, h1, h2, h3, h4, h5, h6, h7, h8⟩ := pa.ex
  refine ⟨sz_le (Nat.le_of_ble_eq_true rfl), fun D nD => ?_⟩
  have sD := Same.new nD (o := .lst [])
  have i0 : FnI H D (made Y row S) 0 (upd H D (.lst [])) := ⟨sD, nD, [], upd_same, (by intro _ z; cases z), Nat.le_refl _⟩
  refine ⟨_, rfl, pl, _, _, _, rfl, rfl, SqT.of' (sD _ _ h1), rfl, lk, rfl, ⟨_, SqL.of (sD _ _ h5)⟩, ?_⟩
  refine for_list (xs := xs) (fun i σ H' => ∃ (u4 u5 u6 u7 : Option V), σ = [some (.ref pl), some (.ref r), some (.ref q), some (.ref D), u4, u5, u6, u7] ∧ FnI H D (made Y row S) (i * 4) H') ⟨none, none, none, none, rfl, i0⟩ (fun _ _ _ _ ⟨_, _, _, _, _, u⟩ => SqL.of (u.same _ _ h5)) ?_ ?_
  · rintro i x σ H1 hx ⟨u4, u5, u6, u7, rfl, i1⟩
    obtain ⟨⟨s, t⟩, hli⟩ := get_some (L := ls) (i := i) (by rw [← paired_len h6]; exact get_lt hx)
    obtain ⟨v', e1, tt, e2, e3⟩ := paired_get' h6 hli
    obtain rfl : v' = x := Option.some.inj (e1.symm.trans hx)
    subst e2
    have il : i < 100 := by have := get_lt hli; omega
    refine ⟨tt, _, rfl, SqT.of' (i1.same _ _ e3), rfl, _, _, rfl, _, _, rfl, rfl, ?_⟩
    refine ⟨sz_le (Nat.le_of_ble_eq_true rfl), fun c1 n1 => ⟨sz_le (Nat.le_of_ble_eq_true rfl), fun c2 n2 => ⟨sz_le (Nat.le_of_ble_eq_true rfl), fun c3 n3 => ⟨sz_le (Nat.le_of_ble_eq_true rfl), fun c4 n4 => ⟨sz_le (Nat.le_of_ble_eq_true rfl), fun l nl => ?_⟩⟩⟩⟩⟩
    have z1 := Same.new n1 (o := .tup [.int 0, .int 0])
    have z2 := Same.new n2 (o := .tup [.int 0, .int 1])
    have z3 := Same.new n3 (o := .tup [.int 1, .int 0])
    have z4 := Same.new n4 (o := .tup [.int 1, .int 1])
    have z5 := Same.new nl (o := .lst [.ref c1, .ref c2, .ref c3, .ref c4])
    have z15 := Same.trans z1 (Same.trans z2 (Same.trans z3 (Same.trans z4 z5)))
    have lD : l ≠ D := fun z => by
      obtain ⟨L0, hL0, _⟩ := (i1.mono (Same.trans z1 (Same.trans z2 (Same.trans z3 z4)))).ex
      rw [z, hL0] at nl
      cases nl
    refine ⟨l, rfl, ⟨_, SqL.of upd_same⟩, ?_⟩
    refine for_list (xs := [.ref c1, .ref c2, .ref c3, .ref c4]) (fun j σ H' => ∃ (u6 u7 : Option V), σ = [some (.ref pl), some (.ref r), some (.ref q), some (.ref D), some (.int s), some (.int t), u6, u7] ∧ FnI H D (made Y row S) (i * 4 + j) H' ∧ H' l = some (.lst [.ref c1, .ref c2, .ref c3, .ref c4]) ∧
      ∀ c ∈ [c1, c2, c3, c4], ∃ a b : Int, H' c = some (.tup [.int a, .int b])) ⟨_, _, rfl, (i1.mono z15).up (by omega), upd_same, fun c hc => ?_⟩ (fun _ _ _ _ ⟨_, _, _, _, z, _⟩ => SqL.of z) ?_ ?_
    · simp only [List.mem_cons, List.not_mem_nil, or_false] at hc
      rcases hc with rfl | rfl | rfl | rfl
      · exact ⟨_, _, (Same.trans z2 (Same.trans z3 (Same.trans z4 z5))) _ _ upd_same⟩
      · exact ⟨_, _, (Same.trans z3 (Same.trans z4 z5)) _ _ upd_same⟩
      · exact ⟨_, _, (Same.trans z4 z5) _ _ upd_same⟩
      · exact ⟨_, _, z5 _ _ upd_same⟩
    · rintro j x σ H2 hx ⟨u6, u7, rfl, i2, hl2, hc2⟩
      have hj : j < 4 := get_lt hx
      obtain ⟨c, hcm, rfl⟩ : ∃ c, c ∈ [c1, c2, c3, c4] ∧ x = V.ref c := by
        have hm := List.mem_of_getElem? hx
        simp only [List.mem_cons, List.not_mem_nil, or_false] at hm
        rcases hm with rfl | rfl | rfl | rfl
        · exact ⟨c1, by simp, rfl⟩
        · exact ⟨c2, by simp, rfl⟩
        · exact ⟨c3, by simp, rfl⟩
        · exact ⟨c4, by simp, rfl⟩
      obtain ⟨a, b, hab⟩ := hc2 c hcm
      refine ⟨_, rfl, _, rfl, _, rfl, _, rfl, _, rfl, c, _, _, _, rfl, rfl, SqT.of' hab, rfl, _, rfl, _, rfl, c, _, _, _, rfl, rfl, SqT.of' hab, rfl, sz_le (Nat.le_of_ble_eq_true rfl), fun mv nmv => ?_⟩
      have sm := Same.new nmv (o := .tup [.int s, .int a, .int t, .int b])
      have s2 := Same.trans i2.same sm
      refine ⟨pl, r, q, mv, Y, row, S, (s, a, t, b), rfl, pa.mono s2, s2 _ _ ra, sa.mono s2, upd_same, ok, wf, fun H3 s3 e => ?_, fun H3 q' S' s3 e hq => ?_⟩
      · refine ⟨_, rfl, rfl, _, rfl, iteF ?_⟩
        have s4 := Same.trans sm s3
        exact ⟨_, _, rfl, (i2.mono s4).up (by omega), s4 _ _ hl2, fun c hc => by obtain ⟨a, b, z⟩ := hc2 c hc; exact ⟨a, b, s4 _ _ z⟩⟩
      · refine ⟨_, rfl, rfl, _, rfl, iteT ?_⟩
        have s4 := Same.trans sm s3
        obtain ⟨L, e1, e2, e3⟩ := (i2.mono s4).ex
        have hab3 := s4 _ _ hab
        refine ⟨_, rfl, tyL e1, _, rfl, _, rfl, c, _, _, _, rfl, rfl, SqT.of' hab3, rfl, _, rfl, _, rfl, c, _, _, _, rfl, rfl, SqT.of' hab3, rfl, sz_le (Nat.le_of_ble_eq_true rfl), fun mv2 n2 => ?_⟩
        have s5 := Same.new n2 (o := .tup [.int s, .int a, .int t, .int b])
        refine ⟨_, rfl, sz_le (Nat.le_of_ble_eq_true rfl), fun t2 nt2 => ?_⟩
        have s6 := Same.new nt2 (o := .tup [.ref mv2, .ref q'])
        have s56 := Same.trans s5 s6
        have hD6 := s56 _ _ e1
        refine ⟨D, _, _, rfl, rfl, hD6, sz_lt (by rw [List.length_map]; omega), ?_⟩
        have ne : ∀ xs, HO.lst (L.map fun x => V.ref x.1) ≠ HO.tup xs := by intro _ z; cases z
        have F6 : FndAt (upd (upd H3 mv2 (.tup [.int s, .int a, .int t, .int b])) t2 (.tup [.ref mv2, .ref q'])) t2 (s, a, t, b) S' := ⟨mv2, q', upd_same, s6 _ _ upd_same, hq.mono s56⟩
        refine ⟨_, _, rfl, ⟨Same.mut (Same.trans (i2.mono s4).same s56) nD, nD, L ++ [(t2, (s, a, t, b), S')], by rw [upd_same, List.map_append]; rfl, fun x hx => ?_, by rw [List.length_append]; simp; omega⟩, ?_, fun c hc => ?_⟩
        · rcases List.mem_append.mp hx with hx | hx
          · exact ⟨((e2 x hx).1.mono s56).lock hD6 ne, (e2 x hx).2⟩
          · rw [List.mem_singleton.mp hx]
            exact ⟨F6.lock hD6 ne, e⟩
        · rw [upd_ne lD]
          exact s56 _ _ (s4 _ _ hl2)
        · obtain ⟨a, b, z⟩ := hc2 c hc
          exact ⟨a, b, lock_at hD6 (s56 _ _ (s4 _ _ z)) (fun y => ne _ y.symm)⟩
    · rintro σ H2 ⟨u6, u7, rfl, i2, _, _⟩
      have i2 : FnI H D (made Y row S) (i * 4 + 4) H2 := i2
      exact ⟨_, _, _, _, rfl, i2.up (by omega)⟩
  · rintro σ H1 ⟨u4, u5, u6, u7, rfl, i1⟩
    rw [paired_len h6] at i1
    obtain ⟨L, e1, e2, e3⟩ := i1.ex
    refine ⟨_, rfl, sort_F e1 (fun x hx => (e2 x hx).1) fun L' q' perm nq => ?_⟩
    have s2 := Same.new nq (o := .lst (L'.map fun x => V.ref x.1))
    refine k _ q' L' (Same.trans i1.same s2) upd_same (fun x hx => ⟨(e2 x (perm.mem_iff.mp hx)).1.mono s2, (e2 x (perm.mem_iff.mp hx)).2⟩) ?_
    rw [perm.length_eq]
    omega
/-! ### the walk -/
theorem tup_draw {a b : Addr} {H H' : Hp} {xs : List V} (d : Dr a H) (s : Same (rm a H) (rm a H')) (h : H b = some (.tup xs)) : H' b = some (.tup xs) := by
  obtain ⟨ns, h1, _⟩ := d.ex
  have n : b ≠ a := fun z => by rw [z, h1] at h; cases h
  exact rm_same a _ _ _ (s _ _ (rm_at h n))
theorem SitAt.draw {a q : Addr} {H H' : Hp} {S : Sit} (d : Dr a H) (s : Same (rm a H) (rm a H')) (h : SitAt H q S) : SitAt H' q S := by
  obtain ⟨hd, gn, ds, g1, g2, g3, g4⟩ := h.ex
  exact ⟨hd, gn, ds, tup_draw d s g1, tup_draw d s g2, Paired.mapP g3 fun _ _ z => tup_draw d s z, tup_draw d s g4⟩
theorem SitAt.rm {a q : Addr} {H : Hp} {S : Sit} (d : Dr a H) (h : SitAt H q S) : SitAt (rm a H) q S := by
  obtain ⟨ns, h1, _⟩ := d.ex
  have n : ∀ {b : Addr} {xs : List V}, H b = some (.tup xs) → K92.rm a H b = some (.tup xs) := fun {b xs} z => rm_at z fun y => by rw [y, h1] at z; cases z
  obtain ⟨hd, gn, ds, g1, g2, g3, g4⟩ := h.ex
  exact ⟨hd, gn, ds, n g1, n g2, Paired.mapP g3 fun _ _ z => n z, n g4⟩
def sp__law_walk (P : Program) (w : World) (T : TX K w mg) : Sp := fun vs H Q _ => ∃ (a pl r : Addr) (Y : Yd) (row : List Int), vs = [.ref a, .ref pl, .ref r] ∧ Dr a H ∧ PlanAt (rm a H) pl Y ∧ RowAt (rm a H) r row ∧ YOk Y ∧ row.length ≤ 60 ∧
  ∀ H' t M N ms Ss, Same (rm a H) (rm a H') → Dr a H' → rm a H' t = some (.tup [.ref M, .ref N]) → MovesAt (rm a H') M ms → SitsAt (rm a H') N Ss → (∀ x ∈ Ss, WFS Y row x.1) → Ss.length ≤ 30 → Q (.ref t) H'
theorem c__law_walk (T : TX K w mg) : C8.Cal P w K mg base 5 "_law_walk" (sp__law_walk P w T) [] := by
  obtain ⟨f, fd, F, b⟩ := T.fn__law_walk
  refine C8.cal0 F b .nil sc__law_walk (fun vs H Q E h => by obtain ⟨_, _, _, _, _, rfl, _⟩ := h; rfl) (fun cdv A outer s H vs Q E hr h => ?_)
  have hu := hu_of hr
  have nd := sc__law_walk.nd
  refine ⟨_, (pss_cons (ps_set (i := 3) nd rfl (Or.inl rfl) (pe_lst pa_nil))
      (pss_cons (ps_set (i := 4) nd rfl (Or.inl rfl) (pe_lst (pa_cons (C8.pe_c (c__law_first T) hr (by decide) rfl (pa_cons (pv 1) pa_nil)) pa_nil)))
      (pss_cons (ps_set (i := 5) nd rfl (Or.inl rfl) (C8.pe_c (c__law_first T) hr (by decide) rfl (pa_cons (pv 1) pa_nil)))
      (pss_cons (ps_for PassesOwn.never rfl (pi_range1 rfl T.b_range (pa_cons pe_int pa_nil)) (pg_name (i := 6) nd rfl (Or.inl rfl)) (pss_cons (ps_setLc (own := [("_law_pair", 9)]) (i := 7) rfl nd rfl rfl (sw_true rfl rfl rfl (by decide +kernel)) (pi_list (C8.pe_c (c__law_after T) hr (by decide) rfl (pa_cons (pv 1) (pa_cons (pv 2) (pa_cons (pv 5) pa_nil))))) (blkOk_by (N := N__law_walk) (sc := C8.fnScope s__law_walk) (by decide +kernel)) (fun _ _ _ _ _ => (pg_name (i := 9) nd rfl (Or.inl rfl))) (fun _ _ _ _ _ => (pts_one (pt_val (C8.pe_c (c__law_is_live T) hr (by decide) rfl (pa_cons (pe_ix (ix_tupK (K := K) rfl) (pv 9) pe_int (fun _ _ => rfl)) pa_nil))))) (fun _ _ _ _ _ => (pv 9)))
      (pss_cons (ps_if (pt_not (pt_truth (pv 7) (by intro _; rfl))) (pss_one ps_break) pss_nil)
      (pss_cons (ps_asg (pe_ix (ix_listK (K := K) rfl) (pv 7) (C8.pe_c (c__law_pick T) hr (by decide) rfl (pa_cons (pv 0) (pa_cons (pe_callB (call_lenK (K := K) rfl) (by rfl) T.b_len PySem.boot_len (pa_cons (pv 7) pa_nil)) pa_nil))) (fun _ _ => rfl)) (pg_tup (by rfl) (pgs_cons (pg_name (i := 8) nd rfl (Or.inl rfl)) (pgs_cons (pg_name (i := 5) nd rfl (Or.inl rfl)) pgs_nil))))
      (pss_cons (ps_expr (pe_bm PySem.F.plainAttrs_list PySem.F.slot_list_append PySem.F.type_list_append mt_append (pv 3) (pa_cons (pv 8) pa_nil)))
      (pss_one (ps_expr (pe_bm PySem.F.plainAttrs_list PySem.F.slot_list_append PySem.F.type_list_append mt_append (pv 4) (pa_cons (pv 5) pa_nil)))))))))
      (pss_one (ps_ret (pe_tup (pa_cons (pv 3) (pa_cons (pv 4) pa_nil))))))))), ?_⟩
  obtain ⟨a, pl, r, Y, row, rfl, d, pa, ra, ok, few, k⟩ := h
  refine ⟨sz_le (Nat.le_of_ble_eq_true rfl), fun M nM => ?_⟩
  have sM := Same.new nM (o := .lst [])
  have d1 := d.mono sM
  have pa1 := (pa.mono (rm_same a H)).mono sM
  refine ⟨_, rfl, pl, Y, rfl, pa1, ok, fun H2 q1 s2 sq1 => ?_⟩
  refine ⟨sz_le (Nat.le_of_ble_eq_true rfl), fun N nN => ?_⟩
  have sN := Same.new nN (o := .lst [.ref q1])
  have s3 := Same.trans sM (Same.trans s2 sN)
  refine ⟨_, rfl, pl, Y, rfl, (pa.mono (rm_same a H)).mono s3, ok, fun H4 q2 s4 sq2 => ?_⟩
  have s5 := Same.trans s3 s4
  have Ma : M ≠ a := d.ne nM
  have Na : N ≠ a := (d.mono (Same.trans sM s2)).ne nN
  have MN : N ≠ M := fun z => by
    have hm : upd H M (.lst []) M = some (.lst []) := upd_same
    have := s2 _ _ hm
    rw [← z, nN] at this
    cases this
  have nN0 : H N = none := Same.free (Same.trans sM s2) nN
  refine ⟨_, rfl, by decide, by decide, ?_⟩
  have fin : ∀ (H' : Hp) (L : List (Addr × Move)) (Ss : List (Sit × Addr)), Same (rm a H) (rm a H') → Dr a H' → H' M = some (.lst (L.map fun x => V.ref x.1)) → H' N = some (.lst (Ss.map fun x => V.ref x.2)) → (∀ x ∈ L, MoveAt H' x.1 x.2) → KeysAt H' Ss → (∀ x ∈ Ss, WFS Y row x.1) → Ss.length ≤ 30 →
      ∀ t, H' t = none → Q (.ref t) (upd H' t (.tup [.ref M, .ref N])) := fun H' L Ss e1 e2 e3 e4 e5 e6 e7 e8 t nt => by
    have s7 := Same.new nt (o := .tup [.ref M, .ref N])
    have d7 := e2.mono s7
    have tup : ∀ {b : Addr} {xs : List V}, H' b = some (.tup xs) → rm a (upd H' t (.tup [.ref M, .ref N])) b = some (.tup xs) := fun {b xs} z => by
      obtain ⟨ns, h1, _⟩ := e2.ex
      exact rm_at (s7 _ _ z) fun y => by rw [y, h1] at z; cases z
    have pr : ∀ L' : List (Addr × Move), (∀ x ∈ L', MoveAt H' x.1 x.2) → Paired (fun x m => MoveAt (rm a (upd H' t (.tup [.ref M, .ref N]))) x m) (L'.map (·.1)) (L'.map (·.2)) := fun L' => by
      induction L' with
      | nil => intro _; exact .nil
      | cons b L' ih => intro hh; exact .cons (tup (hh b (.head _))) (ih fun x hx => hh x (.tail _ hx))
    refine k _ t M N (L.map (·.2)) Ss (Same.trans e1 (rm_mono s7)) d7 (rm_at upd_same (e2.ne nt)) ⟨L.map (·.1), ?_, pr L e5⟩ ⟨rm_at (s7 _ _ e4) Na, fun x hx => SitAt.rm d7 ((e6 x hx).mono s7)⟩ e7 e8
    rw [List.map_map]
    exact rm_at (s7 _ _ e3) Ma
  refine for_range (n := 20) (fun i σ H' => ∃ (L : List (Addr × Move)) (Ss : List (Sit × Addr)) (q : Addr) (S : Sit) (u6 u7 u8 : Option V), σ = [some (.ref a), some (.ref pl), some (.ref r), some (.ref M), some (.ref N), some (.ref q), u6, u7, u8, none] ∧ Same (rm a H) (rm a H') ∧ Dr a H' ∧ H' M = some (.lst (L.map fun x => V.ref x.1)) ∧ H' N = some (.lst (Ss.map fun x => V.ref x.2)) ∧
    (∀ x ∈ L, MoveAt H' x.1 x.2) ∧ KeysAt H' Ss ∧ (∀ x ∈ Ss, WFS Y row x.1) ∧ SitAt H' q S ∧ WFS Y row S ∧ L.length ≤ i ∧ Ss.length ≤ i + 1)
    ⟨[], [(first Y, q1)], q2, first Y, none, none, none, rfl, rm_mono s5, d.mono s5, s4 _ _ (sN _ _ (s2 _ _ upd_same)), s4 _ _ upd_same, (by intro _ z; cases z), fun x hx => by rw [List.mem_singleton.mp hx]; exact (sq1.mono sN).mono s4, fun x hx => by rw [List.mem_singleton.mp hx]; exact first_wf few, sq2, first_wf few, Nat.le_refl _, Nat.le_refl _⟩ ?_ ?_
  · rintro i σ H1 hi ⟨L, Ss, q, S, u6, u7, u8, rfl, e1, e2, e3, e4, e5, e6, e7, sq, wS, l1, l2⟩
    have pa1 : PlanAt H1 pl Y := (pa.mono e1).mono (rm_same a H1)
    have ra1 : RowAt H1 r row := rm_same a _ _ _ (e1 _ _ ra)
    refine ⟨_, rfl, _, rfl, _, rfl, pl, r, q, Y, row, S, rfl, pa1, ra1, sq, ok, wS, fun H2 fa F s2 hF hFn l400 => ?_⟩
    refine ⟨fa, rfl, ⟨_, SqL.of hF⟩, fun D nD => ?_⟩
    refine lc_list (K := K) (a := fa) (xs := F.map fun x => V.ref x.1) (fun j H' => Same H2 H' ∧ ∃ F' : List (Addr × Move × Sit), H' D = some (.lst (F'.map fun x => V.ref x.1)) ∧ (∀ x ∈ F', x ∈ F) ∧ F'.length ≤ j) ⟨Same.new nD, [], upd_same, (by intro _ z; cases z), Nat.le_refl _⟩ (fun j H' _ u => SqL.of (u.1 _ _ hF)) ?_ ?_
    · rintro j x H' hx ⟨s3, F', hD, sub, lf⟩
      have ex : ∃ z, F[j]? = some z ∧ x = V.ref z.1 := by
        rw [List.getElem?_map] at hx
        cases e : F[j]? with
        | none => rw [e] at hx; cases hx
        | some z => rw [e] at hx; exact ⟨z, rfl, (Option.some.inj hx).symm⟩
      obtain ⟨⟨t, m, S'⟩, hz, rfl⟩ := ex
      have mz := List.mem_of_getElem? hz
      have jl := get_lt hz
      obtain ⟨⟨mv, q', a1, a2, a3⟩, em⟩ := hFn _ mz
      have wS' : WFS Y row S' := made_wf ok wS em
      have sum' := wS'.sum
      have came' := wS'.came
      refine ⟨rfl, _, rfl, t, _, _, _, rfl, rfl, SqT.of' (s3 _ _ a1), rfl, q', S', rfl, a3.mono s3, by omega, fun H3 s4 => ⟨_, rfl, ?_⟩⟩
      have s34 := Same.trans s3 s4
      refine ite2 (fun _ => ?_) (fun _ => ⟨s34, F', s4 _ _ hD, sub, by omega⟩)
      refine ⟨_, rfl, _, s4 _ _ hD, sz_lt (by rw [List.length_map]; omega), Same.mut s34 nD, F' ++ [(t, m, S')], by rw [upd_same, List.map_append]; rfl, fun x hx => ?_, by rw [List.length_append]; simp; omega⟩
      rcases List.mem_append.mp hx with hx | hx
      · exact sub x hx
      · rw [List.mem_singleton.mp hx]; exact mz
    rintro H3 ⟨s3, F', hD, sub, lf⟩
    have s23 := Same.trans s2 s3
    have d3 := e2.mono s23
    cases F' with
    | nil =>
      refine ⟨_, rfl, _, .inl ⟨_, SqL.of hD, rfl⟩, iteT ?_⟩
      exact ⟨_, rfl, _, rfl, sz_le (Nat.le_of_ble_eq_true rfl), fin H3 L Ss (Same.trans e1 (rm_mono s23)) d3 (s23 _ _ e3) (s23 _ _ e4) (fun x hx => s23 _ _ (e5 x hx)) (e6.mono s23) e7 (by omega)⟩
    | cons f0 F' =>
      refine ⟨_, rfl, _, .inl ⟨_, SqL.of hD, rfl⟩, iteF ?_⟩
      refine ⟨_, rfl, _, rfl, _, rfl, D, _, rfl, .inl (SqL.of hD), a, _, rfl, d3, ?_, fun H4 n s4 d4 hn => ?_⟩
      · rw [List.length_map, List.length_cons]; omega
      rw [List.length_map] at hn
      have Da : D ≠ a := (e2.mono s2).ne nD
      have DM : D ≠ M := fun z => by have := s2 _ _ e3; rw [← z, nD] at this; cases this
      have DN : D ≠ N := fun z => by have := s2 _ _ e4; rw [← z, nD] at this; cases this
      have hD4 : H4 D = some (.lst ((f0 :: F').map fun x => V.ref x.1)) := rm_same a _ _ _ (s4 _ _ (rm_at hD Da))
      obtain ⟨⟨t, m, S'⟩, hz⟩ := get_some (L := f0 :: F') (i := n) (by omega)
      have mz := sub _ (List.mem_of_getElem? hz)
      obtain ⟨fnd, em⟩ := hFn _ mz
      obtain ⟨mv, q', a1, a2, a3⟩ := fnd.mono s3
      have wS' : WFS Y row S' := made_wf ok wS em
      have b1 := tup_draw d3 s4 a1
      have b2 : MoveAt H4 mv m := tup_draw d3 s4 a2
      have b3 := SitAt.draw d3 s4 a3
      have M4 : H4 M = some (.lst (L.map fun x => V.ref x.1)) := rm_same a _ _ _ (s4 _ _ (rm_at (s23 _ _ e3) Ma))
      have N4 : H4 N = some (.lst (Ss.map fun x => V.ref x.2)) := rm_same a _ _ _ (s4 _ _ (rm_at (s23 _ _ e4) Na))
      have mv4 : ∀ x ∈ L, MoveAt H4 x.1 x.2 := fun x hx => tup_draw d3 s4 (s23 _ _ (e5 x hx))
      have ks4 : KeysAt H4 Ss := fun x hx => SitAt.draw d3 s4 ((e6 x hx).mono s23)
      have e14 := Same.trans e1 (Same.trans (rm_mono s23) s4)
      refine ⟨D, _, _, _, rfl, rfl, SqL.of hD4, atI_nat (map_at hz), t, _, rfl, SqT.of' b1, rfl, _, _, rfl, _, _, rfl, rfl, ?_⟩
      refine ⟨_, rfl, tyL M4, _, rfl, M, _, _, rfl, rfl, M4, sz_lt (by rw [List.length_map]; omega), ?_⟩
      have ne1 : ∀ xs, HO.lst (L.map fun x => V.ref x.1) ≠ HO.tup xs := by intro _ z; cases z
      have ne2 : ∀ xs, HO.lst (Ss.map fun x => V.ref x.2) ≠ HO.tup xs := by intro _ z; cases z
      have N5 : upd H4 M (.lst (L.map (fun x => V.ref x.1) ++ [.ref mv])) N = some (.lst (Ss.map fun x => V.ref x.2)) := by rw [upd_ne MN]; exact N4
      refine ⟨_, rfl, tyL N5, _, rfl, N, _, _, rfl, rfl, N5, sz_lt (by rw [List.length_map]; omega), ?_⟩
      have lk : ∀ {b : Addr} {xs : List V}, H4 b = some (.tup xs) → upd (upd H4 M (.lst (L.map (fun x => V.ref x.1) ++ [.ref mv]))) N (.lst (Ss.map (fun x => V.ref x.2) ++ [.ref q'])) b = some (.tup xs) := fun z => lock_at N5 (lock_at M4 z (fun y => ne1 _ y.symm)) (fun y => ne2 _ y.symm)
      refine ⟨L ++ [(mv, m)], Ss ++ [(S', q')], q', S', _, _, _, rfl, rm_mut (rm_mut e14 nM) nN0, ?_, ?_, ?_, ?_, ?_, ?_, (b3.lock M4 ne1).lock N5 ne2, wS', by rw [List.length_append]; simp; omega, by rw [List.length_append]; simp; omega⟩
      · obtain ⟨ns, h1, h2⟩ := d4.ex
        exact ⟨ns, by rw [upd_ne Na.symm, upd_ne Ma.symm]; exact h1, h2⟩
      · rw [upd_ne MN.symm, upd_same, List.map_append]; rfl
      · rw [upd_same, List.map_append]; rfl
      · intro x hx
        rcases List.mem_append.mp hx with hx | hx
        · exact lk (mv4 x hx)
        · rw [List.mem_singleton.mp hx]; exact lk b2
      · intro x hx
        rcases List.mem_append.mp hx with hx | hx
        · exact ((ks4 x hx).lock M4 ne1).lock N5 ne2
        · rw [List.mem_singleton.mp hx]; exact (b3.lock M4 ne1).lock N5 ne2
      · intro x hx
        rcases List.mem_append.mp hx with hx | hx
        · exact e7 x hx
        · rw [List.mem_singleton.mp hx]; exact wS'
  · rintro σ H1 ⟨L, Ss, q, S, u6, u7, u8, rfl, e1, e2, e3, e4, e5, e6, e7, sq, wS, l1, l2⟩
    exact ⟨_, rfl, _, rfl, sz_le (Nat.le_of_ble_eq_true rfl), fin H1 L Ss e1 e2 e3 e4 e5 e6 e7 (by omega)⟩
end
end K92

/-! K92AB: the law: tries, rows without and with a wagon. -/
set_option Elab.async false
set_option linter.all false
set_option maxRecDepth 100000
set_option maxHeartbeats 4000000
set_option autoImplicit false
namespace K92
open PySem PySem.Spec PyProof.Rows L2
section
variable {P : Program} {w : World} {K : PySem.W.Frag} {mg : Str → Option Value} {base : Heap}
def sp__law_closed (P : Program) (w : World) (T : TX K w mg) : Sp := fun vs H Q _ => ∃ (y r : Addr) (Y : Yd) (row : List Int), vs = [.ref y, .ref r] ∧ YardAt T H y Y ∧ RowAt H r row ∧ IsRow row ∧ row.length ≤ 60 ∧ YOk Y ∧
  (∀ H', Same H H' → Q .non H') ∧ (∀ H' a Ss, Same H H' → H a = none → SitsAt H' a Ss → (∀ x ∈ Ss, WFS Y row x.1) → Ss ≠ [] → Ss.length ≤ 4000 → Q (.ref a) H')
theorem c__law_closed (T : TX K w mg) : C8.Cal P w K mg base 12 "_law_closed" (sp__law_closed P w T) [] := by
  obtain ⟨f, fd, F, b⟩ := T.fn__law_closed
  refine C8.cal0 (k := 11) F b .nil sc__law_closed (fun vs H Q E h => by obtain ⟨_, _, _, _, rfl, _⟩ := h; rfl) (fun cdv A outer s H vs Q E hr h => ?_)
  have hu := hu_of hr
  have nd := sc__law_closed.nd
  refine ⟨_, pss_one (ps_try_only (tb := fun W => tRet (tCallS (sp_closed_list P w T) (WE W) (tCons (tVar 0) (tCons (tVar 1) tNil)))) (ts := fun _ _ _ => tRet (tC .non)) (Wout := fun _ _ _ _ => False) rfl rfl ⟨rfl, by decide, Or.inl T.g_TooLarge⟩ takes0
    (fun W pn xe tk _ => pss_one (ps_ret (by exact (pe_callSX (c_closed_list T) hr (by decide) rfl tk (pa_cons (pv 0) (pa_cons (pv 1) pa_nil))))))
    (fun a oe cls d pn hz hf => pss_one (ps_ret pe_non))), ?_⟩
  obtain ⟨y, r, Y, row, rfl, ya, ra, ir, few, ok, kN, kW⟩ := h
  refine ⟨_, rfl, _, rfl, y, r, Y, row, rfl, ya, ra, ir, few, ok, kN, kW, fun H1 s1 => ?_⟩
  exact ⟨true, T.eTL, fun _ _ _ => kN _ s1, fun q => by cases q⟩
def sp__law_solved (P : Program) (w : World) (T : TX K w mg) : Sp := fun vs H Q _ => ∃ (y r : Addr) (Y : Yd) (row : List Int), vs = [.ref y, .ref r] ∧ YardAt T H y Y ∧ RowAt H r row ∧ IsRow row ∧ row.length ≤ 60 ∧ YOk Y ∧
  (∀ H', Same H H' → Q .non H') ∧ (∀ H' a mvs, Same H H' → H a = none → MovesAt H' a mvs → Way Y row → Q (.ref a) H')
theorem c__law_solved (T : TX K w mg) : C8.Cal P w K mg base 12 "_law_solved" (sp__law_solved P w T) [] := by
  obtain ⟨f, fd, F, b⟩ := T.fn__law_solved
  refine C8.cal0 (k := 11) F b .nil sc__law_solved (fun vs H Q E h => by obtain ⟨_, _, _, _, rfl, _⟩ := h; rfl) (fun cdv A outer s H vs Q E hr h => ?_)
  have hu := hu_of hr
  have nd := sc__law_solved.nd
  refine ⟨_, pss_one (ps_try_only (tb := fun W => tRet (tCallS (sp_solve P w T) (WE W) (tCons (tVar 0) (tCons (tVar 1) tNil)))) (ts := fun _ _ _ => tRet (tC .non)) (Wout := fun _ _ _ _ => False) rfl rfl ⟨rfl, by decide, Or.inl T.g_TooLarge⟩ takes0
    (fun W pn xe tk _ => pss_one (ps_ret (by exact (pe_callSX (c_solve T) hr (by decide) rfl tk (pa_cons (pv 0) (pa_cons (pv 1) pa_nil))))))
    (fun a oe cls d pn hz hf => pss_one (ps_ret pe_non))), ?_⟩
  obtain ⟨y, r, Y, row, rfl, ya, ra, ir, few, ok, kN, kW⟩ := h
  exact ⟨_, rfl, _, rfl, y, r, Y, row, rfl, ya, ra, ir, few, ok, (fun H1 s1 _ => kN _ s1), kW, fun H1 s1 => ⟨true, T.eTL, fun _ _ _ => kN _ s1, fun q => by cases q⟩⟩
def sp__law_sorted (P : Program) (w : World) (T : TX K w mg) : Sp := fun vs H Q _ => ∃ (y r : Addr) (Y : Yd) (row : List Int), vs = [.ref y, .ref r] ∧ YardAt T H y Y ∧ RowAt H r row ∧ IsRow row ∧ row.length ≤ 60 ∧ YOk Y ∧
  (∀ H', Same H H' → ¬ Way Y row → Q (.bl false) H') ∧ (∀ H', Same H H' → Q (.bl true) H')
theorem c__law_sorted (T : TX K w mg) : C8.Cal P w K mg base 12 "_law_sorted" (sp__law_sorted P w T) [] := by
  obtain ⟨f, fd, F, b⟩ := T.fn__law_sorted
  refine C8.cal0 (k := 11) F b .nil sc__law_sorted (fun vs H Q E h => by obtain ⟨_, _, _, _, rfl, _⟩ := h; rfl) (fun cdv A outer s H vs Q E hr h => ?_)
  have hu := hu_of hr
  have nd := sc__law_sorted.nd
  refine ⟨_, pss_one (ps_try_only (tb := fun W => tRet (tCallS (sp_can_sort P w T) (WE W) (tCons (tVar 0) (tCons (tVar 1) tNil)))) (ts := fun _ _ _ => tRet (tC (.bl true))) (Wout := fun _ _ _ _ => False) rfl rfl ⟨rfl, by decide, Or.inl T.g_TooLarge⟩ takes0
    (fun W pn xe tk _ => pss_one (ps_ret (by exact (pe_callSX (c_can_sort T) hr (by decide) rfl tk (pa_cons (pv 0) (pa_cons (pv 1) pa_nil))))))
    (fun a oe cls d pn hz hf => pss_one (ps_ret pe_bl))), ?_⟩
  obtain ⟨y, r, Y, row, rfl, ya, ra, ir, few, ok, kN, kW⟩ := h
  exact ⟨_, rfl, _, rfl, y, r, Y, row, rfl, ya, ra, ir, few, ok, kN, (fun H1 s1 _ => kW _ s1), fun H1 s1 => ⟨true, T.eTL, fun _ _ _ => kW _ s1, fun q => by cases q⟩⟩
def sp__law_without (P : Program) (w : World) (T : TX K w mg) : Sp := fun vs H Q _ => ∃ (r : Addr) (row : List Int) (wv : Int), vs = [.ref r, .int wv] ∧ RowAt H r row ∧ row.length ≤ 60 ∧ ∀ H' D, Same H H' → H D = none → RowAt H' D (rem wv row) → Q (.ref D) H'
theorem c__law_without (T : TX K w mg) : C8.Cal P w K mg base 1 "_law_without" (sp__law_without P w T) [] := by
  obtain ⟨f, fd, F, b⟩ := T.fn__law_without
  refine C8.cal0 F b .nil sc__law_without (fun vs H Q E h => by obtain ⟨_, _, _, rfl, _⟩ := h; rfl) (fun cdv A outer s H vs Q E hr h => ?_)
  have hu := hu_of hr
  have nd := sc__law_without.nd
  refine ⟨_, (pss_one (ps_ret (pe_lc (own := [("_law_other", 2)]) rfl nd (pi_list (pv 0)) (blkOk_by (N := N__law_without) (sc := C8.fnScope s__law_without) (by decide +kernel)) (fun _ _ _ _ _ => (pg_name (i := 2) nd rfl (Or.inl rfl))) (fun _ _ _ _ _ => (pts_one (pt_cmpR op_ne (pv 2) (pv 1) (nomark _)))) (fun _ _ _ _ _ => (pe_op op_sub (pv 2) (pe_callTy call_int1 (by rfl) T.b_int boot_int_ (pa_cons (pe_cmpR op_gt (pv 2) (pv 1) (nomark _)) pa_nil))))))), ?_⟩
  obtain ⟨r, row, wv, rfl, ra, few, k⟩ := h
  refine ⟨_, rfl, r, rfl, ⟨_, SqL.of ra⟩, fun D nD => ?_⟩
  refine lc_list (K := K) (a := r) (xs := row.map V.int) (fun j H' => Same H H' ∧ H' D = some (.lst ((rem wv (row.take j)).map V.int))) ⟨Same.new nD, upd_same⟩ (fun _ _ _ s => SqL.of (s.1 _ _ ra)) ?_ ?_
  · rintro j x H5 hx ⟨s6, hD⟩
    have hj := get_lt hx
    rw [List.length_map] at hj
    obtain ⟨v, hv⟩ := get_some hj
    obtain rfl : x = V.int v := Option.some.inj (hx.symm.trans (map_at hv))
    rw [take_snoc hv, rem_snoc]
    refine ⟨rfl, _, rfl, _, rfl, rfl, _, rfl, ite_ne (fun z => ?_) (fun z => ?_)⟩
    · rw [if_neg z]
      refine ⟨_, rfl, _, rfl, _, rfl, _, _, rfl, rfl, .inr ⟨_, rfl, _, _, rfl, rfl, _, hD, sz_lt ?_, ?_⟩⟩
      · have := rem_length wv (row.take j)
        rw [List.length_take] at this
        rw [List.length_map]
        omega
      · have e : v - (if decide (wv < v) = true then 1 else 0) = dec wv v := by
          unfold dec
          by_cases y : wv < v
          · rw [if_pos y, if_pos (decide_eq_true y)]
          · rw [if_neg y, if_neg (fun q => y (of_decide_eq_true q))]; omega
        dsimp only
        rw [e]
        refine ⟨Same.mut s6 nD, ?_⟩
        rw [upd_same, List.map_append]
        rfl
    · rw [if_pos z, List.append_nil]
      exact ⟨s6, hD⟩
  · rintro H5 ⟨s6, hD⟩
    rw [List.length_map, List.take_length] at hD
    exact k _ D s6 nD hD
def sp__law_with (P : Program) (w : World) (T : TX K w mg) : Sp := fun vs H Q _ => ∃ (a r : Addr) (row : List Int), vs = [.ref a, .ref r] ∧ Dr a H ∧ RowAt (rm a H) r row ∧ IsRow row ∧ row.length ≤ 50 ∧
  ∀ H' D lo, Same (rm a H) (rm a H') → Dr a H' → RowAt (rm a H') D lo → IsRow lo → lo.length ≤ 60 → (∀ Y, Way Y lo → Way Y row) → Q (.ref D) H'
theorem c__law_with (T : TX K w mg) : C8.Cal P w K mg base 4 "_law_with" (sp__law_with P w T) [] := by
  obtain ⟨f, fd, F, b⟩ := T.fn__law_with
  refine C8.cal0 F b .nil sc__law_with (fun vs H Q E h => by obtain ⟨_, _, _, rfl, _⟩ := h; rfl) (fun cdv A outer s H vs Q E hr h => ?_)
  have hu := hu_of hr
  have nd := sc__law_with.nd
  refine ⟨_, (pss_cons (ps_set (i := 2) nd rfl (Or.inl rfl) (pe_callTy (call_listK (K := K) rfl) (by rfl) T.b_list boot_list_ (pa_cons (pv 1) pa_nil)))
      (pss_cons (ps_for PassesOwn.never rfl (pi_range1 rfl T.b_range (pa_cons (C8.pe_c (c__law_pick T) hr (by decide) rfl (pa_cons (pv 0) (pa_cons pe_int pa_nil))) pa_nil)) (pg_name (i := 3) nd rfl (Or.inl rfl)) (pss_cons (ps_set (i := 4) nd rfl (Or.inr rfl) (pe_op op_add pe_int (C8.pe_c (c__law_pick T) hr (by decide) rfl (pa_cons (pv 0) (pa_cons (pe_op op_add (pe_callB (call_lenK (K := K) rfl) (by rfl) T.b_len PySem.boot_len (pa_cons (pv 2) pa_nil)) pe_int) pa_nil)))))
      (pss_cons (ps_setLc (own := [("_law_other", 5)]) (i := 2) rfl nd rfl rfl (sw_true rfl rfl rfl (by decide +kernel)) (pi_list (pv 2)) (blkOk_by (N := N__law_with) (sc := C8.fnScope s__law_with) (by decide +kernel)) (fun _ _ _ _ _ => (pg_name (i := 5) nd rfl (Or.inl rfl))) (fun _ _ _ _ _ => pts_nil) (fun _ _ _ _ _ => (pe_op op_add (pv 5) (pe_callTy call_int1 (by rfl) T.b_int boot_int_ (pa_cons (pe_cmpR op_ge (pv 5) (pv 4) (nomark _)) pa_nil)))))
      (pss_one (ps_expr (pe_bm PySem.F.plainAttrs_list PySem.F.slot_list_insert PySem.F.type_list_insert mt_insert (pv 2) (pa_cons (C8.pe_c (c__law_pick T) hr (by decide) rfl (pa_cons (pv 0) (pa_cons (pe_op op_add (pe_callB (call_lenK (K := K) rfl) (by rfl) T.b_len PySem.boot_len (pa_cons (pv 2) pa_nil)) pe_int) pa_nil))) (pa_cons (pv 4) pa_nil))))))))
      (pss_one (ps_ret (pv 2))))), ?_⟩
  obtain ⟨a, r, row, rfl, d, ra, ir, few, k⟩ := h
  refine ⟨_, rfl, r, _, rfl, .inl (SqL.of (rm_same a _ _ _ ra)), fun D0 n0 => ?_⟩
  have s0 := Same.new n0 (o := .lst (row.map V.int))
  have d0 := d.mono s0
  have D0a := d.ne n0
  refine ⟨_, rfl, a, 3, rfl, d0, by decide, fun H1 n s1 d1 hn => ⟨_, rfl, by omega, by omega, ?_⟩⟩
  rw [show ((n : Int)).toNat = n by omega]
  have e01 := Same.trans (rm_mono (a := a) s0) s1
  refine for_range (n := n) (fun i σ H' => ∃ (D : Addr) (lo : List Int) (u3 u4 : Option V), σ = [some (.ref a), some (.ref r), some (.ref D), u3, u4, none] ∧ Same (rm a H) (rm a H') ∧ Dr a H' ∧ RowAt (rm a H') D lo ∧ IsRow lo ∧ lo.length = row.length + i ∧ ∀ Y, Way Y lo → Way Y row)
    ⟨D0, row, none, none, rfl, e01, d1, s1 _ _ (rm_at upd_same D0a), ir, rfl, fun _ h => h⟩ ?_ ?_
  · rintro i σ H2 hi ⟨D, lo, u3, u4, rfl, e2, d2, rl, il, ll, wy⟩
    have rl2 : RowAt H2 D lo := rm_same a _ _ _ rl
    refine ⟨_, rfl, _, rfl, D, _, rfl, .inl (SqL.of rl2), _, _, rfl, rfl, a, _, rfl, d2, ?_, fun H3 j s3 d3 hj => ?_⟩
    · rw [List.length_map]; omega
    rw [List.length_map] at hj
    refine ⟨_, _, rfl, rfl, ?_⟩
    have rl3 : RowAt H3 D lo := rm_same a _ _ _ (s3 _ _ rl)
    refine ⟨_, rfl, D, rfl, ⟨_, SqL.of rl3⟩, fun E nE => ?_⟩
    refine lc_list (K := K) (a := D) (xs := lo.map V.int) (fun m H' => Same H3 H' ∧ H' E = some (.lst (((lo.take m).map (inc (1 + (j : Int)))).map V.int))) ⟨Same.new nE, upd_same⟩ (fun _ _ _ s => SqL.of (s.1 _ _ rl3)) ?_ ?_
    · rintro m x H5 hx ⟨s6, hE⟩
      have hm := get_lt hx
      rw [List.length_map] at hm
      obtain ⟨v, hv⟩ := get_some hm
      obtain rfl : x = V.int v := Option.some.inj (hx.symm.trans (map_at hv))
      refine ⟨rfl, _, rfl, _, rfl, _, rfl, _, _, rfl, rfl, .inr ⟨_, rfl, _, _, rfl, rfl, _, hE, sz_lt ?_, ?_⟩⟩
      · rw [List.length_map, List.length_map, List.length_take]
        omega
      · have e : v + (if decide (1 + (j : Int) ≤ v) = true then 1 else 0) = inc (1 + (j : Int)) v := by
          unfold inc
          by_cases y : 1 + (j : Int) ≤ v
          · rw [if_pos y, if_pos (decide_eq_true y)]
          · rw [if_neg y, if_neg (fun q => y (of_decide_eq_true q))]; omega
        dsimp only
        rw [e]
        refine ⟨Same.mut s6 nE, ?_⟩
        rw [upd_same, take_snoc hv, List.map_append, List.map_append]
        rfl
    rintro H5 ⟨s6, hE⟩
    rw [List.length_map, List.take_length] at hE
    have d5 := d3.mono s6
    have Ea := d3.ne nE
    refine ⟨_, rfl, tyL hE, _, rfl, _, rfl, E, _, rfl, .inl (SqL.of hE), _, _, rfl, rfl, a, _, rfl, d5, ?_, fun H6 p s7 d6 hp => ?_⟩
    · rw [List.length_map]; omega
    have hE6 : H6 E = some (.lst ((lo.map (inc (1 + (j : Int)))).map V.int)) := rm_same a _ _ _ (s7 _ _ (rm_at hE Ea))
    refine ⟨_, rfl, E, _, _, _, rfl, rfl, hE6, sz_lt (by rw [List.length_map, List.length_map]; omega), by omega, ?_, ?_⟩
    · rw [List.length_map, List.length_map] at hp
      omega
    have e3 := Same.trans e2 s3
    have nE0 : rm a H E = none := by
      by_cases z : E = a
      · exact absurd z Ea
      · exact Same.free e3 (by rw [rm_ne z]; exact nE)
    have e7 := Same.trans e3 (Same.trans (rm_mono s6) s7)
    refine ⟨E, putAt (1 + (j : Int)) p lo, _, _, rfl, ?_, ?_, ?_, il.putAt p (by omega) (by omega), by rw [putAt_length]; omega, fun Y h => wy Y (Way.of_putAt h il (by omega) (by omega))⟩
    · refine rm_mut e7 ?_
      rw [rm_ne Ea] at nE0
      exact nE0
    · obtain ⟨ns, q1, q2⟩ := d6.ex
      exact ⟨ns, by rw [upd_ne Ea.symm]; exact q1, q2⟩
    · refine rm_at ?_ Ea
      rw [upd_same, show ((p : Int)).toNat = p by omega]
      unfold putAt
      rw [List.map_append, List.map_cons, List.map_take, List.map_drop]
      simp
  · rintro σ H2 ⟨D, lo, u3, u4, rfl, e2, d2, rl, il, ll, wy⟩
    exact ⟨_, rfl, k _ D lo e2 d2 rl il (by omega) wy⟩
end
end K92

/-! K92AC: the law. -/
set_option Elab.async false
set_option linter.all false
set_option maxRecDepth 100000
set_option maxHeartbeats 4000000
set_option autoImplicit false
namespace K92
open PySem PySem.Spec PyProof.Rows L2
section
variable {P : Program} {w : World} {K : PySem.W.Frag} {mg : Str → Option Value} {base : Heap}
/-! ### what survives the draws -/
theorem Dr.lst {a : Addr} {H : Hp} (d : Dr a H) : ∃ xs, H a = some (.lst xs) := by
  obtain ⟨ns, h, _⟩ := d.ex
  exact ⟨_, h⟩
theorem MovesAt.rm {a b : Addr} {H : Hp} {ms : List Move} (d : Dr a H) (h : MovesAt H b ms) (n : b ≠ a) : MovesAt (K92.rm a H) b ms := by
  obtain ⟨ns, h1, _⟩ := d.ex
  obtain ⟨as, e1, e2⟩ := h
  exact ⟨as, rm_at e1 n, Paired.mapP e2 fun _ _ z => rm_at z fun y => by subst y; cases h1.symm.trans z⟩
theorem SitsAt.rm {a b : Addr} {H : Hp} {Ss : List (Sit × Addr)} (d : Dr a H) (h : SitsAt H b Ss) (n : b ≠ a) : SitsAt (K92.rm a H) b Ss := ⟨rm_at h.1 n, fun x hx => SitAt.rm d (h.2 x hx)⟩
theorem way_nil (Y : Yd) : Way Y [] := ⟨first Y, .init, rfl⟩
/-- a list of ways, or of None -/
structure WyI (G : Hp) (W : Addr) (i : Nat) (H : Hp) : Prop where
  same : Same G H
  new : G W = none
  ex : ∃ vs : List V, H W = some (.lst vs) ∧ vs.length = i ∧ ∀ v ∈ vs, v = V.non ∨ ∃ b ms, v = V.ref b ∧ MovesAt H b ms ∧ b ≠ W
theorem MovesAt.put {H : Hp} {W b : Addr} {ms : List Move} {xs : List V} {o : HO} (h : MovesAt H b ms) (hW : H W = some (.lst xs)) (n : b ≠ W) : MovesAt (upd H W o) b ms := by
  obtain ⟨as, e1, e2⟩ := h
  exact ⟨as, by rw [upd_ne n]; exact e1, Paired.mapP e2 fun _ _ z => lock_at hW z (by intro y; cases y)⟩
theorem ways_of {H : Hp} {W : Addr} {vs : List V} (hW : H W = some (.lst vs)) (h : ∀ v ∈ vs, ∃ b ms, v = V.ref b ∧ MovesAt H b ms) : ∃ wss, WaysAt H W wss := by
  have go : ∀ vs : List V, (∀ v ∈ vs, ∃ b ms, v = V.ref b ∧ MovesAt H b ms) → ∃ (as : List Addr) (wss : List (List Move)), vs = as.map V.ref ∧ Paired (fun x ms => MovesAt H x ms) as wss := fun vs => by
    induction vs with
    | nil => intro _; exact ⟨[], [], rfl, .nil⟩
    | cons v vs ih =>
      intro hh
      obtain ⟨b, ms, rfl, m⟩ := hh v (.head _)
      obtain ⟨as, wss, rfl, p⟩ := ih fun v hv => hh v (.tail _ hv)
      exact ⟨b :: as, ms :: wss, rfl, .cons m p⟩
  obtain ⟨as, wss, rfl, p⟩ := go vs h
  exact ⟨wss, as, hW, p⟩
def sp__law_is_least (P : Program) (w : World) (T : TX K w mg) : Sp := fun vs H Q _ => ∃ (a : Addr) (t : List Nat) (r sa : Addr) (Y : Yd) (row : List Int) (Ss : List (Sit × Addr)), vs = [.ref a, .str (txS t), .ref r, .ref sa] ∧ Dr a H ∧ TxY t Y ∧ RowAt (rm a H) r row ∧ IsRow row ∧ row.length ≤ 10 ∧
  SitsAt (rm a H) sa Ss ∧ (∀ x ∈ Ss, WFS Y row x.1) ∧ Ss.length ≤ 5000 ∧ ¬ Way Y row ∧ ∀ H', Q (.bl true) H'
theorem c__law_is_least (T : TX K w mg) : C8.Cal P w K mg base 16 "_law_is_least" (sp__law_is_least P w T) [] := by
  obtain ⟨f, fd, F, b⟩ := T.fn__law_is_least
  refine C8.cal0 F b .nil sc__law_is_least (fun vs H Q E h => by obtain ⟨_, _, _, _, _, _, _, rfl, _⟩ := h; rfl) (fun cdv A outer s H vs Q E hr h => ?_)
  have hu := hu_of hr
  have nd := sc__law_is_least.nd
  refine ⟨_, (pss_cons (ps_set (i := 4) nd rfl (Or.inr rfl) (C8.pe_mk (c_Yard_init T) hr (by decide) rfl (pa_cons (pv 1) pa_nil)))
      (pss_cons (ps_setLc (own := [("_law_wagon", 9)]) (i := 5) rfl nd rfl rfl (sw_true rfl rfl rfl (by decide +kernel)) (pi_range2 rfl T.b_range (pa_cons pe_int (pa_cons (pe_op op_add (pe_callB (call_lenK (K := K) rfl) (by rfl) T.b_len PySem.boot_len (pa_cons (pv 2) pa_nil)) pe_int) pa_nil))) (blkOk_by (N := N__law_is_least) (sc := C8.fnScope s__law_is_least) (by decide +kernel)) (fun _ _ _ _ _ => (pg_name (i := 9) nd rfl (Or.inl rfl))) (fun _ _ _ _ _ => pts_nil) (fun _ _ _ _ _ => (C8.pe_c (c__law_solved T) hr (by decide) rfl (pa_cons (pv 4) (pa_cons (C8.pe_c (c__law_without T) hr (by decide) rfl (pa_cons (pv 2) (pa_cons (pv 9) pa_nil))) pa_nil)))))
      (pss_cons (ps_if (PW.pt (pw_or (pt_cmpR (op_nonInL (ru65 hr)) pe_non (pv 5) (by rfl)) (pw_or1 (pt_not (pt_val (C8.pe_c (c_is_least_row T) hr (by decide) rfl (pa_cons (pv 1) (pa_cons (pv 2) (pa_cons (pv 3) (pa_cons (pv 5) pa_nil)))))))))) (pss_one (ps_ret pe_bl)) pss_nil)
      (pss_cons (ps_set (i := 6) nd rfl (Or.inl rfl) (pe_callTy (call_listK (K := K) rfl) (by rfl) T.b_list boot_list_ (pa_cons (pv 2) pa_nil)))
      (pss_cons (ps_for PassesOwn.never rfl (pi_range1 rfl T.b_range (pa_cons (pe_op op_add pe_int (C8.pe_c (c__law_pick T) hr (by decide) rfl (pa_cons (pv 0) (pa_cons pe_int pa_nil)))) pa_nil)) (pg_name (i := 7) nd rfl (Or.inl rfl)) (pss_one (ps_if (pt_truth (pv 6) (by intro _; rfl)) (pss_one (ps_set (i := 6) nd rfl (Or.inl rfl) (C8.pe_c (c__law_without T) hr (by decide) rfl (pa_cons (pv 6) (pa_cons (pe_op op_add pe_int (C8.pe_c (c__law_pick T) hr (by decide) rfl (pa_cons (pv 0) (pa_cons (pe_callB (call_lenK (K := K) rfl) (by rfl) T.b_len PySem.boot_len (pa_cons (pv 6) pa_nil)) pa_nil)))) pa_nil))))) pss_nil)))
      (pss_cons (ps_if (pt_not (pt_val (C8.pe_c (c__law_sorted T) hr (by decide) rfl (pa_cons (pv 4) (pa_cons (pv 6) pa_nil))))) (pss_one (ps_ret pe_bl)) pss_nil)
      (pss_cons (ps_set (i := 8) nd rfl (Or.inl rfl) (C8.pe_c (c__law_with T) hr (by decide) rfl (pa_cons (pv 0) (pa_cons (pv 2) pa_nil))))
      (pss_one (ps_ret (pe_not (C8.pe_c (c_is_way T) hr (by decide) rfl (pa_cons (pv 1) (pa_cons (pv 8) (pa_cons (pe_ix (ix_tupK (K := K) rfl) (C8.pe_c (c__law_walk T) hr (by decide) rfl (pa_cons (pv 0) (pa_cons (C8.pe_c (c__law_plan T) hr (by decide) rfl (pa_cons (pv 1) pa_nil)) (pa_cons (pv 8) pa_nil)))) pe_int (fun _ _ => rfl)) pa_nil)))))))))))))), ?_⟩
  obtain ⟨a, t, r, sa, Y, row, Ss, rfl, d, ty, ra, ir, few, sits, wfs, many, nw, k⟩ := h
  have ok := ty.ok
  refine ⟨_, rfl, fun y ydx ny nyd ne => ?_⟩
  have s0 : Same H (upd (upd H ydx (.own y)) y (.ins T.cYard ydx [])) := Same.add (Same.new nyd) (by rw [upd_ne (Ne.symm ne)]; exact ny)
  refine ⟨H, y, ydx, t, Y, rfl, ((Fr.empty H).junk nyd).new_own (by rw [upd_ne (Ne.symm ne)]; exact ny), ty, fun H1 s1 ya yrm => ⟨rfl, ?_⟩⟩
  have d1 := d.mono s1
  obtain ⟨xs0, hxs0⟩ := d.lst
  have ya1 := yrm a _ hxs0
  have ra1 : RowAt H1 r row := s1 _ _ (rm_same a _ _ _ ra)
  refine ⟨_, rfl, r, _, rfl, .inl (SqL.of ra1), _, _, rfl, rfl, _, _, rfl, ⟨by decide, by decide, by omega, by rw [List.length_map]; omega⟩, fun W nW => ?_⟩
  rw [List.length_map, show ((((row.length : Nat) : Int) + 1) - 1).toNat = row.length by omega]
  refine lc_range (n := row.length) (fun i H' => WyI H1 W i H') ⟨Same.new nW, nW, [], upd_same, rfl, (by intro _ z; cases z)⟩ ?_ ?_
  · intro i H' hi u
    obtain ⟨vs, hW, lv, hv⟩ := u.ex
    have ra' : RowAt H' r row := u.same _ _ ra1
    refine ⟨rfl, _, rfl, _, rfl, _, rfl, r, row, 1 + (i : Int), rfl, ra', by omega, fun H2 D s2 nD rd => ?_⟩
    have l1 := ir.rem_len (w := 1 + (i : Int)) (by omega) (by omega)
    have hW2 : H2 W = some (.lst vs) := s2 _ _ hW
    have WN : ∀ {b}, H2 b = none → b ≠ W := fun {b} z y => by rw [y, hW2] at z; cases z
    have step : ∀ (H3 : Hp) (v : V), Same H2 H3 → (v = V.non ∨ ∃ b ms, v = V.ref b ∧ MovesAt H3 b ms ∧ b ≠ W) → ∃ acc, H3 W = some (.lst acc) ∧ acc.length < sizeLine ∧ WyI H1 W (i + 1) (upd H3 W (.lst (acc ++ [v]))) := fun H3 v s3 hv3 => by
      have hW3 := s3 _ _ hW2
      refine ⟨vs, hW3, sz_lt (by omega), Same.mut (Same.trans u.same (Same.trans s2 s3)) nW, nW, vs ++ [v], upd_same, by rw [List.length_append, lv]; rfl, fun z hz => ?_⟩
      rcases List.mem_append.mp hz with hz | hz
      · rcases hv z hz with q | ⟨b, ms, q1, q2, q3⟩
        · exact .inl q
        · exact .inr ⟨b, ms, q1, ((q2.mono s2).mono s3).put hW3 q3, q3⟩
      · rw [List.mem_singleton.mp hz]
        rcases hv3 with q | ⟨b, ms, q1, q2, q3⟩
        · exact .inl q
        · exact .inr ⟨b, ms, q1, q2.put hW3 q3, q3⟩
    refine ⟨y, D, Y, rem (1 + (i : Int)) row, rfl, (ya.mono u.same).mono s2, rd, ir.rem (by omega) (by omega), by omega, ok, fun H3 s3 => step H3 .non s3 (.inl rfl), fun H3 b ms s3 nb mv _ => step H3 (.ref b) s3 (.inr ⟨b, ms, rfl, mv, WN nb⟩)⟩
  rintro H2 u
  obtain ⟨vs, hW, lv, hv⟩ := u.ex
  have s12 := Same.trans s1 u.same
  refine ⟨_, rfl, W, vs, rfl, rfl, SqL.of hW, fun z hz => ?_, _, rfl, ite2 (fun _ => iteT (k _)) (fun nn => ?_)⟩
  · rcases hv z hz with q | ⟨b, ms, q1, ⟨as, q2, _⟩, _⟩
    · exact .inl q
    · exact .inr ⟨b, _, q1, SqL.of q2⟩
  have all : ∀ v ∈ vs, ∃ b ms, v = V.ref b ∧ MovesAt H2 b ms := fun v hv' => by
    rcases hv v hv' with q | ⟨b, ms, q1, q2, _⟩
    · exact absurd (List.any_eq_true.mpr ⟨v, hv', by rw [q]; rfl⟩) nn
    · exact ⟨b, ms, q1, q2⟩
  obtain ⟨wss, hws⟩ := ways_of hW all
  have ra2 : RowAt H2 r row := u.same _ _ ra1
  have sits2 : SitsAt H2 sa Ss := (sits.mono (rm_same a H)).mono s12
  refine ⟨_, rfl, _, rfl, _, rfl, _, rfl, t, r, sa, W, Y, row, Ss, wss, rfl, ty, ra2, ir, by omega, sits2, wfs, many, hws, fun H3 b s3 hb => ⟨_, rfl, ?_⟩⟩
  cases b with
  | false => exact iteT (k _)
  | true =>
  refine iteF ?_
  have hb := hb rfl
  have s13 := Same.trans s12 s3
  have d3 := d.mono s13
  have ra3 : RowAt H3 r row := s3 _ _ ra2
  refine ⟨_, rfl, r, _, rfl, .inl (SqL.of ra3), fun S0 nS0 => ?_⟩
  have s4 := Same.new nS0 (o := .lst (row.map V.int))
  have d4 := d3.mono s4
  have e4 := rm_mono (a := a) (Same.trans s13 s4)
  refine ⟨_, rfl, a, 2, rfl, d4, by decide, fun H5 n s5 d5 hn => ⟨_, _, rfl, rfl, _, rfl, by omega, by omega, ?_⟩⟩
  rw [show ((1 : Int) + (n : Int)).toNat = 1 + n by omega]
  have ya5 : YardAt T (rm a H5) y Y := (((ya1.mono (rm_mono u.same)).mono (rm_mono s3)).mono (rm_mono s4)).mono s5
  refine for_range (n := 1 + n) (fun i σ H' => ∃ (D : Addr) (lo : List Int) (u7 : Option V), σ = [some (.ref a), some (.str (txS t)), some (.ref r), some (.ref sa), some (.ref y), some (.ref W), some (.ref D), u7, none, none] ∧ Same (rm a H) (rm a H') ∧ Dr a H' ∧ YardAt T (rm a H') y Y ∧ RowAt (rm a H') D lo ∧ IsRow lo ∧ lo.length ≤ 10 ∧ (i = 0 → lo = row) ∧ (0 < i → Way Y lo))
    ⟨S0, row, none, rfl, Same.trans e4 s5, d5, ya5, s5 _ _ (rm_at upd_same (d3.ne nS0)), ir, few, fun _ => rfl, fun z => by omega⟩ ?_ ?_
  · rintro i σ H6 hi ⟨D, lo, u7, rfl, e6, d6, y6, r6, il, l6, z0, z1⟩
    have r6' : RowAt H6 D lo := rm_same a _ _ _ r6
    cases lo with
    | nil =>
      refine ⟨_, rfl, _, .inl ⟨_, SqL.of r6', rfl⟩, iteF ?_⟩
      exact ⟨D, [], _, rfl, e6, d6, y6, r6, il, l6, fun z => by omega, fun _ => way_nil Y⟩
    | cons v lo =>
      refine ⟨_, rfl, _, .inl ⟨_, SqL.of r6', rfl⟩, iteT ?_⟩
      refine ⟨_, rfl, _, rfl, _, rfl, D, _, rfl, .inl (SqL.of r6'), a, _, rfl, d6, by rw [List.length_map, List.length_cons]; omega, fun H7 j s7 d7 hj => ?_⟩
      rw [List.length_map] at hj
      have r7 : RowAt (rm a H7) D (v :: lo) := s7 _ _ r6
      refine ⟨_, _, rfl, rfl, D, v :: lo, 1 + (j : Int), rfl, rm_same a _ _ _ r7, by omega, fun H8 E s8 nE rE => ?_⟩
      have l8 := il.rem_len (w := 1 + (j : Int)) (by omega) (by omega)
      refine ⟨E, rem (1 + (j : Int)) (v :: lo), _, rfl, Same.trans e6 (Same.trans s7 (rm_mono s8)), d7.mono s8, (y6.mono s7).mono (rm_mono s8), rm_at rE (d7.ne nE), il.rem (by omega) (by omega), by omega, fun z => by omega, fun _ => ?_⟩
      by_cases i0 : i = 0
      · rw [z0 i0]
        have := hb (1 + j) (by omega) (by rw [← z0 i0]; omega)
        rw [show ((1 + j : Nat) : Int) = 1 + (j : Int) by omega] at this
        exact this
      · exact (z1 (by omega)).rem il (by omega) (by omega)
  · rintro σ H6 ⟨D, lo, u7, rfl, e6, d6, y6, r6, il, l6, z0, z1⟩
    have wlo := z1 (by omega)
    refine ⟨_, rfl, _, rfl, y, D, Y, lo, rfl, y6.mono (rm_same a _), rm_same a _ _ _ r6, il, by omega, ok, fun H7 _ nwy => absurd wlo nwy, fun H7 s7 => ⟨_, rfl, iteF ?_⟩⟩
    have d7 := d6.mono s7
    have e7 := Same.trans e6 (rm_mono s7)
    refine ⟨_, rfl, _, rfl, a, r, row, rfl, d7, e7 _ _ ra, ir, by omega, fun H8 E lo8 s8 d8 r8 il8 l8 w8 => ?_⟩
    refine ⟨_, rfl, _, rfl, _, rfl, _, rfl, t, Y, rfl, ty, fun H9 pl s9 pa prm => ?_⟩
    have d9 := d8.mono s9
    obtain ⟨xs8, hxs8⟩ := d8.lst
    refine ⟨_, rfl, a, pl, E, Y, lo8, rfl, d9, prm a _ hxs8, rm_mono s9 _ _ r8, ok, l8, fun H10 tt M N ms Ss' s10 d10 htt mvs _ _ _ => ?_⟩
    refine ⟨tt, _, _, _, rfl, rfl, SqT.of' (rm_same a _ _ _ htt), rfl, ?_⟩
    have r10 : RowAt H10 E lo8 := rm_same a _ _ _ (s10 _ _ (rm_mono s9 _ _ r8))
    refine ⟨t, E, M, Y, lo8, ms, rfl, ty, r10, il8, l8, mvs.mono (rm_same a _), fun H11 b s11 hb11 => ⟨_, rfl, ?_⟩⟩
    cases b with
    | true => exact absurd (w8 Y (hb11 rfl)) nw
    | false => exact k _
end
end K92

/-! K92AD: the law holds its promise. -/
set_option Elab.async false
set_option linter.all false
set_option maxRecDepth 100000
set_option maxHeartbeats 4000000
set_option autoImplicit false
namespace K92
open PySem PySem.Spec PyProof.Rows L2
section
variable {P : Program} {w : World} {K : PySem.W.Frag} {mg : Str → Option Value} {base : Heap}
theorem cut_refs {Ts : List (Sit × Addr)} (lo hi : Option Int) : ∃ Ts' : List (Sit × Addr), cutV (Ts.map fun x => V.ref x.2) lo hi = Ts'.map (fun x => V.ref x.2) ∧ (∀ x ∈ Ts', x ∈ Ts) ∧ Ts'.length ≤ Ts.length - HT.sIx Ts.length 0 lo ∧ Ts'.length ≤ HT.sIx Ts.length Ts.length hi := by
  refine ⟨(Ts.drop (HT.sIx (Ts.map fun x => V.ref x.2).length 0 lo)).take (HT.sIx (Ts.map fun x => V.ref x.2).length (Ts.map fun x => V.ref x.2).length hi - HT.sIx (Ts.map fun x => V.ref x.2).length 0 lo), ?_, fun x hx => List.mem_of_mem_drop (List.mem_of_mem_take hx), ?_, ?_⟩
  · unfold cutV
    rw [List.map_take, List.map_drop]
  · rw [List.length_take, List.length_drop, List.length_map]
    omega
  · rw [List.length_take, List.length_drop, List.length_map]
    omega
def spLaw (K : PySem.W.Frag) : Sp := fun vs H Q _ => ∃ (s : Addr) (xs : List Int), vs = [.ref s] ∧ SqL K H s (xs.map V.int) ∧ xs.length ≤ 63 ∧ ∀ H', Q (.bl true) H'
theorem fn_law (T : TX K w mg) {f : Addr} {fd : FuncData} (F : C8.Fun K "law" "law" s_law f fd) : FnOk P w K mg base C8.CX0 18 f fd ["_law_script"] (spLaw K) := by
  refine C8.fn0 (k := 17) F sc_law (fun vs H Q E h => by obtain ⟨_, _, rfl, _⟩ := h; rfl) (fun cdv A outer s H vs Q E hr h => ?_)
  have hu := hu_of hr
  have nd := sc_law.nd
  refine ⟨_, (pss_cons (ps_set (i := 1) nd rfl (Or.inl rfl) (C8.pe_c (c__law_draws T) hr (by decide) rfl (pa_cons (pv 0) pa_nil)))
      (pss_cons (ps_set (i := 2) nd rfl (Or.inl rfl) (C8.pe_c (c__law_yard T) hr (by decide) rfl (pa_cons (pv 1) pa_nil)))
      (pss_cons (ps_set (i := 3) nd rfl (Or.inl rfl) (pe_lst (pa_cons (pe_lst (pa_cons pe_int (pa_cons pe_int (pa_cons pe_int pa_nil)))) (pa_cons (pe_lst (pa_cons pe_int (pa_cons pe_int pa_nil))) (pa_cons (pe_lst (pa_cons pe_int (pa_cons pe_int (pa_cons pe_int pa_nil)))) (pa_cons (pe_lst (pa_cons pe_int (pa_cons pe_int (pa_cons pe_int (pa_cons pe_int pa_nil))))) (pa_cons (C8.pe_c (c__law_row T) hr (by decide) rfl (pa_cons (pv 1) (pa_cons (C8.pe_c (c__law_pick T) hr (by decide) rfl (pa_cons (pv 1) (pa_cons pe_int pa_nil))) pa_nil))) pa_nil)))))))
      (pss_cons (ps_set (i := 4) nd rfl (Or.inl rfl) (pe_ix (ix_listK (K := K) rfl) (pv 3) (C8.pe_c (c__law_pick T) hr (by decide) rfl (pa_cons (pv 1) (pa_cons pe_int pa_nil))) (fun _ _ => rfl)))
      (pss_cons (ps_asg (C8.pe_c (c__law_walk T) hr (by decide) rfl (pa_cons (pv 1) (pa_cons (C8.pe_c (c__law_plan T) hr (by decide) rfl (pa_cons (pv 2) pa_nil)) (pa_cons (pv 4) pa_nil)))) (pg_tup (by rfl) (pgs_cons (pg_name (i := 5) nd rfl (Or.inl rfl)) (pgs_cons (pg_name (i := 6) nd rfl (Or.inl rfl)) pgs_nil))))
      (C8.pss_cut (ps_set (i := 7) nd rfl (Or.inl rfl) (C8.pe_c (c__law_closed T) hr (by decide) rfl (pa_cons (C8.pe_mk (c_Yard_init T) hr (by decide) rfl (pa_cons (pv 2) pa_nil)) (pa_cons (pv 4) pa_nil))))
      (C8.pss_cut (ps_if (PW.pt (pw_and (pt_cmpR op_notN (pv 7) pe_non (nomark _)) (pw_and1 (pt_cmpR op_gt (C8.pe_c (c__law_pick T) hr (by decide) rfl (pa_cons (pv 1) (pa_cons pe_int pa_nil))) pe_int (nomark _))))) (pss_cons (ps_set (i := 6) nd rfl (Or.inl rfl) (pv 7))
      (pss_one (ps_if (pt_cmpR op_eq (C8.pe_c (c__law_pick T) hr (by decide) rfl (pa_cons (pv 1) (pa_cons pe_int pa_nil))) pe_int (nomark _)) (pss_cons (ps_set (i := 8) nd rfl (Or.inl rfl) (C8.pe_c (c__law_pick T) hr (by decide) rfl (pa_cons (pv 1) (pa_cons (pe_callB (call_lenK (K := K) rfl) (by rfl) T.b_len PySem.boot_len (pa_cons (pv 7) pa_nil)) pa_nil))))
      (pss_one (ps_set (i := 6) nd rfl (Or.inl rfl) (pe_op op_cat (pe_slice sl_list (pv 7) po_none (po_some (pv 8))) (pe_slice sl_list (pv 7) (po_some (pe_op op_add (pv 8) pe_int)) po_none))))) pss_nil))) pss_nil)
      (pss_cons (ps_if (pt_not (pt_val (C8.pe_c (c_is_closed_list T) hr (by decide) rfl (pa_cons (pv 2) (pa_cons (pv 4) (pa_cons (pv 6) pa_nil)))))) (pss_one (ps_ret pe_bl)) pss_nil)
      (pss_cons (ps_if (PW.pt (pw_or (pt_val (C8.pe_c (c_is_way T) hr (by decide) rfl (pa_cons (pv 2) (pa_cons (pv 4) (pa_cons (pv 5) pa_nil))))) (pw_or1 (pt_cmpR op_notN (C8.pe_c (c__law_solved T) hr (by decide) rfl (pa_cons (C8.pe_mk (c_Yard_init T) hr (by decide) rfl (pa_cons (pv 2) pa_nil)) (pa_cons (pv 4) pa_nil))) pe_non (nomark _))))) (pss_one (ps_ret pe_bl)) pss_nil)
      (pss_one (ps_ret (C8.pe_c (c__law_is_least T) hr (by decide) rfl (pa_cons (pv 1) (pa_cons (pv 2) (pa_cons (pv 4) (pa_cons (pv 6) pa_nil)))))))))))))))), ?_⟩
  obtain ⟨s, xs, rfl, hs, h63, k⟩ := h
  refine ⟨_, rfl, s, xs, rfl, hs, h63, fun H1 a s1 na d1 => ?_⟩
  refine ⟨_, rfl, a, rfl, d1, fun H2 t s2 d2 mt => ?_⟩
  obtain ⟨Y, ty⟩ := txy mt
  have ok := ty.ok
  refine ⟨sz_le (Nat.le_of_ble_eq_true rfl), fun h1 n1 => ⟨sz_le (Nat.le_of_ble_eq_true rfl), fun h2 n2 => ⟨sz_le (Nat.le_of_ble_eq_true rfl), fun h3 n3 => ⟨sz_le (Nat.le_of_ble_eq_true rfl), fun h4 n4 => ?_⟩⟩⟩⟩
  have z1 := Same.new n1 (o := intsO [2, 3, 1])
  have z2 := Same.new n2 (o := intsO [2, 1])
  have z3 := Same.new n3 (o := intsO [3, 2, 1])
  have z4 := Same.new n4 (o := intsO [2, 3, 4, 1])
  have z34 := Same.trans z3 z4
  have z24 := Same.trans z2 z34
  have z14 := Same.trans z1 z24
  have d3 := d2.mono z14
  have a1 := d2.ne n1
  have a2 := (d2.mono z1).ne n2
  have a3 := (d2.mono (Same.trans z1 z2)).ne n3
  have a4 := (d2.mono (Same.trans z1 (Same.trans z2 z3))).ne n4
  refine ⟨_, rfl, _, rfl, a, 5, rfl, d3, by decide, fun H3 n s3 d4 hn => ⟨a, n, rfl, d4, by omega, fun H4 r row s4 d5 rr ir rl => ?_⟩⟩
  refine ⟨sz_le (Nat.le_of_ble_eq_true rfl), fun hl nhl => ?_⟩
  have z5 := Same.new nhl (o := .lst [.ref h1, .ref h2, .ref h3, .ref h4, .ref r])
  have d6 := d5.mono z5
  have ahl := d5.ne nhl
  refine ⟨_, rfl, _, rfl, a, 5, rfl, d6, by decide, fun H5 j s5 d7 hj => ?_⟩
  have e35 := Same.trans s3 (Same.trans s4 (Same.trans (rm_mono z5) s5))
  have r1 : RowAt (rm a H5) h1 [2, 3, 1] := e35 _ _ (rm_at (z24 _ _ upd_same) a1)
  have r2 : RowAt (rm a H5) h2 [2, 1] := e35 _ _ (rm_at (z34 _ _ upd_same) a2)
  have r3 : RowAt (rm a H5) h3 [3, 2, 1] := e35 _ _ (rm_at (z4 _ _ upd_same) a3)
  have r4 : RowAt (rm a H5) h4 [2, 3, 4, 1] := e35 _ _ (rm_at upd_same a4)
  have r5 : RowAt (rm a H5) r row := (Same.trans (rm_mono z5) s5) _ _ rr
  have hl5 : H5 hl = some (.lst [.ref h1, .ref h2, .ref h3, .ref h4, .ref r]) := rm_same a _ _ _ (s5 _ _ (rm_at upd_same ahl))
  obtain ⟨rj, rowj, hat, rmj, irj, lj⟩ : ∃ rj rowj, ([V.ref h1, V.ref h2, V.ref h3, V.ref h4, V.ref r] : List V)[j]? = some (V.ref rj) ∧ RowAt (rm a H5) rj rowj ∧ IsRow rowj ∧ rowj.length ≤ 10 := by
    have hj : j < 5 := by omega
    obtain rfl | rfl | rfl | rfl | rfl : j = 0 ∨ j = 1 ∨ j = 2 ∨ j = 3 ∨ j = 4 := by omega
    · exact ⟨h1, _, rfl, r1, by unfold IsRow; decide, by decide⟩
    · exact ⟨h2, _, rfl, r2, by unfold IsRow; decide, by decide⟩
    · exact ⟨h3, _, rfl, r3, by unfold IsRow; decide, by decide⟩
    · exact ⟨h4, _, rfl, r4, by unfold IsRow; decide, by decide⟩
    · exact ⟨r, row, rfl, r5, ir, by omega⟩
  refine ⟨hl, _, _, _, rfl, rfl, SqL.of hl5, atI_nat hat, ?_⟩
  refine ⟨_, rfl, _, rfl, t, Y, rfl, ty, fun H6 pl s6 pa prm => ?_⟩
  obtain ⟨ys7, hys7⟩ := d7.lst
  refine ⟨_, rfl, a, pl, rj, Y, rowj, rfl, d7.mono s6, prm a _ hys7, rm_mono s6 _ _ rmj, ok, by omega, fun H7 tt M N ms Ss s7 d8 htt mvs sits wfs l30 => ?_⟩
  refine ⟨tt, _, rfl, SqT.of' (rm_same a _ _ _ htt), rfl, _, _, rfl, _, _, rfl, rfl, ?_⟩
  have rj7 : RowAt (rm a H7) rj rowj := s7 _ _ (rm_mono s6 _ _ rmj)
  refine ⟨fun σ H' => ∃ v, σ = [some (.ref s), some (.ref a), some (.str (txS t)), some (.ref hl), some (.ref rj), some (.ref M), some (.ref N), some v, none] ∧ Same (rm a H7) (rm a H') ∧ Dr a H' ∧ (v = V.non ∨ ∃ b Ts, v = V.ref b ∧ SitsAt (rm a H') b Ts ∧ (∀ x ∈ Ts, WFS Y rowj x.1) ∧ Ts ≠ [] ∧ Ts.length ≤ 4000), ?_, ?_⟩
  · refine ⟨_, rfl, fun y ydx ny nyd ne => ?_⟩
    have s0 : Same H7 (upd (upd H7 ydx (.own y)) y (.ins T.cYard ydx [])) := Same.add (Same.new nyd) (by rw [upd_ne (Ne.symm ne)]; exact ny)
    refine ⟨H7, y, ydx, t, Y, rfl, ((Fr.empty H7).junk nyd).new_own (by rw [upd_ne (Ne.symm ne)]; exact ny), ty, fun H8 s8 ya yrm => ⟨rfl, ?_⟩⟩
    refine ⟨_, rfl, y, rj, Y, rowj, rfl, ya, s8 _ _ (rm_same a _ _ _ rj7), irj, by omega, ok, fun H9 s9 => ?_, fun H9 b Ts s9 nb ts twf tne tl => ?_⟩
    · exact ⟨.non, rfl, rm_mono (Same.trans s8 s9), d8.mono (Same.trans s8 s9), .inl rfl⟩
    · have d9 := d8.mono (Same.trans s8 s9)
      exact ⟨.ref b, rfl, rm_mono (Same.trans s8 s9), d9, .inr ⟨b, Ts, rfl, SitsAt.rm d9 ts ((d8.mono s8).ne nb), twf, tne, tl⟩⟩
  · rintro σ H8 ⟨v, rfl, e8, d9, hv⟩
    refine ⟨fun σ H' => ∃ sa Ss' u7 u8, σ = [some (.ref s), some (.ref a), some (.str (txS t)), some (.ref hl), some (.ref rj), some (.ref M), some (.ref sa), u7, u8] ∧ Same (rm a H7) (rm a H') ∧ Dr a H' ∧ SitsAt (rm a H') sa Ss' ∧ (∀ x ∈ Ss', WFS Y rowj x.1) ∧ Ss'.length ≤ 5000, ?_, ?_⟩
    · rcases hv with rfl | ⟨b, Ts, rfl, ts, twf, tne, tl⟩
      · exact ⟨_, rfl, rfl, _, rfl, iteF (iteF ⟨N, Ss, _, _, rfl, e8, d9, sits.mono e8, wfs, by omega⟩)⟩
      · refine ⟨_, rfl, rfl, _, rfl, iteT ?_⟩
        refine ⟨_, rfl, a, 4, rfl, d9, by decide, fun H9 n9 s9 d10 _ => ⟨_, _, rfl, rfl, _, rfl, ite2 (fun _ => ?_) (fun _ => ?_)⟩⟩
        · refine ⟨_, rfl, ?_⟩
          refine ⟨_, rfl, a, 3, rfl, d10, by decide, fun H10 n10 s10 d11 _ => ⟨rfl, _, rfl, ite_eq (fun _ => ?_) (fun _ => ?_)⟩⟩
          · have e10 := Same.trans s9 s10
            have ts10 := ts.mono e10
            have hb10 : H10 b = some (.lst (Ts.map fun x => V.ref x.2)) := rm_same a _ _ _ ts10.1
            have tp : 0 < Ts.length := List.length_pos_iff.mpr tne
            refine ⟨_, rfl, _, rfl, b, _, rfl, .inl (SqL.of hb10), a, _, rfl, d11, by rw [List.length_map]; omega, fun H11 n11 s11 d12 hn11 => ?_⟩
            have e11 := Same.trans e10 s11
            have ts11 := ts.mono e11
            have hb11 : H11 b = some (.lst (Ts.map fun x => V.ref x.2)) := rm_same a _ _ _ ts11.1
            obtain ⟨T1, q1, q2, q3, q4⟩ := cut_refs (Ts := Ts) none (some (n11 : Int))
            obtain ⟨T2, p1, p2, p3, p4⟩ := cut_refs (Ts := Ts) (some ((n11 : Int) + 1)) none
            rw [HT.sIx_nat] at q4
            rw [show (n11 : Int) + 1 = ((n11 + 1 : Nat) : Int) by omega, HT.sIx_nat] at p3
            rw [List.length_map] at hn11
            have l12 : T1.length + T2.length ≤ Ts.length := by omega
            refine ⟨_, rfl, _, rfl, _, rfl, b, _, rfl, SqL.of hb11, fun c1 nc1 => ?_⟩
            rw [q1]
            have g1 := Same.new nc1 (o := .lst (T1.map fun x => V.ref x.2))
            refine ⟨_, rfl, _, rfl, _, _, rfl, rfl, _, rfl, b, _, rfl, SqL.of (g1 _ _ hb11), fun c2 nc2 => ?_⟩
            have p1' : cutV (Ts.map fun x => V.ref x.2) (some ((fun i j : Int => i + j) (n11 : Int) 1)) none = T2.map (fun x => V.ref x.2) := p1
            rw [p1]
            have g2 := Same.new nc2 (o := .lst (T2.map fun x => V.ref x.2))
            refine ⟨c1, c2, _, _, rfl, rfl, g2 _ _ upd_same, upd_same, sz_le (by rw [List.length_map, List.length_map]; omega), fun c3 nc3 => ?_⟩
            have g3 := Same.new nc3 (o := .lst (T1.map (fun x => V.ref x.2) ++ T2.map fun x => V.ref x.2))
            have g13 := Same.trans g1 (Same.trans g2 g3)
            have d13 := d12.mono g13
            have c3a := ((d12.mono g1).mono g2).ne nc3
            refine ⟨c3, T1 ++ T2, _, _, rfl, Same.trans e8 (Same.trans e11 (rm_mono g13)), d13, ⟨rm_at (by rw [upd_same, List.map_append]) c3a, fun x hx => ?_⟩, fun x hx => ?_, by rw [List.length_append]; omega⟩
            · have mx : x ∈ Ts := by
                rcases List.mem_append.mp hx with h | h
                · exact q2 x h
                · exact p2 x h
              exact (ts11.2 x mx).mono (rm_mono g13)
            · have mx : x ∈ Ts := by
                rcases List.mem_append.mp hx with h | h
                · exact q2 x h
                · exact p2 x h
              exact twf x mx
          · have e10 := Same.trans s9 s10
            exact ⟨b, Ts, _, _, rfl, Same.trans e8 e10, d11, ts.mono e10, twf, by omega⟩
        · exact ⟨N, Ss, _, _, rfl, Same.trans e8 s9, d10, (sits.mono e8).mono s9, wfs, by omega⟩
    · rintro σ H9 ⟨sa, Ss', u7, u8, rfl, e9, d10, sits9, wfs9, l9⟩
      have ra9 : RowAt H9 rj rowj := rm_same a _ _ _ (e9 _ _ rj7)
      refine ⟨_, rfl, _, rfl, _, rfl, t, rj, sa, Y, rowj, Ss', rfl, ty, ra9, irj, by omega, sits9.mono (rm_same a _), wfs9, l9, fun H10 b s10 hb => ⟨_, rfl, ?_⟩⟩
      cases b with
      | false => exact iteT (k _)
      | true =>
      refine iteF ?_
      have nw := hb rfl
      have mv10 : MovesAt H10 M ms := ((mvs.mono e9).mono (rm_same a _)).mono s10
      refine ⟨_, rfl, _, rfl, _, rfl, t, rj, M, Y, rowj, ms, rfl, ty, s10 _ _ ra9, irj, by omega, mv10, fun H11 b s11 hb2 => ⟨_, rfl, ?_⟩⟩
      cases b with
      | true => exact absurd (hb2 rfl) nw
      | false =>
      refine iteF ?_
      refine ⟨_, rfl, fun y ydx ny nyd ne => ?_⟩
      refine ⟨H11, y, ydx, t, Y, rfl, ((Fr.empty H11).junk nyd).new_own (by rw [upd_ne (Ne.symm ne)]; exact ny), ty, fun H12 s12 ya yrm => ⟨rfl, ?_⟩⟩
      have s912 := Same.trans s10 (Same.trans s11 s12)
      refine ⟨_, rfl, y, rj, Y, rowj, rfl, ya, s912 _ _ ra9, irj, by omega, ok, fun H13 s13 => ⟨rfl, _, rfl, iteF ?_⟩, fun H13 b mm s13 _ _ wy => absurd wy nw⟩
      have s913 := Same.trans s912 s13
      exact ⟨_, rfl, _, rfl, _, rfl, _, rfl, a, t, rj, sa, Y, rowj, Ss', rfl, d10.mono s913, ty, rm_mono s913 _ _ (e9 _ _ rj7), irj, lj, sits9.mono (rm_mono s913), wfs9, l9, nw, fun H' => k H'⟩
end
end K92

set_option Elab.async false
set_option linter.all false
set_option maxRecDepth 100000
set_option maxHeartbeats 4000000
set_option autoImplicit false
/-! K92Y: the facts that the head is asked for, and TX from them. Printed by geny.py. -/
namespace K92
open PySem PySem.Spec PyProof.Rows L2
def faL : List He.Fa := [.cls "Track",
  .glo "Track",
  .noat "Track" "text",
  .noat "Track" "at",
  .noat "Track" "kinds",
  .noat "Track" "bounds",
  .noat "Track" "links",
  .noat "Track" "groups",
  .cls "Group",
  .glo "Group",
  .noat "Group" "sign",
  .noat "Group" "yards",
  .cls "Reading",
  .glo "Reading",
  .noat "Reading" "text",
  .noat "Reading" "at",
  .noat "Reading" "kinds",
  .noat "Reading" "bounds",
  .noat "Reading" "links",
  .noat "Reading" "groups",
  .cls "Yard",
  .glo "Yard",
  .noat "Yard" "text",
  .noat "Yard" "kinds",
  .noat "Yard" "bounds",
  .noat "Yard" "links",
  .cls "Search",
  .glo "Search",
  .noat "Search" "yard",
  .noat "Search" "wagons",
  .noat "Search" "met",
  .noat "Search" "known",
  .noat "Search" "origin",
  .noat "Search" "found",
  .glo "TooLarge",
  .glo "ENTERS",
  .glo "LEAVES",
  .glo "CLOSING_certificates",
  .glo "INS",
  .glo "OUTS",
  .glo "CLOSING_yards",
  .mkr "Track",
  .meth "Track" "sign",
  .meth "Track" "begin",
  .meth "Track" "put",
  .meth "Track" "read",
  .meth "Track" "holds",
  .meth "Track" "made",
  .meth "Track" "following",
  .glo "_track",
  .keep "_track",
  .glo "_check_row",
  .keep "_check_row",
  .glo "_first",
  .keep "_first",
  .glo "_sorts",
  .keep "_sorts",
  .glo "_is_live",
  .keep "_is_live",
  .glo "_is_closed",
  .keep "_is_closed",
  .glo "is_way",
  .keep "is_way",
  .glo "is_closed_list",
  .keep "is_closed_list",
  .glo "is_least_row",
  .keep "is_least_row",
  .glo "is_row",
  .keep "is_row",
  .mkr "Group",
  .mkr "Reading",
  .meth "Reading" "sign",
  .meth "Reading" "device",
  .meth "Reading" "first_device",
  .meth "Reading" "joined",
  .meth "Reading" "closed",
  .meth "Reading" "whole",
  .mkr "Yard",
  .meth "Yard" "__len__",
  .meth "Yard" "ins",
  .meth "Yard" "outs",
  .meth "Yard" "room",
  .glo "check_row",
  .keep "check_row",
  .glo "first_situation",
  .keep "first_situation",
  .glo "source_ends",
  .keep "source_ends",
  .glo "target_ends",
  .keep "target_ends",
  .glo "possible",
  .keep "possible",
  .glo "wagon_of",
  .keep "wagon_of",
  .glo "after",
  .keep "after",
  .glo "is_live",
  .keep "is_live",
  .mkr "Search",
  .meth "Search" "is_goal",
  .meth "Search" "look",
  .meth "Search" "finish",
  .meth "Search" "way",
  .glo "search_from",
  .keep "search_from",
  .glo "solve",
  .keep "solve",
  .glo "can_sort",
  .keep "can_sort",
  .glo "closed_list",
  .keep "closed_list",
  .glo "_law_number",
  .keep "_law_number",
  .glo "_law_draws",
  .keep "_law_draws",
  .glo "_law_draw",
  .keep "_law_draw",
  .glo "_law_pick",
  .keep "_law_pick",
  .glo "_law_row",
  .keep "_law_row",
  .glo "_law_device",
  .keep "_law_device",
  .glo "_law_yard",
  .keep "_law_yard",
  .glo "_law_parts",
  .keep "_law_parts",
  .glo "_law_ends",
  .keep "_law_ends",
  .glo "_law_plan",
  .keep "_law_plan",
  .glo "_law_first",
  .keep "_law_first",
  .glo "_law_moved",
  .keep "_law_moved",
  .glo "_law_is_live",
  .keep "_law_is_live",
  .glo "_law_after",
  .keep "_law_after",
  .glo "_law_walk",
  .keep "_law_walk",
  .glo "_law_closed",
  .keep "_law_closed",
  .glo "_law_solved",
  .keep "_law_solved",
  .glo "_law_sorted",
  .keep "_law_sorted",
  .glo "_law_without",
  .keep "_law_without",
  .glo "_law_with",
  .keep "_law_with",
  .glo "_law_is_least",
  .keep "_law_is_least",
  .glo "law",
  .keep "law",
  .free "len",
  .free "int",
  .free "list",
  .free "tuple",
  .free "range",
  .free "sorted",
  .free "zip",
  .free "enumerate",
  .int "LONGEST" (60),
  .int "MOST_DEVICES" (8),
  .int "MOST_OPEN" (8),
  .int "MOST_rows" (60),
  .int "MOST_yards" (8),
  .int "LEFT" (0),
  .int "RIGHT" (1),
  .int "OUTSIDE" (-1),
  .int "MOST_SITUATIONS" (4000),
  .str "KINDS" "sqdio",
  .str "BOUNDS" "123456",
  .exc "TooLarge",
  .exm "TooLarge" "TooLarge" true]
def fnL : List He.FnD := [⟨("Track", some "__init__"), "__init__", "Track.__init__", C8.fnArgs s_Track_init, C8.fnBody s_Track_init, C8.fnScope s_Track_init⟩,
  ⟨("Track", some "sign"), "sign", "Track.sign", C8.fnArgs s_Track_sign, C8.fnBody s_Track_sign, C8.fnScope s_Track_sign⟩,
  ⟨("Track", some "begin"), "begin", "Track.begin", C8.fnArgs s_Track_begin, C8.fnBody s_Track_begin, C8.fnScope s_Track_begin⟩,
  ⟨("Track", some "put"), "put", "Track.put", C8.fnArgs s_Track_put, C8.fnBody s_Track_put, C8.fnScope s_Track_put⟩,
  ⟨("Track", some "read"), "read", "Track.read", C8.fnArgs s_Track_read, C8.fnBody s_Track_read, C8.fnScope s_Track_read⟩,
  ⟨("Track", some "holds"), "holds", "Track.holds", C8.fnArgs s_Track_holds, C8.fnBody s_Track_holds, C8.fnScope s_Track_holds⟩,
  ⟨("Track", some "made"), "made", "Track.made", C8.fnArgs s_Track_made, C8.fnBody s_Track_made, C8.fnScope s_Track_made⟩,
  ⟨("Track", some "following"), "following", "Track.following", C8.fnArgs s_Track_following, C8.fnBody s_Track_following, C8.fnScope s_Track_following⟩,
  ⟨("_track", none), "_track", "_track", C8.fnArgs s__track, C8.fnBody s__track, C8.fnScope s__track⟩,
  ⟨("_check_row", none), "_check_row", "_check_row", C8.fnArgs s__check_row, C8.fnBody s__check_row, C8.fnScope s__check_row⟩,
  ⟨("_first", none), "_first", "_first", C8.fnArgs s__first, C8.fnBody s__first, C8.fnScope s__first⟩,
  ⟨("_sorts", none), "_sorts", "_sorts", C8.fnArgs s__sorts, C8.fnBody s__sorts, C8.fnScope s__sorts⟩,
  ⟨("_is_live", none), "_is_live", "_is_live", C8.fnArgs s__is_live, C8.fnBody s__is_live, C8.fnScope s__is_live⟩,
  ⟨("_is_closed", none), "_is_closed", "_is_closed", C8.fnArgs s__is_closed, C8.fnBody s__is_closed, C8.fnScope s__is_closed⟩,
  ⟨("is_way", none), "is_way", "is_way", C8.fnArgs s_is_way, C8.fnBody s_is_way, C8.fnScope s_is_way⟩,
  ⟨("is_closed_list", none), "is_closed_list", "is_closed_list", C8.fnArgs s_is_closed_list, C8.fnBody s_is_closed_list, C8.fnScope s_is_closed_list⟩,
  ⟨("is_least_row", none), "is_least_row", "is_least_row", C8.fnArgs s_is_least_row, C8.fnBody s_is_least_row, C8.fnScope s_is_least_row⟩,
  ⟨("is_row", none), "is_row", "is_row", C8.fnArgs s_is_row, C8.fnBody s_is_row, C8.fnScope s_is_row⟩,
  ⟨("Group", some "__init__"), "__init__", "Group.__init__", C8.fnArgs s_Group_init, C8.fnBody s_Group_init, C8.fnScope s_Group_init⟩,
  ⟨("Reading", some "__init__"), "__init__", "Reading.__init__", C8.fnArgs s_Reading_init, C8.fnBody s_Reading_init, C8.fnScope s_Reading_init⟩,
  ⟨("Reading", some "sign"), "sign", "Reading.sign", C8.fnArgs s_Reading_sign, C8.fnBody s_Reading_sign, C8.fnScope s_Reading_sign⟩,
  ⟨("Reading", some "device"), "device", "Reading.device", C8.fnArgs s_Reading_device, C8.fnBody s_Reading_device, C8.fnScope s_Reading_device⟩,
  ⟨("Reading", some "first_device"), "first_device", "Reading.first_device", C8.fnArgs s_Reading_first_device, C8.fnBody s_Reading_first_device, C8.fnScope s_Reading_first_device⟩,
  ⟨("Reading", some "joined"), "joined", "Reading.joined", C8.fnArgs s_Reading_joined, C8.fnBody s_Reading_joined, C8.fnScope s_Reading_joined⟩,
  ⟨("Reading", some "closed"), "closed", "Reading.closed", C8.fnArgs s_Reading_closed, C8.fnBody s_Reading_closed, C8.fnScope s_Reading_closed⟩,
  ⟨("Reading", some "whole"), "whole", "Reading.whole", C8.fnArgs s_Reading_whole, C8.fnBody s_Reading_whole, C8.fnScope s_Reading_whole⟩,
  ⟨("Yard", some "__init__"), "__init__", "Yard.__init__", C8.fnArgs s_Yard_init, C8.fnBody s_Yard_init, C8.fnScope s_Yard_init⟩,
  ⟨("Yard", some "__len__"), "__len__", "Yard.__len__", C8.fnArgs s_Yard_len, C8.fnBody s_Yard_len, C8.fnScope s_Yard_len⟩,
  ⟨("Yard", some "ins"), "ins", "Yard.ins", C8.fnArgs s_Yard_ins, C8.fnBody s_Yard_ins, C8.fnScope s_Yard_ins⟩,
  ⟨("Yard", some "outs"), "outs", "Yard.outs", C8.fnArgs s_Yard_outs, C8.fnBody s_Yard_outs, C8.fnScope s_Yard_outs⟩,
  ⟨("Yard", some "room"), "room", "Yard.room", C8.fnArgs s_Yard_room, C8.fnBody s_Yard_room, C8.fnScope s_Yard_room⟩,
  ⟨("check_row", none), "check_row", "check_row", C8.fnArgs s_check_row, C8.fnBody s_check_row, C8.fnScope s_check_row⟩,
  ⟨("first_situation", none), "first_situation", "first_situation", C8.fnArgs s_first_situation, C8.fnBody s_first_situation, C8.fnScope s_first_situation⟩,
  ⟨("source_ends", none), "source_ends", "source_ends", C8.fnArgs s_source_ends, C8.fnBody s_source_ends, C8.fnScope s_source_ends⟩,
  ⟨("target_ends", none), "target_ends", "target_ends", C8.fnArgs s_target_ends, C8.fnBody s_target_ends, C8.fnScope s_target_ends⟩,
  ⟨("possible", none), "possible", "possible", C8.fnArgs s_possible, C8.fnBody s_possible, C8.fnScope s_possible⟩,
  ⟨("wagon_of", none), "wagon_of", "wagon_of", C8.fnArgs s_wagon_of, C8.fnBody s_wagon_of, C8.fnScope s_wagon_of⟩,
  ⟨("after", none), "after", "after", C8.fnArgs s_after, C8.fnBody s_after, C8.fnScope s_after⟩,
  ⟨("is_live", none), "is_live", "is_live", C8.fnArgs s_is_live, C8.fnBody s_is_live, C8.fnScope s_is_live⟩,
  ⟨("Search", some "__init__"), "__init__", "Search.__init__", C8.fnArgs s_Search_init, C8.fnBody s_Search_init, C8.fnScope s_Search_init⟩,
  ⟨("Search", some "is_goal"), "is_goal", "Search.is_goal", C8.fnArgs s_Search_is_goal, C8.fnBody s_Search_is_goal, C8.fnScope s_Search_is_goal⟩,
  ⟨("Search", some "look"), "look", "Search.look", C8.fnArgs s_Search_look, C8.fnBody s_Search_look, C8.fnScope s_Search_look⟩,
  ⟨("Search", some "finish"), "finish", "Search.finish", C8.fnArgs s_Search_finish, C8.fnBody s_Search_finish, C8.fnScope s_Search_finish⟩,
  ⟨("Search", some "way"), "way", "Search.way", C8.fnArgs s_Search_way, C8.fnBody s_Search_way, C8.fnScope s_Search_way⟩,
  ⟨("search_from", none), "search_from", "search_from", C8.fnArgs s_search_from, C8.fnBody s_search_from, C8.fnScope s_search_from⟩,
  ⟨("solve", none), "solve", "solve", C8.fnArgs s_solve, C8.fnBody s_solve, C8.fnScope s_solve⟩,
  ⟨("can_sort", none), "can_sort", "can_sort", C8.fnArgs s_can_sort, C8.fnBody s_can_sort, C8.fnScope s_can_sort⟩,
  ⟨("closed_list", none), "closed_list", "closed_list", C8.fnArgs s_closed_list, C8.fnBody s_closed_list, C8.fnScope s_closed_list⟩,
  ⟨("_law_number", none), "_law_number", "_law_number", C8.fnArgs s__law_number, C8.fnBody s__law_number, C8.fnScope s__law_number⟩,
  ⟨("_law_draws", none), "_law_draws", "_law_draws", C8.fnArgs s__law_draws, C8.fnBody s__law_draws, C8.fnScope s__law_draws⟩,
  ⟨("_law_draw", none), "_law_draw", "_law_draw", C8.fnArgs s__law_draw, C8.fnBody s__law_draw, C8.fnScope s__law_draw⟩,
  ⟨("_law_pick", none), "_law_pick", "_law_pick", C8.fnArgs s__law_pick, C8.fnBody s__law_pick, C8.fnScope s__law_pick⟩,
  ⟨("_law_row", none), "_law_row", "_law_row", C8.fnArgs s__law_row, C8.fnBody s__law_row, C8.fnScope s__law_row⟩,
  ⟨("_law_device", none), "_law_device", "_law_device", C8.fnArgs s__law_device, C8.fnBody s__law_device, C8.fnScope s__law_device⟩,
  ⟨("_law_yard", none), "_law_yard", "_law_yard", C8.fnArgs s__law_yard, C8.fnBody s__law_yard, C8.fnScope s__law_yard⟩,
  ⟨("_law_parts", none), "_law_parts", "_law_parts", C8.fnArgs s__law_parts, C8.fnBody s__law_parts, C8.fnScope s__law_parts⟩,
  ⟨("_law_ends", none), "_law_ends", "_law_ends", C8.fnArgs s__law_ends, C8.fnBody s__law_ends, C8.fnScope s__law_ends⟩,
  ⟨("_law_plan", none), "_law_plan", "_law_plan", C8.fnArgs s__law_plan, C8.fnBody s__law_plan, C8.fnScope s__law_plan⟩,
  ⟨("_law_first", none), "_law_first", "_law_first", C8.fnArgs s__law_first, C8.fnBody s__law_first, C8.fnScope s__law_first⟩,
  ⟨("_law_moved", none), "_law_moved", "_law_moved", C8.fnArgs s__law_moved, C8.fnBody s__law_moved, C8.fnScope s__law_moved⟩,
  ⟨("_law_is_live", none), "_law_is_live", "_law_is_live", C8.fnArgs s__law_is_live, C8.fnBody s__law_is_live, C8.fnScope s__law_is_live⟩,
  ⟨("_law_after", none), "_law_after", "_law_after", C8.fnArgs s__law_after, C8.fnBody s__law_after, C8.fnScope s__law_after⟩,
  ⟨("_law_walk", none), "_law_walk", "_law_walk", C8.fnArgs s__law_walk, C8.fnBody s__law_walk, C8.fnScope s__law_walk⟩,
  ⟨("_law_closed", none), "_law_closed", "_law_closed", C8.fnArgs s__law_closed, C8.fnBody s__law_closed, C8.fnScope s__law_closed⟩,
  ⟨("_law_solved", none), "_law_solved", "_law_solved", C8.fnArgs s__law_solved, C8.fnBody s__law_solved, C8.fnScope s__law_solved⟩,
  ⟨("_law_sorted", none), "_law_sorted", "_law_sorted", C8.fnArgs s__law_sorted, C8.fnBody s__law_sorted, C8.fnScope s__law_sorted⟩,
  ⟨("_law_without", none), "_law_without", "_law_without", C8.fnArgs s__law_without, C8.fnBody s__law_without, C8.fnScope s__law_without⟩,
  ⟨("_law_with", none), "_law_with", "_law_with", C8.fnArgs s__law_with, C8.fnBody s__law_with, C8.fnScope s__law_with⟩,
  ⟨("_law_is_least", none), "_law_is_least", "_law_is_least", C8.fnArgs s__law_is_least, C8.fnBody s__law_is_least, C8.fnScope s__law_is_least⟩,
  ⟨("law", none), "law", "law", C8.fnArgs s_law, C8.fnBody s_law, C8.fnScope s_law⟩]
/-- the signs a dict has -/
def hkB (K : PySem.W.Frag) (d : Addr) (ks : List Nat) : Bool := signs.all fun c => match PySem.W.nsIn K d (ch c) with
  | some r => r.isSome == decide (c ∈ ks)
  | none => false
theorem hkB_ok {K : PySem.W.Frag} {d : Addr} {ks : List Nat} (h : hkB K d ks = true) : HasKeys K d ks := fun c hc => by
  have q := List.all_eq_true.mp h c hc
  cases e : PySem.W.nsIn K d (ch c) with
  | none => rw [e] at q; cases q
  | some r => rw [e] at q; exact ⟨r, rfl, by simpa using q⟩
/-- .. and its tuples -/
def tdB (K : PySem.W.Frag) (d : Addr) (f : Nat → List Int) : Bool := [115, 113, 100, 105, 111].all fun c => match PySem.W.nsIn K d (ch c) with
  | some (some (.ref a)) => (match K.lookup a with
    | some ⟨.type t, _, .seq its _, _⟩ => decide (t = "tuple") && (decide (its.size ≤ 4) && He.relAll ((f c).map V.int) its.toList)
    | _ => false)
  | _ => false
theorem tdB_ok {K : PySem.W.Frag} {w : World} {d : Addr} {es : Array DictEntry} {n : Nat} {f : Nat → List Int} (D : KDict K w d es n) (h : tdB K d f = true) : TupDict K w d f := ⟨fun c hc => by
  have q := List.all_eq_true.mp h c hc
  cases e : PySem.W.nsIn K d (ch c) with
  | none => rw [e] at q; cases q
  | some r =>
    rw [e] at q
    cases r with
    | none => cases q
    | some u =>
      cases u with
      | ref a =>
        refine ⟨a, ⟨es, n, _, D.at_, D.lit, e, rfl⟩, fun H => ?_⟩
        have q : (match K.lookup a with
          | some ⟨.type t, _, .seq its _, _⟩ => decide (t = "tuple") && (decide (its.size ≤ 4) && He.relAll ((f c).map V.int) its.toList)
          | _ => false) = true := q
        cases z : K.lookup a with
        | none => rw [z] at q; cases q
        | some ob =>
          rw [z] at q
          obtain ⟨oc, od, dt, sl⟩ := ob
          cases oc with
          | type t =>
            cases dt with
            | seq its m =>
              obtain ⟨q1, q2⟩ := He.ba (show (decide (t = "tuple") && (decide (its.size ≤ 4) && He.relAll ((f c).map V.int) its.toList)) = true from q)
              obtain ⟨q2, q3⟩ := He.ba q2
              have et : t = "tuple" := of_decide_eq_true q1
              subst et
              exact .inr ⟨_, its, m, z, rfl, rfl, Nat.le_trans (of_decide_eq_true q2) (by rw [sizeLine_eq]; decide), He.relAll_ok q3⟩
            | _ => cases q
          | _ => cases dt <;> cases q
      | _ => cases q⟩
def stB (K : PySem.W.Frag) (d : Addr) (c : Nat) (z : Str) : Bool := match PySem.W.nsIn K d (ch c) with
  | some (some (.str y _)) => decide (y = z)
  | _ => false
theorem stB_ok {K : PySem.W.Frag} {w : World} {d : Addr} {es : Array DictEntry} {n c : Nat} {z : Str} (D : KDict K w d es n) (h : stB K d c z = true) : KDct K w d (ch c) (.str z) := by
  unfold stB at h
  cases e : PySem.W.nsIn K d (ch c) with
  | none => rw [e] at h; cases h
  | some r =>
    rw [e] at h
    cases r with
    | none => cases h
    | some u =>
      cases u with
      | str y t =>
        have : y = z := of_decide_eq_true h
        subst this
        exact ⟨es, n, _, D.at_, D.lit, e, t, rfl⟩
      | _ => cases h
section
variable {K : PySem.W.Frag} {h : Heap} {mg : Str → Option Value} {w : World}
theorem gInt (X : K.In h) (G : h.Ns mainGlobals mg) {x : Str} {i : Int} (c : (He.Fa.int x i).ok K = true) : ∃ u, mg x = some u ∧ RelV (.int i) u := by
  obtain ⟨t, e⟩ := He.int_ok X G c
  exact ⟨_, e, t, rfl⟩
theorem gStr (X : K.In h) (G : h.Ns mainGlobals mg) {x z : Str} (c : (He.Fa.str x z).ok K = true) : ∃ u, mg x = some u ∧ RelV (.str z) u := by
  obtain ⟨t, e⟩ := He.str_ok X G c
  exact ⟨_, e, t, rfl⟩
theorem fun_of {d : He.FnD} {st : Stmt} (e : ∃ oc od osl kV doc pm an cdv ct, K.lookup (He.fAd K d.at_) = some ⟨oc, od, .func (PySem.W.fnOf d.name d.qual d.params d.body d.scope .none kV doc pm an cdv ct), osl⟩ ∧ PySem.W.codeIn K cdv d.qual = true) (e1 : d.params = C8.fnArgs st) (e2 : d.body = C8.fnBody st) (e3 : d.scope = C8.fnScope st)
    {ps : List Str} (hb : ∀ (kV doc pm : Value) (an : Option Addr) (cdv ct : Value) (us : List Value), us.length = ps.length → bindArgs (PySem.W.fnOf d.name d.qual (C8.fnArgs st) (C8.fnBody st) (C8.fnScope st) .none kV doc pm an cdv ct) ⟨us, []⟩ = pure (ps.zip us)) :
    ∃ fd, C8.Fun K d.name d.qual st (He.fAd K d.at_) fd ∧ Binds K fd ps [] := by
  obtain ⟨oc, od, osl, kV, doc, pm, an, cdv, ct, l, c⟩ := e
  rw [e1, e2, e3] at l
  have F : C8.Fun K d.name d.qual st (He.fAd K d.at_) _ := ⟨oc, od, .none, kV, doc, pm, an, cdv, ct, osl, rfl, l, c⟩
  exact ⟨_, F, F.binds rfl hb⟩
theorem y_Track_init (c : He.SaysE faL fnL K) : IFn K (He.ga K "Track") "Track.__init__" s_Track_init ["self", "text"] := by
  obtain ⟨fd, F, b⟩ := fun_of (st := s_Track_init) (ps := ["self", "text"]) (c.def_ 0) rfl rfl rfl (fun _ _ _ _ _ _ us hl => match us, hl with | [_, _], _ => rfl)
  exact ⟨_, fd, He.mkr_ok (c.fact 41), F, b⟩
theorem y_Track_sign (c : He.SaysE faL fnL K) : MFn K (He.ga K "Track") "sign" "Track.sign" s_Track_sign ["self"] := by
  obtain ⟨fd, F, b⟩ := fun_of (st := s_Track_sign) (ps := ["self"]) (c.def_ 1) rfl rfl rfl (fun _ _ _ _ _ _ us hl => match us, hl with | [_], _ => rfl)
  exact ⟨_, fd, He.meth_ok (c.fact 42), F, b⟩
theorem y_Track_begin (c : He.SaysE faL fnL K) : MFn K (He.ga K "Track") "begin" "Track.begin" s_Track_begin ["self"] := by
  obtain ⟨fd, F, b⟩ := fun_of (st := s_Track_begin) (ps := ["self"]) (c.def_ 2) rfl rfl rfl (fun _ _ _ _ _ _ us hl => match us, hl with | [_], _ => rfl)
  exact ⟨_, fd, He.meth_ok (c.fact 43), F, b⟩
theorem y_Track_put (c : He.SaysE faL fnL K) : MFn K (He.ga K "Track") "put" "Track.put" s_Track_put ["self", "entries", "exits"] := by
  obtain ⟨fd, F, b⟩ := fun_of (st := s_Track_put) (ps := ["self", "entries", "exits"]) (c.def_ 3) rfl rfl rfl (fun _ _ _ _ _ _ us hl => match us, hl with | [_, _, _], _ => rfl)
  exact ⟨_, fd, He.meth_ok (c.fact 44), F, b⟩
theorem y_Track_read (c : He.SaysE faL fnL K) : MFn K (He.ga K "Track") "read" "Track.read" s_Track_read ["self"] := by
  obtain ⟨fd, F, b⟩ := fun_of (st := s_Track_read) (ps := ["self"]) (c.def_ 4) rfl rfl rfl (fun _ _ _ _ _ _ us hl => match us, hl with | [_], _ => rfl)
  exact ⟨_, fd, He.meth_ok (c.fact 45), F, b⟩
theorem y_Track_holds (c : He.SaysE faL fnL K) : MFn K (He.ga K "Track") "holds" "Track.holds" s_Track_holds ["self", "row", "situation"] := by
  obtain ⟨fd, F, b⟩ := fun_of (st := s_Track_holds) (ps := ["self", "row", "situation"]) (c.def_ 5) rfl rfl rfl (fun _ _ _ _ _ _ us hl => match us, hl with | [_, _, _], _ => rfl)
  exact ⟨_, fd, He.meth_ok (c.fact 46), F, b⟩
theorem y_Track_made (c : He.SaysE faL fnL K) : MFn K (He.ga K "Track") "made" "Track.made" s_Track_made ["self", "row", "situation", "move"] := by
  obtain ⟨fd, F, b⟩ := fun_of (st := s_Track_made) (ps := ["self", "row", "situation", "move"]) (c.def_ 6) rfl rfl rfl (fun _ _ _ _ _ _ us hl => match us, hl with | [_, _, _, _], _ => rfl)
  exact ⟨_, fd, He.meth_ok (c.fact 47), F, b⟩
theorem y_Track_following (c : He.SaysE faL fnL K) : MFn K (He.ga K "Track") "following" "Track.following" s_Track_following ["self", "row", "situation"] := by
  obtain ⟨fd, F, b⟩ := fun_of (st := s_Track_following) (ps := ["self", "row", "situation"]) (c.def_ 7) rfl rfl rfl (fun _ _ _ _ _ _ us hl => match us, hl with | [_, _, _], _ => rfl)
  exact ⟨_, fd, He.meth_ok (c.fact 48), F, b⟩
theorem y__track (X : K.In h) (G : h.Ns mainGlobals mg) (c : He.SaysE faL fnL K) : FFn K mg "_track" s__track ["text"] := by
  obtain ⟨fd, F, b⟩ := fun_of (st := s__track) (ps := ["text"]) (c.def_ 8) rfl rfl rfl (fun _ _ _ _ _ _ us hl => match us, hl with | [_], _ => rfl)
  exact ⟨_, fd, ⟨F, He.glo_ok X G (c.fact 49), He.keep_ok (c.fact 50)⟩, b⟩
theorem y__check_row (X : K.In h) (G : h.Ns mainGlobals mg) (c : He.SaysE faL fnL K) : FFn K mg "_check_row" s__check_row ["row"] := by
  obtain ⟨fd, F, b⟩ := fun_of (st := s__check_row) (ps := ["row"]) (c.def_ 9) rfl rfl rfl (fun _ _ _ _ _ _ us hl => match us, hl with | [_], _ => rfl)
  exact ⟨_, fd, ⟨F, He.glo_ok X G (c.fact 51), He.keep_ok (c.fact 52)⟩, b⟩
theorem y__first (X : K.In h) (G : h.Ns mainGlobals mg) (c : He.SaysE faL fnL K) : FFn K mg "_first" s__first ["track"] := by
  obtain ⟨fd, F, b⟩ := fun_of (st := s__first) (ps := ["track"]) (c.def_ 10) rfl rfl rfl (fun _ _ _ _ _ _ us hl => match us, hl with | [_], _ => rfl)
  exact ⟨_, fd, ⟨F, He.glo_ok X G (c.fact 53), He.keep_ok (c.fact 54)⟩, b⟩
theorem y__sorts (X : K.In h) (G : h.Ns mainGlobals mg) (c : He.SaysE faL fnL K) : FFn K mg "_sorts" s__sorts ["track", "row", "moves"] := by
  obtain ⟨fd, F, b⟩ := fun_of (st := s__sorts) (ps := ["track", "row", "moves"]) (c.def_ 11) rfl rfl rfl (fun _ _ _ _ _ _ us hl => match us, hl with | [_, _, _], _ => rfl)
  exact ⟨_, fd, ⟨F, He.glo_ok X G (c.fact 55), He.keep_ok (c.fact 56)⟩, b⟩
theorem y__is_live (X : K.In h) (G : h.Ns mainGlobals mg) (c : He.SaysE faL fnL K) : FFn K mg "_is_live" s__is_live ["situation"] := by
  obtain ⟨fd, F, b⟩ := fun_of (st := s__is_live) (ps := ["situation"]) (c.def_ 12) rfl rfl rfl (fun _ _ _ _ _ _ us hl => match us, hl with | [_], _ => rfl)
  exact ⟨_, fd, ⟨F, He.glo_ok X G (c.fact 57), He.keep_ok (c.fact 58)⟩, b⟩
theorem y__is_closed (X : K.In h) (G : h.Ns mainGlobals mg) (c : He.SaysE faL fnL K) : FFn K mg "_is_closed" s__is_closed ["track", "row", "situations"] := by
  obtain ⟨fd, F, b⟩ := fun_of (st := s__is_closed) (ps := ["track", "row", "situations"]) (c.def_ 13) rfl rfl rfl (fun _ _ _ _ _ _ us hl => match us, hl with | [_, _, _], _ => rfl)
  exact ⟨_, fd, ⟨F, He.glo_ok X G (c.fact 59), He.keep_ok (c.fact 60)⟩, b⟩
theorem y_is_way (X : K.In h) (G : h.Ns mainGlobals mg) (c : He.SaysE faL fnL K) : FFn K mg "is_way" s_is_way ["text", "row", "moves"] := by
  obtain ⟨fd, F, b⟩ := fun_of (st := s_is_way) (ps := ["text", "row", "moves"]) (c.def_ 14) rfl rfl rfl (fun _ _ _ _ _ _ us hl => match us, hl with | [_, _, _], _ => rfl)
  exact ⟨_, fd, ⟨F, He.glo_ok X G (c.fact 61), He.keep_ok (c.fact 62)⟩, b⟩
theorem y_is_closed_list (X : K.In h) (G : h.Ns mainGlobals mg) (c : He.SaysE faL fnL K) : FFn K mg "is_closed_list" s_is_closed_list ["text", "row", "situations"] := by
  obtain ⟨fd, F, b⟩ := fun_of (st := s_is_closed_list) (ps := ["text", "row", "situations"]) (c.def_ 15) rfl rfl rfl (fun _ _ _ _ _ _ us hl => match us, hl with | [_, _, _], _ => rfl)
  exact ⟨_, fd, ⟨F, He.glo_ok X G (c.fact 63), He.keep_ok (c.fact 64)⟩, b⟩
theorem y_is_least_row (X : K.In h) (G : h.Ns mainGlobals mg) (c : He.SaysE faL fnL K) : FFn K mg "is_least_row" s_is_least_row ["text", "row", "situations", "ways"] := by
  obtain ⟨fd, F, b⟩ := fun_of (st := s_is_least_row) (ps := ["text", "row", "situations", "ways"]) (c.def_ 16) rfl rfl rfl (fun _ _ _ _ _ _ us hl => match us, hl with | [_, _, _, _], _ => rfl)
  exact ⟨_, fd, ⟨F, He.glo_ok X G (c.fact 65), He.keep_ok (c.fact 66)⟩, b⟩
theorem y_is_row (X : K.In h) (G : h.Ns mainGlobals mg) (c : He.SaysE faL fnL K) : FFn K mg "is_row" s_is_row ["numbers"] := by
  obtain ⟨fd, F, b⟩ := fun_of (st := s_is_row) (ps := ["numbers"]) (c.def_ 17) rfl rfl rfl (fun _ _ _ _ _ _ us hl => match us, hl with | [_], _ => rfl)
  exact ⟨_, fd, ⟨F, He.glo_ok X G (c.fact 67), He.keep_ok (c.fact 68)⟩, b⟩
theorem y_Group_init (c : He.SaysE faL fnL K) : IFn K (He.ga K "Group") "Group.__init__" s_Group_init ["self", "sign"] := by
  obtain ⟨fd, F, b⟩ := fun_of (st := s_Group_init) (ps := ["self", "sign"]) (c.def_ 18) rfl rfl rfl (fun _ _ _ _ _ _ us hl => match us, hl with | [_, _], _ => rfl)
  exact ⟨_, fd, He.mkr_ok (c.fact 69), F, b⟩
theorem y_Reading_init (c : He.SaysE faL fnL K) : IFn K (He.ga K "Reading") "Reading.__init__" s_Reading_init ["self", "text"] := by
  obtain ⟨fd, F, b⟩ := fun_of (st := s_Reading_init) (ps := ["self", "text"]) (c.def_ 19) rfl rfl rfl (fun _ _ _ _ _ _ us hl => match us, hl with | [_, _], _ => rfl)
  exact ⟨_, fd, He.mkr_ok (c.fact 70), F, b⟩
theorem y_Reading_sign (c : He.SaysE faL fnL K) : MFn K (He.ga K "Reading") "sign" "Reading.sign" s_Reading_sign ["self"] := by
  obtain ⟨fd, F, b⟩ := fun_of (st := s_Reading_sign) (ps := ["self"]) (c.def_ 20) rfl rfl rfl (fun _ _ _ _ _ _ us hl => match us, hl with | [_], _ => rfl)
  exact ⟨_, fd, He.meth_ok (c.fact 71), F, b⟩
theorem y_Reading_device (c : He.SaysE faL fnL K) : MFn K (He.ga K "Reading") "device" "Reading.device" s_Reading_device ["self"] := by
  obtain ⟨fd, F, b⟩ := fun_of (st := s_Reading_device) (ps := ["self"]) (c.def_ 21) rfl rfl rfl (fun _ _ _ _ _ _ us hl => match us, hl with | [_], _ => rfl)
  exact ⟨_, fd, He.meth_ok (c.fact 72), F, b⟩
theorem y_Reading_first_device (c : He.SaysE faL fnL K) : MFn K (He.ga K "Reading") "first_device" "Reading.first_device" s_Reading_first_device ["self"] := by
  obtain ⟨fd, F, b⟩ := fun_of (st := s_Reading_first_device) (ps := ["self"]) (c.def_ 22) rfl rfl rfl (fun _ _ _ _ _ _ us hl => match us, hl with | [_], _ => rfl)
  exact ⟨_, fd, He.meth_ok (c.fact 73), F, b⟩
theorem y_Reading_joined (c : He.SaysE faL fnL K) : MFn K (He.ga K "Reading") "joined" "Reading.joined" s_Reading_joined ["self", "group"] := by
  obtain ⟨fd, F, b⟩ := fun_of (st := s_Reading_joined) (ps := ["self", "group"]) (c.def_ 23) rfl rfl rfl (fun _ _ _ _ _ _ us hl => match us, hl with | [_, _], _ => rfl)
  exact ⟨_, fd, He.meth_ok (c.fact 74), F, b⟩
theorem y_Reading_closed (c : He.SaysE faL fnL K) : MFn K (He.ga K "Reading") "closed" "Reading.closed" s_Reading_closed ["self", "yard"] := by
  obtain ⟨fd, F, b⟩ := fun_of (st := s_Reading_closed) (ps := ["self", "yard"]) (c.def_ 24) rfl rfl rfl (fun _ _ _ _ _ _ us hl => match us, hl with | [_, _], _ => rfl)
  exact ⟨_, fd, He.meth_ok (c.fact 75), F, b⟩
theorem y_Reading_whole (c : He.SaysE faL fnL K) : MFn K (He.ga K "Reading") "whole" "Reading.whole" s_Reading_whole ["self"] := by
  obtain ⟨fd, F, b⟩ := fun_of (st := s_Reading_whole) (ps := ["self"]) (c.def_ 25) rfl rfl rfl (fun _ _ _ _ _ _ us hl => match us, hl with | [_], _ => rfl)
  exact ⟨_, fd, He.meth_ok (c.fact 76), F, b⟩
theorem y_Yard_init (c : He.SaysE faL fnL K) : IFn K (He.ga K "Yard") "Yard.__init__" s_Yard_init ["self", "text"] := by
  obtain ⟨fd, F, b⟩ := fun_of (st := s_Yard_init) (ps := ["self", "text"]) (c.def_ 26) rfl rfl rfl (fun _ _ _ _ _ _ us hl => match us, hl with | [_, _], _ => rfl)
  exact ⟨_, fd, He.mkr_ok (c.fact 77), F, b⟩
theorem y_Yard_len (c : He.SaysE faL fnL K) : MFn K (He.ga K "Yard") "__len__" "Yard.__len__" s_Yard_len ["self"] := by
  obtain ⟨fd, F, b⟩ := fun_of (st := s_Yard_len) (ps := ["self"]) (c.def_ 27) rfl rfl rfl (fun _ _ _ _ _ _ us hl => match us, hl with | [_], _ => rfl)
  exact ⟨_, fd, He.meth_ok (c.fact 78), F, b⟩
theorem y_Yard_ins (c : He.SaysE faL fnL K) : MFn K (He.ga K "Yard") "ins" "Yard.ins" s_Yard_ins ["self", "device"] := by
  obtain ⟨fd, F, b⟩ := fun_of (st := s_Yard_ins) (ps := ["self", "device"]) (c.def_ 28) rfl rfl rfl (fun _ _ _ _ _ _ us hl => match us, hl with | [_, _], _ => rfl)
  exact ⟨_, fd, He.meth_ok (c.fact 79), F, b⟩
theorem y_Yard_outs (c : He.SaysE faL fnL K) : MFn K (He.ga K "Yard") "outs" "Yard.outs" s_Yard_outs ["self", "device"] := by
  obtain ⟨fd, F, b⟩ := fun_of (st := s_Yard_outs) (ps := ["self", "device"]) (c.def_ 29) rfl rfl rfl (fun _ _ _ _ _ _ us hl => match us, hl with | [_, _], _ => rfl)
  exact ⟨_, fd, He.meth_ok (c.fact 80), F, b⟩
theorem y_Yard_room (c : He.SaysE faL fnL K) : MFn K (He.ga K "Yard") "room" "Yard.room" s_Yard_room ["self", "device", "count"] := by
  obtain ⟨fd, F, b⟩ := fun_of (st := s_Yard_room) (ps := ["self", "device", "count"]) (c.def_ 30) rfl rfl rfl (fun _ _ _ _ _ _ us hl => match us, hl with | [_, _, _], _ => rfl)
  exact ⟨_, fd, He.meth_ok (c.fact 81), F, b⟩
theorem y_check_row (X : K.In h) (G : h.Ns mainGlobals mg) (c : He.SaysE faL fnL K) : FFn K mg "check_row" s_check_row ["row"] := by
  obtain ⟨fd, F, b⟩ := fun_of (st := s_check_row) (ps := ["row"]) (c.def_ 31) rfl rfl rfl (fun _ _ _ _ _ _ us hl => match us, hl with | [_], _ => rfl)
  exact ⟨_, fd, ⟨F, He.glo_ok X G (c.fact 82), He.keep_ok (c.fact 83)⟩, b⟩
theorem y_first_situation (X : K.In h) (G : h.Ns mainGlobals mg) (c : He.SaysE faL fnL K) : FFn K mg "first_situation" s_first_situation ["yard", "row"] := by
  obtain ⟨fd, F, b⟩ := fun_of (st := s_first_situation) (ps := ["yard", "row"]) (c.def_ 32) rfl rfl rfl (fun _ _ _ _ _ _ us hl => match us, hl with | [_, _], _ => rfl)
  exact ⟨_, fd, ⟨F, He.glo_ok X G (c.fact 84), He.keep_ok (c.fact 85)⟩, b⟩
theorem y_source_ends (X : K.In h) (G : h.Ns mainGlobals mg) (c : He.SaysE faL fnL K) : FFn K mg "source_ends" s_source_ends ["yard", "row", "situation", "source"] := by
  obtain ⟨fd, F, b⟩ := fun_of (st := s_source_ends) (ps := ["yard", "row", "situation", "source"]) (c.def_ 33) rfl rfl rfl (fun _ _ _ _ _ _ us hl => match us, hl with | [_, _, _, _], _ => rfl)
  exact ⟨_, fd, ⟨F, He.glo_ok X G (c.fact 86), He.keep_ok (c.fact 87)⟩, b⟩
theorem y_target_ends (X : K.In h) (G : h.Ns mainGlobals mg) (c : He.SaysE faL fnL K) : FFn K mg "target_ends" s_target_ends ["yard", "situation", "target"] := by
  obtain ⟨fd, F, b⟩ := fun_of (st := s_target_ends) (ps := ["yard", "situation", "target"]) (c.def_ 34) rfl rfl rfl (fun _ _ _ _ _ _ us hl => match us, hl with | [_, _, _], _ => rfl)
  exact ⟨_, fd, ⟨F, He.glo_ok X G (c.fact 88), He.keep_ok (c.fact 89)⟩, b⟩
theorem y_possible (X : K.In h) (G : h.Ns mainGlobals mg) (c : He.SaysE faL fnL K) : FFn K mg "possible" s_possible ["yard", "row", "situation"] := by
  obtain ⟨fd, F, b⟩ := fun_of (st := s_possible) (ps := ["yard", "row", "situation"]) (c.def_ 35) rfl rfl rfl (fun _ _ _ _ _ _ us hl => match us, hl with | [_, _, _], _ => rfl)
  exact ⟨_, fd, ⟨F, He.glo_ok X G (c.fact 90), He.keep_ok (c.fact 91)⟩, b⟩
theorem y_wagon_of (X : K.In h) (G : h.Ns mainGlobals mg) (c : He.SaysE faL fnL K) : FFn K mg "wagon_of" s_wagon_of ["row", "situation", "move"] := by
  obtain ⟨fd, F, b⟩ := fun_of (st := s_wagon_of) (ps := ["row", "situation", "move"]) (c.def_ 36) rfl rfl rfl (fun _ _ _ _ _ _ us hl => match us, hl with | [_, _, _], _ => rfl)
  exact ⟨_, fd, ⟨F, He.glo_ok X G (c.fact 92), He.keep_ok (c.fact 93)⟩, b⟩
theorem y_after (X : K.In h) (G : h.Ns mainGlobals mg) (c : He.SaysE faL fnL K) : FFn K mg "after" s_after ["row", "situation", "move"] := by
  obtain ⟨fd, F, b⟩ := fun_of (st := s_after) (ps := ["row", "situation", "move"]) (c.def_ 37) rfl rfl rfl (fun _ _ _ _ _ _ us hl => match us, hl with | [_, _, _], _ => rfl)
  exact ⟨_, fd, ⟨F, He.glo_ok X G (c.fact 94), He.keep_ok (c.fact 95)⟩, b⟩
theorem y_is_live (X : K.In h) (G : h.Ns mainGlobals mg) (c : He.SaysE faL fnL K) : FFn K mg "is_live" s_is_live ["situation"] := by
  obtain ⟨fd, F, b⟩ := fun_of (st := s_is_live) (ps := ["situation"]) (c.def_ 38) rfl rfl rfl (fun _ _ _ _ _ _ us hl => match us, hl with | [_], _ => rfl)
  exact ⟨_, fd, ⟨F, He.glo_ok X G (c.fact 96), He.keep_ok (c.fact 97)⟩, b⟩
theorem y_Search_init (c : He.SaysE faL fnL K) : IFn K (He.ga K "Search") "Search.__init__" s_Search_init ["self", "yard", "row", "situation"] := by
  obtain ⟨fd, F, b⟩ := fun_of (st := s_Search_init) (ps := ["self", "yard", "row", "situation"]) (c.def_ 39) rfl rfl rfl (fun _ _ _ _ _ _ us hl => match us, hl with | [_, _, _, _], _ => rfl)
  exact ⟨_, fd, He.mkr_ok (c.fact 98), F, b⟩
theorem y_Search_is_goal (c : He.SaysE faL fnL K) : MFn K (He.ga K "Search") "is_goal" "Search.is_goal" s_Search_is_goal ["self", "situation"] := by
  obtain ⟨fd, F, b⟩ := fun_of (st := s_Search_is_goal) (ps := ["self", "situation"]) (c.def_ 40) rfl rfl rfl (fun _ _ _ _ _ _ us hl => match us, hl with | [_, _], _ => rfl)
  exact ⟨_, fd, He.meth_ok (c.fact 99), F, b⟩
theorem y_Search_look (c : He.SaysE faL fnL K) : MFn K (He.ga K "Search") "look" "Search.look" s_Search_look ["self", "index"] := by
  obtain ⟨fd, F, b⟩ := fun_of (st := s_Search_look) (ps := ["self", "index"]) (c.def_ 41) rfl rfl rfl (fun _ _ _ _ _ _ us hl => match us, hl with | [_, _], _ => rfl)
  exact ⟨_, fd, He.meth_ok (c.fact 100), F, b⟩
theorem y_Search_finish (c : He.SaysE faL fnL K) : MFn K (He.ga K "Search") "finish" "Search.finish" s_Search_finish ["self"] := by
  obtain ⟨fd, F, b⟩ := fun_of (st := s_Search_finish) (ps := ["self"]) (c.def_ 42) rfl rfl rfl (fun _ _ _ _ _ _ us hl => match us, hl with | [_], _ => rfl)
  exact ⟨_, fd, He.meth_ok (c.fact 101), F, b⟩
theorem y_Search_way (c : He.SaysE faL fnL K) : MFn K (He.ga K "Search") "way" "Search.way" s_Search_way ["self"] := by
  obtain ⟨fd, F, b⟩ := fun_of (st := s_Search_way) (ps := ["self"]) (c.def_ 43) rfl rfl rfl (fun _ _ _ _ _ _ us hl => match us, hl with | [_], _ => rfl)
  exact ⟨_, fd, He.meth_ok (c.fact 102), F, b⟩
theorem y_search_from (X : K.In h) (G : h.Ns mainGlobals mg) (c : He.SaysE faL fnL K) : FFn K mg "search_from" s_search_from ["yard", "row", "situation"] := by
  obtain ⟨fd, F, b⟩ := fun_of (st := s_search_from) (ps := ["yard", "row", "situation"]) (c.def_ 44) rfl rfl rfl (fun _ _ _ _ _ _ us hl => match us, hl with | [_, _, _], _ => rfl)
  exact ⟨_, fd, ⟨F, He.glo_ok X G (c.fact 103), He.keep_ok (c.fact 104)⟩, b⟩
theorem y_solve (X : K.In h) (G : h.Ns mainGlobals mg) (c : He.SaysE faL fnL K) : FFn K mg "solve" s_solve ["yard", "row"] := by
  obtain ⟨fd, F, b⟩ := fun_of (st := s_solve) (ps := ["yard", "row"]) (c.def_ 45) rfl rfl rfl (fun _ _ _ _ _ _ us hl => match us, hl with | [_, _], _ => rfl)
  exact ⟨_, fd, ⟨F, He.glo_ok X G (c.fact 105), He.keep_ok (c.fact 106)⟩, b⟩
theorem y_can_sort (X : K.In h) (G : h.Ns mainGlobals mg) (c : He.SaysE faL fnL K) : FFn K mg "can_sort" s_can_sort ["yard", "row"] := by
  obtain ⟨fd, F, b⟩ := fun_of (st := s_can_sort) (ps := ["yard", "row"]) (c.def_ 46) rfl rfl rfl (fun _ _ _ _ _ _ us hl => match us, hl with | [_, _], _ => rfl)
  exact ⟨_, fd, ⟨F, He.glo_ok X G (c.fact 107), He.keep_ok (c.fact 108)⟩, b⟩
theorem y_closed_list (X : K.In h) (G : h.Ns mainGlobals mg) (c : He.SaysE faL fnL K) : FFn K mg "closed_list" s_closed_list ["yard", "row"] := by
  obtain ⟨fd, F, b⟩ := fun_of (st := s_closed_list) (ps := ["yard", "row"]) (c.def_ 47) rfl rfl rfl (fun _ _ _ _ _ _ us hl => match us, hl with | [_, _], _ => rfl)
  exact ⟨_, fd, ⟨F, He.glo_ok X G (c.fact 109), He.keep_ok (c.fact 110)⟩, b⟩
theorem y__law_number (X : K.In h) (G : h.Ns mainGlobals mg) (c : He.SaysE faL fnL K) : FFn K mg "_law_number" s__law_number ["_law_cell"] := by
  obtain ⟨fd, F, b⟩ := fun_of (st := s__law_number) (ps := ["_law_cell"]) (c.def_ 48) rfl rfl rfl (fun _ _ _ _ _ _ us hl => match us, hl with | [_], _ => rfl)
  exact ⟨_, fd, ⟨F, He.glo_ok X G (c.fact 111), He.keep_ok (c.fact 112)⟩, b⟩
theorem y__law_draws (X : K.In h) (G : h.Ns mainGlobals mg) (c : He.SaysE faL fnL K) : FFn K mg "_law_draws" s__law_draws ["_law_script"] := by
  obtain ⟨fd, F, b⟩ := fun_of (st := s__law_draws) (ps := ["_law_script"]) (c.def_ 49) rfl rfl rfl (fun _ _ _ _ _ _ us hl => match us, hl with | [_], _ => rfl)
  exact ⟨_, fd, ⟨F, He.glo_ok X G (c.fact 113), He.keep_ok (c.fact 114)⟩, b⟩
theorem y__law_draw (X : K.In h) (G : h.Ns mainGlobals mg) (c : He.SaysE faL fnL K) : FFn K mg "_law_draw" s__law_draw ["_law_draws_here"] := by
  obtain ⟨fd, F, b⟩ := fun_of (st := s__law_draw) (ps := ["_law_draws_here"]) (c.def_ 50) rfl rfl rfl (fun _ _ _ _ _ _ us hl => match us, hl with | [_], _ => rfl)
  exact ⟨_, fd, ⟨F, He.glo_ok X G (c.fact 115), He.keep_ok (c.fact 116)⟩, b⟩
theorem y__law_pick (X : K.In h) (G : h.Ns mainGlobals mg) (c : He.SaysE faL fnL K) : FFn K mg "_law_pick" s__law_pick ["_law_draws_here", "_law_many"] := by
  obtain ⟨fd, F, b⟩ := fun_of (st := s__law_pick) (ps := ["_law_draws_here", "_law_many"]) (c.def_ 51) rfl rfl rfl (fun _ _ _ _ _ _ us hl => match us, hl with | [_, _], _ => rfl)
  exact ⟨_, fd, ⟨F, He.glo_ok X G (c.fact 117), He.keep_ok (c.fact 118)⟩, b⟩
theorem y__law_row (X : K.In h) (G : h.Ns mainGlobals mg) (c : He.SaysE faL fnL K) : FFn K mg "_law_row" s__law_row ["_law_draws_here", "_law_size"] := by
  obtain ⟨fd, F, b⟩ := fun_of (st := s__law_row) (ps := ["_law_draws_here", "_law_size"]) (c.def_ 52) rfl rfl rfl (fun _ _ _ _ _ _ us hl => match us, hl with | [_, _], _ => rfl)
  exact ⟨_, fd, ⟨F, He.glo_ok X G (c.fact 119), He.keep_ok (c.fact 120)⟩, b⟩
theorem y__law_device (X : K.In h) (G : h.Ns mainGlobals mg) (c : He.SaysE faL fnL K) : FFn K mg "_law_device" s__law_device ["_law_draws_here"] := by
  obtain ⟨fd, F, b⟩ := fun_of (st := s__law_device) (ps := ["_law_draws_here"]) (c.def_ 53) rfl rfl rfl (fun _ _ _ _ _ _ us hl => match us, hl with | [_], _ => rfl)
  exact ⟨_, fd, ⟨F, He.glo_ok X G (c.fact 121), He.keep_ok (c.fact 122)⟩, b⟩
theorem y__law_yard (X : K.In h) (G : h.Ns mainGlobals mg) (c : He.SaysE faL fnL K) : FFn K mg "_law_yard" s__law_yard ["_law_draws_here"] := by
  obtain ⟨fd, F, b⟩ := fun_of (st := s__law_yard) (ps := ["_law_draws_here"]) (c.def_ 54) rfl rfl rfl (fun _ _ _ _ _ _ us hl => match us, hl with | [_], _ => rfl)
  exact ⟨_, fd, ⟨F, He.glo_ok X G (c.fact 123), He.keep_ok (c.fact 124)⟩, b⟩
theorem y__law_parts (X : K.In h) (G : h.Ns mainGlobals mg) (c : He.SaysE faL fnL K) : FFn K mg "_law_parts" s__law_parts ["_law_text"] := by
  obtain ⟨fd, F, b⟩ := fun_of (st := s__law_parts) (ps := ["_law_text"]) (c.def_ 55) rfl rfl rfl (fun _ _ _ _ _ _ us hl => match us, hl with | [_], _ => rfl)
  exact ⟨_, fd, ⟨F, He.glo_ok X G (c.fact 125), He.keep_ok (c.fact 126)⟩, b⟩
theorem y__law_ends (X : K.In h) (G : h.Ns mainGlobals mg) (c : He.SaysE faL fnL K) : FFn K mg "_law_ends" s__law_ends ["_law_text", "_law_first_here", "_law_devices", "_law_links"] := by
  obtain ⟨fd, F, b⟩ := fun_of (st := s__law_ends) (ps := ["_law_text", "_law_first_here", "_law_devices", "_law_links"]) (c.def_ 56) rfl rfl rfl (fun _ _ _ _ _ _ us hl => match us, hl with | [_, _, _, _], _ => rfl)
  exact ⟨_, fd, ⟨F, He.glo_ok X G (c.fact 127), He.keep_ok (c.fact 128)⟩, b⟩
theorem y__law_plan (X : K.In h) (G : h.Ns mainGlobals mg) (c : He.SaysE faL fnL K) : FFn K mg "_law_plan" s__law_plan ["_law_text"] := by
  obtain ⟨fd, F, b⟩ := fun_of (st := s__law_plan) (ps := ["_law_text"]) (c.def_ 57) rfl rfl rfl (fun _ _ _ _ _ _ us hl => match us, hl with | [_], _ => rfl)
  exact ⟨_, fd, ⟨F, He.glo_ok X G (c.fact 129), He.keep_ok (c.fact 130)⟩, b⟩
theorem y__law_first (X : K.In h) (G : h.Ns mainGlobals mg) (c : He.SaysE faL fnL K) : FFn K mg "_law_first" s__law_first ["_law_plan_here"] := by
  obtain ⟨fd, F, b⟩ := fun_of (st := s__law_first) (ps := ["_law_plan_here"]) (c.def_ 58) rfl rfl rfl (fun _ _ _ _ _ _ us hl => match us, hl with | [_], _ => rfl)
  exact ⟨_, fd, ⟨F, He.glo_ok X G (c.fact 131), He.keep_ok (c.fact 132)⟩, b⟩
theorem y__law_moved (X : K.In h) (G : h.Ns mainGlobals mg) (c : He.SaysE faL fnL K) : FFn K mg "_law_moved" s__law_moved ["_law_plan_here", "_law_row_here", "_law_situation", "_law_move"] := by
  obtain ⟨fd, F, b⟩ := fun_of (st := s__law_moved) (ps := ["_law_plan_here", "_law_row_here", "_law_situation", "_law_move"]) (c.def_ 59) rfl rfl rfl (fun _ _ _ _ _ _ us hl => match us, hl with | [_, _, _, _], _ => rfl)
  exact ⟨_, fd, ⟨F, He.glo_ok X G (c.fact 133), He.keep_ok (c.fact 134)⟩, b⟩
theorem y__law_is_live (X : K.In h) (G : h.Ns mainGlobals mg) (c : He.SaysE faL fnL K) : FFn K mg "_law_is_live" s__law_is_live ["_law_situation"] := by
  obtain ⟨fd, F, b⟩ := fun_of (st := s__law_is_live) (ps := ["_law_situation"]) (c.def_ 60) rfl rfl rfl (fun _ _ _ _ _ _ us hl => match us, hl with | [_], _ => rfl)
  exact ⟨_, fd, ⟨F, He.glo_ok X G (c.fact 135), He.keep_ok (c.fact 136)⟩, b⟩
theorem y__law_after (X : K.In h) (G : h.Ns mainGlobals mg) (c : He.SaysE faL fnL K) : FFn K mg "_law_after" s__law_after ["_law_plan_here", "_law_row_here", "_law_situation"] := by
  obtain ⟨fd, F, b⟩ := fun_of (st := s__law_after) (ps := ["_law_plan_here", "_law_row_here", "_law_situation"]) (c.def_ 61) rfl rfl rfl (fun _ _ _ _ _ _ us hl => match us, hl with | [_, _, _], _ => rfl)
  exact ⟨_, fd, ⟨F, He.glo_ok X G (c.fact 137), He.keep_ok (c.fact 138)⟩, b⟩
theorem y__law_walk (X : K.In h) (G : h.Ns mainGlobals mg) (c : He.SaysE faL fnL K) : FFn K mg "_law_walk" s__law_walk ["_law_draws_here", "_law_plan_here", "_law_row_here"] := by
  obtain ⟨fd, F, b⟩ := fun_of (st := s__law_walk) (ps := ["_law_draws_here", "_law_plan_here", "_law_row_here"]) (c.def_ 62) rfl rfl rfl (fun _ _ _ _ _ _ us hl => match us, hl with | [_, _, _], _ => rfl)
  exact ⟨_, fd, ⟨F, He.glo_ok X G (c.fact 139), He.keep_ok (c.fact 140)⟩, b⟩
theorem y__law_closed (X : K.In h) (G : h.Ns mainGlobals mg) (c : He.SaysE faL fnL K) : FFn K mg "_law_closed" s__law_closed ["_law_yard_here", "_law_row_here"] := by
  obtain ⟨fd, F, b⟩ := fun_of (st := s__law_closed) (ps := ["_law_yard_here", "_law_row_here"]) (c.def_ 63) rfl rfl rfl (fun _ _ _ _ _ _ us hl => match us, hl with | [_, _], _ => rfl)
  exact ⟨_, fd, ⟨F, He.glo_ok X G (c.fact 141), He.keep_ok (c.fact 142)⟩, b⟩
theorem y__law_solved (X : K.In h) (G : h.Ns mainGlobals mg) (c : He.SaysE faL fnL K) : FFn K mg "_law_solved" s__law_solved ["_law_yard_here", "_law_row_here"] := by
  obtain ⟨fd, F, b⟩ := fun_of (st := s__law_solved) (ps := ["_law_yard_here", "_law_row_here"]) (c.def_ 64) rfl rfl rfl (fun _ _ _ _ _ _ us hl => match us, hl with | [_, _], _ => rfl)
  exact ⟨_, fd, ⟨F, He.glo_ok X G (c.fact 143), He.keep_ok (c.fact 144)⟩, b⟩
theorem y__law_sorted (X : K.In h) (G : h.Ns mainGlobals mg) (c : He.SaysE faL fnL K) : FFn K mg "_law_sorted" s__law_sorted ["_law_yard_here", "_law_row_here"] := by
  obtain ⟨fd, F, b⟩ := fun_of (st := s__law_sorted) (ps := ["_law_yard_here", "_law_row_here"]) (c.def_ 65) rfl rfl rfl (fun _ _ _ _ _ _ us hl => match us, hl with | [_, _], _ => rfl)
  exact ⟨_, fd, ⟨F, He.glo_ok X G (c.fact 145), He.keep_ok (c.fact 146)⟩, b⟩
theorem y__law_without (X : K.In h) (G : h.Ns mainGlobals mg) (c : He.SaysE faL fnL K) : FFn K mg "_law_without" s__law_without ["_law_row_here", "_law_wagon"] := by
  obtain ⟨fd, F, b⟩ := fun_of (st := s__law_without) (ps := ["_law_row_here", "_law_wagon"]) (c.def_ 66) rfl rfl rfl (fun _ _ _ _ _ _ us hl => match us, hl with | [_, _], _ => rfl)
  exact ⟨_, fd, ⟨F, He.glo_ok X G (c.fact 147), He.keep_ok (c.fact 148)⟩, b⟩
theorem y__law_with (X : K.In h) (G : h.Ns mainGlobals mg) (c : He.SaysE faL fnL K) : FFn K mg "_law_with" s__law_with ["_law_draws_here", "_law_row_here"] := by
  obtain ⟨fd, F, b⟩ := fun_of (st := s__law_with) (ps := ["_law_draws_here", "_law_row_here"]) (c.def_ 67) rfl rfl rfl (fun _ _ _ _ _ _ us hl => match us, hl with | [_, _], _ => rfl)
  exact ⟨_, fd, ⟨F, He.glo_ok X G (c.fact 149), He.keep_ok (c.fact 150)⟩, b⟩
theorem y__law_is_least (X : K.In h) (G : h.Ns mainGlobals mg) (c : He.SaysE faL fnL K) : FFn K mg "_law_is_least" s__law_is_least ["_law_draws_here", "_law_text", "_law_row_here", "_law_situations"] := by
  obtain ⟨fd, F, b⟩ := fun_of (st := s__law_is_least) (ps := ["_law_draws_here", "_law_text", "_law_row_here", "_law_situations"]) (c.def_ 68) rfl rfl rfl (fun _ _ _ _ _ _ us hl => match us, hl with | [_, _, _, _], _ => rfl)
  exact ⟨_, fd, ⟨F, He.glo_ok X G (c.fact 151), He.keep_ok (c.fact 152)⟩, b⟩
theorem y_law (X : K.In h) (G : h.Ns mainGlobals mg) (c : He.SaysE faL fnL K) : FFn K mg "law" s_law ["_law_script"] := by
  obtain ⟨fd, F, b⟩ := fun_of (st := s_law) (ps := ["_law_script"]) (c.def_ 69) rfl rfl rfl (fun _ _ _ _ _ _ us hl => match us, hl with | [_], _ => rfl)
  exact ⟨_, fd, ⟨F, He.glo_ok X G (c.fact 153), He.keep_ok (c.fact 154)⟩, b⟩
def exB (K : PySem.W.Frag) : Bool := hkB K (He.ga K "ENTERS") [115, 113, 100, 105, 111] && (hkB K (He.ga K "CLOSING_certificates") [40, 91] && (hkB K (He.ga K "CLOSING_yards") [40, 91] && (tdB K (He.ga K "ENTERS") insOf && (tdB K (He.ga K "LEAVES") outsOf && (tdB K (He.ga K "INS") insOf && (tdB K (He.ga K "OUTS") outsOf &&
  (stB K (He.ga K "CLOSING_certificates") 40 (ch 41) && (stB K (He.ga K "CLOSING_certificates") 91 (ch 93) && (stB K (He.ga K "CLOSING_yards") 40 (ch 41) && stB K (He.ga K "CLOSING_yards") 91 (ch 93))))))))))
def dcL (K : PySem.W.Frag) : List (Option (List (Option (Str × Int)))) := [He.dicW K (He.ga K "ENTERS"), He.dicW K (He.ga K "LEAVES"), He.dicW K (He.ga K "CLOSING_certificates"), He.dicW K (He.ga K "INS"), He.dicW K (He.ga K "OUTS"), He.dicW K (He.ga K "CLOSING_yards")]
def dcV (P : Params) : List (Option (List (Option (Str × Int)))) := [some (He.keysIn P ["s", "q", "d", "i", "o"]), some (He.keysIn P ["s", "q", "d", "i", "o"]), some (He.keysIn P ["(", "["]), some (He.keysIn P ["s", "q", "d", "i", "o"]), some (He.keysIn P ["s", "q", "d", "i", "o"]), some (He.keysIn P ["(", "["])]
theorem tx_of (X : K.In h) (G : h.Ns mainGlobals mg) (c : He.SaysE faL fnL K) (ex : exB K = true) (dc : dcL K = dcV w.params) : Nonempty (TX K w mg) := by
  have d0 := dc
  simp only [dcL, dcV, List.cons.injEq, and_true] at d0
  obtain ⟨z0, z1, z2, z3, z4, z5⟩ := d0
  obtain ⟨e0, n0, D0⟩ := He.dicW_ok z0
  obtain ⟨e1, n1, D1⟩ := He.dicW_ok z1
  obtain ⟨e2, n2, D2⟩ := He.dicW_ok z2
  obtain ⟨e3, n3, D3⟩ := He.dicW_ok z3
  obtain ⟨e4, n4, D4⟩ := He.dicW_ok z4
  obtain ⟨e5, n5, D5⟩ := He.dicW_ok z5
  obtain ⟨x0, ex⟩ := He.ba ex
  obtain ⟨x1, ex⟩ := He.ba ex
  obtain ⟨x2, ex⟩ := He.ba ex
  obtain ⟨x3, ex⟩ := He.ba ex
  obtain ⟨x4, ex⟩ := He.ba ex
  obtain ⟨x5, ex⟩ := He.ba ex
  obtain ⟨x6, ex⟩ := He.ba ex
  obtain ⟨x7, ex⟩ := He.ba ex
  obtain ⟨x8, ex⟩ := He.ba ex
  obtain ⟨x9, ex⟩ := He.ba ex
  exact ⟨{
    cTrack := He.ga K "Track",
    cGroup := He.ga K "Group",
    cReading := He.ga K "Reading",
    cYard := He.ga K "Yard",
    cSearch := He.ga K "Search",
    cTooLarge := He.ga K "TooLarge",
    dENTERS := He.ga K "ENTERS",
    dLEAVES := He.ga K "LEAVES",
    dCLOSING_certificates := He.ga K "CLOSING_certificates",
    dINS := He.ga K "INS",
    dOUTS := He.ga K "OUTS",
    dCLOSING_yards := He.ga K "CLOSING_yards",
    eENTERS := e0,
    nENTERS := n0,
    eCLOSING_certificates := e2,
    nCLOSING_certificates := n2,
    eCLOSING_yards := e5,
    nCLOSING_yards := n5,
    clTrack := He.cls_ok (c.fact 0),
    g_Track := He.glo_ok X G (c.fact 1),
    na_Track_text := He.noat_ok (c.fact 2),
    na_Track_at := He.noat_ok (c.fact 3),
    na_Track_kinds := He.noat_ok (c.fact 4),
    na_Track_bounds := He.noat_ok (c.fact 5),
    na_Track_links := He.noat_ok (c.fact 6),
    na_Track_groups := He.noat_ok (c.fact 7),
    clGroup := He.cls_ok (c.fact 8),
    g_Group := He.glo_ok X G (c.fact 9),
    na_Group_sign := He.noat_ok (c.fact 10),
    na_Group_yards := He.noat_ok (c.fact 11),
    clReading := He.cls_ok (c.fact 12),
    g_Reading := He.glo_ok X G (c.fact 13),
    na_Reading_text := He.noat_ok (c.fact 14),
    na_Reading_at := He.noat_ok (c.fact 15),
    na_Reading_kinds := He.noat_ok (c.fact 16),
    na_Reading_bounds := He.noat_ok (c.fact 17),
    na_Reading_links := He.noat_ok (c.fact 18),
    na_Reading_groups := He.noat_ok (c.fact 19),
    clYard := He.cls_ok (c.fact 20),
    g_Yard := He.glo_ok X G (c.fact 21),
    na_Yard_text := He.noat_ok (c.fact 22),
    na_Yard_kinds := He.noat_ok (c.fact 23),
    na_Yard_bounds := He.noat_ok (c.fact 24),
    na_Yard_links := He.noat_ok (c.fact 25),
    clSearch := He.cls_ok (c.fact 26),
    g_Search := He.glo_ok X G (c.fact 27),
    na_Search_yard := He.noat_ok (c.fact 28),
    na_Search_wagons := He.noat_ok (c.fact 29),
    na_Search_met := He.noat_ok (c.fact 30),
    na_Search_known := He.noat_ok (c.fact 31),
    na_Search_origin := He.noat_ok (c.fact 32),
    na_Search_found := He.noat_ok (c.fact 33),
    fn_Track_init := y_Track_init c,
    fn_Track_sign := y_Track_sign c,
    fn_Track_begin := y_Track_begin c,
    fn_Track_put := y_Track_put c,
    fn_Track_read := y_Track_read c,
    fn_Track_holds := y_Track_holds c,
    fn_Track_made := y_Track_made c,
    fn_Track_following := y_Track_following c,
    fn__track := y__track X G c,
    fn__check_row := y__check_row X G c,
    fn__first := y__first X G c,
    fn__sorts := y__sorts X G c,
    fn__is_live := y__is_live X G c,
    fn__is_closed := y__is_closed X G c,
    fn_is_way := y_is_way X G c,
    fn_is_closed_list := y_is_closed_list X G c,
    fn_is_least_row := y_is_least_row X G c,
    fn_is_row := y_is_row X G c,
    fn_Group_init := y_Group_init c,
    fn_Reading_init := y_Reading_init c,
    fn_Reading_sign := y_Reading_sign c,
    fn_Reading_device := y_Reading_device c,
    fn_Reading_first_device := y_Reading_first_device c,
    fn_Reading_joined := y_Reading_joined c,
    fn_Reading_closed := y_Reading_closed c,
    fn_Reading_whole := y_Reading_whole c,
    fn_Yard_init := y_Yard_init c,
    fn_Yard_len := y_Yard_len c,
    fn_Yard_ins := y_Yard_ins c,
    fn_Yard_outs := y_Yard_outs c,
    fn_Yard_room := y_Yard_room c,
    fn_check_row := y_check_row X G c,
    fn_first_situation := y_first_situation X G c,
    fn_source_ends := y_source_ends X G c,
    fn_target_ends := y_target_ends X G c,
    fn_possible := y_possible X G c,
    fn_wagon_of := y_wagon_of X G c,
    fn_after := y_after X G c,
    fn_is_live := y_is_live X G c,
    fn_Search_init := y_Search_init c,
    fn_Search_is_goal := y_Search_is_goal c,
    fn_Search_look := y_Search_look c,
    fn_Search_finish := y_Search_finish c,
    fn_Search_way := y_Search_way c,
    fn_search_from := y_search_from X G c,
    fn_solve := y_solve X G c,
    fn_can_sort := y_can_sort X G c,
    fn_closed_list := y_closed_list X G c,
    fn__law_number := y__law_number X G c,
    fn__law_draws := y__law_draws X G c,
    fn__law_draw := y__law_draw X G c,
    fn__law_pick := y__law_pick X G c,
    fn__law_row := y__law_row X G c,
    fn__law_device := y__law_device X G c,
    fn__law_yard := y__law_yard X G c,
    fn__law_parts := y__law_parts X G c,
    fn__law_ends := y__law_ends X G c,
    fn__law_plan := y__law_plan X G c,
    fn__law_first := y__law_first X G c,
    fn__law_moved := y__law_moved X G c,
    fn__law_is_live := y__law_is_live X G c,
    fn__law_after := y__law_after X G c,
    fn__law_walk := y__law_walk X G c,
    fn__law_closed := y__law_closed X G c,
    fn__law_solved := y__law_solved X G c,
    fn__law_sorted := y__law_sorted X G c,
    fn__law_without := y__law_without X G c,
    fn__law_with := y__law_with X G c,
    fn__law_is_least := y__law_is_least X G c,
    fn_law := y_law X G c,
    b_len := He.free_ok X G (c.fact 155),
    b_int := He.free_ok X G (c.fact 156),
    b_list := He.free_ok X G (c.fact 157),
    b_tuple := He.free_ok X G (c.fact 158),
    b_range := He.free_ok X G (c.fact 159),
    b_sorted := He.free_ok X G (c.fact 160),
    b_zip := He.free_ok X G (c.fact 161),
    b_enumerate := He.free_ok X G (c.fact 162),
    g_LONGEST := gInt X G (c.fact 163),
    g_MOST_DEVICES := gInt X G (c.fact 164),
    g_MOST_OPEN := gInt X G (c.fact 165),
    g_MOST_rows := gInt X G (c.fact 166),
    g_MOST_yards := gInt X G (c.fact 167),
    g_LEFT := gInt X G (c.fact 168),
    g_RIGHT := gInt X G (c.fact 169),
    g_OUTSIDE := gInt X G (c.fact 170),
    g_MOST_SITUATIONS := gInt X G (c.fact 171),
    g_KINDS := gStr X G (c.fact 172),
    g_BOUNDS := gStr X G (c.fact 173),
    g_ENTERS := ⟨_, He.glo_ok X G (c.fact 35), rfl⟩,
    g_LEAVES := ⟨_, He.glo_ok X G (c.fact 36), rfl⟩,
    g_CLOSING_certificates := ⟨_, He.glo_ok X G (c.fact 37), rfl⟩,
    g_INS := ⟨_, He.glo_ok X G (c.fact 38), rfl⟩,
    g_OUTS := ⟨_, He.glo_ok X G (c.fact 39), rfl⟩,
    g_CLOSING_yards := ⟨_, He.glo_ok X G (c.fact 40), rfl⟩,
    kd_ENTERS := D0,
    kd_CLOSING_certificates := D2,
    kd_CLOSING_yards := D5,
    hkE := hkB_ok x0,
    hkC := hkB_ok x1,
    hkY := hkB_ok x2,
    tdE := tdB_ok D0 x3,
    tdL := tdB_ok D1 x4,
    tdI := tdB_ok D3 x5,
    tdO := tdB_ok D4 x6,
    cp_CLOSING_certificates := stB_ok D2 x7,
    cb_CLOSING_certificates := stB_ok D2 x8,
    cp_CLOSING_yards := stB_ok D5 x9,
    cb_CLOSING_yards := stB_ok D5 ex,
    xTL := (He.exc_ok (c.fact 174)).1,
    g_TooLarge := He.glo_ok X G (c.fact 34),
    k_TooLarge := (He.exc_ok (c.fact 174)).2.1,
    bTL := (He.exc_ok (c.fact 174)).2.2.1,
    tTL := (He.exc_ok (c.fact 174)).2.2.2,
    eTL := He.exm_ok (c.fact 175) }⟩
end
end K92

set_option Elab.async false
set_option linter.all false
set_option maxRecDepth 100000
set_option maxHeartbeats 4000000
set_option autoImplicit false
/-! K92Z: the join, all but the head. -/
namespace K92
open PySem PySem.Spec PyProof.Rows L2
theorem walk {l : PySem.W.OpenLaw} {q : Program} {loose : List Str} {XP : (Str → Option Value) → Heap → Prop} {YP : World → Heap → Prop} {d : DefRec} {K : Params → PySem.W.Frag} (hn : l.most = some 63) (hdf : d.params.defaults = [])
    (hY : ∀ (w : World) (h : Heap), YP w h → (K w.params).In h)
    (F : ∀ (w : World) (mg : Str → Option Value) (fa : Addr) (h : Heap), (K w.params).In h → h.Ns mainGlobals mg → mg d.name = some (.ref fa) →
      ∃ fd : FuncData, (∀ (s : Shared) (u : Value), BindsTo s fd ⟨[u], []⟩ [("_law_script", u)]) ∧ ∀ base : Heap, (K w.params).In base → base.Ns mainGlobals mg → FnOk l.prog w (K w.params) mg base C8.CX0 18 fa fd ["_law_script"] (spLaw (K w.params))) :
    PySem.W.WalkO q loose XP YP l.row.toRowW d [] (fun f vs => PySem.call f vs) :=
  L2.walk_of (n := 63) (k := 18) (x := "_law_script") (CX := fun _ => C8.CX0) (sp := fun w => spLaw (K w.params)) hn (by decide) hdf ⟨rfl, by decide, by decide⟩ hY F (fun _ _ a ns hl _ hS => ⟨a, ns, rfl, hS, hl, fun _ => rfl⟩) fun _ _ _ _ _ z => z
theorem fin {P : Program} {w : World} {K : PySem.W.Frag} {mg : Str → Option Value} {h : Heap} {fa : Addr} (X : K.In h) (G : h.Ns mainGlobals mg) (hfa : mg "law" = some (.ref fa)) (c : He.obsE faL fnL K = He.valE fnL) (ex : exB K = true) (dc : dcL K = dcV w.params) :
    ∃ fd : FuncData, (∀ (s : Shared) (u : Value), BindsTo s fd ⟨[u], []⟩ [("_law_script", u)]) ∧ ∀ base : Heap, K.In base → base.Ns mainGlobals mg → FnOk P w K mg base C8.CX0 18 fa fd ["_law_script"] (spLaw K) := by
  obtain ⟨T⟩ := tx_of X G c ex dc
  have c' : He.SaysE faL fnL K := c
  obtain ⟨oc, od, osl, kV, doc, pm, an, cdv, ct, lk, cd⟩ := c'.def_ 69
  have e : (.ref fa : Value) = .ref (He.ga K "law") := Option.some.inj (hfa.symm.trans (He.glo_ok X G (c'.fact 153)))
  cases e
  exact ⟨PySem.W.fnOf "law" "law" (C8.fnArgs s_law) (C8.fnBody s_law) (C8.fnScope s_law) .none kV doc pm an cdv ct, fun s u => .of_eq rfl, fun base _ _ => fn_law T ⟨⟨oc, od, .none, kV, doc, pm, an, cdv, ct, osl, rfl, lk, cd⟩⟩⟩
end K92

open PySem PySem.W PyProof.Rows in
set_option maxRecDepth 100000 in
set_option maxHeartbeats 0 in
theorem PySem.Challenge.cw_yardsort_k92_whole_never_both_holds : PySem.Challenge.rw_yardsort_k92_whole_never_both.Holds := by
  w_on; o_law; k_head; (case hw => w_witness2)
  k_fill
  refine K92.walk (l := PySem.Challenge.rw_yardsort_k92_whole_never_both) rfl rfl (fun w h Y => PySem.W.kIn_of Y) ?F
  case F =>
    intro w mg fa h KX G hmg
    refine K92.fin KX G hmg ?c ?ex ?dc
    case ex => kernel_rfl
    case dc => kernel_rfl
    case c => kernel_rfl
