/- A plain evaluator for Go's loaded code, and that it is sound; part 1. Conditions: none. -/
import Derived.Calls
import Derived.Orders
import Derived.Below
import Derived.Sort.Defs
import Derived.Laws.Rows
import Derived.Laws.Small
import Derived.Laws.StructEq
import Derived.Laws.Concat
import Derived.Laws.IdiomCopy
import Derived.Deep.MidRow
import Derived.Tactics
import Derived.WalkKit
import Derived.Laws.MakeOwn
import Derived.Laws.Append
namespace Go.Ev

mutual
inductive L where
  | int (k : IntKind)
  | bool
  | str
  | sl (t : TypeId) (e : Ls)
inductive Ls where
  | nil
  | one (l : L)
  | cons (l : L) (ls : Ls)
end

mutual
def L.D : L → Type
  | .int _ => Int
  | .bool => Bool
  | .str => List UInt8
  | .sl _ e => List e.D
def Ls.D : Ls → Type
  | .nil => Unit
  | .one l => l.D
  | .cons l ls => l.D × ls.D
end

def Ls.n : Ls → Nat
  | .nil => 0
  | .one _ => 1
  | .cons _ ls => ls.n + 1

def IntKind.code : IntKind → Nat
  | .i8 => 0 | .i16 => 1 | .i32 => 2 | .i64 => 3 | .u8 => 4 | .u16 => 5 | .u32 => 6 | .u64 => 7

theorem IntKind.code_inj {a b : IntKind} (h : IntKind.code a = IntKind.code b) : a = b := by cases a <;> cases b <;> first | rfl | cases h

mutual
def L.eq? : (a b : L) → Bool
  | .int j, .int k => IntKind.code j == IntKind.code k
  | .bool, .bool => true
  | .str, .str => true
  | .sl t e, .sl u f => t == u && Ls.eq? e f
  | _, _ => false
def Ls.eq? : (a b : Ls) → Bool
  | .nil, .nil => true
  | .one a, .one b => L.eq? a b
  | .cons a as, .cons b bs => L.eq? a b && Ls.eq? as bs
  | _, _ => false
end

mutual
theorem L.eq_of : ∀ {a b : L}, L.eq? a b = true → a = b
  | .int _, .int _, h => by simp [L.eq?] at h; rw [IntKind.code_inj h]
  | .bool, .bool, _ => rfl
  | .str, .str, _ => rfl
  | .sl t e, .sl u f, h => by simp [L.eq?] at h; rw [h.1, Ls.eq_of h.2]
  | .int _, .bool, h | .int _, .str, h | .int _, .sl .., h | .bool, .int _, h | .bool, .str, h | .bool, .sl .., h | .str, .int _, h | .str, .bool, h | .str, .sl .., h | .sl .., .int _, h | .sl .., .bool, h | .sl .., .str, h => by simp [L.eq?] at h
theorem Ls.eq_of : ∀ {a b : Ls}, Ls.eq? a b = true → a = b
  | .nil, .nil, _ => rfl
  | .one _, .one _, h => by simp [Ls.eq?] at h; rw [L.eq_of h]
  | .cons _ _, .cons _ _, h => by simp [Ls.eq?] at h; rw [L.eq_of h.1, Ls.eq_of h.2]
  | .nil, .one _, h | .nil, .cons .., h | .one _, .nil, h | .one _, .cons .., h | .cons .., .nil, h | .cons .., .one _, h => by simp [Ls.eq?] at h
end

/-- One leaf's datum with its kind. -/
structure Lv where
  l : L
  x : l.D

def L.cast {a : L} (b : L) (x : a.D) : Option b.D := if h : L.eq? a b = true then some (L.eq_of h ▸ x) else none
def Ls.cast {a : Ls} (b : Ls) (x : a.D) : Option b.D := if h : Ls.eq? a b = true then some (Ls.eq_of h ▸ x) else none

theorem L.cast_some {a b : L} {x : a.D} {y : b.D} (h : L.cast b x = some y) : ∃ e : a = b, e ▸ x = y := by
  unfold L.cast at h; split at h
  · rename_i e; exact ⟨L.eq_of e, by injection h⟩
  · cases h
theorem Ls.cast_some {a b : Ls} {x : a.D} {y : b.D} (h : Ls.cast b x = some y) : ∃ e : a = b, e ▸ x = y := by
  unfold Ls.cast at h; split at h
  · rename_i e; exact ⟨Ls.eq_of e, by injection h⟩
  · cases h

/-- A row of leaves out of single ones. -/
def pack : (ls : Ls) → List Lv → Option ls.D
  | .nil => fun vs => match vs with
    | [] => some ()
    | _ :: _ => none
  | .one l => fun vs => match vs with
    | [] => none
    | v :: vs => match vs with
      | [] => L.cast l v.x
      | _ :: _ => none
  | .cons l ls => fun vs => match vs with
    | [] => none
    | v :: vs => match L.cast l v.x with
      | none => none
      | some x => match pack ls vs with
        | none => none
        | some xs => some (x, xs)
def unpack : (ls : Ls) → ls.D → List Lv
  | .nil, _ => []
  | .one l, x => [⟨l, x⟩]
  | .cons l ls, x => ⟨l, x.1⟩ :: unpack ls x.2
def Ls.kinds : Ls → List L
  | .nil => []
  | .one l => [l]
  | .cons l ls => l :: ls.kinds

theorem unpack_length : ∀ (ls : Ls) (x : ls.D), (unpack ls x).length = ls.n
  | .nil, _ => rfl
  | .one _, _ => rfl
  | .cons _ ls, x => by simp [unpack, Ls.n, unpack_length ls x.2]

theorem unpack_pack : ∀ (ls : Ls) (vs : List Lv) (x : ls.D), pack ls vs = some x → unpack ls x = vs
  | .nil, [], _, _ => rfl
  | .nil, _ :: _, _, h => by simp [pack] at h
  | .one l, [], _, h => by simp [pack] at h
  | .one l, [v], x, h => by
    simp only [pack] at h
    obtain ⟨l', y⟩ := v
    obtain ⟨e, he⟩ := L.cast_some h
    try dsimp only at e he
    subst e; subst he; rfl
  | .one l, _ :: _ :: _, _, h => by simp [pack] at h
  | .cons l ls, [], _, h => by simp [pack] at h
  | .cons l ls, v :: vs, x, h => by
    obtain ⟨l', y⟩ := v
    simp only [pack] at h
    split at h
    · cases h
    · rename_i a ha
      split at h
      · cases h
      · rename_i b hb
        obtain ⟨e, he⟩ := L.cast_some ha
        try dsimp only at e he
        subst e; subst he
        injection h with h; subst h
        simp [unpack, unpack_pack ls vs _ hb]

/-- 'n' cells from 'a' on lie in one block; 'g j': the cell 'j' behind 'a'. -/
def Row (w : World) (a : Addr) (n : Nat) (bare : Bool) (g : Nat → Option Value) : Prop :=
  a.spot = none ∧ ∃ arr T fr, w.heap[a.block]? = some (.cells arr T fr) ∧ a.off + n ≤ arr.size ∧ (bare = true → ∀ j, j < arr.size → ¬(fr.1 ≤ j ∧ j < fr.2)) ∧ ∀ j, g j = arr[a.off + j]?

/-- A slice value reads as a list: each element by 'R'. 'own': is the row owned? 'o': the blocks owned; a row that isn't lies in a block of 'fz', and its elements own nothing. A row without a place that isn't owned may have any address. -/
def SlRd {α : Type} (n : Nat) (R : (Nat → Option Value) → α → List Nat → Prop) (own : Bool) (w : World) (fz : Nat → Prop) (v : Value) (xs : List α) (o : List Nat) : Prop :=
  ∃ (A : Option Addr) (c : Nat), v = .slice A xs.length c ∧ xs.length ≤ c ∧
    match A with
    | none => c = 0 ∧ o = []
    | some a => (own = false ∧ c = 0 ∧ o = []) ∨ ∃ (g : Nat → Option Value) (os : Nat → List Nat), Row w a (c * n) own g ∧ (∀ i (h : i < xs.length), R (fun j => g (i * n + j)) xs[i] (os i)) ∧
        match own with
        | true => o = a.block :: (List.range xs.length).flatMap os
        | false => fz a.block ∧ o = [] ∧ ∀ i, i < xs.length → os i = []

/-- How deep below a row: 0 nothing is owned, 1 the row alone, 2 all of it. -/
def dec : Nat → Nat
  | 0 => 0
  | 1 => 0
  | d + 2 => d + 2

mutual
/-- The cells' reading. 'd': how deep the rows are owned (0: none is: their blocks are of 'fz'); 'o': the blocks owned. -/
def L.rd : (l : L) → Nat → World → (Nat → Prop) → Value → l.D → List Nat → Prop
  | .int k, _, _, _, v, x, o => v = .int k x ∧ o = []
  | .bool, _, _, _, v, x, o => v = .bool x ∧ o = []
  | .str, _, _, _, v, x, o => v = .string ⟨x.toArray⟩ ∧ o = []
  | .sl _ e, d, w, fz, v, x, o => SlRd e.n (fun g y o => e.rd (dec d) w fz g y o) (decide (0 < d)) w fz v x o
def Ls.rd : (ls : Ls) → Nat → World → (Nat → Prop) → (Nat → Option Value) → ls.D → List Nat → Prop
  | .nil, _, _, _, _, _, o => o = []
  | .one l, d, w, fz, g, x, o => ∃ v, g 0 = some v ∧ l.rd d w fz v x o
  | .cons l ls, d, w, fz, g, x, o => ∃ v o1 o2, g 0 = some v ∧ l.rd d w fz v x.1 o1 ∧ ls.rd d w fz (fun j => g (j + 1)) x.2 o2 ∧ o = o1 ++ o2
end

theorem L.rd_sl {t : TypeId} {e : Ls} {d : Nat} {w : World} {fz : Nat → Prop} {v : Value} {x : (L.sl t e).D} {o : List Nat} :
    (L.sl t e).rd d w fz v x o ↔ SlRd (α := e.D) e.n (fun g y o => e.rd (dec d) w fz g y o) (decide (0 < d)) w fz v x o := Iff.rfl

end Go.Ev

namespace Go.Ev

theorem Row.frame {w w' : World} {a : Addr} {n : Nat} {bare : Bool} {g : Nat → Option Value} (h : Row w a n bare g) (e : w'.heap[a.block]? = w.heap[a.block]?) : Row w' a n bare g := by
  obtain ⟨hs, arr, T, fr, hh, hn, hb, hg⟩ := h
  exact ⟨hs, arr, T, fr, e.trans hh, hn, hb, hg⟩
theorem Row.lt {w : World} {a : Addr} {n : Nat} {bare : Bool} {g : Nat → Option Value} (h : Row w a n bare g) : a.block < w.heap.size := by
  obtain ⟨hs, arr, T, fr, hh, _⟩ := h
  exact (Array.getElem?_eq_some_iff.1 hh).1

section
variable {α : Type} {n : Nat} {R R' : (Nat → Option Value) → α → List Nat → Prop} {own : Bool} {w w' : World} {fz fz' : Nat → Prop} {v : Value} {xs : List α} {o : List Nat}
theorem SlRd.imp (h : SlRd n R own w fz v xs o) (hf : ∀ b, b ∈ o ∨ fz b → w'.heap[b]? = w.heap[b]?) (hz : ∀ b, fz b → fz' b)
    (hr : ∀ g x oi, (∀ b ∈ oi, b ∈ o) → R g x oi → R' g x oi) : SlRd n R' own w' fz' v xs o := by
  obtain ⟨A, c, hv, hc, h⟩ := h
  refine ⟨A, c, hv, hc, ?_⟩
  cases A with
  | none => exact h
  | some a =>
    rcases h with h | ⟨g, os, hrow, hel, ho⟩
    · exact .inl h
    refine .inr ?_
    cases own with
    | true =>
      refine ⟨g, os, hrow.frame (hf _ (.inl (by rw [ho]; simp))), fun i hi => hr _ _ _ ?_ (hel i hi), ho⟩
      intro b hb; rw [ho]; exact List.mem_cons_of_mem _ (List.mem_flatMap.2 ⟨i, List.mem_range.2 hi, hb⟩)
    | false =>
      refine ⟨g, os, hrow.frame (hf _ (.inr ho.1)), fun i hi => hr _ _ _ ?_ (hel i hi), hz _ ho.1, ho.2⟩
      intro b hb; rw [ho.2.2 i hi] at hb; cases hb
theorem SlRd.freeze (h : SlRd n R own w fz v xs o) (hz : ∀ b, fz b ∨ b ∈ o → fz' b) (hr : ∀ g x oi, (∀ b ∈ oi, b ∈ o) → R g x oi → R' g x []) : SlRd n R' false w fz' v xs [] := by
  obtain ⟨A, c, hv, hc, h⟩ := h
  refine ⟨A, c, hv, hc, ?_⟩
  cases A with
  | none => exact ⟨h.1, rfl⟩
  | some a =>
    rcases h with h | ⟨g, os, hrow, hel, ho⟩
    · exact .inl ⟨rfl, h.2.1, rfl⟩
    obtain ⟨hs, arr, T, fr, hh, hn, hb, hg⟩ := hrow
    refine .inr ⟨g, fun _ => [], ⟨hs, arr, T, fr, hh, hn, fun h => by simp at h, hg⟩, fun i hi => hr _ _ _ ?_ (hel i hi), hz _ ?_, rfl, fun _ _ => rfl⟩
    · cases own with
      | true => intro b hb; rw [ho]; exact List.mem_cons_of_mem _ (List.mem_flatMap.2 ⟨i, List.mem_range.2 hi, hb⟩)
      | false => intro b hb; rw [ho.2.2 i hi] at hb; cases hb
    · cases own with
      | true => right; rw [ho]; simp
      | false => exact .inl ho.1
theorem SlRd.zero (h : SlRd n R false w fz v xs o) : o = [] := by
  obtain ⟨A, c, hv, hc, h⟩ := h
  cases A with
  | none => exact h.2
  | some a =>
    rcases h with h | ⟨g, os, hrow, hel, ho⟩
    · exact h.2.2
    · exact ho.2.1
theorem SlRd.dep (h : SlRd n R own w fz v xs o) (hr : ∀ g x oi, R g x oi → ∀ b ∈ oi, b < w.heap.size) : ∀ b ∈ o, b < w.heap.size := by
  obtain ⟨A, c, hv, hc, h⟩ := h
  cases A with
  | none => rw [h.2]; simp
  | some a =>
    rcases h with h | ⟨g, os, hrow, hel, ho⟩
    · rw [h.2.2]; simp
    cases own with
    | false => rw [ho.2.1]; simp
    | true =>
      intro b hb
      rw [ho] at hb
      rcases List.mem_cons.1 hb with rfl | hb
      · exact hrow.lt
      · obtain ⟨i, hi, hb⟩ := List.mem_flatMap.1 hb
        exact hr _ _ _ (hel i (List.mem_range.1 hi)) b hb
end

mutual
theorem L.rd_frame : ∀ (l : L) {d : Nat} {w w' : World} {fz fz' : Nat → Prop} {v : Value} {x : l.D} {o : List Nat},
    l.rd d w fz v x o → (∀ b, b ∈ o ∨ fz b → w'.heap[b]? = w.heap[b]?) → (∀ b, fz b → fz' b) → l.rd d w' fz' v x o
  | .int _, _, _, _, _, _, _, _, _, h, _, _ => h
  | .bool, _, _, _, _, _, _, _, _, h, _, _ => h
  | .str, _, _, _, _, _, _, _, _, h, _, _ => h
  | .sl _ e, d, w, w', fz, fz', v, x, o, h, hf, hz => by
    rw [L.rd_sl] at h ⊢
    exact SlRd.imp h hf hz fun g y oi ho hr => Ls.rd_frame e hr (fun b hb => hf b (hb.imp (ho b) id)) hz
theorem Ls.rd_frame : ∀ (ls : Ls) {d : Nat} {w w' : World} {fz fz' : Nat → Prop} {g : Nat → Option Value} {x : ls.D} {o : List Nat},
    ls.rd d w fz g x o → (∀ b, b ∈ o ∨ fz b → w'.heap[b]? = w.heap[b]?) → (∀ b, fz b → fz' b) → ls.rd d w' fz' g x o
  | .nil, _, _, _, _, _, _, _, _, h, _, _ => h
  | .one l, d, w, w', fz, fz', g, x, o, h, hf, hz => by
    simp only [Ls.rd] at h ⊢
    obtain ⟨v, hg, h⟩ := h
    exact ⟨v, hg, L.rd_frame l h hf hz⟩
  | .cons l ls, d, w, w', fz, fz', g, x, o, h, hf, hz => by
    simp only [Ls.rd] at h ⊢
    obtain ⟨v, o1, o2, hg, h1, h2, rfl⟩ := h
    exact ⟨v, o1, o2, hg, L.rd_frame l h1 (fun b hb => hf b (hb.imp (List.mem_append_left _) id)) hz, Ls.rd_frame ls h2 (fun b hb => hf b (hb.imp (List.mem_append_right _) id)) hz, rfl⟩
end

mutual
/-- What is owned may be looked at only, from now on. -/
theorem L.rd_freeze : ∀ (l : L) {d : Nat} {w : World} {fz fz' : Nat → Prop} {v : Value} {x : l.D} {o : List Nat},
    l.rd d w fz v x o → (∀ b, fz b ∨ b ∈ o → fz' b) → l.rd 0 w fz' v x []
  | .int _, _, _, _, _, _, _, _, h, _ => by simp only [L.rd] at h ⊢; exact ⟨h.1, trivial⟩
  | .bool, _, _, _, _, _, _, _, h, _ => by simp only [L.rd] at h ⊢; exact ⟨h.1, trivial⟩
  | .str, _, _, _, _, _, _, _, h, _ => by simp only [L.rd] at h ⊢; exact ⟨h.1, trivial⟩
  | .sl _ e, d, w, fz, fz', v, x, o, h, hz => by
    rw [L.rd_sl] at h ⊢
    exact SlRd.freeze h hz fun g y oi ho hr => Ls.rd_freeze e hr fun b hb => hz b (hb.imp id (ho b))
theorem Ls.rd_freeze : ∀ (ls : Ls) {d : Nat} {w : World} {fz fz' : Nat → Prop} {g : Nat → Option Value} {x : ls.D} {o : List Nat},
    ls.rd d w fz g x o → (∀ b, fz b ∨ b ∈ o → fz' b) → ls.rd 0 w fz' g x []
  | .nil, _, _, _, _, _, _, _, _, _ => rfl
  | .one l, d, w, fz, fz', g, x, o, h, hz => by
    simp only [Ls.rd] at h ⊢
    obtain ⟨v, hg, h⟩ := h
    exact ⟨v, hg, L.rd_freeze l h hz⟩
  | .cons l ls, d, w, fz, fz', g, x, o, h, hz => by
    simp only [Ls.rd] at h ⊢
    obtain ⟨v, o1, o2, hg, h1, h2, rfl⟩ := h
    exact ⟨v, [], [], hg, L.rd_freeze l h1 (fun b hb => hz b (hb.imp id (List.mem_append_left _))), Ls.rd_freeze ls h2 (fun b hb => hz b (hb.imp id (List.mem_append_right _))), rfl⟩
end

mutual
/-- A row that is not owned owns nothing. -/
theorem L.rd_zero : ∀ (l : L) {w : World} {fz : Nat → Prop} {v : Value} {x : l.D} {o : List Nat}, l.rd 0 w fz v x o → o = []
  | .int _, _, _, _, _, _, h => h.2
  | .bool, _, _, _, _, _, h => h.2
  | .str, _, _, _, _, _, h => h.2
  | .sl _ e, w, fz, v, x, o, h => by
    rw [L.rd_sl] at h
    exact SlRd.zero h
theorem Ls.rd_zero : ∀ (ls : Ls) {w : World} {fz : Nat → Prop} {g : Nat → Option Value} {x : ls.D} {o : List Nat}, ls.rd 0 w fz g x o → o = []
  | .nil, _, _, _, _, _, h => h
  | .one l, w, fz, g, x, o, h => by
    simp only [Ls.rd] at h
    obtain ⟨v, hg, h⟩ := h
    exact L.rd_zero l h
  | .cons l ls, w, fz, g, x, o, h => by
    simp only [Ls.rd] at h
    obtain ⟨v, o1, o2, hg, h1, h2, rfl⟩ := h
    rw [L.rd_zero l h1, Ls.rd_zero ls h2]; rfl
end

mutual
/-- Owned blocks are there. -/
theorem L.rd_dep : ∀ (l : L) {d : Nat} {w : World} {fz : Nat → Prop} {v : Value} {x : l.D} {o : List Nat}, l.rd d w fz v x o → ∀ b ∈ o, b < w.heap.size
  | .int _, _, _, _, _, _, _, h => by simp only [L.rd] at h; rw [h.2]; simp
  | .bool, _, _, _, _, _, _, h => by simp only [L.rd] at h; rw [h.2]; simp
  | .str, _, _, _, _, _, _, h => by simp only [L.rd] at h; rw [h.2]; simp
  | .sl _ e, d, w, fz, v, x, o, h => by
    rw [L.rd_sl] at h
    exact SlRd.dep h fun g y oi hr => Ls.rd_dep e hr
theorem Ls.rd_dep : ∀ (ls : Ls) {d : Nat} {w : World} {fz : Nat → Prop} {g : Nat → Option Value} {x : ls.D} {o : List Nat}, ls.rd d w fz g x o → ∀ b ∈ o, b < w.heap.size
  | .nil, _, _, _, _, _, _, h => by simp only [Ls.rd] at h; rw [h]; simp
  | .one l, d, w, fz, g, x, o, h => by
    simp only [Ls.rd] at h
    obtain ⟨v, hg, h⟩ := h
    exact L.rd_dep l h
  | .cons l ls, d, w, fz, g, x, o, h => by
    simp only [Ls.rd] at h
    obtain ⟨v, o1, o2, hg, h1, h2, rfl⟩ := h
    intro b hb
    rcases List.mem_append.1 hb with hb | hb
    · exact L.rd_dep l h1 b hb
    · exact Ls.rd_dep ls h2 b hb
end

/-- A slice value reads as a list, its kind typed as it is. -/
def RowRd (e : Ls) (d : Nat) (w : World) (fz : Nat → Prop) (v : Value) (xs : List e.D) (o : List Nat) : Prop :=
  SlRd e.n (fun g y o => e.rd (dec d) w fz g y o) (decide (0 < d)) w fz v xs o
theorem L.rd_row {t : TypeId} {e : Ls} {d : Nat} {w : World} {fz : Nat → Prop} {v : Value} {x : (L.sl t e).D} {o : List Nat} :
    (L.sl t e).rd d w fz v x o ↔ RowRd e d w fz v x o := Iff.rfl
section
variable {e : Ls} {d : Nat} {w w' : World} {fz fz' : Nat → Prop} {v : Value} {xs : List e.D} {o : List Nat}
theorem RowRd.frame (h : RowRd e d w fz v xs o) (hf : ∀ b, b ∈ o ∨ fz b → w'.heap[b]? = w.heap[b]?) (hz : ∀ b, fz b → fz' b) : RowRd e d w' fz' v xs o := L.rd_frame (.sl 0 e) h hf hz
theorem RowRd.freeze (h : RowRd e d w fz v xs o) (hz : ∀ b, fz b ∨ b ∈ o → fz' b) : RowRd e 0 w fz' v xs [] := L.rd_freeze (.sl 0 e) h hz
theorem RowRd.zero (h : RowRd e 0 w fz v xs o) : o = [] := L.rd_zero (.sl 0 e) h
theorem RowRd.dep (h : RowRd e d w fz v xs o) : ∀ b ∈ o, b < w.heap.size := L.rd_dep (.sl 0 e) h
end

end Go.Ev

namespace Go.Ev
set_option linter.unusedVariables false

/-- A place below a root: leaf 'j' of root 'r', then, step by step, an element and a leaf of it. It holds as long as the leaf's version is 'ver' (below more than one step: and its generation 'gen'). -/
structure Loc where
  r : Nat
  j : Nat
  ver : Nat
  gen : Nat
  p : List (Nat × Nat)

inductive LA where
  | bad
  | undef
  | nils
  | nilp
  | sc (l : L) (x : l.D)
  | ref (c : Loc)
  | win (c : Loc) (lo hi : Nat)
  | ptr (r j ver : Nat)
  | eptr (c : Loc)
  | fptr (e : Ls) (x : e.D) (off : Nat)
  | fn (f : FuncId)
  /-- A row as an interface's value; a function value over variables, with those that lie behind function values among them. -/
  | ifc (t : TypeId) (c : Loc)
  | clo (g : FuncId) (ps qs : List (Nat × Nat))
  | arr (ver gen : Nat) (t : TypeId) (e : Ls) (xs : List e.D) (d : Nat)

inductive AV where
  | v (agg : Bool) (ls : List LA)
  | tup (vs : List (Bool × List LA))
  /-- The address of a copy that nobody writes: what lies there from it on. -/
  | bx (ls : List LA)

structure Root where
  box : Bool
  ver : Nat
  ls : List LA

structure St where
  sl : List AV
  ro : List Root
  ctr : Nat

def nth {α : Type} (d : α) : List α → Nat → α
  | [], _ => d
  | x :: _, 0 => x
  | _ :: xs, n + 1 => nth d xs n
def upd {α : Type} : List α → Nat → α → List α
  | [], _, _ => []
  | _ :: xs, 0, y => y :: xs
  | x :: xs, n + 1, y => x :: upd xs n y
def isNil {α : Type} : List α → Bool
  | [] => true
  | _ :: _ => false
def has (ms : List Nat) (t : Nat) : Bool := match ms with
  | [] => false
  | m :: ms => m == t || has ms t

def dead : Root := ⟨false, 0, []⟩
def St.slot (s : St) (t : Nat) : AV := nth (.v false [.bad]) s.sl t
def St.root (s : St) (r : Nat) : Root := nth dead s.ro r
def St.leaf (s : St) (r j : Nat) : LA := nth .bad (s.root r).ls j

/-- What a step writes. -/
inductive Wr where
  | slot (t : Nat) (a : AV)
  | root (r : Nat) (x : Root)
  | leaf (r j : Nat) (a : LA)
def St.app1 (s : St) : Wr → St
  | .slot t a => { s with sl := upd s.sl t a }
  | .root r x => { s with ro := upd s.ro r x }
  | .leaf r j a => { s with ro := upd s.ro r { s.root r with ls := upd (s.root r).ls j a } }
def St.app (s : St) : List Wr → St
  | [] => s
  | w :: ws => (s.app1 w).app ws

/-- What a step comes to: an answer, behind questions that only the data decide. -/
inductive Step (β : Type) where
  | none
  | go (s : β)
  | bnd {α : Type} (m : Option α) (f : α → Step β)
  | iff (b : Bool) (x y : Step β)
def Step.run {β R : Type} (k : β → Option R) : Step β → Option R
  | .none => Option.none
  | .go s => k s
  | .bnd m f => m.bind fun x => (f x).run k
  | .iff b x y => bif b then x.run k else y.run k
def Step.leads {β : Type} (t : β) : Step β → Prop
  | .none => False
  | .go s => s = t
  | .bnd m f => ∃ x, m = some x ∧ (f x).leads t
  | .iff b x y => match b with
    | true => x.leads t
    | false => y.leads t

theorem Step.run_leads {β R : Type} {k : β → Option R} {r : R} : ∀ (s : Step β), s.run k = some r → ∃ t, s.leads t ∧ k t = some r
  | .none, h => by simp [Step.run] at h
  | .go s, h => ⟨s, rfl, h⟩
  | .bnd m f, h => by
    simp only [Step.run] at h
    cases m with
    | none => simp at h
    | some x => obtain ⟨t, a, b⟩ := Step.run_leads (f x) h; exact ⟨t, ⟨x, rfl, a⟩, b⟩
  | .iff b x y, h => by
    simp only [Step.run] at h
    cases b with
    | true => obtain ⟨t, a, b⟩ := Step.run_leads x h; exact ⟨t, a, b⟩
    | false => obtain ⟨t, a, b⟩ := Step.run_leads y h; exact ⟨t, a, b⟩

variable {β : Type}

structure Ty where
  agg : Bool
  ls : Ls
  fs : List (Nat × TypeId)
  /-- Fields of one plain cell each, in order, that are compared one by one. -/
  eq : Bool
def nth? {α : Type} : List α → Nat → Option α
  | [], _ => none
  | x :: _, 0 => some x
  | _ :: xs, n + 1 => nth? xs n

def mkLs : List L → Ls
  | [] => .nil
  | [l] => .one l
  | l :: m :: r => .cons l (mkLs (m :: r))

/-- How a parameter comes in: by value; as the address of a variable that is written; as rows whose elements are written; as a function that is known. -/
inductive PM where
  | val (agg : Bool) (ls : List L)
  | box (ls : List (L × Nat))
  | row (agg : Bool) (ls : List (L × Nat))
  | fn (f : FuncId)
def PM.ins : PM → List L
  | .val _ ls => ls
  | .box ls => ls.map (·.1)
  | .row _ ls => ls.map (·.1)
  | .fn _ => []
def PM.outs : PM → List (L × Nat)
  | .val _ _ => []
  | .box ls => ls
  | .row _ ls => ls
  | .fn _ => []

structure Sm where
  ps : List PM
  rs : List (Bool × List (L × Nat))
def Sm.ins (s : Sm) : Ls := mkLs (s.ps.flatMap PM.ins)
def Sm.outk (s : Sm) : List (L × Nat) := s.rs.flatMap (·.2) ++ s.ps.flatMap PM.outs
def Sm.outs (s : Sm) : Ls := mkLs (s.outk.map (·.1))

/-- Does it hand back the address of a variable of its own? So it is told: one result, 'no composite', of more leaves than one. -/
def Sm.mk? (s : Sm) : Bool := match s.rs with
  | [(false, _ :: _ :: _)] => true
  | _ => false
def PM.isVal : PM → Bool
  | .val _ _ => true
  | _ => false
/-- By value alone; nothing of what is handed back is owned. -/
def Sm.plain (s : Sm) : Bool := s.ps.all PM.isVal && s.outk.all fun p => p.2 == 0

structure SmF where
  s : Sm
  f : s.ins.D → Option s.outs.D

/-- How a variable that a comparison looks at lies: plain leaves; a function value over such variables; the variable of the row that is sorted. -/
inductive Cap where
  | box (ls : List L)
  | clo (g : FuncId) (bs : List (List L))
  | row
def Cap.kinds : Cap → List L
  | .box ls => ls
  | .clo _ bs => bs.flatten
  | .row => []
/-- A comparison that a row of whole numbers is sorted by. -/
structure Srt where
  t : TypeId
  caps : List Cap
  lt : (mkLs (caps.flatMap Cap.kinds)).D → Int → Int → Option Bool
/-- What is known of other functions; types of function values. -/
structure Env where
  fn : FuncId → Option SmF
  srt : FuncId → FuncId → Option Srt
  fty : TypeId → Bool
structure Cx where
  ty : TypeId → Option Ty
  env : Env
  lock : Nat → Bool
  slk : Nat → Bool
  pin : Nat → Bool

/-! ### reading and writing below a root -/

def leafSl : (e : Ls) → Nat → e.D → ((t : TypeId) → (f : Ls) → List f.D → Step β) → Step β
  | .nil, _, _, _ => .none
  | .one l, 0, x, k => match l, x with
    | .sl t f, xs => k t f xs
    | _, _ => .none
  | .one _, _ + 1, _, _ => .none
  | .cons l ls, 0, x, k => match l, x with
    | .sl t f, xs => k t f xs.1
    | _, _ => .none
  | .cons _ ls, j + 1, x, k => leafSl ls j x.2 k

def goP (k : (t : TypeId) → (e : Ls) → List e.D → Nat → Step β) : (p : List (Nat × Nat)) → (t : TypeId) → (e : Ls) → List e.D → Nat → Step β
  | [], t, e, xs, d => k t e xs d
  | (i, j) :: p, _, e, xs, d => .bnd (xs[i]?) fun x => leafSl e j x fun t f ys => goP k p t f ys (dec d)

/-- What lies at a row's place. -/
def St.content (s : St) (c : Loc) (k : (t : TypeId) → (e : Ls) → List e.D → Nat → Step β) : Step β := match s.leaf c.r c.j with
  | .arr ver gen t e xs d => if ver == c.ver && (isNil c.p || gen == c.gen) then goP k c.p t e xs d else .none
  | _ => .none

def getI {α : Type} (xs : List α) (i : Int) : Option α := if 0 ≤ i then xs[i.toNat]? else none
def inb {α : Type} (xs : List α) (i : Int) : Bool := decide (0 ≤ i) && decide (i < xs.length)
def sub {α : Type} (xs : List α) (lo hi : Nat) : List α := (xs.drop lo).take (hi - lo)

/-- A leaf's plain datum, as of kind 'l'. -/
def St.datum (s : St) (l : L) (a : LA) (k : l.D → Step β) : Step β := match a with
  | .sc m x => match L.cast l (a := m) x with
    | some y => k y
    | none => .none
  | .nils => match l, k with
    | .sl _ _, k => k []
    | _, _ => .none
  | .ref c => s.content c fun t e xs _ => match L.cast l (a := .sl t e) xs with
    | some y => k y
    | none => .none
  | .win c lo hi => s.content c fun t e xs _ => match L.cast l (a := .sl t e) (sub xs lo hi) with
    | some y => k y
    | none => .none
  | _ => .none

def St.data (s : St) : List L → List LA → (List Lv → Step β) → Step β
  | [], [], k => k []
  | l :: ls, a :: as, k => s.datum l a fun x => s.data ls as fun vs => k (⟨l, x⟩ :: vs)
  | _, _, _ => .none

def setRange : (e : Ls) → Nat → List Lv → Option (e.D → e.D)
  | .nil => fun _ _ => none
  | .one l => fun off vs => match off, vs with
    | 0, [v] => match L.cast l v.x with
      | some y => some fun _ => y
      | none => none
    | _, _ => none
  | .cons l ls => fun off vs => match off with
    | 0 => match vs with
      | [] => none
      | [v] => match L.cast l v.x with
        | some y => some fun x => (y, x.2)
        | none => none
      | v :: u :: vs => match L.cast l v.x, setRange ls 0 (u :: vs) with
        | some y, some f => some fun x => (y, f x.2)
        | _, _ => none
    | off + 1 => match setRange ls off vs with
      | some f => some fun x => (x.1, f x.2)
      | none => none

def modSl : (e : Ls) → Nat → ((t : TypeId) → (f : Ls) → Option (List f.D → List f.D)) → Option (e.D → e.D)
  | .nil => fun _ _ => none
  | .one l => fun j g => match j with
    | 0 => match l with
      | .sl t f => g t f
      | _ => none
    | _ + 1 => none
  | .cons l ls => fun j g => match j with
    | 0 => match l with
      | .sl t f => match g t f with
        | some h => some fun x => (h x.1, x.2)
        | none => none
      | _ => none
    | j + 1 => match modSl ls j g with
      | some h => some fun x => (x.1, h x.2)
      | none => none

/-- A row's content where leaves from a place on are turned. -/
def modP (vs : List Lv) : (p : List (Nat × Nat)) → (e : Ls) → Option (List e.D → List e.D)
  | [], _ => none
  | (i, j) :: p, e => match p with
    | [] => match (if j == 0 && vs.length == e.n then pack e vs else none) with
      | some y => some fun xs => upd xs i y
      | none => match setRange e j vs with
        | some f => some fun xs => xs.modify i f
        | none => none
    | _ :: _ => match modSl e j fun _ f => modP vs p f with
      | some h => some fun xs => xs.modify i h
      | none => none

/-- A row's content where a row below it is put anew. -/
def modAt (g : (t : TypeId) → (e : Ls) → Option (List e.D → List e.D)) : (p : List (Nat × Nat)) → (t : TypeId) → (e : Ls) → Option (List e.D → List e.D)
  | [], t, e => g t e
  | (i, j) :: p, _, e => match modSl e j fun t f => modAt g p t f with
    | some h => some fun xs => xs.modify i h
    | none => none
def putL (x : Lv) (t : TypeId) (e : Ls) : Option (List e.D → List e.D) := match L.cast (a := x.l) (.sl t e) x.x with
  | some y => some fun _ => y
  | none => none

/-! ### operands -/

def ofConst : Value → LA
  | .int k n => .sc (.int k) (show Int from n)
  | .bool b => .sc .bool (show Bool from b)
  | .string s => .sc .str (show List UInt8 from s.data.toList)
  | .slice none 0 0 => .nils
  | .pointer none => .nilp
  | _ => .bad

def St.opd (s : St) : Operand → AV
  | .tmp t => s.slot t
  | .const (.agg cs) => .v true (cs.toList.map ofConst)
  | .const v => .v false [ofConst v]
  | .func f => .v false [.fn f]
  | .global _ => .v false [.bad]
def AV.one? : AV → LA
  | .v false [a] => a
  | _ => .bad
def St.opd1 (s : St) (x : Operand) : LA := (s.opd x).one?

def isSl : L → Bool
  | .sl _ _ => true
  | _ => false
def isFlat : Ls → Bool
  | .nil => true
  | .one l => !isSl l
  | .cons l ls => !isSl l && isFlat ls

/-! ### zero values -/

def zeroL (v : Nat) : L → LA
  | .int k => .sc (.int k) (show Int from 0)
  | .bool => .sc .bool (show Bool from false)
  | .str => .sc .str (show List UInt8 from [])
  | .sl t e => .arr v v t e [] 2
def zeroD : (l : L) → l.D
  | .int _ => (0 : Int)
  | .bool => false
  | .str => ([] : List UInt8)
  | .sl _ e => ([] : List e.D)
def zeroDs : (ls : Ls) → ls.D
  | .nil => ()
  | .one l => zeroD l
  | .cons l ls => (zeroD l, zeroDs ls)

/-! ### what is owned is moved -/

/-- A leaf that is to lie in a variable: what it refers to is taken out of its root, if it's a whole row of one. Second: what went. -/
def St.take (cx : Cx) (s : St) (v : Nat) (a : LA) (l : L) (k : LA → List (Nat × Nat) → Step β) : Step β := match a with
  | .sc m x => if L.eq? m l then k (.sc m x) [] else .none
  | .nils => match l with
    | .sl t e => k (.arr v v t e [] 2) []
    | _ => .none
  | .ref c => match s.leaf c.r c.j with
    | .arr ver _ t e xs d => if ver == c.ver && isNil c.p && !cx.pin c.r && L.eq? l (.sl t e) then k (.arr v v t e xs d) [(c.r, c.j)] else match d with
      | 0 => s.content c fun t e ys _ => if L.eq? l (.sl t e) then k (.sc (.sl t e) ys) [] else .none
      | _ + 1 => .none
    | _ => .none
  | .win c lo hi => match s.leaf c.r c.j with
    | .arr ver _ t e xs d => if ver == c.ver && isNil c.p && !cx.pin c.r && L.eq? l (.sl t e) then k (.arr v v t e (sub xs lo hi) d) [(c.r, c.j)] else .none
    | _ => .none
  | .ptr r j ver => if (s.root r).box && (s.root r).ver == ver then k (.ptr r j ver) [] else .none
  | .fn f => k (.fn f) []
  | _ => .none
def St.takes (cx : Cx) (s : St) (v : Nat) : List L → List LA → (List LA → List (Nat × Nat) → Step β) → Step β
  | [], [], k => k [] []
  | l :: ls, a :: as, k => s.take cx v a l fun b us => s.takes cx v ls as fun bs vs => if us.all fun u => !vs.contains u then k (b :: bs) (us ++ vs) else .none
  | _, _, _ => .none
def gone (us : List (Nat × Nat)) : List Wr := us.map fun u => .leaf u.1 u.2 .bad

end Go.Ev

namespace Go.Ev
set_option linter.unusedVariables false
variable {β : Type}

def one (a : LA) : AV := .v false [a]
def scI (k : IntKind) (n : Int) : AV := one (.sc (.int k) (show Int from n))
def scB (b : Bool) : AV := one (.sc .bool (show Bool from b))
def scS (s : List UInt8) : AV := one (.sc .str (show List UInt8 from s))

/-- May the operand be 0? -/
def isZero : Operand → Bool
  | .const (.int _ n) => n == 0
  | _ => true
/-- Bit by bit; shifts. -/
def andI (k : IntKind) (x y : Int) : Int := k.wrap (BitVec.ofInt k.bits x &&& BitVec.ofInt k.bits y).toNat
def orI (k : IntKind) (x y : Int) : Int := k.wrap (BitVec.ofInt k.bits x ||| BitVec.ofInt k.bits y).toNat
def xorI (k : IntKind) (x y : Int) : Int := k.wrap (BitVec.ofInt k.bits x ^^^ BitVec.ofInt k.bits y).toNat
def shlI (k : IntKind) (x y : Int) : Int := k.wrap (x * 2 ^ (min y.toNat k.bits))
def shrI (k : IntKind) (x y : Int) : Int := x.fdiv (2 ^ (min y.toNat k.bits))
def binI (op : BinOp) (y : Operand) (i : IntKind) (a b : Int) (k : AV → Step β) : Step β := match op with
  | .quo => if isZero y then .iff (b == 0) .none (k (scI i (i.wrap (Int.tdiv a b)))) else k (scI i (i.wrap (Int.tdiv a b)))
  | .rem => if isZero y then .iff (b == 0) .none (k (scI i (Int.tmod a b))) else k (scI i (Int.tmod a b))
  | .add => k (scI i (i.wrap (a + b)))
  | .sub => k (scI i (i.wrap (a - b)))
  | .mul => k (scI i (i.wrap (a * b)))
  | .eql => k (scB (a == b))
  | .neq => k (scB (a != b))
  | .lss => k (scB (decide (a < b)))
  | .leq => k (scB (decide (a ≤ b)))
  | .gtr => k (scB (decide (a > b)))
  | .geq => k (scB (decide (a ≥ b)))
  | .and => k (scI i (andI i a b))
  | .or => k (scI i (orI i a b))
  | .xor => k (scI i (xorI i a b))
  | .shl => .iff (decide (0 ≤ b)) (k (scI i (shlI i a b))) .none
  | .shr => .iff (decide (0 ≤ b)) (k (scI i (shrI i a b))) .none
  | _ => .none
def binB (op : BinOp) (a b : Bool) (k : AV → Step β) : Step β := match op with
  | .eql => k (scB (a == b))
  | .neq => k (scB (a != b))
  | _ => .none
def binS (op : BinOp) (a b : List UInt8) (k : AV → Step β) : Step β := match op with
  | .eql => k (scB (a == b))
  | .neq => k (scB (!(a == b)))
  | .add => .iff (decide (a.length + b.length ≤ 4611686018427387904)) (k (scS (a ++ b))) .none
  | _ => .none
def tyIs (cx : Cx) (t : TypeId) (l : L) : Bool := match cx.ty t with
  | some ty => !ty.agg && Ls.eq? ty.ls (.one l)
  | none => false
def isRow (cx : Cx) (t : TypeId) (e : Ls) : Bool := match cx.ty t with
  | some ty => !ty.agg && match ty.ls with
    | .one (.sl _ f) => Ls.eq? f e
    | _ => false
  | none => false
def isShift : BinOp → Bool
  | .shl => true
  | .shr => true
  | _ => false
def binop (isb : Bool) (op : BinOp) (y : Operand) (a b : LA) (k : AV → Step β) : Step β := match a, b with
  | .sc l a, .sc m b => match l, a, m, b with
    | .int i, a, .int j, b => if IntKind.code i == IntKind.code j || isShift op then binI op y i a b k else .none
    | .bool, a, .bool, b => if isb then binB op a b k else .none
    | .str, a, .str, b => binS op a b k
    | _, _, _, _ => .none
  | _, _ => .none
/-- Two structs, leaf by leaf. -/
def scEq (l : L) (a b : LA) : Option Bool := match l with
  | .int k => match a, b with
    | .sc (.int i) x, .sc (.int j) y => if IntKind.code i == IntKind.code k && IntKind.code j == IntKind.code k then some ((show Int from x) == (show Int from y)) else none
    | _, _ => none
  | .bool => match a, b with
    | .sc .bool x, .sc .bool y => some ((show Bool from x) == (show Bool from y))
    | _, _ => none
  | .str => match a, b with
    | .sc .str x, .sc .str y => some ((show List UInt8 from x) == (show List UInt8 from y))
    | _, _ => none
  | .sl _ _ => none
def aggEq : List L → List LA → List LA → Option Bool
  | [], [], [] => some true
  | l :: ls, a :: as, b :: bs => match scEq l a b, aggEq ls as bs with
    | some p, some q => some (p && q)
    | _, _ => none
  | _, _, _ => none
def aggOp (cx : Cx) (op : BinOp) (tx : TypeId) (as bs : List LA) (k : AV → Step β) : Step β := match cx.ty tx with
  | some ty => if ty.eq then match aggEq ty.ls.kinds as bs with
      | some q => match op with
        | .eql => k (scB q)
        | .neq => k (scB (!q))
        | _ => .none
      | none => .none
    else .none
  | none => .none
def negI (a : Int) : Int := 0 - a
def minI (a b : Int) : Int := bif decide (b < a) then b else a
def maxI (a b : Int) : Int := bif decide (b > a) then b else a

/-- A variable's leaf, looked at. -/
def seen (r j : Nat) (a : LA) : LA := match a with
  | .arr ver gen _ _ _ _ => .ref ⟨r, j, ver, gen, []⟩
  | b => b
def seenFrom (r : Nat) : Nat → List LA → List LA
  | _, [] => []
  | j, a :: as => seen r j a :: seenFrom r (j + 1) as
/-- The same, where what is looked at only is told as it is. -/
def seenZ (r j : Nat) (a : LA) : LA := match a with
  | .arr ver gen t e xs d => match d with
    | 0 => .sc (.sl t e) xs
    | _ + 1 => .ref ⟨r, j, ver, gen, []⟩
  | b => b
def seenFromZ (r : Nat) : Nat → List LA → List LA
  | _, [] => []
  | j, a :: as => seenZ r j a :: seenFromZ r (j + 1) as
def elemLeaves (c : Loc) (i : Nat) (d : Nat) : Nat → List Lv → List LA
  | _, [] => []
  | off, v :: vs => (if isSl v.l && decide (0 < d) then LA.ref { c with p := c.p ++ [(i, off)] } else .sc v.l v.x) :: elemLeaves c i d (off + 1) vs

def splitLast : List (Nat × Nat) → Option (List (Nat × Nat) × Nat × Nat)
  | [] => none
  | [x] => some ([], x.1, x.2)
  | x :: y :: r => match splitLast (y :: r) with
    | some (q, i, off) => some (x :: q, i, off)
    | none => none

/-- The state of what a row holds. -/
def St.genAt (s : St) (r j : Nat) : Nat := match s.leaf r j with
  | .arr _ gen _ _ _ _ => gen
  | _ => 0
/-- The leaves at the place that an operand's address tells: 'n' from it on. -/
def St.loads (s : St) (a : LA) (n : Nat) (k : List LA → Step β) : Step β := match a with
  | .ptr r j ver => if (s.root r).box && (s.root r).ver == ver && decide (j + n ≤ (s.root r).ls.length) then k (seenFromZ r j (((s.root r).ls.drop j).take n)) else .none
  | .fptr e x off => k ((((unpack e x).drop off).take n).map fun v => .sc v.l v.x)
  | .eptr c => match splitLast c.p with
    | none => .none
    | some (q, i, off) => s.content { c with p := q } fun t e xs d => .bnd (xs[i]?) fun x => k (elemLeaves { c with p := q, gen := s.genAt c.r c.j } i (dec d) off (((unpack e x).drop off).take n))
  | _ => .none

def St.loadsV (s : St) (a : AV) (n : Nat) (k : List LA → Step β) : Step β := match a with
  | .bx as => if decide (n ≤ as.length) then k (as.take n) else .none
  | a => s.loads a.one? n k
/-- Is a parameter's row among what is copied? -/
def lent (s : St) (as : List LA) : Bool := as.any fun a => match a with
  | .ref c => c.ver == 1 && !(s.root c.r).box
  | _ => false

/-- Is it an address that holds? -/
def St.alive (s : St) : LA → Bool
  | .ptr r j ver => (s.root r).box && (s.root r).ver == ver
  | .eptr c => match s.leaf c.r c.j with
    | .arr ver gen _ _ _ _ => ver == c.ver && (decide (c.p.length ≤ 1) || gen == c.gen)
    | _ => false
  | .fptr _ _ _ => true
  | _ => false

/-- A row's content is put anew, from a place on. -/
def St.setAt (s : St) (g : Nat) (c : Loc) (h : (e : Ls) → Option (List e.D → List e.D)) : Option (List Wr) := match s.leaf c.r c.j with
  | .arr ver gen t e xs d => if ver == c.ver && (isNil c.p || gen == c.gen) then match h e with
      | some f => some [.leaf c.r c.j (.arr ver g t e (f xs) d)]
      | none => none
    else none
  | _ => none
/-- The same where the place is one step down: then the step alone need hold. -/
def St.setIn (s : St) (g : Nat) (c : Loc) (vs : List Lv) : Option (List Wr) := match s.leaf c.r c.j with
  | .arr ver gen t e xs d => if ver == c.ver && (decide (c.p.length ≤ 1) || gen == c.gen) && decide (0 < d) && (decide (c.p.length ≤ 1) || d == 2) then match modP vs c.p e with
      | some f => some [.leaf c.r c.j (.arr ver g t e (f xs) d)]
      | none => none
    else none
  | _ => none

def leafWrs (r : Nat) : Nat → List LA → List Wr
  | _, [] => []
  | j, a :: as => .leaf r j a :: leafWrs r (j + 1) as

/-- A row that is owned alone: what lies below is looked at only. -/
def St.half (s : St) (r j : Nat) : Bool := match s.leaf r j with
  | .arr _ _ _ _ _ 1 => true
  | _ => false
def isSc : LA → Bool
  | .sc _ _ => true
  | _ => false
def St.storeHalf (s : St) (v : Nat) (c : Loc) (ls : List L) (as : List LA) (k : List Wr → Step β) : Step β := match s.leaf c.r c.j with
  | .arr ver _ t e xs 1 => if ver == c.ver && as.all isSc then s.data ls as fun vs => match modP vs c.p e with
      | some f => k [.leaf c.r c.j (.arr ver v t e (f xs) 1)]
      | none => .none
    else .none
  | _ => .none
def St.stores (cx : Cx) (s : St) (v : Nat) (a : LA) (ls : List L) (as : List LA) (k : List Wr → Step β) : Step β := match a with
  | .ptr r j ver => if (s.root r).box && (s.root r).ver == ver && decide (j + ls.length ≤ (s.root r).ls.length) then s.takes cx v ls as fun bs us => k (gone us ++ leafWrs r j bs) else .none
  | .eptr c => if ls.all fun l => !isSl l then s.data ls as fun vs => match s.setIn v c vs with
      | some ws => k ws
      | none => .none
    else match c.p with
      | [_] => if s.half c.r c.j then s.storeHalf v c ls as k else s.takes cx v ls as fun bs us => if us.all fun u => !(u.1 == c.r && u.2 == c.j) then match bs.mapM fun b => match b with
            | .arr _ _ t e xs 2 => some (⟨.sl t e, xs⟩ : Lv)
            | .sc l x => if isSl l then none else some ⟨l, x⟩
            | _ => none with
          | some vs => match s.leaf c.r c.j with
            | .arr ver _ t e xs 2 => if ver == c.ver then match modP vs c.p e with
                | some f => k (gone us ++ [.leaf c.r c.j (.arr ver v t e (f xs) 2)])
                | none => .none
              else .none
            | _ => .none
          | none => .none
        else .none
      | _ => .none
  | _ => .none

/-- Rows that were handed to a call may be looked at only, from now on. -/
def freezeL : LA → LA
  | .arr ver gen t e xs _ => .arr ver gen t e xs 0
  | a => a
def freezes (cx : Cx) (s : St) : List Nat → Option (List Wr)
  | [] => some []
  | r :: rs => if cx.pin r then none else match freezes cx s rs with
    | some ws => some (leafWrs r 0 ((s.root r).ls.map freezeL) ++ ws)
    | none => none

/-- Rows below rows that are to lie in a variable: their roots. -/
def nestR : List LA → List Nat
  | [] => []
  | .ref c :: as => if isNil c.p then nestR as else c.r :: nestR as
  | _ :: as => nestR as
def nestS (q : LA) (as : List LA) : List Nat := match q with
  | .ptr _ _ _ => nestR as
  | _ => []
/-- A store, behind what was frozen for it. -/
def storeD (cx : Cx) (v : Nat) (s : St) (dst : Option Tmp) (q : LA) (ls : List L) (as : List LA) (fs : List Wr) : Step (List Wr) := s.stores cx v q ls as fun ws => match dst with
  | none => .go (fs ++ ws)
  | some _ => .none

def lenS (a : LA) (k : Int → Step β) : Step β := match a with
  | .sc l x => match l, x with
    | .str, x => k (List.length (α := UInt8) x : Int)
    | _, _ => .none
  | _ => .none
def lenOf (s : St) (a : LA) (k : Int → Step β) : Step β := match a with
  | .sc l x => match l, x with
    | .sl _ e, x => k (List.length (α := e.D) x : Int)
    | _, _ => .none
  | .nils => k 0
  | .ref c => s.content c fun t e xs _ => k (xs.length : Int)
  | .win c lo hi => s.content c fun t e xs _ => k ((sub xs lo hi).length : Int)
  | _ => .none

def asInt (a : LA) (k : Int → Step β) : Step β := match a with
  | .sc l n => match l, n with
    | .int _, n => k n
    | _, _ => .none
  | _ => .none
def asIntO (s : St) (x : Option Operand) (d : Int) (k : Int → Step β) : Step β := match x with
  | none => k d
  | some x => asInt (s.opd1 x) k

/-- A row for a slot of its own. -/
def ownRow (d v : Nat) (t : TypeId) (e : Ls) (xs : List e.D) : List Wr := [.root d ⟨false, v, [.arr v v t e xs 2]⟩, .slot d (one (.ref ⟨d, 0, v, v, []⟩))]
def ownBox (d v : Nat) (ls : List LA) : List Wr := [.root d ⟨true, v, ls⟩, .slot d (one (.ptr d 0 v))]

/-- The elements that are appended, and what went. -/
def moreOf (cx : Cx) (s : St) (a : LA) (t : TypeId) (e : Ls) (k : List e.D → List (Nat × Nat) → Step β) : Step β :=
  if isFlat e then s.datum (.sl t e) a fun ys => k ys [] else match a with
    | .ref c => match s.leaf c.r c.j with
      | .arr ver _ t' e' xs d => if ver == c.ver && isNil c.p && !cx.pin c.r && d == 2 then match L.cast (a := .sl t' e') (.sl t e) xs with
          | some ys => k ys [(c.r, c.j)]
          | none => .none
        else .none
      | _ => .none
    | _ => .none

def maxRow : Nat := 68719476736

def appendTo (cx : Cx) (s : St) (d v : Nat) (t : TypeId) (e : Ls) (a b : LA) (k : List Wr → Step β) : Step β := match a with
  | .nils => moreOf cx s b t e fun ys us => .iff (decide (ys.length ≤ maxRow)) (k (gone us ++ ownRow d v t e ys)) .none
  | .ref c => match s.leaf c.r c.j with
    | .arr ver _ t' e' xs dd => if ver == c.ver && isNil c.p && !cx.pin c.r && dd == 2 then match L.cast (a := .sl t' e') (.sl t e) xs with
        | some xs => moreOf cx s b t e fun ys us => if us.contains (c.r, c.j) then .none else .iff (decide (List.length (α := e.D) xs + ys.length ≤ maxRow)) (k (gone ((c.r, c.j) :: us) ++ ownRow d v t e (List.append (α := e.D) xs ys))) .none
        | none => .none
      else .none
    | _ => .none
  | .win c lo hi => match s.leaf c.r c.j with
    | .arr ver _ t' e' xs dd => if ver == c.ver && isNil c.p && !cx.pin c.r && dd == 2 && isFlat e then match L.cast (a := .sl t' e') (.sl t e) xs with
        | some xs => moreOf cx s b t e fun ys us => if us.contains (c.r, c.j) then .none else .iff (decide ((sub (α := e.D) xs lo hi).length + ys.length ≤ maxRow)) (k (gone ((c.r, c.j) :: us) ++ ownRow d v t e (sub (α := e.D) xs lo hi ++ ys))) .none
        | none => .none
      else .none
    | _ => .none
  | _ => .none

/-- A row below a row grows. -/
def appendNest (cx : Cx) (s : St) (d v : Nat) (t : TypeId) (e : Ls) (c : Loc) (b : LA) (k : List Wr → Step β) : Step β := match s.leaf c.r c.j with
  | .arr ver gen t0 e0 xs 2 => if ver == c.ver && gen == c.gen && !cx.pin c.r && isFlat e then
      s.content c fun t' e' ys0 _ => match L.cast (a := .sl t' e') (.sl t e) ys0 with
        | some ys0 => s.datum (.sl t e) b fun ys => .iff (decide (List.length (α := e.D) ys0 + List.length (α := e.D) ys ≤ maxRow)) (k [.leaf c.r c.j (.arr ver v t0 e0 xs 1), .slot d (one (.sc (.sl t e) (List.append (α := e.D) ys0 ys)))]) .none
        | none => .none
    else .none
  | _ => .none
def nested (a : LA) : Option Loc := match a with
  | .ref c => match c.p with
    | [_] => some c
    | _ => none
  | _ => none
/-- A row that is owned alone. -/
def halfOf (s : St) (a : LA) : Option Loc := match a with
  | .ref c => match c.p with
    | [] => if s.half c.r c.j then some c else none
    | _ => none
  | _ => none
def appendHalf (cx : Cx) (s : St) (d v : Nat) (t : TypeId) (e : Ls) (c : Loc) (b : LA) (k : List Wr → Step β) : Step β := match s.leaf c.r c.j with
  | .arr ver _ t' e' xs 1 => if ver == c.ver && !cx.pin c.r && isSc b then match L.cast (a := .sl t' e') (.sl t e) xs with
      | some xs => s.datum (.sl t e) b fun ys => .iff (decide (List.length (α := e.D) xs + List.length (α := e.D) ys ≤ maxRow)) (k (gone [(c.r, c.j)] ++ [.root d ⟨false, v, [.arr v v t e (List.append (α := e.D) xs ys) 1]⟩, .slot d (one (.ref ⟨d, 0, v, v, []⟩))])) .none
      | none => .none
    else .none
  | _ => .none
def appendAny (cx : Cx) (s : St) (d v : Nat) (t : TypeId) (e : Ls) (a b : LA) (k : List Wr → Step β) : Step β := match nested a with
  | some c => appendNest cx s d v t e c b k
  | none => match halfOf s a with
    | some c => appendHalf cx s d v t e c b k
    | none => appendTo cx s d v t e a b k
def updAll : List LA → Nat → List LA → List LA
  | ls, _, [] => ls
  | ls, j, a :: as => updAll (upd ls j a) (j + 1) as

/-- Is it surely one cell? -/
def St.sure (s : St) : LA → Bool
  | .sc _ _ => true
  | .nils => true
  | .nilp => true
  | .fptr _ _ _ => true
  | .fn _ => true
  | .ptr r j ver => (s.root r).box && (s.root r).ver == ver
  | .ref c => match s.leaf c.r c.j with
    | .arr ver gen _ _ _ _ => ver == c.ver && (isNil c.p || gen == c.gen)
    | _ => false
  | .win c _ _ => match s.leaf c.r c.j with
    | .arr ver gen _ _ _ _ => ver == c.ver && (isNil c.p || gen == c.gen)
    | _ => false
  | .eptr c => s.alive (.eptr c)
  | _ => false
/-- Parts of a composite, laid over its zero leaves. -/
def fillL (cx : Cx) (s : St) (fs : List (Nat × TypeId)) : List (Nat × Operand) → List LA → Option (List LA)
  | [], ls => some ls
  | (i, x) :: ps, ls => match s.opd x, nth? fs i with
    | .v g as, some (off, t) => match cx.ty t with
      | some tf => if as.length == tf.ls.n && decide (off + tf.ls.n ≤ ls.length) && (g || as.all s.sure) then fillL cx s fs ps (updAll ls off as) else none
      | none => none
    | _, _ => none
def zeroOf (l : L) : LA := match l with
  | .sl _ _ => .nils
  | l => .sc l (zeroD l)

/-- The elements of a row that is told element by element; second: what went. -/
def elemsOf (cx : Cx) (s : St) (v : Nat) (e : Ls) : List (Nat × Operand) → Nat → (List e.D → List (Nat × Nat) → Step β) → Step β
  | [], _, k => k [] []
  | (i, x) :: ps, n, k => if i == n then match s.opd x with
      | .v _ as => (if isFlat e then s.data e.kinds as fun vs => match pack e vs with
          | some y => elemsOf cx s v e ps (n + 1) fun ys us => k (y :: ys) us
          | none => .none
        else s.takes cx v e.kinds as fun bs vs => match bs.mapM fun b => match b with
            | .arr _ _ t e xs 2 => some (⟨.sl t e, xs⟩ : Lv)
            | .sc l x => if isSl l then none else some ⟨l, x⟩
            | _ => none with
          | some ws => match pack e ws with
            | some y => elemsOf cx s v e ps (n + 1) fun ys us => if vs.all fun u => !us.contains u then k (y :: ys) (vs ++ us) else .none
            | none => .none
          | none => .none)
      | _ => .none
    else .none

/-- An element of a row below, that goes into a row of its own to be looked at only. -/
def nestFirst : List LA → Option Loc
  | [] => none
  | a :: as => match nested a with
    | some c => some c
    | none => nestFirst as
def lendOf (s : St) (e : Ls) (ps : List (Nat × Operand)) : Option (Operand × Loc) := if isFlat e then none else match ps with
  | [(0, x)] => match s.opd x with
    | .v _ as => match nestFirst as with
      | some c => some (x, c)
      | none => none
    | _ => none
  | _ => none
def lendable (c : Loc) (a : LA) : Bool := match a with
  | .ref c' => c'.r == c.r && c'.j == c.j && c'.ver == c.ver && c'.gen == c.gen && match c'.p with
    | [_] => true
    | _ => false
  | .sc _ _ => true
  | _ => false
def buildLend (cx : Cx) (s : St) (d v : Nat) (t : TypeId) (e : Ls) (x : Operand) (c : Loc) (k : List Wr → Step β) : Step β := match s.opd x with
  | .v _ as => match s.leaf c.r c.j with
    | .arr ver gen t0 e0 xs 2 => if ver == c.ver && gen == c.gen && !cx.pin c.r && as.all (lendable c) then s.data e.kinds as fun vs => match pack e vs with
        | some y => k [.leaf c.r c.j (.arr ver v t0 e0 xs 1), .slot d (one (.sc (.sl t e) (show List e.D from [y])))]
        | none => .none
      else .none
    | _ => .none
  | _ => .none
/-- Are a variable's rows as deep as they are to be? -/
def deepAs : List (L × Nat) → List LA → Bool
  | [], [] => true
  | (l, m) :: ls, a :: as => (match a with
    | .arr _ _ _ _ _ d => d == m
    | .sc _ _ => !isSl l || m == 0
    | _ => false) && deepAs ls as
  | _, _ => false
/-- What a call may write: a variable; a row's leaf. -/
abbrev Tg := Nat × Option Nat
def Tg.hits (a b : Tg) : Bool := a.1 == b.1 && match a.2, b.2 with
  | some i, some j => i == j
  | _, _ => true
def hitsAny (rs : List Tg) (a : Tg) : Bool := rs.any fun b => Tg.hits b a
/-- A leaf of a parameter: a row that is written in place, or a plain datum. -/
def rowArg (s : St) (l : L) (d : Nat) (a : LA) (k : Lv → List Tg → Step β) : Step β := match l with
  | .sl t e => match a with
    | .ref c => if (match s.leaf c.r c.j with
        | .arr _ _ _ _ _ dd => dd == d && (isNil c.p || d == 2)
        | _ => false) then s.datum (.sl t e) (.ref c) fun x => k ⟨.sl t e, x⟩ [(c.r, some c.j)] else .none
    | _ => .none
  | l => s.datum l a fun x => k ⟨l, x⟩ []
def rowArgs (s : St) : List (L × Nat) → List LA → (List Lv → List Tg → Step β) → Step β
  | [], [], k => k [] []
  | (l, d) :: ls, a :: as, k => rowArg s l d a fun x us => rowArgs s ls as fun y rs => if us.any (hitsAny rs) then .none else k (x :: y) (us ++ rs)
  | _, _, _ => .none
/-- What a call's parameters read; what it may write. -/
def argsOf (s : St) : List PM → List AV → (List Lv → List Tg → Step β) → Step β
  | [], [], k => k [] []
  | .val g ls :: ps, .v g' as :: vs, k => if g == g' then s.data ls as fun x => argsOf s ps vs fun y rs => k (x ++ y) rs else .none
  | .box ls :: ps, .v false [.ptr r 0 ver] :: vs, k =>
    if (s.root r).box && (s.root r).ver == ver && deepAs ls (s.root r).ls then
      s.data (ls.map (·.1)) (seenFrom r 0 (s.root r).ls) fun x => argsOf s ps vs fun y rs => if hitsAny rs (r, none) then .none else k (x ++ y) ((r, none) :: rs)
    else .none
  | .row g ls :: ps, .v g' as :: vs, k => if g == g' then rowArgs s ls as fun x us => argsOf s ps vs fun y rs => if us.any (hitsAny rs) then .none else k (x ++ y) (us ++ rs) else .none
  | .fn f :: ps, .v false [.fn g] :: vs, k => if f == g then argsOf s ps vs k else .none
  | _, _, _ => .none

def LA.roots : LA → List Nat
  | .ref c => [c.r]
  | .win c _ _ => [c.r]
  | .eptr c => [c.r]
  | .ptr r _ _ => [r]
  | .ifc _ c => [c.r]
  | .clo _ ps qs => ps.map (·.1) ++ qs.map (·.1)
  | _ => []
def AV.roots : AV → List Nat
  | .v _ as => as.flatMap LA.roots
  | .tup vs => vs.flatMap fun v => v.2.flatMap LA.roots
  | .bx as => as.flatMap LA.roots

/-- Rows that are looked at: those of parameters by value. -/
def valRoots : List PM → List AV → List Nat
  | .val _ _ :: ps, v :: vs => v.roots ++ valRoots ps vs
  | _ :: ps, _ :: vs => valRoots ps vs
  | _, _ => []

/-- Leaves of what a call hands back: rows of its own lie at root 'd'. -/
def backs (d v : Nat) : List (L × Nat) → List Lv → Nat → Option (List LA × List LA × List Lv)
  | [], vs, _ => some ([], [], vs)
  | (l, m) :: ls, vs, j => match vs with
    | [] => none
    | ⟨l', x⟩ :: vs => match backs d v ls vs (j + 1) with
        | some (as, rs, left) => match l', x with
          | .sl t e, xs => match m with
            | 0 => some (.sc (.sl t e) xs :: as, .bad :: rs, left)
            | m + 1 => some (.ref ⟨d, j, v, v, []⟩ :: as, .arr v v t e xs (m + 1) :: rs, left)
          | l', x => some (.sc l' x :: as, .bad :: rs, left)
        | none => none
def backAll (d v : Nat) : List (Bool × List (L × Nat)) → List Lv → Nat → Option (List (Bool × List LA) × List LA × List Lv)
  | [], vs, _ => some ([], [], vs)
  | (g, ls) :: rs, vs, j => match backs d v ls vs j with
    | some (as, own, vs) => match backAll d v rs vs (j + ls.length) with
      | some (bs, own', vs) => some ((g, as) :: bs, own ++ own', vs)
      | none => none
    | none => none

def newLeaf (v m : Nat) (x : Lv) : LA := match x with
  | ⟨.sl t e, xs⟩ => match m with
    | 0 => .sc (.sl t e) xs
    | m + 1 => .arr v v t e xs (m + 1)
  | ⟨l, x⟩ => .sc l x
def newLeaves (v : Nat) : List (L × Nat) → List Lv → List LA
  | (_, m) :: ls, x :: xs => newLeaf v m x :: newLeaves v ls xs
  | _, _ => []
def putRow (s : St) (v : Nat) : List (L × Nat) → List LA → List Lv → Option (List Wr)
  | [], [], _ => some []
  | (l, _) :: ls, a :: as, x :: vs => match putRow s v ls as vs with
    | some ws => match l with
      | .sl _ _ => match a with
        | .ref c => match s.leaf c.r c.j with
          | .arr ver _ t0 e0 xs0 d0 => match modAt (putL x) c.p t0 e0 with
            | some f => some (.leaf c.r c.j (.arr ver v t0 e0 (f xs0) d0) :: ws)
            | none => none
          | _ => none
        | _ => none
      | _ => some ws
    | none => none
  | _, _, _ => none
def putBacks (s : St) (v : Nat) : List PM → List AV → List Lv → Option (List Wr)
  | [], [], [] => some []
  | .val _ _ :: ps, _ :: as, vs => putBacks s v ps as vs
  | .fn _ :: ps, _ :: as, vs => putBacks s v ps as vs
  | .box ls :: ps, .v false [.ptr r 0 ver] :: as, vs => match putBacks s v ps as (vs.drop ls.length) with
    | some ws => some (leafWrs r 0 (newLeaves v ls vs) ++ ws)
    | none => none
  | .row _ ls :: ps, .v _ bs :: as, vs => match putRow s v ls bs vs, putBacks s v ps as (vs.drop ls.length) with
    | some us, some ws => some (us ++ ws)
    | _, _ => none
  | _, _, _ => none

def flatL : L → Bool
  | .sl _ e => isFlat e
  | _ => true
/-- Nothing of it is but looked at. -/
def fresh (ls : List (L × Nat)) : Bool := ls.all fun p => !isSl p.1 || p.2 == 2 || (p.2 == 1 && flatL p.1)

/-! ### sorting -/
def ltB (lt : Int → Int → Option Bool) (x y : Int) : Bool := match lt x y with
  | some b => b
  | none => false
/-- A row of at most twenty, in order, those that are alike as they stood. -/
def sortO (lt : Int → Int → Option Bool) (xs : List Int) : Option (List Int) :=
  bif decide (xs.length ≤ 1) then some xs else bif decide (xs.length ≤ 20) && xs.all fun x => xs.all fun y => (lt x y).isSome then some (Go.Sort.insertionSort (ltB lt) xs.toArray 0 xs.length).toList else none
def leafy : LA → Bool
  | .arr _ _ _ _ _ _ => true
  | .sc _ _ => true
  | _ => false
def boxData (s : St) (not : Nat) : List (List L) → List (Nat × Nat) → (List Lv → Step β) → Step β
  | [], [], k => k []
  | ls :: bs, (r, ver) :: ps, k => if (s.root r).box && (s.root r).ver == ver && r != not && (s.root r).ls.length == ls.length && (s.root r).ls.all leafy then
      s.data ls (seenFrom r 0 (s.root r).ls) fun x => boxData s not bs ps fun y => k (x ++ y)
    else .none
  | _, _, _ => .none
def capData (s : St) (c : Loc) (qs : List (Nat × Nat)) : List Cap → List (Nat × Nat) → (List Lv → Step β) → Step β
  | [], [], k => k []
  | .box ls :: cs, p :: ps, k => boxData s c.r [ls] [p] fun x => capData s c qs cs ps fun y => k (x ++ y)
  | .clo g bs :: cs, (r, ver) :: ps, k => match (s.root r).ls with
    | [.clo g' ps' _] => if (s.root r).box && (s.root r).ver == ver && r != c.r && g == g' && ps'.all fun q => qs.contains q then boxData s c.r bs ps' fun x => capData s c qs cs ps fun y => k (x ++ y) else .none
    | _ => .none
  | .row :: cs, (r, ver) :: ps, k => if (s.root r).box && (s.root r).ver == ver && r == c.r && c.j == 0 && (s.root r).ls.length == 1 then capData s c qs cs ps k else .none
  | _, _, _ => .none
def sortCall (cx : Cx) (s : St) (d v : Nat) (f : FuncId) (vs : List AV) (k : List Wr → Step β) : Step β := match vs with
  | [.v false [.ifc t c], .v false [.clo g ps qs]] => match cx.env.srt f g with
    | some σ => match s.leaf c.r c.j with
      | .arr ver _ t0 (.one (.int .i64)) xs 2 => if ver == c.ver && isNil c.p && !cx.pin c.r && t == σ.t then capData s c qs σ.caps ps fun x => match pack (mkLs (σ.caps.flatMap Cap.kinds)) x with
          | some y => .bnd (sortO (σ.lt y) (show List Int from xs)) fun zs => k [.leaf c.r c.j (.arr ver v t0 (.one (.int .i64)) (show List Int from zs) 2), .slot d (.tup [])]
          | none => .none
        else .none
      | _ => .none
    | none => .none
  | _ => .none
/-- Addresses of variables. -/
def ptrsOf (s : St) : List AV → Option (List (Nat × Nat))
  | [] => some []
  | .v false [.ptr r 0 ver] :: vs => if (s.root r).box && (s.root r).ver == ver then match ptrsOf s vs with
      | some ps => some ((r, ver) :: ps)
      | none => none
    else none
  | _ :: _ => none
def behind (s : St) : List (Nat × Nat) → List (Nat × Nat)
  | [] => []
  | (r, _) :: ps => (match (s.root r).ls with
    | [.clo _ qs _] => qs
    | _ => []) ++ behind s ps
def slotOf (bs : List (Bool × List LA)) : AV := match bs with
  | [(g, as)] => .v g as
  | bs => .tup bs
def call (cx : Cx) (s : St) (d v : Nat) (f : FuncId) (vs : List AV) (k : List Wr → Step β) : Step β := match cx.env.fn f with
  | none => sortCall cx s d v f vs k
  | some g => if g.s.mk? then argsOf s g.s.ps vs fun x _ => if g.s.plain && isNil (valRoots g.s.ps vs) then match pack g.s.ins x with
      | none => .none
      | some y => .bnd (g.f y) fun z => k (ownBox d v (newLeaves v g.s.outk (unpack g.s.outs z)))
    else .none
    else argsOf s g.s.ps vs fun x ws => if (valRoots g.s.ps vs).all fun r => !hitsAny ws (r, none) then match pack g.s.ins x with
      | none => .none
      | some y => .bnd (g.f y) fun z => match backAll d v g.s.rs (unpack g.s.outs z) 0 with
        | none => .none
        | some (bs, own, left) => match putBacks s v g.s.ps vs left, (if fresh g.s.outk then some [] else freezes cx s (valRoots g.s.ps vs)) with
          | some ws, some fs => k (fs ++ ws ++ [.root d ⟨false, v, own⟩, .slot d (slotOf bs)])
          | _, _ => .none
    else .none

/-- A function value is stored. -/
def storeF (cx : Cx) (s : St) (t : TypeId) (q : LA) (p : AV) (dst : Option Tmp) : Step (List Wr) := match p with
  | .v false [.clo g ps qs] => if cx.env.fty t then match q with
    | .ptr r j ver => match dst with
      | none => if (s.root r).box && (s.root r).ver == ver && decide (j + 1 ≤ (s.root r).ls.length) then .go [.leaf r j (.clo g ps qs)] else .none
      | some _ => .none
    | _ => .none
  else .none
  | _ => .none
def isNils : AV → Bool
  | .v false [.nils] => true
  | _ => false

def bytesOf (xs : List Int) : List UInt8 := xs.map fun n => UInt8.ofNat n.toNat

/-- What one operation writes ('v': a number of its own). -/
def opDelta (cx : Cx) (v : Nat) (o : Oper) (s : St) : Step (List Wr) :=
  let out (a : AV) : Step (List Wr) := match o.dst with
    | some d => .go [.slot d a]
    | none => .go []
  match o.op with
  | .move x => if isNils (s.opd x) then match cx.ty o.type, o.dst with
      | some ty, some d => if ty.agg then .none else match ty.ls with
        | .one (.sl t e) => .go (ownRow d v t e [])
        | _ => .none
      | _, _ => .none
    else out (s.opd x)
  | .assign x => match o.dst with
    | none => .none
    | some d => match s.opd1 x with
      | .sc l x => .go [.slot d (one (.sc l x))]
      | .ptr r j ver => .go [.slot d (one (.ptr r j ver))]
      | .fn f => .go [.slot d (one (.fn f))]
      | .nilp => .go [.slot d (one .nilp)]
      | .eptr c => .go [.slot d (one (.eptr c))]
      | .fptr e x off => .go [.slot d (one (.fptr e x off))]
      | a => if cx.pin d then .none else match cx.ty o.type with
        | some ty => match ty.ls with
          | .one l => s.take cx v a l fun b us => match b with
            | .arr _ _ t e xs dd => .go (gone us ++ [.root d ⟨false, v, [.arr v v t e xs dd]⟩, .slot d (one (.ref ⟨d, 0, v, v, []⟩))])
            | _ => .none
          | _ => .none
        | none => .none
  | .pick c a b => match s.opd1 c with
    | .sc .bool t => .iff t (out (s.opd a)) (out (s.opd b))
    | _ => .none
  | .alloc t => match cx.ty t, o.dst with
    | some ty, some d => .go (ownBox d v (ty.ls.kinds.map (zeroL v)))
    | none, some d => if cx.env.fty t then .go (ownBox d v [.bad]) else .none
    | _, _ => .none
  | .box t x => match cx.ty t, o.dst, s.opd x with
    | some ty, some d, .v g as => if g && lent s as then .go [.slot d (.bx as)] else s.takes cx v ty.ls.kinds as fun bs us => if us.all fun u => !(u.1 == d) then .go (gone us ++ ownBox d v bs) else .none
    | _, _, _ => .none
  | .build t parts => match cx.ty t with
    | some ty => match (if ty.agg then fillL cx s ty.fs parts.toList (ty.ls.kinds.map zeroOf) else none) with
      | some ls => out (.v true ls)
      | none => .none
    | none => .none
  | .buildSlice t len parts => match cx.ty t, o.dst with
    | some ty, some d => if ty.agg then .none else match ty.ls with
      | .one (.sl t e) => if len == parts.size && decide (len * e.n ≤ 16777216) then (match lendOf s e parts.toList with
        | some (x, c) => buildLend cx s d v t e x c fun ws => .go ws
        | none => elemsOf cx s v e parts.toList 0 fun ys us => if us.all fun u => !(u.1 == d) then .go (gone us ++ ownRow d v t e ys) else .none) else .none
      | _ => .none
    | _, _ => .none
  | .load t x => match cx.ty t with
    | some ty => s.loadsV (s.opd x) ty.ls.n fun as => if as.length == ty.ls.n then out (.v ty.agg as) else .none
    | none => .none
  | .store t x y => match cx.ty t, s.opd y with
    | some ty, .v _ as => match nestS (s.opd1 x) as with
      | [] => storeD cx v s o.dst (s.opd1 x) ty.ls.kinds as []
      | r :: rs => match freezes cx s (r :: rs) with
        | some fs => storeD cx v (s.app fs) o.dst (s.opd1 x) ty.ls.kinds as fs
        | none => .none
    | none, p => storeF cx s t (s.opd1 x) p o.dst
    | _, _ => .none
  | .makeInterface t x => match cx.ty t, s.opd1 x with
    | some ty, .ref c => if ty.agg then .none else match ty.ls with
      | .one (.sl _ _) => out (one (.ifc t c))
      | _ => .none
    | _, _ => .none
  | .makeFunc (.func g) first captured => if first.size == 0 then match ptrsOf s (captured.toList.map s.opd) with
      | some ps => out (one (.clo g ps (behind s ps)))
      | none => .none
    else .none
  | .nilCheck x => match s.opd x with
    | .bx as => out (.bx as)
    | a => if s.alive a.one? then out (one a.one?) else .none
  | .binOp op tx x y _ => match s.opd x, s.opd y with
    | .v true as, .v true bs => aggOp cx op tx as bs fun a => out a
    | p, q => binop (tyIs cx tx .bool) op y p.one? q.one? fun a => out a
  | .unOp op _ x => match op, s.opd1 x with
    | .not, .sc .bool b => out (scB (!b))
    | .neg, .sc (.int k) n => out (scI k (k.wrap (negI n)))
    | _, _ => .none
  | .convert a b x => match cx.ty a, cx.ty b, s.opd1 x with
    | some ta, some ty, .sc (.int _) n => if ty.agg then .none else match ty.ls with
      | .one (.int k) => out (scI k (k.wrap n))
      | _ => .none
    | some ta, some ty, y => if ta.agg || ty.agg then .none else match ta.ls, ty.ls with
      | .one (.sl t0 (.one (.int .u8))), .one .str => if tyIs cx t0 (.int .u8) then s.datum (.sl t0 (.one (.int .u8))) y fun xs => out (scS (bytesOf xs)) else .none
      | _, _ => .none
    | _, _, _ => .none
  | .makeSlice t l c => match cx.ty t, o.dst with
    | some ty, some d => if ty.agg then .none else match ty.ls with
      | .one (.sl t e) => asInt (s.opd1 l) fun n => asInt (s.opd1 c) fun m =>
          .iff (decide (0 ≤ n) && decide (n ≤ (maxRow : Int)) && decide (m = n)) (.go (ownRow d v t e (List.replicate n.toNat (zeroDs e)))) .none
      | _ => .none
    | _, _ => .none
  | .slice ti x lo hi none => match s.opd1 x with
    | .sc .str b => if tyIs cx ti .str then asIntO s lo 0 fun l => asIntO s hi (List.length (α := UInt8) b : Int) fun h =>
        .iff (decide (0 ≤ l) && decide (l ≤ h) && decide (h ≤ (List.length (α := UInt8) b : Int))) (out (scS (sub (α := UInt8) b l.toNat h.toNat))) .none
      else .none
    | .sc (.sl t e) b => if isRow cx ti e then asIntO s lo 0 fun l => asIntO s hi (List.length (α := e.D) b : Int) fun h =>
        .iff (decide (0 ≤ l) && decide (l ≤ h) && decide (h ≤ (List.length (α := e.D) b : Int))) (out (one (.sc (.sl t e) (sub (α := e.D) b l.toNat h.toNat)))) .none
      else .none
    | .ref c => s.content c fun t e xs _ => if isRow cx ti e then asIntO s lo 0 fun l => asIntO s hi (xs.length : Int) fun h =>
        .iff (decide (0 ≤ l) && decide (l ≤ h) && decide (h ≤ (xs.length : Int))) (out (one (.win c l.toNat h.toNat))) .none
      else .none
    | _ => .none
  | .fieldAddr t x f => match cx.ty t with
    | some ty => match (if ty.agg then nth? ty.fs f else none) with
      | some (fo, ft) => match cx.ty ft with
        | some tf => if tf.ls.n == 0 then .none else match s.opd x with
         | .bx as => out (.bx (as.drop fo))
         | a => if !s.alive a.one? then .none else match a.one? with
          | .ptr r j ver => out (one (.ptr r (j + fo) ver))
          | .fptr e y j => out (one (.fptr e y (j + fo)))
          | .eptr c => match splitLast c.p with
            | some (q, i, off) => out (one (.eptr { c with p := q ++ [(i, off + fo)] }))
            | none => .none
          | _ => .none
        | none => .none
      | none => .none
    | none => .none
  | .field t x f => match cx.ty t, s.opd x with
    | some ty, .v true as => match (if ty.agg then nth? ty.fs f else none) with
      | some (fo, ft) => match cx.ty ft with
        | some tf => if decide (fo + tf.ls.n ≤ as.length) then out (.v tf.agg ((as.drop fo).take tf.ls.n)) else .none
        | none => .none
      | none => .none
    | _, _ => .none
  | .indexAddr ti x i => asInt (s.opd1 i) fun n => match s.opd1 x with
    | .sc (.sl t e) xs => if isRow cx ti e then .bnd (getI (α := e.D) xs n) fun y => out (one (.fptr e y 0)) else .none
    | .ref c => s.content c fun t e xs _ => if isRow cx ti e then .iff (inb xs n) (out (one (.eptr { c with p := c.p ++ [(n.toNat, 0)] }))) .none else .none
    | .win c lo hi => s.content c fun t e xs _ => if isRow cx ti e then .iff (inb (sub xs lo hi) n) (out (one (.eptr { c with p := c.p ++ [(lo + n.toNat, 0)] }))) .none else .none
    | _ => .none
  | .index ti x i => asInt (s.opd1 i) fun n => match s.opd1 x with
    | .sc .str b => if tyIs cx ti .str then .bnd (getI (α := UInt8) b n) fun y => out (scI .u8 (y.toNat : Int)) else .none
    | _ => .none
  | .extract x i => match s.opd x with
    | .tup vs => match nth? vs i with
      | some (g, as) => out (.v g as)
      | none => .none
    | _ => .none
  | .call c => match c.callee with
    | .builtin .len => match c.args.toList, c.argTypes.toList with
      | [x], [t] => match cx.ty t with
        | some ty => if ty.agg then .none else match ty.ls with
          | .one .str => lenS (s.opd1 x) fun n => out (scI .i64 n)
          | .one (.sl _ _) => lenOf s (s.opd1 x) fun n => out (scI .i64 n)
          | _ => .none
        | none => .none
      | _, _ => .none
    | .builtin .append => match c.args.toList, c.argTypes.toList, cx.ty o.type, o.dst with
      | [x, y], [t1, t2], some ty, some d => match ty.ls with
        | .one (.sl t e) => if t1 == t2 && isRow cx t1 e then appendAny cx s d v t e (s.opd1 x) (s.opd1 y) fun ws => .go ws else .none
        | _ => .none
      | _, _, _, _ => .none
    | .builtin .min => match c.args.toList with
      | [x, y] => match s.opd1 x, s.opd1 y with
        | .sc (.int k) a, .sc (.int j) b => out (scI k (minI a b))
        | _, _ => .none
      | _ => .none
    | .builtin .max => match c.args.toList with
      | [x, y] => match s.opd1 x, s.opd1 y with
        | .sc (.int k) a, .sc (.int j) b => out (scI k (maxI a b))
        | _, _ => .none
      | _ => .none
    | .value f => match s.opd1 f, o.dst with
      | .fn f, some d => call cx s d v f (c.args.toList.map s.opd) fun ws => .go ws
      | _, _ => .none
    | _ => .none
  | _ => .none

end Go.Ev

namespace Go.Ev
set_option linter.unusedVariables false
variable {β : Type}

def number {α : Type} : Nat → List α → List (Nat × α)
  | _, [] => []
  | n, x :: xs => (n, x) :: number (n + 1) xs

/-- What is told from one point of the code to the next: a slot with a plain datum; a slot with a row of its own; a variable's leaves. -/
inductive VP where
  | slot (s : Nat) (l : L)
  | own (s : Nat) (t : TypeId) (e : Ls) (d : Nat) (k : Bool)
  | box (r : Nat) (ls : List (Option (L × Nat)))
def VP.kinds : VP → List L
  | .slot _ l => [l]
  | .own _ t e _ _ => [.sl t e]
  | .box _ ls => ls.filterMap fun x => x.map (·.1)
/-- Roots that it makes anew, or whose leaves it tells. -/
def VP.roots : VP → List Nat
  | .slot _ _ => []
  | .own s _ _ _ _ => [s]
  | .box r _ => [r]
def VP.slots : VP → List Nat
  | .slot s _ => [s]
  | .own s _ _ _ _ => [s]
  | .box _ _ => []
def patK (ps : List VP) : Ls := mkLs (ps.flatMap VP.kinds)

def packB (s : St) : List (Option (L × Nat)) → List LA → (List Lv → Step β) → Step β
  | [], [], k => k []
  | none :: ls, _ :: as, k => packB s ls as k
  | some (l, d) :: ls, a :: as, k => match a with
    | .arr _ _ t e xs d' => if d == 0 || d == d' then match L.cast (a := .sl t e) l xs with
        | some y => packB s ls as fun vs => k (⟨l, y⟩ :: vs)
        | none => .none
      else .none
    | a => match d with
      | 0 => s.datum l a fun y => packB s ls as fun vs => k (⟨l, y⟩ :: vs)
      | _ + 1 => match l with
        | .sl _ _ => .none
        | l => s.datum l a fun y => packB s ls as fun vs => k (⟨l, y⟩ :: vs)
  | _, _, _ => .none
/-- A datum that nobody can turn any more: no row that is still owned. -/
def St.still (s : St) (l : L) (a : LA) : Bool := match l with
  | .sl _ _ => match a with
    | .sc _ _ => true
    | .nils => true
    | .ref c => match s.leaf c.r c.j with
      | .arr _ _ _ _ _ 0 => true
      | _ => false
    | .win c _ _ => match s.leaf c.r c.j with
      | .arr _ _ _ _ _ 0 => true
      | _ => false
    | _ => false
  | _ => true
def packV (s : St) (v : VP) (k : List Lv → Step β) : Step β := match v with
  | .slot t l => if s.still l (s.slot t).one? then s.datum l (s.slot t).one? fun x => k [⟨l, x⟩] else .none
  | .own t ty e d k0 => match s.slot t, s.root t with
    | .v false [.ref c], ⟨false, _, [.arr ver _ t' e' xs d']⟩ => if c.r == t && c.j == 0 && isNil c.p && ver == c.ver && d == d' && (!k0 || ver == 1) then match L.cast (a := .sl t' e') (.sl ty e) xs with
        | some y => k [⟨.sl ty e, y⟩]
        | none => .none
      else .none
    | _, _ => .none
  | .box r ls => if (s.root r).box then packB s ls (s.root r).ls k else .none
def packs (s : St) : List VP → (List Lv → Step β) → Step β
  | [], k => k []
  | v :: vs, k => packV s v fun x => packs s vs fun y => k (x ++ y)
def packTo (ps : List VP) (s : St) : Option (patK ps).D := (packs s ps .go).run (pack (patK ps))

def boxLeaves (v : Nat) : List (Option (L × Nat)) → List Lv → List LA
  | [], _ => []
  | none :: ls, vs => .bad :: boxLeaves v ls vs
  | some (l, d) :: ls, x :: vs => newLeaf v d x :: boxLeaves v ls vs
  | some _ :: ls, [] => .bad :: boxLeaves v ls []
/-- A row's version: its own from now on; or a parameter's, whose header stays. -/
def ownVer (v : Nat) (k : Bool) : Nat := match k with
  | true => 1
  | false => v
def ownLeaf (v d : Nat) (k : Bool) (x : Lv) : LA := match newLeaf v d x with
  | .arr _ g t e xs d => .arr (ownVer v k) g t e xs d
  | a => a
def embedV (v : Nat) (s : St) : List VP → List Lv → List Wr
  | [], _ => []
  | .slot t _ :: ps, x :: vs => .slot t (one (.sc x.l x.x)) :: embedV v s ps vs
  | .own t ty e d k :: ps, x :: vs => .root t ⟨false, v, [ownLeaf v d k x]⟩ :: .slot t (one (.ref ⟨t, 0, ownVer v k, v, []⟩)) :: embedV v s ps vs
  | .box r ls :: ps, vs => .root r ⟨true, (s.root r).ver, boxLeaves v ls vs⟩ :: embedV v s ps (vs.drop (ls.filterMap id).length)
  | _, [] => []

def LA.clean (ms ch : Nat → Bool) (a : LA) : LA := match a with
  | .ref c => if ch c.r then .bad else .ref c
  | .win c lo hi => if ch c.r then .bad else .win c lo hi
  | .eptr c => if ch c.r then .bad else .eptr c
  | .ptr r j ver => if ms r then .bad else .ptr r j ver
  | .ifc t c => if ch c.r then .bad else .ifc t c
  | .clo g ps qs => if ps.any fun p => ms p.1 then .bad else .clo g ps qs
  | a => a
def AV.clean (ms ch : Nat → Bool) : AV → AV
  | .v g as => .v g (as.map (LA.clean ms ch))
  | .tup _ => one .bad
  | .bx _ => one .bad
def mapN {α γ : Type} (f : Nat → α → γ) : Nat → List α → List γ
  | _, [] => []
  | n, x :: xs => f n x :: mapN f (n + 1) xs
/-- The state without what the code between may turn. -/
def base (ms : List Nat) (ps : List VP) (s : St) : St :=
  { sl := mapN (fun t x => if has ms t then one .bad else x.clean (fun r => has ms r || has (ps.flatMap VP.slots) r) fun r => has ms r || has (ps.flatMap VP.roots) r) 0 s.sl
    ro := mapN (fun r x => if has ms r then dead else x) 0 s.ro
    ctr := s.ctr + 1 }
def embed (ms : List Nat) (ps : List VP) (s : St) (x : (patK ps).D) : St := (base ms ps s).app (embedV s.ctr s ps (unpack (patK ps) x))
def Cx.in (cx : Cx) (ms : List Nat) (ps : List VP) : Cx :=
  { cx with lock := fun r => cx.lock r || !(has ms r || has (ps.flatMap VP.roots) r), slk := fun t => cx.slk t || !(has ms t || has (ps.flatMap VP.slots) t) }
def distinct : List Nat → Bool
  | [] => true
  | x :: xs => !has xs x && distinct xs
/-- Variables among what is told are none that the code between makes anew; nothing that is locked is told. -/
def patOk (cx : Cx) (ms : List Nat) (ps : List VP) : Bool := distinct (ps.flatMap VP.roots) && distinct (ps.flatMap VP.slots) && ps.all fun p => match p with
  | .slot s _ => !cx.slk s
  | .own s _ _ _ _ => !cx.lock s && !cx.slk s && !cx.pin s
  | .box r _ => !has ms r && !cx.lock r && !has (ps.flatMap VP.slots) r

structure An where
  grp : Nat → Option (List VP)
  blk : Nat → Option (List VP × Bool)
  joi : Nat → Option (List VP × Bool)
  /-- Roots that are looked at only from a region on. -/
  pre : Nat → List Nat

def dsts : List (Nat × Oper) → List Nat
  | [] => []
  | (_, o) :: r => match o.dst with
    | some d => d :: dsts r
    | none => dsts r
def mods : Code → List Nat
  | .region _ ops _ => dsts (number 0 ops.toList)
  | .seq a b => mods a ++ mods b
  | .cond _ a b => mods a ++ mods b
  | .block _ c => mods c
  | .loop c => mods c
  | _ => []
def headId : Code → Nat
  | .region id _ _ => id
  | .seq a _ => headId a
  | .block _ c => headId c
  | .loop c => headId c
  | _ => 0

/-- A name of a piece of code whose ends are joined. -/
def joiKey : Code → Nat
  | .seq a _ => 3 * headId a + 3
  | .block id _ => 3 * id + 4
  | .cond _ x y => 3 * (match headId x with
    | 0 => headId y
    | n + 1 => n + 1) + 5
  | _ => 0

/-! ### regions -/

def mask (t : Nat) : Nat := 2 ^ t
def AV.mask (a : AV) : Nat := a.roots.foldr (fun r m => Nat.lor (2 ^ (2 * r + 1)) m) 0
def guardMask (ops : Array Oper) (o : Oper) : Nat := match o.guard with
  | some (g, _) => match (ops[g]?).bind (·.dst) with
    | some t => 2 ^ (2 * t)
    | none => 0
  | none => 0
/-- Which slots ('2 t') and roots ('2 r + 1') an operation looks at. -/
def readMask (ops : Array Oper) (o : Oper) (s : St) : Nat := match o.op with
  | .move (.tmp t) => Nat.lor (2 ^ (2 * t)) (guardMask ops o)
  | .extract (.tmp t) _ => Nat.lor (2 ^ (2 * t)) (guardMask ops o)
  | .field _ (.tmp t) _ => Nat.lor (2 ^ (2 * t)) (guardMask ops o)
  | _ => o.op.operands.toList.foldr (fun x m => match x with
    | .tmp t => Nat.lor (2 ^ (2 * t)) (Nat.lor (s.slot t).mask m)
    | _ => m) (guardMask ops o)
def Wr.mask : Wr → Nat
  | .slot t _ => 2 ^ (2 * t)
  | .root r _ => 2 ^ (2 * r + 1)
  | .leaf r _ _ => 2 ^ (2 * r + 1)
def writeMask (ws : List Wr) : Nat := ws.foldr (fun w m => Nat.lor w.mask m) 0
def bit (m i : Nat) : Bool := m.testBit i
/-- Which operations lie before which, by the edges. -/
def befs : List Oper → List Nat → List Nat
  | [], acc => acc
  | o :: r, acc => befs r (acc ++ [o.after.toList.foldr (fun e m => if Region.binds .any e then Nat.lor (2 ^ e.on) (Nat.lor (nth 0 acc e.on) m) else m) 0])
def indep (b rm wm : Nat) : Nat → List (Nat × Nat) → Bool
  | _, [] => true
  | j, (r, w) :: lg => (bit b j || (Nat.land w (Nat.lor rm wm) == 0 && Nat.land r wm == 0)) && indep b rm wm (j + 1) lg

def LA.vers : LA → List Nat
  | .ref c => [c.ver, c.gen]
  | .win c _ _ => [c.ver, c.gen]
  | .eptr c => [c.ver, c.gen]
  | .ptr _ _ ver => [ver]
  | .ifc _ c => [c.ver, c.gen]
  | .clo _ ps _ => ps.map (·.2)
  | .arr ver gen _ _ _ _ => [ver, gen]
  | _ => []
def AV.vers : AV → List Nat
  | .v _ as => as.flatMap LA.vers
  | .tup vs => vs.flatMap fun v => v.2.flatMap LA.vers
  | .bx as => as.flatMap LA.vers
def Root.vers (r : Root) : List Nat := r.ver :: r.ls.flatMap LA.vers
def Wr.vers : Wr → List Nat
  | .slot _ a => a.vers
  | .root _ x => x.vers
  | .leaf _ _ a => a.vers
/-- What may lie in a root: no reference into a row. -/
def LA.inRoot : LA → Bool
  | .ref _ => false
  | .win _ _ _ => false
  | .eptr _ => false
  | .ifc _ _ => false
  | _ => true
def Wr.ok (cx : Cx) (dst : Option Nat) : Wr → Bool
  | .slot t _ => match dst with
    | some d => t == d
    | none => false
  | .root r x => !cx.lock r && x.ls.all LA.inRoot && match dst with
    | some d => r == d
    | none => false
  | .leaf r _ a => !cx.lock r && a.inRoot
def okDelta (cx : Cx) (dst : Option Nat) (v0 v b : Nat) (ws : List Wr) : Bool :=
  ws.all fun w => w.ok cx dst && w.vers.all fun n => decide (n < v0) || n == v || (decide (v0 ≤ n) && bit b (n - v0))

def undefW (dst : Option Nat) : List Wr := match dst with
  | some d => [.slot d (one .undef)]
  | none => []

structure Rg where
  ops : Array Oper
  v0 : Nat
  draw : Bool

def evOps {R : Type} (cx : Cx) (g : Rg) : List (Nat × Oper) → List Nat → List (Nat × Nat) → St → (St → Option R) → Option R
  | [], _, _, s, k => k s
  | (i, o) :: r, bs, lg, s, k =>
    let b := nth 0 bs i
    let rm := readMask g.ops o s
    let exec (s : St) : Option R := (opDelta cx (g.v0 + i) o s).run fun ws =>
      if okDelta cx o.dst g.v0 (g.v0 + i) b ws && (!g.draw || indep b rm (writeMask ws) 0 lg) then evOps cx g r bs (lg ++ [(rm, writeMask ws)]) (s.app ws) k else none
    let skip (s : St) : Option R := if !g.draw || indep b rm (writeMask (undefW o.dst)) 0 lg then evOps cx g r bs (lg ++ [(rm, writeMask (undefW o.dst))]) (s.app (undefW o.dst)) k else none
    match o.guard with
    | none => exec s
    | some (j, want) => match (g.ops[j]?).bind (·.dst) with
      | none => none
      | some t => match s.slot t with
        | .v false [.undef] => skip s
        | .v false [.sc .bool c] => match want with
          | true => bif c then exec (s.app1 (.slot t (scB true))) else skip (s.app1 (.slot t (scB false)))
          | false => bif c then skip (s.app1 (.slot t (scB true))) else exec (s.app1 (.slot t (scB false)))
        | _ => none

def lastPat (os : List Oper) : List VP := match os.getLast? with
  | some o => match o.dst with
    | some d => [.slot d .bool]
    | none => []
  | none => []
def evRegion0 {R : Type} (cx : Cx) (an : An) (id : Nat) (ops : Array Oper) (draw : Bool) (s : St) (k : St → Option R) : Option R :=
  let os := number 0 ops.toList
  let g : Rg := ⟨ops, s.ctr, draw⟩
  let bs := befs ops.toList []
  if ops.toList.all fun o => match o.guard with
    | none => true
    | some _ => false
  then evOps cx g os bs [] s fun s' => k { s' with ctr := s.ctr + ops.size }
  else
    let ps := match an.grp id with
      | some p => p
      | none => lastPat ops.toList
    let ms := dsts os
    if patOk cx ms ps then (evOps (cx.in ms ps) g os bs [] s (packTo ps)).bind fun x => k (embed ms ps s x) else none

def evRegion {R : Type} (cx : Cx) (an : An) (id : Nat) (ops : Array Oper) (draw : Bool) (s : St) (k : St → Option R) : Option R := match an.pre id with
  | [] => evRegion0 cx an id ops draw s k
  | r :: rs => if (r :: rs).all fun r => !cx.lock r then match freezes cx s (r :: rs) with
      | some fs => evRegion0 cx an id ops draw (s.app fs) k
      | none => none
    else none
def iter {α γ : Type} : Nat → (α → Option (α ⊕ γ)) → α → Option γ
  | 0, _, _ => none
  | n + 1, f, x => (f x).bind fun y => match y with
    | .inl x => iter n f x
    | .inr z => some z

def ev (an : An) (n : Nat) {RD : Type} (rp : St → Option RD) : Code → {R : Type} → Cx → St → (St → Option R) → (Nat → St → Option R) → (RD → Option R) → Option R
  | .skip, _, cx, s, kn, kx, kr => kn s
  | .region id ops draw, _, cx, s, kn, kx, kr => evRegion cx an id ops draw s kn
  | .seq a b, _, cx, s, kn, kx, kr => match an.joi (joiKey a) with
    | none => ev an n rp a cx s (fun s => ev an n rp b cx s kn kx kr) kx kr
    | some (ps, rets) =>
      let ms := mods a
      if patOk cx ms ps then match rets with
        | false => (ev an n rp a (R := (patK ps).D) (cx.in ms ps) s (packTo ps) (fun _ _ => none) (fun _ => none)).bind fun x => ev an n rp b cx (embed ms ps s x) kn kx kr
        | true => (ev an n rp a (R := (patK ps).D ⊕ RD) (cx.in ms ps) s (fun s => (packTo ps s).bind fun x => some (.inl x)) (fun _ _ => none) (fun r => some (.inr r))).bind fun q => match q with
          | .inl x => ev an n rp b cx (embed ms ps s x) kn kx kr
          | .inr r => kr r
      else none
  | .cond c x y, _, cx, s, kn, kx, kr => match s.opd1 c with
    | .sc .bool b => bif b then ev an n rp x cx s kn kx kr else ev an n rp y cx s kn kx kr
    | _ => none
  | .block id c, _, cx, s, kn, kx, kr => match an.blk id with
    | none => ev an n rp c cx s kn (fun i s => if i == id then kn s else kx i s) kr
    | some (ps, rets) => match c with
      | .loop c =>
        let ms := mods c
        if patOk cx ms ps then match rets with
          | false => (packTo ps s).bind fun x0 => (iter (α := (patK ps).D) (γ := (patK ps).D) n (fun x => ev an n rp c (cx.in ms ps) (embed ms ps s x)
                (fun s => (packTo ps s).bind fun x => some (.inl x)) (fun i s => if i == id then (packTo ps s).bind fun x => some (.inr x) else none) (fun _ => none)) x0).bind fun x =>
              kn (embed ms ps s x)
          | true => (packTo ps s).bind fun x0 => (iter (α := (patK ps).D) (γ := (patK ps).D ⊕ RD) n (fun x => ev an n rp c (cx.in ms ps) (embed ms ps s x)
                (fun s => (packTo ps s).bind fun x => some (.inl x)) (fun i s => if i == id then (packTo ps s).bind fun x => some (.inr (.inl x)) else none) (fun r => some (.inr (.inr r)))) x0).bind fun q => match q with
              | .inl x => kn (embed ms ps s x)
              | .inr r => kr r
        else none
      | _ => none
  | .exit id, _, cx, s, kn, kx, kr => kx id s
  | .ret, _, cx, s, kn, kx, kr => (rp s).bind kr
  | _, _, _, _, _, _, _ => none

/-- Edges that bind point back. -/
def edgesOk : Nat → List Oper → Bool
  | _, [] => true
  | i, o :: r => o.after.toList.all (fun e => !Region.binds .any e || decide (e.on < i)) && edgesOk (i + 1) r
/-- Slots are there; edges point back. -/
def codeOk (n : Nat) : Code → Bool
  | .region _ ops _ => edgesOk 0 ops.toList && ops.toList.all fun o => match o.dst with
    | some d => decide (d < n)
    | none => true
  | .seq a b => codeOk n a && codeOk n b
  | .cond _ a b => codeOk n a && codeOk n b
  | .block _ c => codeOk n c
  | .loop c => codeOk n c
  | _ => true

/-! ### functions -/


/-- The leaves of a parameter whose rows are written, as they're referred to. -/
def rowRefs (i : Nat) : Nat → List (L × Nat) → List Lv → List LA
  | j, (l, _) :: ls, x :: vs => (match l with
    | .sl _ _ => LA.ref ⟨i, j, 1, 1, []⟩
    | _ => .sc x.l x.x) :: rowRefs i (j + 1) ls vs
  | _, _, _ => []
def initP : Nat → List PM → List Lv → Option (List Wr)
  | _, [], [] => some []
  | _, [], _ :: _ => none
  | i, .val g ls :: ps, vs => match initP (i + 1) ps (vs.drop ls.length) with
    | some ws => some (.slot i (.v g ((vs.take ls.length).map fun x => .sc x.l x.x)) :: ws)
    | none => none
  | i, .box ls :: ps, vs => match initP (i + 1) ps (vs.drop ls.length) with
    | some ws => some (.root i ⟨true, 1, newLeaves 1 ls vs⟩ :: .slot i (one (.ptr i 0 1)) :: ws)
    | none => none
  | i, .row g ls :: ps, vs => match initP (i + 1) ps (vs.drop ls.length) with
    | some ws => some (.root i ⟨false, 1, newLeaves 1 ls vs⟩ :: .slot i (.v g (rowRefs i 0 ls vs)) :: ws)
    | none => none
  | i, .fn f :: ps, vs => match initP (i + 1) ps vs with
    | some ws => some (.slot i (one (.fn f)) :: ws)
    | none => none
def blank (n : Nat) : St := { sl := List.replicate n (one .bad), ro := List.replicate n dead, ctr := 2 }
/-- A leaf that is handed back: owned ones by their roots, each once ('us': those that went). -/
def backLeaf (s : St) (us : List (Nat × Nat)) (l : L) (m : Nat) (a : LA) (k : Lv → List (Nat × Nat) → Step β) : Step β := match l with
  | .sl t e => match m with
    | 0 => if s.still (.sl t e) a then s.datum (.sl t e) a fun x => k ⟨.sl t e, x⟩ us else .none
    | m + 1 => match a with
      | .nils => k ⟨.sl t e, ([] : List e.D)⟩ us
      | .ref c => match s.leaf c.r c.j with
        | .arr ver _ t' e' xs d => if ver == c.ver && isNil c.p && d == m + 1 && !us.contains (c.r, c.j) then match L.cast (a := .sl t' e') (.sl t e) xs with
            | some y => k ⟨.sl t e, y⟩ ((c.r, c.j) :: us)
            | none => .none
          else .none
        | _ => .none
      | .win c lo hi => match s.leaf c.r c.j with
        | .arr ver _ t' e' xs d => if ver == c.ver && isNil c.p && d == m + 1 && !us.contains (c.r, c.j) then match L.cast (a := .sl t' e') (.sl t e) (sub xs lo hi) with
            | some y => k ⟨.sl t e, y⟩ ((c.r, c.j) :: us)
            | none => .none
          else .none
        | _ => .none
      | _ => .none
  | l => s.datum l a fun x => k ⟨l, x⟩ us
def backLeaves (s : St) : List (L × Nat) → List LA → List (Nat × Nat) → (List Lv → List (Nat × Nat) → Step β) → Step β
  | [], [], us, k => k [] us
  | (l, m) :: ls, a :: as, us, k => backLeaf s us l m a fun x us => backLeaves s ls as us fun xs us => k (x :: xs) us
  | _, _, _, _ => .none
def backRes (ty : TypeId → Option Ty) (s : St) : List (Bool × List (L × Nat)) → List ResultVar → List (Nat × Nat) → (List Lv → List (Nat × Nat) → Step β) → Step β
  | [], [], us, k => k [] us
  | (g, ls) :: rs, .tmp t :: vs, us, k => match s.slot t with
    | .v g' as => if g == g' then backLeaves s ls as us fun xs us => backRes ty s rs vs us fun ys us => k (xs ++ ys) us else .none
    | _ => .none
  | (g, ls) :: rs, .cell t T :: vs, us, k => match ty T, s.slot t with
    | some y, .v false [.ptr r 0 ver] => if y.agg == g && y.ls.n == ls.length then s.loads (.ptr r 0 ver) ls.length fun as => if as.length == ls.length then backLeaves s ls as us fun xs us => backRes ty s rs vs us fun ys us => k (xs ++ ys) us else .none else .none
    | _, _ => .none
  | _, _, _, _ => .none
/-- Rows of a parameter: its plain leaves are what they were ('vs'). -/
def backRow (s : St) (i : Nat) : Nat → List (L × Nat) → List Lv → List (Nat × Nat) → (List Lv → List (Nat × Nat) → Step β) → Step β
  | _, [], _, us, k => k [] us
  | _, _ :: _, [], _, _ => .none
  | j, (l, d) :: ls, x :: vs, us, k => match l with
    | .sl t e => backLeaf s us (.sl t e) d (match s.leaf i j with
        | .arr 1 gen _ _ _ _ => .ref ⟨i, j, 1, gen, []⟩
        | _ => .bad) fun y us => backRow s i (j + 1) ls vs us fun ys us => k (y :: ys) us
    | _ => backRow s i (j + 1) ls vs us fun ys us => k (x :: ys) us
def backPs (s : St) : Nat → List PM → List Lv → List (Nat × Nat) → (List Lv → Step β) → Step β
  | _, [], _, _, k => k []
  | i, .box ls :: ps, vs, us, k => if (s.root i).box && (s.root i).ver == 1 && (s.root i).ls.length == ls.length then s.loads (.ptr i 0 1) ls.length fun as => backLeaves s ls as us fun xs us => backPs s (i + 1) ps (vs.drop ls.length) us fun ys => k (xs ++ ys) else .none
  | i, .row _ ls :: ps, vs, us, k => backRow s i 0 ls vs us fun xs us => backPs s (i + 1) ps (vs.drop ls.length) us fun ys => k (xs ++ ys)
  | i, .val _ ls :: ps, vs, us, k => backPs s (i + 1) ps (vs.drop ls.length) us k
  | i, .fn _ :: ps, vs, us, k => backPs s (i + 1) ps vs us k
/-- Leaves that are plain data. -/
def plainLs : List L → List LA → Option (List Lv)
  | [], [] => some []
  | l :: ls, .sc m x :: as => match L.cast l (a := m) x, plainLs ls as with
    | some y, some vs => some (⟨l, y⟩ :: vs)
    | _, _ => none
  | _, _ => none
/-- A variable of the function's own whose address is handed back. -/
def retMk (sm : Sm) (rv : List ResultVar) (s : St) : Option sm.outs.D := match rv with
  | [.tmp t] => match s.slot t with
    | .v false [.ptr r 0 ver] => if sm.plain && (s.root r).box && (s.root r).ver == ver then match plainLs (sm.outk.map (·.1)) (s.root r).ls with
        | some vs => pack sm.outs vs
        | none => none
      else none
    | _ => none
  | _ => none
/-- Rows that are handed back to be looked at: those that nobody froze. -/
def needFz (s : St) : List (L × Nat) → List LA → List Nat
  | (l, m) :: ls, a :: as => (if isSl l && m == 0 && !s.still l a then match a with
      | .ref c => [c.r]
      | .win c _ _ => [c.r]
      | _ => []
    else []) ++ needFz s ls as
  | _, _ => []
def resFz (s : St) : List (Bool × List (L × Nat)) → List ResultVar → List Nat
  | (_, ls) :: rs, .tmp t :: vs => (match s.slot t with
    | .v _ as => needFz s ls as
    | _ => []) ++ resFz s rs vs
  | (_, ls) :: rs, .cell t _ :: vs => (match s.slot t with
    | .v false [.ptr r 0 _] => needFz s ls (seenFrom r 0 (s.root r).ls)
    | _ => []) ++ resFz s rs vs
  | _, _ => []
def retPack0 (ty : TypeId → Option Ty) (sm : Sm) (rv : List ResultVar) (vs : List Lv) (s : St) : Option sm.outs.D :=
  (backRes ty s sm.rs rv [] fun xs us => backPs s 0 sm.ps vs us fun ys => .go (xs ++ ys)).run (pack sm.outs)
def cx0 : Cx := { ty := fun _ => none, env := ⟨fun _ => none, fun _ _ => none, fun _ => false⟩, lock := fun _ => false, slk := fun _ => false, pin := fun _ => false }
def retPack (ty : TypeId → Option Ty) (sm : Sm) (rv : List ResultVar) (vs : List Lv) (s : St) : Option sm.outs.D := if sm.mk? then retMk sm rv s else
  match freezes cx0 s (resFz s sm.rs rv) with
  | some fs => retPack0 ty sm rv vs (s.app fs)
  | none => none

def evFn (ty : TypeId → Option Ty) (env : Env) (an : An) (n : Nat) (fn : Func) (sm : Sm) (x : sm.ins.D) : Option sm.outs.D :=
  match fn.body, initP 0 sm.ps (unpack sm.ins x) with
  | some c, some ws => if !codeOk fn.ntmps c then none else ev an n (retPack ty sm fn.results.toList (unpack sm.ins x)) c { ty := ty, env := env, lock := fun _ => false, slk := fun _ => false, pin := fun _ => false } ((blank fn.ntmps).app ws) (retPack ty sm fn.results.toList (unpack sm.ins x)) (fun _ _ => none) some
  | _, _ => none

end Go.Ev

namespace Go.Ev
set_option linter.unusedVariables false

theorem nth_of {α : Type} (d : α) : ∀ (l : List α) (n : Nat), nth d l n = (l[n]?).getD d
  | [], n => by simp [nth]
  | x :: xs, 0 => by simp [nth]
  | x :: xs, n + 1 => by simp [nth, nth_of d xs n]
theorem upd_len {α : Type} : ∀ (l : List α) (n : Nat) (y : α), (upd l n y).length = l.length
  | [], _, _ => rfl
  | _ :: xs, 0, _ => rfl
  | _ :: xs, n + 1, y => by simp [upd, upd_len xs n y]
theorem upd_set {α : Type} : ∀ (l : List α) (n : Nat) (y : α), upd l n y = l.set n y
  | [], _, _ => rfl
  | _ :: xs, 0, _ => rfl
  | x :: xs, n + 1, y => by simp [upd, upd_set xs n y]
theorem nth_upd {α : Type} (d : α) (l : List α) (n m : Nat) (y : α) : nth d (upd l n y) m = if n = m ∧ n < l.length then y else nth d l m := by
  rw [nth_of, nth_of, upd_set, List.getElem?_set]
  by_cases h : n = m
  · subst h
    by_cases h2 : n < l.length
    · simp [h2]
    · simp [h2]
  · simp [h]
theorem nth_ge {α : Type} (d : α) {l : List α} {n : Nat} (h : l.length ≤ n) : nth d l n = d := by rw [nth_of]; simp [List.getElem?_eq_none h]

/-- A step of a call: where it began, what it may write ('io'), what came in to be looked at ('fa'). -/
structure Ent where
  base : Nat
  io : Nat → Prop
  fa : Nat → Prop
  w0 : World
  cv0 : Nat → Nat → Option Value
  bk0 : Nat → Nat
  /-- Package-level variables that are looked at by those who are called: what they hold. -/
  tabs : List (String × Array Value)

def at_ (a : Addr) (k : Nat) : Addr := ⟨a.block, a.off + k, none⟩

/-- From a row's header to a header below. -/
def nav (w : World) : List (Nat × Nat) → Ls → Value → Ls → Value → Prop
  | [], e, h, e', v => e' = e ∧ v = h
  | (i, j) :: p, e, h, e', v => ∃ a len c t f h', h = .slice (some a) len c ∧ a.spot = none ∧ i < len ∧ e.kinds[j]? = some (.sl t f) ∧ w.cell? (at_ a (i * e.n + j)) = some h' ∧ nav w p f h' e' v

inductive Key where
  | blk (r : Nat)
  | lf (r j : Nat)
  | fl (k : Nat)
  deriving DecidableEq

structure Wd where
  w : World
  fz : Nat → Prop
  cv : Nat → Nat → Option Value
  bk : Nat → Nat
  om : Key → List Nat

def LAok (s : St) (W : Wd) : LA → Value → Prop
  | .bad, _ => True
  | .undef, v => v = Go.undef
  | .nils, v => v = .slice none 0 0
  | .nilp, v => v = .pointer none
  | .sc l x, v => l.rd 0 W.w W.fz v x []
  | .ref c, v => ∀ gen t e xs d, s.leaf c.r c.j = .arr c.ver gen t e xs d → (c.p = [] ∨ gen = c.gen) → ∃ h e', W.cv c.r c.j = some h ∧ nav W.w c.p e h e' v
  | .win c lo hi, v => ∀ gen t e xs d, s.leaf c.r c.j = .arr c.ver gen t e xs d → (c.p = [] ∨ gen = c.gen) → ∃ h e' A n k, W.cv c.r c.j = some h ∧ nav W.w c.p e h e' (.slice A n k) ∧
      lo ≤ hi ∧ hi ≤ n ∧ v = .slice (if k = lo then A else A.map (·.add (lo * e'.n))) (hi - lo) (k - lo)
  | .ptr r j ver, v => (s.root r).box = true → (s.root r).ver = ver → v = .pointer (some ⟨W.bk r, j, none⟩)
  | .eptr c, v => ∀ gen t e xs d, s.leaf c.r c.j = .arr c.ver gen t e xs d → (c.p.length ≤ 1 ∨ gen = c.gen) → ∃ q i off h e' a n k, splitLast c.p = some (q, i, off) ∧ W.cv c.r c.j = some h ∧
      nav W.w q e h e' (.slice (some a) n k) ∧ a.spot = none ∧ i < n ∧ v = .pointer (some (at_ a (i * e'.n + off)))
  | .fptr e x off, v => ∃ (a : Addr) (g : Nat → Option Value) (arr : Array Value) (T : TypeId) (fr : Nat × Nat), v = .pointer (some (at_ a off)) ∧ W.fz a.block ∧ W.w.heap[a.block]? = some (.cells arr T fr) ∧
      (∀ j, g j = arr[a.off + j]?) ∧ e.rd 0 W.w W.fz g x []
  | .fn f, v => v = .func (.func f) #[] #[]
  | .ifc t c, v => ∃ u, v = .iface t u ∧ ∀ gen t e xs d, s.leaf c.r c.j = .arr c.ver gen t e xs d → (c.p = [] ∨ gen = c.gen) → ∃ h e', W.cv c.r c.j = some h ∧ nav W.w c.p e h e' u
  | .clo g ps _, v => ∃ bs : List Nat, v = .func (.func g) #[] (bs.map fun b => Value.pointer (some ⟨b, 0, none⟩)).toArray ∧ bs.length = ps.length ∧ ∀ (k : Nat) (p : Nat × Nat) (b : Nat), ps[k]? = some p → bs[k]? = some b → (s.root p.1).box = true → (s.root p.1).ver = p.2 → b = W.bk p.1
  | .arr .., _ => False

def Vok (s : St) (W : Wd) (g : Bool) (as : List LA) (v : Value) : Prop := match g with
  | false => match as with
    | [a] => LAok s W a v
    | _ => False
  | true => ∃ cs : Array Value, v = .agg cs ∧ cs.size = as.length ∧ ∀ (j : Nat) (a : LA), as[j]? = some a → ∃ u, cs[j]? = some u ∧ LAok s W a u
def AVok (s : St) (W : Wd) : AV → Value → Prop
  | .v g as, v => Vok s W g as v
  | .tup vs, v => ∃ us : Array Value, v = .tuple us ∧ us.size = vs.length ∧ ∀ (j : Nat) (p : Bool × List LA), vs[j]? = some p → ∃ u, us[j]? = some u ∧ Vok s W p.1 p.2 u
  | .bx as, v => ∃ (b off : Nat) (arr : Array Value) (T : TypeId) (fr : Nat × Nat), v = .pointer (some ⟨b, off, none⟩) ∧ W.fz b ∧ W.w.heap[b]? = some (.cells arr T fr) ∧ (∀ j, j < arr.size → ¬(fr.1 ≤ j ∧ j < fr.2)) ∧ ∀ (j : Nat) (a : LA), as[j]? = some a → ∃ u, arr[off + j]? = some u ∧ LAok s W a u

/-- A leaf of a root. -/
def LeafOk (s : St) (W : Wd) (a : LA) (v? : Option Value) (o : List Nat) : Prop := match a with
  | .arr _ _ t e xs d => ∃ v, v? = some v ∧ RowRd e d W.w W.fz v xs o
  | a => o = [] ∧ ∀ v, v? = some v → LAok s W a v

def RootOk (s : St) (W : Wd) (r : Nat) (x : Root) : Prop :=
  (∀ j, LeafOk s W (nth .bad x.ls j) (W.cv r j) (W.om (.lf r j))) ∧
  (if x.box then W.om (.blk r) = [W.bk r] ∧ ∃ arr T fr, W.w.heap[W.bk r]? = some (.cells arr T fr) ∧ (∀ j, j < arr.size → ¬(fr.1 ≤ j ∧ j < fr.2)) ∧ arr.size = x.ls.length ∧ ∀ j, W.cv r j = arr[j]?
   else W.om (.blk r) = [])

structure Sep (E : Ent) (W : Wd) : Prop where
  nodup : ∀ k, (W.om k).Nodup
  disj : ∀ k k', k ≠ k' → ∀ b ∈ W.om k, b ∉ W.om k'
  own : ∀ k, ∀ b ∈ W.om k, ¬ W.fz b ∧ b < W.w.heap.size ∧ (E.base ≤ b ∨ E.io b)
  fz : ∀ b, W.fz b → b < W.w.heap.size ∧ (E.fa b ∨ E.base ≤ b ∨ E.io b)
  frame : ∀ b, b < E.base → ¬ E.io b → W.w.heap[b]? = E.w0.heap[b]?
  size : E.base ≤ W.w.heap.size
  rest : W.w.os = E.w0.os ∧ W.w.tape = E.w0.tape ∧ W.w.output = E.w0.output

structure Rep (E : Ent) (s : St) (tm : Array Value) (W : Wd) : Prop where
  len1 : s.sl.length = tm.size
  len2 : s.ro.length = tm.size
  slots : ∀ t, AVok s W (s.slot t) (tm.getD t Go.undef)
  roots : ∀ r, RootOk s W r (s.root r)
  sep : Sep E W
  init : (∀ (r j gen : Nat) (t : TypeId) (e : Ls) (xs : List e.D) (d : Nat), s.leaf r j = .arr 1 gen t e xs d → W.cv r j = E.cv0 r j) ∧ ∀ r, (s.root r).box = true → (s.root r).ver = 1 → W.bk r = E.bk0 r

/-! ### where memory turns elsewhere -/

theorem Ls.rd_kind : ∀ (e : Ls) (j : Nat) {d : Nat} {w : World} {fz : Nat → Prop} {g : Nat → Option Value} {x : e.D} {o : List Nat} {t : TypeId} {f : Ls},
    e.rd d w fz g x o → e.kinds[j]? = some (.sl t f) → ∃ (h : Value) (ys : List f.D) (o' : List Nat), g j = some h ∧ RowRd f d w fz h ys o' ∧ ∀ b ∈ o', b ∈ o
  | .nil, j, _, _, _, _, _, _, _, _, _, hk => by simp [Ls.kinds] at hk
  | .one l, j, d, w, fz, g, x, o, t, f, h, hk => by
    simp only [Ls.rd] at h
    obtain ⟨v, hg, h⟩ := h
    cases j with
    | zero => simp [Ls.kinds] at hk; subst hk; exact ⟨v, x, o, hg, h, fun b hb => hb⟩
    | succ j => simp [Ls.kinds] at hk
  | .cons l ls, j, d, w, fz, g, x, o, t, f, h, hk => by
    simp only [Ls.rd] at h
    obtain ⟨v, o1, o2, hg, h1, h2, rfl⟩ := h
    cases j with
    | zero => simp [Ls.kinds] at hk; subst hk; exact ⟨v, x.1, o1, hg, h1, fun b hb => List.mem_append_left _ hb⟩
    | succ j =>
      simp only [Ls.kinds, List.getElem?_cons_succ] at hk
      obtain ⟨h', ys, o', a, b, c⟩ := Ls.rd_kind ls j h2 hk
      exact ⟨h', ys, o', a, b, fun x hx => List.mem_append_right _ (c x hx)⟩

theorem Row.cell {w : World} {a : Addr} {n : Nat} {own : Bool} {g : Nat → Option Value} (h : Row w a n own g) (j : Nat) : w.cell? (at_ a j) = g j := by
  obtain ⟨hs, arr, T, fr, hh, hn, hb, hg⟩ := h
  simp [World.cell?, at_, hh, hg]

/-- A header below reads as the header on top does. -/
theorem nav_rd {w : World} : ∀ (p : List (Nat × Nat)) {e : Ls} {d : Nat} {fz : Nat → Prop} {h : Value} {xs : List e.D} {o : List Nat} {e' : Ls} {v : Value},
    RowRd e d w fz h xs o → nav w p e h e' v → ∃ (d' : Nat) (ys : List e'.D) (o' : List Nat), RowRd e' d' w fz v ys o' ∧ ∀ b ∈ o', b ∈ o
  | [], e, d, fz, h, xs, o, e', v, hr, hn => by
    obtain ⟨rfl, rfl⟩ := hn
    exact ⟨d, xs, o, hr, fun b hb => hb⟩
  | (i, j) :: p, e, d, fz, h, xs, o, e', v, hr, hn => by
    obtain ⟨a, len, c, t', f, h', rfl, hs, hi, hk, hc, hn⟩ := hn
    obtain ⟨A, c', hv, hle, hr⟩ := hr
    injection hv with hA hl hc'
    subst hA
    have hi' : i < xs.length := hl ▸ hi
    rcases hr with hr | ⟨g, os, hrow, hel, ho⟩
    · have := hr.2.1; omega
    obtain ⟨h2, ys, o', hg, hrd, hsub⟩ := Ls.rd_kind e j (hel i hi') hk
    have : h2 = h' := by
      have := hrow.cell (i * e.n + j)
      rw [this, hg] at hc
      exact Option.some.inj hc
    subst this
    obtain ⟨d2, zs, o2, hz, hs2⟩ := nav_rd p hrd hn
    refine ⟨d2, zs, o2, hz, fun b hb => ?_⟩
    have hb' := hsub b (hs2 b hb)
    revert ho
    cases decide (0 < d) with
    | true => intro ho; rw [ho]; exact List.mem_cons_of_mem _ (List.mem_flatMap.2 ⟨i, List.mem_range.2 hi', hb'⟩)
    | false => intro ho; rw [ho.2.2 i hi'] at hb'; cases hb'

theorem nav_frame {w w' : World} : ∀ (p : List (Nat × Nat)) {e : Ls} {d : Nat} {fz : Nat → Prop} {h : Value} {xs : List e.D} {o : List Nat} {e' : Ls} {v : Value},
    RowRd e d w fz h xs o → nav w p e h e' v → (∀ b, b ∈ o ∨ fz b → w'.heap[b]? = w.heap[b]?) → nav w' p e h e' v
  | [], e, d, fz, h, xs, o, e', v, hr, hn, hf => hn
  | (i, j) :: p, e, d, fz, h, xs, o, e', v, hr, hn, hf => by
    obtain ⟨a, len, c, t', f, h', rfl, hs, hi, hk, hc, hn⟩ := hn
    obtain ⟨A, c', hv, hle, hr⟩ := hr
    injection hv with hA hl hc'
    subst hA
    have hi' : i < xs.length := hl ▸ hi
    rcases hr with hr | ⟨g, os, hrow, hel, ho⟩
    · have := hr.2.1; omega
    obtain ⟨h2, ys, o', hg, hrd, hsub⟩ := Ls.rd_kind e j (hel i hi') hk
    have hblk : a.block ∈ o ∨ fz a.block := by
      revert ho
      cases decide (0 < d) with
      | true => intro ho; left; rw [ho]; simp
      | false => intro ho; exact .inr ho.1
    have : h2 = h' := by
      have := hrow.cell (i * e.n + j)
      rw [this, hg] at hc
      exact Option.some.inj hc
    subst this
    refine ⟨a, len, c, t', f, h2, rfl, hs, hi, hk, ?_, nav_frame p hrd hn fun b hb => hf b ?_⟩
    · rw [(hrow.frame (hf _ hblk)).cell, hg]
    · rcases hb with hb | hb
      · have hb' := hsub b hb
        left
        revert ho
        cases decide (0 < d) with
        | true => intro ho; rw [ho]; exact List.mem_cons_of_mem _ (List.mem_flatMap.2 ⟨i, List.mem_range.2 hi', hb'⟩)
        | false => intro ho; rw [ho.2.2 i hi'] at hb'; cases hb'
      · exact .inr hb

section
variable {E : Ent} {s s' : St} {tm : Array Value} {W : Wd} {w' : World}

theorem RootOk.row {r : Nat} (h : RootOk s W r (s.root r)) {j ver gen : Nat} {t : TypeId} {e : Ls} {xs : List e.D} {d : Nat} (hl : s.leaf r j = .arr ver gen t e xs d) :
    ∃ v, W.cv r j = some v ∧ RowRd e d W.w W.fz v xs (W.om (.lf r j)) := by
  have := h.1 j
  unfold St.leaf at hl
  rw [hl] at this
  exact this

/-- Memory turned, but nowhere that anything here reads. -/
def Still (W : Wd) (w' : World) : Prop := ∀ b, (W.fz b ∨ ∃ k, b ∈ W.om k) → w'.heap[b]? = W.w.heap[b]?

theorem LAok.world (hr : ∀ r, RootOk s W r (s.root r)) (hf : Still W w') {a : LA} {v : Value} (h : LAok s W a v) : LAok s { W with w := w' } a v := by
  cases a with
  | bad => trivial
  | undef => exact h
  | nils => exact h
  | nilp => exact h
  | sc l x => exact L.rd_frame l h (fun b hb => hf b (hb.elim (fun hb => by cases hb) .inl)) fun b hb => hb
  | ref c =>
    intro gen t e xs d hl hp
    obtain ⟨h', e', hc, hn⟩ := h gen t e xs d hl hp
    obtain ⟨u, hu, hrd⟩ := (hr c.r).row hl
    have : u = h' := Option.some.inj (hu.symm.trans hc)
    subst this
    exact ⟨u, e', hc, nav_frame _ hrd hn fun b hb => hf b (hb.elim (fun hb => .inr ⟨_, hb⟩) .inl)⟩
  | win c lo hi =>
    intro gen t e xs d hl hp
    obtain ⟨h', e', A, n, k, hc, hn, rest⟩ := h gen t e xs d hl hp
    obtain ⟨u, hu, hrd⟩ := (hr c.r).row hl
    have : u = h' := Option.some.inj (hu.symm.trans hc)
    subst this
    exact ⟨u, e', A, n, k, hc, nav_frame _ hrd hn fun b hb => hf b (hb.elim (fun hb => .inr ⟨_, hb⟩) .inl), rest⟩
  | ptr r j ver => exact h
  | eptr c =>
    intro gen t e xs d hl hp
    obtain ⟨q, i, off, h', e', a, n, k, hs, hc, hn, rest⟩ := h gen t e xs d hl hp
    obtain ⟨u, hu, hrd⟩ := (hr c.r).row hl
    have : u = h' := Option.some.inj (hu.symm.trans hc)
    subst this
    exact ⟨q, i, off, u, e', a, n, k, hs, hc, nav_frame _ hrd hn fun b hb => hf b (hb.elim (fun hb => .inr ⟨_, hb⟩) .inl), rest⟩
  | fptr e x off =>
    obtain ⟨a, g, arr, T, fr, hv, hz, hh, hg, hrd⟩ := h
    exact ⟨a, g, arr, T, fr, hv, hz, (hf _ (.inl hz)).trans hh, hg, Ls.rd_frame e hrd (fun b hb => hf b (hb.elim (fun hb => by cases hb) .inl)) fun b hb => hb⟩
  | fn f => exact h
  | ifc t c =>
    obtain ⟨u, hv, h⟩ := h
    refine ⟨u, hv, fun gen t e xs d hl hp => ?_⟩
    obtain ⟨h', e', hc, hn⟩ := h gen t e xs d hl hp
    obtain ⟨u', hu, hrd⟩ := (hr c.r).row hl
    have : u' = h' := Option.some.inj (hu.symm.trans hc)
    subst this
    exact ⟨u', e', hc, nav_frame _ hrd hn fun b hb => hf b (hb.elim (fun hb => .inr ⟨_, hb⟩) .inl)⟩
  | clo g ps qs => exact h
  | arr => exact h

theorem Vok.map {s s' : St} {W W' : Wd} (f : ∀ a v, LAok s W a v → LAok s' W' a v) {g : Bool} {as : List LA} {v : Value} (h : Vok s W g as v) : Vok s' W' g as v := by
  unfold Vok at *
  cases g with
  | false => cases as with
    | nil => exact h
    | cons a as => cases as with
      | nil => exact f _ _ h
      | cons => exact h
  | true =>
    obtain ⟨cs, hv, hs, h⟩ := h
    exact ⟨cs, hv, hs, fun j a ha => let ⟨u, hu, hl⟩ := h j a ha; ⟨u, hu, f _ _ hl⟩⟩
theorem AVok.map {s s' : St} {W W' : Wd} (hz : ∀ b, W.fz b → W'.fz b ∧ W'.w.heap[b]? = W.w.heap[b]?) (f : ∀ a v, LAok s W a v → LAok s' W' a v) {a : AV} {v : Value} (h : AVok s W a v) : AVok s' W' a v := by
  cases a with
  | v g as => exact Vok.map f h
  | tup vs =>
    obtain ⟨us, hv, hs, h⟩ := h
    exact ⟨us, hv, hs, fun j p hp => let ⟨u, hu, hl⟩ := h j p hp; ⟨u, hu, Vok.map f hl⟩⟩
  | bx as =>
    obtain ⟨b, off, arr, T, fr, hv, h1, h2, h3, h⟩ := h
    exact ⟨b, off, arr, T, fr, hv, (hz b h1).1, (hz b h1).2.trans h2, h3, fun j a ha => let ⟨u, hu, hl⟩ := h j a ha; ⟨u, hu, f _ _ hl⟩⟩
theorem LeafOk.map {s s' : St} {W W' : Wd} (f : ∀ a v, LAok s W a v → LAok s' W' a v) {a : LA} {v? : Option Value} {o : List Nat}
    (g : ∀ (e : Ls) (d : Nat) (xs : List e.D) (v : Value), RowRd e d W.w W.fz v xs o → RowRd e d W'.w W'.fz v xs o) (h : LeafOk s W a v? o) : LeafOk s' W' a v? o := by
  unfold LeafOk at *
  cases a with
  | arr ver gen t e xs d => obtain ⟨v, hv, h⟩ := h; exact ⟨v, hv, g _ _ _ _ h⟩
  | _ => exact ⟨h.1, fun v hv => f _ _ (h.2 v hv)⟩

theorem Rep.world (h : Rep E s tm W) (hf : Still W w') (hb : ∀ b, b < E.base → ¬ E.io b → w'.heap[b]? = W.w.heap[b]?) (hs : W.w.heap.size ≤ w'.heap.size) (ho : w'.os = W.w.os ∧ w'.tape = W.w.tape ∧ w'.output = W.w.output) : Rep E s tm { W with w := w' } where
  len1 := h.len1
  len2 := h.len2
  slots t := AVok.map (W := W) (W' := { W with w := w' }) (fun b hb => ⟨hb, hf b (.inl hb)⟩) (fun _ _ => LAok.world h.roots hf) (h.slots t)
  roots r := by
    obtain ⟨h1, h2⟩ := h.roots r
    refine ⟨fun j => (h1 j).map (fun _ _ => LAok.world h.roots hf) fun e d xs v hrd => hrd.frame (fun b hb => hf b (hb.elim (fun hb => .inr ⟨_, hb⟩) .inl)) fun b hb => hb, ?_⟩
    split
    · rename_i hbx
      rw [if_pos hbx] at h2
      obtain ⟨ho, arr, T, fr, hh, rest⟩ := h2
      exact ⟨ho, arr, T, fr, (hf _ (.inr ⟨.blk r, by rw [ho]; simp⟩)).trans hh, rest⟩
    · rename_i hbx; rw [if_neg hbx] at h2; exact h2
  sep := {
    nodup := h.sep.nodup
    disj := h.sep.disj
    own := fun k b hb => let ⟨a, c, d⟩ := h.sep.own k b hb; ⟨a, Nat.lt_of_lt_of_le c hs, d⟩
    fz := fun b hb' => let ⟨a, c⟩ := h.sep.fz b hb'; ⟨Nat.lt_of_lt_of_le a hs, c⟩
    frame := fun b hb1 hb2 => (hb b hb1 hb2).trans (h.sep.frame b hb1 hb2)
    size := Nat.le_trans h.sep.size hs
    rest := ⟨ho.1.trans h.sep.rest.1, ho.2.1.trans h.sep.rest.2.1, ho.2.2.trans h.sep.rest.2.2⟩ }
  init := h.init
theorem Rep.still_lt (h : Rep E s tm W) (hf : ∀ b, b < W.w.heap.size → w'.heap[b]? = W.w.heap[b]?) : Still W w' := by
  intro b hb
  rcases hb with hb | ⟨k, hb⟩
  · exact hf b (h.sep.fz b hb).1
  · exact hf b (h.sep.own k b hb).2.1

end

end Go.Ev

namespace Go.Ev
set_option linter.unusedVariables false

/-- The version 'v' is nowhere yet. -/
def LA.isArr : LA → Bool
  | .arr _ _ _ _ _ _ => true
  | _ => false
def NoVer (s : St) (v : Nat) : Prop := (∀ t, v ∉ (s.slot t).vers) ∧ (∀ r j, (s.leaf r j).isArr = true ∨ v ∉ (s.leaf r j).vers) ∧ 1 < v

structure Turn (v : Nat) (s s' : St) (W W' : Wd) : Prop where
  fz : ∀ b, W.fz b → W'.fz b
  fzm : ∀ b, W.fz b → W'.w.heap[b]? = W.w.heap[b]?
  leaf : ∀ r j ver gen t e xs d, s'.leaf r j = .arr ver gen t e xs d → ver ≠ v → W'.cv r j = W.cv r j ∧
    ∃ gen0 t0 xs0 d0, s.leaf r j = .arr ver gen0 t0 e xs0 d0 ∧ (gen ≠ v → gen = gen0 ∧ ∀ p h e' u, W.cv r j = some h → nav W.w p e h e' u → nav W'.w p e h e' u)
  box : ∀ r, (s'.root r).box = true → (s'.root r).ver ≠ v → (s.root r).box = true ∧ (s.root r).ver = (s'.root r).ver ∧ W'.bk r = W.bk r

section
variable {v : Nat} {E : Ent} {s s' : St} {tm tm' : Array Value} {W W' : Wd}

theorem splitLast_len : ∀ {p q : List (Nat × Nat)} {i off : Nat}, splitLast p = some (q, i, off) → p = q ++ [(i, off)]
  | [], _, _, _, h => by simp [splitLast] at h
  | [x], q, i, off, h => by simp [splitLast] at h; obtain ⟨rfl, rfl, rfl⟩ := h; rfl
  | x :: y :: r, q, i, off, h => by
    simp only [splitLast] at h
    split at h
    · rename_i q' i' off' hq
      injection h with h
      injection h with h1 h2
      injection h2 with h2 h3
      subst h1; subst h2; subst h3
      rw [splitLast_len hq]; rfl
    · cases h

theorem LAok.turn (h : Turn v s s' W W') {a : LA} {u : Value} (hv : v ∉ a.vers) (ha : LAok s W a u) : LAok s' W' a u := by
  cases a with
  | bad => trivial
  | undef => exact ha
  | nils => exact ha
  | nilp => exact ha
  | sc l x => exact L.rd_frame l ha (fun b hb => h.fzm b (hb.elim (fun hb => by cases hb) id)) h.fz
  | ref c =>
    intro gen t e xs d hl hp
    have hne : c.ver ≠ v ∧ c.gen ≠ v := by simp [LA.vers] at hv; exact ⟨fun e => hv.1 e.symm, fun e => hv.2 e.symm⟩
    obtain ⟨hc, gen0, t0, xs0, d0, hl0, hg⟩ := h.leaf _ _ _ _ _ _ _ _ hl hne.1
    by_cases hn : c.p = []
    · obtain ⟨h', e', hc', hn'⟩ := ha _ _ _ _ _ hl0 (.inl hn)
      rw [hn] at hn'
      exact ⟨h', e', hc.trans hc', by rw [hn]; exact hn'⟩
    · have hge : gen = c.gen := hp.resolve_left hn
      obtain ⟨rfl, hnav⟩ := hg (by rw [hge]; exact hne.2)
      obtain ⟨h', e', hc', hn'⟩ := ha _ _ _ _ _ hl0 (.inr hge)
      exact ⟨h', e', hc.trans hc', hnav _ _ _ _ hc' hn'⟩
  | win c lo hi =>
    intro gen t e xs d hl hp
    have hne : c.ver ≠ v ∧ c.gen ≠ v := by simp [LA.vers] at hv; exact ⟨fun e => hv.1 e.symm, fun e => hv.2 e.symm⟩
    obtain ⟨hc, gen0, t0, xs0, d0, hl0, hg⟩ := h.leaf _ _ _ _ _ _ _ _ hl hne.1
    by_cases hn : c.p = []
    · obtain ⟨h', e', A, n, k, hc', hn', rest⟩ := ha _ _ _ _ _ hl0 (.inl hn)
      rw [hn] at hn'
      exact ⟨h', e', A, n, k, hc.trans hc', by rw [hn]; exact hn', rest⟩
    · have hge : gen = c.gen := hp.resolve_left hn
      obtain ⟨rfl, hnav⟩ := hg (by rw [hge]; exact hne.2)
      obtain ⟨h', e', A, n, k, hc', hn', rest⟩ := ha _ _ _ _ _ hl0 (.inr hge)
      exact ⟨h', e', A, n, k, hc.trans hc', hnav _ _ _ _ hc' hn', rest⟩
  | ptr r j ver =>
    intro hb hver
    have hne : ver ≠ v := by simp [LA.vers] at hv; exact fun e => hv e.symm
    obtain ⟨b1, b2, b3⟩ := h.box r hb (by rw [hver]; exact hne)
    rw [b3]
    exact ha b1 (b2.trans hver)
  | eptr c =>
    intro gen t e xs d hl hp
    have hne : c.ver ≠ v ∧ c.gen ≠ v := by simp [LA.vers] at hv; exact ⟨fun e => hv.1 e.symm, fun e => hv.2 e.symm⟩
    obtain ⟨hc, gen0, t0, xs0, d0, hl0, hg⟩ := h.leaf _ _ _ _ _ _ _ _ hl hne.1
    by_cases hn : c.p.length ≤ 1
    · obtain ⟨q, i, off, h', e', a, n, k, hs, hc', hn', rest⟩ := ha _ _ _ _ _ hl0 (.inl hn)
      have hq : q = [] := by
        have h1 := splitLast_len hs
        rw [h1, List.length_append] at hn
        simpa using hn
      subst hq
      exact ⟨[], i, off, h', e', a, n, k, hs, hc.trans hc', hn', rest⟩
    · have hge : gen = c.gen := hp.resolve_left hn
      obtain ⟨rfl, hnav⟩ := hg (by rw [hge]; exact hne.2)
      obtain ⟨q, i, off, h', e', a, n, k, hs, hc', hn', rest⟩ := ha _ _ _ _ _ hl0 (.inr hge)
      exact ⟨q, i, off, h', e', a, n, k, hs, hc.trans hc', hnav _ _ _ _ hc' hn', rest⟩
  | fptr e x off =>
    obtain ⟨a, g, arr, T, fr, hv', hz, hh, hg, hrd⟩ := ha
    exact ⟨a, g, arr, T, fr, hv', h.fz _ hz, (h.fzm _ hz).trans hh, hg, Ls.rd_frame e hrd (fun b hb => h.fzm b (hb.elim (fun hb => by cases hb) id)) h.fz⟩
  | fn f => exact ha
  | ifc tt c =>
    obtain ⟨u', hv', ha⟩ := ha
    refine ⟨u', hv', fun gen t e xs d hl hp => ?_⟩
    have hne : c.ver ≠ v ∧ c.gen ≠ v := by simp [LA.vers] at hv; exact ⟨fun e => hv.1 e.symm, fun e => hv.2 e.symm⟩
    obtain ⟨hc, gen0, t0, xs0, d0, hl0, hg⟩ := h.leaf _ _ _ _ _ _ _ _ hl hne.1
    by_cases hn : c.p = []
    · obtain ⟨h', e', hc', hn'⟩ := ha _ _ _ _ _ hl0 (.inl hn)
      rw [hn] at hn'
      exact ⟨h', e', hc.trans hc', by rw [hn]; exact hn'⟩
    · have hge : gen = c.gen := hp.resolve_left hn
      obtain ⟨rfl, hnav⟩ := hg (by rw [hge]; exact hne.2)
      obtain ⟨h', e', hc', hn'⟩ := ha _ _ _ _ _ hl0 (.inr hge)
      exact ⟨h', e', hc.trans hc', hnav _ _ _ _ hc' hn'⟩
  | clo g ps qs =>
    obtain ⟨bs, hu, hlen, hk⟩ := ha
    refine ⟨bs, hu, hlen, fun k p b hp hb h1 h2 => ?_⟩
    have hne : p.2 ≠ v := fun e => hv (by simp only [LA.vers]; exact List.mem_map.2 ⟨p, List.mem_of_getElem? hp, e⟩)
    obtain ⟨b1, b2, b3⟩ := h.box p.1 h1 (by rw [h2]; exact hne)
    rw [b3]
    exact hk k p b hp hb b1 (b2.trans h2)
  | arr => exact ha

theorem Vok.turn (h : Turn v s s' W W') {g : Bool} {as : List LA} {u : Value} (hv : ∀ a ∈ as, v ∉ a.vers) (ha : Vok s W g as u) : Vok s' W' g as u := by
  unfold Vok at *
  cases g with
  | false => cases as with
    | nil => exact ha
    | cons a as => cases as with
      | nil => exact LAok.turn h (hv a (by simp)) ha
      | cons => exact ha
  | true =>
    obtain ⟨cs, hc, hs, ha⟩ := ha
    exact ⟨cs, hc, hs, fun j a hj => let ⟨u, hu, hl⟩ := ha j a hj; ⟨u, hu, LAok.turn h (hv a (List.mem_of_getElem? hj)) hl⟩⟩
theorem AVok.turn (h : Turn v s s' W W') {a : AV} {u : Value} (hv : v ∉ a.vers) (ha : AVok s W a u) : AVok s' W' a u := by
  cases a with
  | v g as => exact Vok.turn h (fun a hm hx => hv (List.mem_flatMap.2 ⟨a, hm, hx⟩)) ha
  | tup vs =>
    obtain ⟨us, hu, hs, ha⟩ := ha
    refine ⟨us, hu, hs, fun j p hp => ?_⟩
    obtain ⟨u, hu, hl⟩ := ha j p hp
    exact ⟨u, hu, Vok.turn h (fun a hm hx => hv (List.mem_flatMap.2 ⟨p, List.mem_of_getElem? hp, List.mem_flatMap.2 ⟨a, hm, hx⟩⟩)) hl⟩
  | bx as =>
    obtain ⟨b, off, arr, T, fr, hu, h1, h2, h3, ha⟩ := ha
    refine ⟨b, off, arr, T, fr, hu, h.fz b h1, (h.fzm b h1).trans h2, h3, fun j a hj => ?_⟩
    obtain ⟨u, hu, hl⟩ := ha j a hj
    exact ⟨u, hu, LAok.turn h (fun hx => hv (List.mem_flatMap.2 ⟨a, List.mem_of_getElem? hj, hx⟩)) hl⟩

theorem nth_mem {α : Type} {d : α} {l : List α} {n : Nat} (h : n < l.length) : nth d l n ∈ l := by
  rw [nth_of, List.getElem?_eq_getElem h]; simp
theorem LeafOk.turn (h : Turn v s s' W W') {a : LA} {v? : Option Value} {o : List Nat} (hv : a.isArr = true ∨ v ∉ a.vers) (ho : ∀ b ∈ o, W'.w.heap[b]? = W.w.heap[b]?) (ha : LeafOk s W a v? o) : LeafOk s' W' a v? o := by
  unfold LeafOk at *
  cases a with
  | arr ver gen t e xs d =>
    obtain ⟨u, hu, hr⟩ := ha
    exact ⟨u, hu, hr.frame (fun b hb => hb.elim (ho b) (h.fzm b)) h.fz⟩
  | _ => exact ⟨ha.1, fun u hu => LAok.turn h (hv.resolve_left (by simp [LA.isArr])) (ha.2 u hu)⟩
/-- What is owned goes round: keys 'ch' alone turn, and have what such keys had, or what is new. -/
theorem Sep.redo (h : Sep E W) (ch : Key → Prop) (hfz : W'.fz = W.fz) (hsz : W.w.heap.size ≤ W'.w.heap.size)
    (hfr : ∀ b, b < E.base → ¬ E.io b → W'.w.heap[b]? = W.w.heap[b]?) (ho : W'.w.os = W.w.os ∧ W'.w.tape = W.w.tape ∧ W'.w.output = W.w.output)
    (hsame : ∀ k, ¬ ch k → W'.om k = W.om k) (hnd : ∀ k, ch k → (W'.om k).Nodup) (hdis : ∀ k k', ch k → ch k' → k ≠ k' → ∀ b ∈ W'.om k, b ∉ W'.om k')
    (hfrom : ∀ k, ch k → ∀ b ∈ W'.om k, (∃ k0, ch k0 ∧ b ∈ W.om k0) ∨ (W.w.heap.size ≤ b ∧ b < W'.w.heap.size)) : Sep E W' where
  nodup k := by
    by_cases hk : ch k
    · exact hnd k hk
    · rw [hsame k hk]; exact h.nodup k
  disj k k' hne b hb hb' := by
    by_cases hk : ch k <;> by_cases hk' : ch k'
    · exact hdis k k' hk hk' hne b hb hb'
    · rw [hsame k' hk'] at hb'
      rcases hfrom k hk b hb with ⟨k0, hk0, h0⟩ | ⟨h0, _⟩
      · exact h.disj k0 k' (fun e => hk' (e ▸ hk0)) b h0 hb'
      · have := (h.own k' b hb').2.1; omega
    · rw [hsame k hk] at hb
      rcases hfrom k' hk' b hb' with ⟨k0, hk0, h0⟩ | ⟨h0, _⟩
      · exact h.disj k0 k (fun e => hk (e ▸ hk0)) b h0 hb
      · have := (h.own k b hb).2.1; omega
    · rw [hsame k hk] at hb; rw [hsame k' hk'] at hb'; exact h.disj k k' hne b hb hb'
  own k b hb := by
    rw [hfz]
    by_cases hk : ch k
    · rcases hfrom k hk b hb with ⟨k0, _, h0⟩ | ⟨h0, h1⟩
      · obtain ⟨a, c, d⟩ := h.own k0 b h0; exact ⟨a, by omega, d⟩
      · exact ⟨fun hz => by have := (h.fz b hz).1; omega, h1, .inl (by have := h.size; omega)⟩
    · rw [hsame k hk] at hb
      obtain ⟨a, c, d⟩ := h.own k b hb; exact ⟨a, by omega, d⟩
  fz b hb := by rw [hfz] at hb; obtain ⟨a, c⟩ := h.fz b hb; exact ⟨by omega, c⟩
  frame b h1 h2 := (hfr b h1 h2).trans (h.frame b h1 h2)
  size := Nat.le_trans h.size hsz
  rest := ⟨ho.1.trans h.rest.1, ho.2.1.trans h.rest.2.1, ho.2.2.trans h.rest.2.2⟩

theorem Rep.redo (h : Rep E s tm W) (hv : NoVer s v) (ht : Turn v s s' W W') (hsep : Sep E W') (l1 : s'.sl.length = tm'.size) (l2 : s'.ro.length = tm'.size)
    (hs : ∀ t, (s'.slot t = s.slot t ∧ tm'.getD t Go.undef = tm.getD t Go.undef) ∨ AVok s' W' (s'.slot t) (tm'.getD t Go.undef))
    (hr : ∀ r, RootOk s' W' r (s'.root r)) : Rep E s' tm' W' where
  len1 := l1
  len2 := l2
  slots t := by
    rcases hs t with ⟨a, b⟩ | a
    · rw [a, b]; exact AVok.turn ht (hv.1 t) (h.slots t)
    · exact a
  roots := hr
  sep := hsep
  init := by
    have h1 : 1 ≠ v := Nat.ne_of_lt hv.2.2
    refine ⟨fun r j gen t e xs d hl => ?_, fun r hb hver => ?_⟩
    · obtain ⟨hc, gen0, t0, xs0, d0, hl0, _⟩ := ht.leaf r j 1 gen t e xs d hl h1
      exact hc.trans (h.init.1 _ _ _ _ _ _ _ hl0)
    · obtain ⟨b1, b2, b3⟩ := ht.box r hb (by rw [hver]; exact h1)
      exact b3.trans (h.init.2 r b1 (b2.trans hver))
end

end Go.Ev

namespace Go.Ev
set_option linter.unusedVariables false
set_option linter.unusedSimpArgs false

def zcell : L → Value
  | .int k => .int k 0
  | .bool => .bool false
  | .str => .string .empty
  | .sl _ _ => .slice none 0 0

/-- An element's type is what its leaves say. -/
structure ElF (P : Program) (t : TypeId) (e : Ls) : Prop where
  info : ∃ i, P.info? t = some i ∧ i.size = e.n ∧ i.bytes ≤ 1024 ∧ ∃ z, i.zero = some z ∧ z.cells = (e.kinds.map zcell).toArray
  pos : 0 < e.n

def LoneF (P : Program) (t : TypeId) : L → Prop
  | .int k => P.underlying t = some (.int k)
  | .bool => P.underlying t = some .bool
  | .str => P.underlying t = some .string
  | .sl t' e => P.underlying t = some (.slice t') ∧ ElF P t' e

/-- A field of one plain cell. -/
def PlainF (P : Program) (t : TypeId) : L → Prop
  | .int k => P.underlying t = some (.int k)
  | .bool => P.underlying t = some .bool
  | .str => P.underlying t = some .string
  | .sl _ _ => False
def FieldsF (P : Program) : Nat → List Field → List L → Prop
  | _, [], [] => True
  | n, f :: fs, l :: ls => f.name ≠ "_" ∧ f.offset = n ∧ PlainF P f.type l ∧ FieldsF P (n + 1) fs ls
  | _, _, _ => False
structure EqF (P : Program) (t : TypeId) (ls : List L) : Prop where
  held : P.stoodInHeld t = false
  guard : P.eqGuardType P.depth t = false
  fields : ∃ fs : Array Field, P.underlying t = some (.struct fs) ∧ FieldsF P 0 fs.toList ls
structure TyF (P : Program) (t : TypeId) (ty : Ty) : Prop where
  info : ∃ i, P.info? t = some i ∧ i.size = ty.ls.n ∧ ∃ z, i.zero = some z ∧ z.cells = (ty.ls.kinds.map zcell).toArray ∧ (z = .agg (ty.ls.kinds.map zcell).toArray ∨ ty.agg = false)
  agg : ty.agg = true → ∃ fs : Array Field, P.underlying t = some (.struct fs) ∧ fs.toList.map (fun f => (f.offset, f.type)) = ty.fs ∧ ∃ pl, fs.toList.mapM (fun f => (P.info? f.type).map fun i => (f.offset, i.size)) = some pl
  lone : ty.agg = false → ∃ l, ty.ls = .one l ∧ LoneF P t l
  eqs : ty.eq = true → EqF P t ty.ls.kinds

/-- A type of one cell of which nothing is told. -/
def OpqF (P : Program) (t : TypeId) : Prop := ∃ i z c, P.info? t = some i ∧ i.size = 1 ∧ i.zero = some z ∧ z.cells = #[c] ∧ c.oneCell' = true
def FtyOk (P : Program) (env : Env) : Prop := ∀ t, env.fty t = true → OpqF P t
def CxF (P : Program) (cx : Cx) : Prop := ∀ t ty, cx.ty t = some ty → TyF P t ty

theorem LoneF.notAgg {P : Program} {t : TypeId} {l : L} (h : LoneF P t l) : ∃ d, P.underlying t = some d ∧ (match d with | .struct _ | .array _ _ => true | _ => false) = false := by
  cases l with
  | int k => exact ⟨_, h, rfl⟩
  | bool => exact ⟨_, h, rfl⟩
  | str => exact ⟨_, h, rfl⟩
  | sl t' e => exact ⟨_, h.1, rfl⟩

def Goes (P : Program) (E : Ent) (o : Oper) (a : Act) (w : World) (s' : St) : Prop :=
  ∀ (next : Act → World → Prop) (Q : Exit → Act → World → Prop), (∀ a' W', a'.defers = a.defers → Rep E s' a'.tmps W' → next a' W'.w) → o.wp P a w next Q

section
variable {P : Program} {E : Ent} {s : St} {tm : Array Value} {W : Wd} {o : Oper} {a : Act}

theorem slot_app (s : St) (d : Nat) (x : AV) (t : Nat) : (s.app1 (.slot d x)).slot t = if d = t ∧ d < s.sl.length then x else s.slot t := nth_upd _ _ _ _ _
theorem root_app (s : St) (d : Nat) (x : Root) (t : Nat) : (s.app1 (.root d x)).root t = if d = t ∧ d < s.ro.length then x else s.root t := nth_upd _ _ _ _ _

theorem Rep.slot (h : Rep E s tm W) (d : Nat) {x : AV} {u : Value} (hx : AVok s W x u) : Rep E (s.app1 (.slot d x)) (tm.setIfInBounds d u) W where
  len1 := by simp [St.app1, upd_len, h.len1]
  len2 := by simp [St.app1, h.len2]
  slots t := by
    rw [slot_app]
    by_cases hd : d = t ∧ d < s.sl.length
    · obtain ⟨rfl, hlt⟩ := hd
      rw [if_pos ⟨rfl, hlt⟩]
      have : (tm.setIfInBounds d u).getD d Go.undef = u := by
        rw [h.len1] at hlt
        simp [Array.getElem?_setIfInBounds, hlt]
      rw [this]; exact hx
    · rw [if_neg hd]
      have : (tm.setIfInBounds d u).getD t Go.undef = tm.getD t Go.undef := by
        by_cases hdt : d = t
        · have : ¬ d < tm.size := fun hl => hd ⟨hdt, by rw [h.len1]; exact hl⟩
          subst hdt
          simp [Array.getElem?_setIfInBounds, this]
        · simp [Array.getElem?_setIfInBounds, hdt]
      rw [this]; exact h.slots t
  roots r := h.roots r
  sep := h.sep
  init := h.init

theorem Rep.outs (h : Rep E s tm W) (dst : Option Nat) {x : AV} {u : Value} (hx : AVok s W x u) :
    Rep E (s.app (match dst with | some d => [.slot d x] | none => [])) (match dst with | some d => tm.setIfInBounds d u | none => tm) W := by
  cases dst with
  | none => exact h
  | some d => exact h.slot d hx

theorem const_ok (v : Value) : LAok s W (ofConst v) v := by
  cases v with
  | int k n => exact ⟨rfl, rfl⟩
  | bool b => exact ⟨rfl, rfl⟩
  | string b => exact ⟨by simp, rfl⟩
  | slice A n c =>
    cases A with
    | none => cases n with
      | zero => cases c with
        | zero => exact rfl
        | succ c => trivial
      | succ n => trivial
    | some a => trivial
  | pointer A => cases A with
    | none => exact rfl
    | some a => trivial
  | _ => trivial

theorem opd_ok (h : Rep E s a.tmps W) (x : Operand) : AVok s W (s.opd x) (a.eval x) := by
  cases x with
  | tmp t => exact h.slots t
  | const v =>
    cases v with
    | agg cs =>
      refine ⟨cs, rfl, by simp, fun j b hj => ?_⟩
      simp only [List.getElem?_map] at hj
      cases hc : cs.toList[j]? with
      | none => rw [hc] at hj; cases hj
      | some u =>
        rw [hc] at hj; injection hj with hj; subst hj
        exact ⟨u, by simpa using hc, const_ok u⟩
    | bool b => exact const_ok (s := s) (W := W) (.bool b)
    | int k n => exact const_ok (s := s) (W := W) (.int k n)
    | float k n => exact const_ok (s := s) (W := W) (.float k n)
    | complex k x y => exact const_ok (s := s) (W := W) (.complex k x y)
    | string b => exact const_ok (s := s) (W := W) (.string b)
    | pointer b => exact const_ok (s := s) (W := W) (.pointer b)
    | slice b n c => exact const_ok (s := s) (W := W) (.slice b n c)
    | map r => exact const_ok (s := s) (W := W) (.map r)
    | chan r => exact const_ok (s := s) (W := W) (.chan r)
    | func f x y => exact const_ok (s := s) (W := W) (.func f x y)
    | nilFunc => exact const_ok (s := s) (W := W) .nilFunc
    | iface t x => exact const_ok (s := s) (W := W) (.iface t x)
    | nilIface => exact const_ok (s := s) (W := W) .nilIface
    | tuple vs => exact const_ok (s := s) (W := W) (.tuple vs)
  | global g => exact trivial
  | func f => exact rfl

theorem opd1_ok (h : Rep E s a.tmps W) (x : Operand) : LAok s W (s.opd1 x) (a.eval x) := by
  have := opd_ok h x
  unfold St.opd1
  revert this
  cases s.opd x with
  | tup vs => intro _; trivial
  | bx as => intro _; trivial
  | v g as =>
    cases g with
    | true => intro _; cases as with
      | nil => trivial
      | cons b bs => cases bs <;> trivial
    | false => cases as with
      | nil => intro _; trivial
      | cons b bs => cases bs with
        | nil => intro h; exact h
        | cons => intro _; trivial

/-- An operation that hands on a value, memory as it was. -/
theorem goes_value (h : Rep E s a.tmps W) {u : Value} {x : AV} (hrun : (execOp a.eval o).run P W.w = .ok (.value u) W.w) (hx : AVok s W x u) :
    Goes P E o a W.w (s.app (match o.dst with | some d => [.slot d x] | none => [])) := by
  intro next Q hn
  unfold Oper.wp
  rw [hrun]
  show next (a.put o.dst u) W.w
  refine hn _ W ?_ ?_
  · cases o.dst <;> rfl
  · have := h.outs o.dst hx
    cases hd : o.dst with
    | none => rw [hd] at this; exact this
    | some d => rw [hd] at this; exact this

theorem goes_move (h : Rep E s a.tmps W) {x : Operand} (ho : o.op = .move x) : Goes P E o a W.w (s.app (match o.dst with | some d => [.slot d (s.opd x)] | none => [])) :=
  goes_value h (by simp [execOp, ho]) (opd_ok h x)

theorem IntKind.code_beq {i j : IntKind} (h : (IntKind.code i == IntKind.code j) = true) : i = j := IntKind.code_inj (by simpa using h)

theorem scI_ok (k : IntKind) (n : Int) : AVok s W (scI k n) (.int k n) := ⟨rfl, rfl⟩
theorem scB_ok (b : Bool) : AVok s W (scB b) (.bool b) := ⟨rfl, rfl⟩
theorem scS_ok (b : List UInt8) : AVok s W (scS b) (.string ⟨b.toArray⟩) := ⟨rfl, rfl⟩

theorem tyIs_bool {cx : Cx} (hc : CxF P cx) {t : TypeId} (h : tyIs cx t .bool = true) : P.underlying t = some .bool := by
  unfold tyIs at h
  split at h
  · rename_i ty ht
    simp at h
    obtain ⟨l, hl, hf⟩ := (hc t ty ht).lone h.1
    rw [hl] at h
    have := h.2
    simp only [Ls.eq?] at this
    obtain rfl := L.eq_of this
    exact hf
  · cases h

variable {T : Type} {β : Type}
theorem iff_leads {b : Bool} {x y : Step β} {t : β} (h : (Step.iff b x y).leads t) : (b = true ∧ x.leads t) ∨ (b = false ∧ y.leads t) := by
  cases b
  · exact .inr ⟨rfl, h⟩
  · exact .inl ⟨rfl, h⟩

theorem binI_ok {op : BinOp} {y : Operand} {i : IntKind} {m n : Int} {k : AV → Step β} {t : β} (hz : isZero y = false → n ≠ 0) (h : (binI op y i m n k).leads t) (tx : TypeId) (x : Operand) (w : World) :
    ∃ z r, (k z).leads t ∧ AVok s W z r ∧ (do eqGuard op tx x y (.int i m) (.int i n); binOp op tx (.int i m) (.int i n) : Sem Value).run P w = .ok r w := by
  cases op <;> simp only [binI] at h
  case add => exact ⟨_, _, h, scI_ok _ _, by simp [eqGuard, binOp, Op.intArith]⟩
  case sub => exact ⟨_, _, h, scI_ok _ _, by simp [eqGuard, binOp, Op.intArith]⟩
  case mul => exact ⟨_, _, h, scI_ok _ _, by simp [eqGuard, binOp, Op.intArith]⟩
  case quo =>
    have h0 : n ≠ 0 ∧ (k (scI i (i.wrap (Int.tdiv m n)))).leads t := by
      split at h
      · rcases iff_leads h with ⟨_, h⟩ | ⟨hb, h⟩
        · exact h.elim
        · exact ⟨by simpa using hb, h⟩
      · rename_i hy; exact ⟨hz (by simpa using hy), h⟩
    exact ⟨_, _, h0.2, scI_ok _ _, by simp [eqGuard, binOp, Op.intDiv, h0.1]⟩
  case rem =>
    have h0 : n ≠ 0 ∧ (k (scI i (Int.tmod m n))).leads t := by
      split at h
      · rcases iff_leads h with ⟨_, h⟩ | ⟨hb, h⟩
        · exact h.elim
        · exact ⟨by simpa using hb, h⟩
      · rename_i hy; exact ⟨hz (by simpa using hy), h⟩
    exact ⟨_, _, h0.2, scI_ok _ _, by simp [eqGuard, binOp, Op.intDiv, h0.1]⟩
  case eql => exact ⟨_, _, h, scB_ok _, by simp [eqGuard, binOp, Op.intCmp]⟩
  case neq => exact ⟨_, _, h, scB_ok _, by simp [eqGuard, binOp, Op.intCmp]⟩
  case lss => exact ⟨_, _, h, scB_ok _, by simp [eqGuard, binOp, Op.intCmp]⟩
  case leq => exact ⟨_, _, h, scB_ok _, by simp [eqGuard, binOp, Op.intCmp]⟩
  case gtr => exact ⟨_, _, h, scB_ok _, by simp [eqGuard, binOp, Op.intCmp]⟩
  case geq => exact ⟨_, _, h, scB_ok _, by simp [eqGuard, binOp, Op.intCmp]⟩
  case and => exact ⟨_, _, h, scI_ok _ _, by simp [eqGuard, binOp, Op.intBits, andI]⟩
  case or => exact ⟨_, _, h, scI_ok _ _, by simp [eqGuard, binOp, Op.intBits, orI]⟩
  case xor => exact ⟨_, _, h, scI_ok _ _, by simp [eqGuard, binOp, Op.intBits, xorI]⟩
  case shl =>
    rcases iff_leads h with ⟨hb, h⟩ | ⟨_, h⟩
    · have hb : ¬ n < 0 := by have := of_decide_eq_true hb; omega
      exact ⟨_, _, h, scI_ok _ _, by simp [eqGuard, binOp, Op.shift, shlI, hb]⟩
    · exact h.elim
  case shr =>
    rcases iff_leads h with ⟨hb, h⟩ | ⟨_, h⟩
    · have hb : ¬ n < 0 := by have := of_decide_eq_true hb; omega
      exact ⟨_, _, h, scI_ok _ _, by simp [eqGuard, binOp, Op.shift, shrI, hb]⟩
    · exact h.elim
  all_goals exact h.elim

theorem shift_ok {op : BinOp} (hs : isShift op = true) {y : Operand} {i j : IntKind} {m n : Int} {k : AV → Step β} {t : β} (h : (binI op y i m n k).leads t) (tx : TypeId) (x : Operand) (w : World) :
    ∃ z r, (k z).leads t ∧ AVok s W z r ∧ (do eqGuard op tx x y (.int i m) (.int j n); binOp op tx (.int i m) (.int j n) : Sem Value).run P w = .ok r w := by
  cases op <;> simp only [isShift, Bool.false_eq_true] at hs <;> simp only [binI] at h
  case shl =>
    rcases iff_leads h with ⟨hb, h⟩ | ⟨_, h⟩
    · have hb : ¬ n < 0 := by have := of_decide_eq_true hb; omega
      exact ⟨_, _, h, scI_ok _ _, by simp [eqGuard, binOp, Op.shift, shlI, hb]⟩
    · exact h.elim
  case shr =>
    rcases iff_leads h with ⟨hb, h⟩ | ⟨_, h⟩
    · have hb : ¬ n < 0 := by have := of_decide_eq_true hb; omega
      exact ⟨_, _, h, scI_ok _ _, by simp [eqGuard, binOp, Op.shift, shrI, hb]⟩
    · exact h.elim

theorem binB_ok {op : BinOp} {y : Operand} {m n : Bool} {k : AV → Step β} {t : β} (h : (binB op m n k).leads t) (tx : TypeId) (htx : P.underlying tx = some .bool) (x : Operand) (w : World) :
    ∃ z r, (k z).leads t ∧ AVok s W z r ∧ (do eqGuard op tx x y (.bool m) (.bool n); binOp op tx (.bool m) (.bool n) : Sem Value).run P w = .ok r w := by
  cases op <;> simp only [binB] at h
  case eql => exact ⟨_, _, h, scB_ok _, by simp [eqGuard, run_eql_bool _ tx m n htx]⟩
  case neq => exact ⟨_, .bool (!(m == n)), h, ⟨rfl, rfl⟩, by simp [eqGuard, run_neq_bool _ tx m n htx]⟩
  all_goals exact h.elim

theorem binS_ok {op : BinOp} {y : Operand} {m n : List UInt8} {k : AV → Step β} {t : β} (h : (binS op m n k).leads t) (tx : TypeId) (x : Operand) (w : World) :
    ∃ z r, (k z).leads t ∧ AVok s W z r ∧ (do eqGuard op tx x y (.string ⟨m.toArray⟩) (.string ⟨n.toArray⟩); binOp op tx (.string ⟨m.toArray⟩) (.string ⟨n.toArray⟩) : Sem Value).run P w = .ok r w := by
  have tl : ∀ l : List UInt8, (⟨l.toArray⟩ : ByteArray).toList = l := fun l => by simp
  cases op <;> simp only [binS] at h
  case eql => exact ⟨_, _, h, scB_ok _, by simp [eqGuard, binOp, Op.stringOp, tl]⟩
  case neq => exact ⟨_, _, h, scB_ok _, by simp [eqGuard, binOp, Op.stringOp, tl]⟩
  case add =>
    rcases iff_leads h with ⟨hb, h⟩ | ⟨_, h⟩
    · refine ⟨_, _, h, scS_ok _, ?_⟩
      have hb : m.length + n.length ≤ 4611686018427387904 := of_decide_eq_true hb
      have hr := run_string_add_sum (P := P) w ⟨m.toArray⟩ ⟨n.toArray⟩ (by simp [ByteArray.size]; omega)
      rw [ByteArray.mk_append_mk] at hr
      simp only [eqGuard, binOp]
      simpa using hr
    · exact h.elim
  all_goals exact h.elim

theorem binop_ok {cx : Cx} (hc : CxF P cx) {op : BinOp} {tx : TypeId} {x y : Operand} (h : Rep E s a.tmps W) {k : AV → Step β} {t : β}
    (hl : (binop (tyIs cx tx .bool) op y (s.opd1 x) (s.opd1 y) k).leads t) :
    ∃ z r, (k z).leads t ∧ AVok s W z r ∧ (do eqGuard op tx x y (a.eval x) (a.eval y); binOp op tx (a.eval x) (a.eval y) : Sem Value).run P W.w = .ok r W.w := by
  have h1 := opd1_ok h x
  have h2 := opd1_ok h y
  have hz : ∀ (k : IntKind) (n : Int), s.opd1 y = .sc (.int k) n → isZero y = false → n ≠ 0 := by
    intro k n hy h0
    cases y with
    | const v =>
      cases v with
      | int j m =>
        simp only [St.opd1, St.opd, AV.one?, ofConst] at hy
        injection hy with e1 e2
        injection e1 with e1
        subst e1
        subst e2
        simp [isZero] at h0
        exact h0
      | _ => simp [isZero] at h0
    | _ => simp [isZero] at h0
  revert h1 h2 hl hz
  generalize s.opd1 x = p
  generalize s.opd1 y = q
  intro hl h1 h2 hz
  unfold binop at hl
  split at hl
  · rename_i l m n r
    cases l with
    | int i => cases n with
      | int j =>
        simp only at hl
        split at hl
        · rename_i hij
          rw [h1.1, h2.1]
          cases hs : isShift op with
          | true => exact shift_ok hs hl tx x _
          | false =>
            rw [hs, Bool.or_false] at hij
            obtain rfl := IntKind.code_beq hij
            exact binI_ok (hz _ _ rfl) hl tx x _
        · exact hl.elim
      | _ => exact hl.elim
    | bool => cases n with
      | bool =>
        simp only at hl
        split at hl
        · rename_i hb
          rw [h1.1, h2.1]
          exact binB_ok hl tx (tyIs_bool hc hb) x _
        · exact hl.elim
      | _ => exact hl.elim
    | str => cases n with
      | str =>
        rw [h1.1, h2.1]
        exact binS_ok hl tx x _
      | _ => exact hl.elim
    | sl t e => cases n <;> exact hl.elim
  · exact hl.elim

/-! ### what lies at a place -/

theorem leafSl_ok {d : Nat} {w : World} {fz : Nat → Prop} {k : (t : TypeId) → (f : Ls) → List f.D → Step β} {t : β} : ∀ (e : Ls) (j : Nat) {g : Nat → Option Value} {x : e.D} {o : List Nat} {t' : TypeId} {f : Ls} {h : Value},
    (leafSl e j x k).leads t → e.rd d w fz g x o → e.kinds[j]? = some (.sl t' f) → g j = some h → ∃ (ys : List f.D) (o' : List Nat), (k t' f ys).leads t ∧ RowRd f d w fz h ys o' ∧ ∀ b ∈ o', b ∈ o
  | .nil, j, _, _, _, _, _, _, hl, _, _, _ => hl.elim
  | .one l, 0, g, x, o, t', f, h, hl, hr, hk, hg => by
    simp only [Ls.rd] at hr
    obtain ⟨v, hv, hr⟩ := hr
    simp [Ls.kinds] at hk
    subst hk
    rw [hg] at hv; injection hv with hv; subst hv
    exact ⟨x, o, hl, hr, fun b hb => hb⟩
  | .one _, _ + 1, _, _, _, _, _, _, hl, _, _, _ => hl.elim
  | .cons l ls, 0, g, x, o, t', f, h, hl, hr, hk, hg => by
    simp only [Ls.rd] at hr
    obtain ⟨v, o1, o2, hv, hr, hr2, rfl⟩ := hr
    simp [Ls.kinds] at hk
    subst hk
    rw [hg] at hv; injection hv with hv; subst hv
    exact ⟨x.1, o1, hl, hr, fun b hb => List.mem_append_left _ hb⟩
  | .cons l ls, j + 1, g, x, o, t', f, h, hl, hr, hk, hg => by
    simp only [Ls.rd] at hr
    obtain ⟨v, o1, o2, hv, hr, hr2, rfl⟩ := hr
    obtain ⟨ys, o', a, b, c⟩ := leafSl_ok ls j hl hr2 (by simpa [Ls.kinds] using hk) hg
    exact ⟨ys, o', a, b, fun x hx => List.mem_append_right _ (c x hx)⟩

theorem goP_ok {w : World} {fz : Nat → Prop} {k : (t : TypeId) → (e : Ls) → List e.D → Nat → Step β} {t : β} : ∀ (p : List (Nat × Nat)) {t0 : TypeId} {e : Ls} {xs : List e.D} {d : Nat} {h : Value} {o : List Nat} {e' : Ls} {v : Value},
    (goP k p t0 e xs d).leads t → RowRd e d w fz h xs o → nav w p e h e' v → ∃ (t' : TypeId) (ys : List e'.D) (d' : Nat) (o' : List Nat), (k t' e' ys d').leads t ∧ RowRd e' d' w fz v ys o' ∧ ∀ b ∈ o', b ∈ o
  | [], t0, e, xs, d, h, o, e', v, hl, hr, hn => by
    obtain ⟨rfl, rfl⟩ := hn
    exact ⟨t0, xs, d, o, hl, hr, fun b hb => hb⟩
  | (i, j) :: p, t0, e, xs, d, h, o, e', v, hl, hr, hn => by
    obtain ⟨a, len, c, t', f, h', rfl, hs, hi, hk, hc, hn⟩ := hn
    obtain ⟨A, c', hv, hle, hr⟩ := hr
    injection hv with hA hl' hc'
    subst hA
    have hi' : i < xs.length := hl' ▸ hi
    rcases hr with hr | ⟨g, os, hrow, hel, ho⟩
    · have := hr.2.1; omega
    obtain ⟨x, hx, hl⟩ := hl
    rw [List.getElem?_eq_getElem hi'] at hx
    injection hx with hx; subst hx
    have hg : (fun j => g (i * e.n + j)) j = some h' := by rw [hrow.cell (i * e.n + j)] at hc; exact hc
    obtain ⟨ys, o', hl, hrd, hsub⟩ := leafSl_ok e j hl (hel i hi') hk hg
    obtain ⟨t2, zs, d2, o2, hl, hz, hs2⟩ := goP_ok p hl hrd hn
    refine ⟨t2, zs, d2, o2, hl, hz, fun b hb => ?_⟩
    have hb' := hsub b (hs2 b hb)
    revert ho
    cases decide (0 < d) with
    | true => intro ho; rw [ho]; exact List.mem_cons_of_mem _ (List.mem_flatMap.2 ⟨i, List.mem_range.2 hi', hb'⟩)
    | false => intro ho; rw [ho.2.2 i hi'] at hb'; cases hb'

/-- The row at a place: it is there, and reads. -/
theorem content_ok (h : Rep E s tm W) {c : Loc} {k : (t : TypeId) → (e : Ls) → List e.D → Nat → Step β} {t : β} (hl : (s.content c k).leads t) :
    ∃ (t0 : TypeId) (e0 : Ls) (xs0 : List e0.D) (d0 gen : Nat), s.leaf c.r c.j = .arr c.ver gen t0 e0 xs0 d0 ∧ (c.p = [] ∨ gen = c.gen) ∧
      ∀ (u : Value) (e' : Ls) (v : Value), W.cv c.r c.j = some u → nav W.w c.p e0 u e' v → ∃ (t' : TypeId) (ys : List e'.D) (d' : Nat) (o' : List Nat), (k t' e' ys d').leads t ∧ RowRd e' d' W.w W.fz v ys o' ∧ ∀ b ∈ o', b ∈ W.om (.lf c.r c.j) := by
  unfold St.content at hl
  split at hl
  · rename_i ver gen t0 e0 xs0 d0 hleaf
    split at hl
    · rename_i hcond
      simp only [Bool.and_eq_true, beq_iff_eq, Bool.or_eq_true] at hcond
      obtain ⟨hv, hg⟩ := hcond
      subst hv
      refine ⟨t0, e0, xs0, d0, gen, hleaf, hg.imp (fun h => by cases hp : c.p <;> simp_all [isNil]) id, fun u e' v hu hn => ?_⟩
      obtain ⟨u', hu', hr⟩ := (h.roots c.r).row hleaf
      rw [hu] at hu'; injection hu' with hu'; subst hu'
      exact goP_ok c.p hl hr hn
    · exact hl.elim
  · exact hl.elim

theorem content_ref (h : Rep E s tm W) {c : Loc} {v : Value} (hv : LAok s W (.ref c) v) {k : (t : TypeId) → (e : Ls) → List e.D → Nat → Step β} {t : β} (hl : (s.content c k).leads t) :
    ∃ (t' : TypeId) (e' : Ls) (ys : List e'.D) (d' : Nat) (o' : List Nat), (k t' e' ys d').leads t ∧ RowRd e' d' W.w W.fz v ys o' ∧ ∀ b ∈ o', b ∈ W.om (.lf c.r c.j) := by
  obtain ⟨t0, e0, xs0, d0, gen, hleaf, hp, hk⟩ := content_ok h hl
  obtain ⟨u, e', hu, hn⟩ := hv gen t0 e0 xs0 d0 hleaf hp
  obtain ⟨t', ys, d', o', a, b, c⟩ := hk u e' v hu hn
  exact ⟨t', e', ys, d', o', a, b, c⟩

/-- A row read from a place: its header, its length. -/
theorem RowRd.len {e : Ls} {d : Nat} {w : World} {fz : Nat → Prop} {v : Value} {xs : List e.D} {o : List Nat} (h : RowRd e d w fz v xs o) : ∃ A c, v = .slice A xs.length c ∧ xs.length ≤ c := by
  obtain ⟨A, c, hv, hc, _⟩ := h
  exact ⟨A, c, hv, hc⟩

/-- A part of a row is a row. -/
theorem SlRd.sub {α : Type} {n : Nat} {R : (Nat → Option Value) → α → List Nat → Prop} {own : Bool} {w : World} {fz : Nat → Prop} {A : Option Addr} {len c : Nat} {xs : List α} {o : List Nat}
    (h : SlRd n R own w fz (.slice A len c) xs o) {lo hi : Nat} (h1 : lo ≤ hi) (h2 : hi ≤ len) :
    ∃ o', SlRd n R own w fz (.slice (if c = lo then A else A.map (·.add (lo * n))) (hi - lo) (c - lo)) (Ev.sub xs lo hi) o' ∧ (∀ b ∈ o', b ∈ o) ∧ (o.Nodup → o'.Nodup) := by
  obtain ⟨A', c', hv, hc, h⟩ := h
  injection hv with hA hl hc'
  subst hA; subst hl; subst hc'
  have hlen : (Ev.sub xs lo hi).length = hi - lo := by simp [Ev.sub]; omega
  cases A with
  | none =>
    refine ⟨[], ⟨none, c - lo, ?_, by rw [hlen]; omega, ?_⟩, by simp, by simp⟩
    · rw [hlen]; simp
    · exact ⟨by omega, rfl⟩
  | some a =>
    rcases h with h | ⟨g, os, hrow, hel, ho⟩
    · obtain ⟨rfl, rfl, rfl⟩ := h
      have hl0 : xs.length = 0 := by omega
      have hhi : hi = 0 := by omega
      have hlo : lo = 0 := by omega
      subst hhi; subst hlo
      have hnil : xs = [] := List.eq_nil_of_length_eq_zero hl0
      subst hnil
      exact ⟨[], ⟨some a, 0, by simp [Ev.sub], by simp [Ev.sub], .inl ⟨rfl, rfl, rfl⟩⟩, by simp, by simp⟩
    obtain ⟨hs, arr, T, fr, hh, hn, hb, hg⟩ := hrow
    have hget : ∀ i (hi' : i < (Ev.sub xs lo hi).length), ∃ hx : lo + i < xs.length, (Ev.sub xs lo hi)[i] = xs[lo + i] := by
      intro i hi'
      have : lo + i < xs.length := by rw [hlen] at hi'; omega
      exact ⟨this, by simp [Ev.sub]⟩
    by_cases hcl : c = lo
    · have hhi : hi = lo := by omega
      have hnil : Ev.sub xs lo hi = [] := by simp [Ev.sub, hhi]
      rw [if_pos hcl, hnil, hhi]
      refine ⟨match own with | true => [a.block] | false => [], ⟨some a, c - lo, by simp, by simp, .inr ⟨fun j => arr[a.off + j]?, fun _ => [], ⟨hs, arr, T, fr, hh, by rw [hcl]; simp; omega, hb, fun j => rfl⟩, fun i hi => by simp at hi, ?_⟩⟩, ?_, ?_⟩
      · cases own with
        | true => simp
        | false => exact ⟨ho.1, rfl, fun _ _ => rfl⟩
      · cases own with
        | true => intro b hb'; simp at hb'; subst hb'; rw [ho]; simp
        | false => intro b hb'; cases hb'
      · cases own <;> simp
    · rw [if_neg hcl]
      have hadd : (a.add (lo * n)).block = a.block ∧ (a.add (lo * n)).off = a.off + lo * n ∧ (a.add (lo * n)).spot = none := by
        unfold Addr.add; split
        · rename_i h0; rw [h0]; exact ⟨rfl, rfl, hs⟩
        · exact ⟨rfl, rfl, rfl⟩
      refine ⟨match own with | true => a.block :: (List.range (hi - lo)).flatMap fun i => os (lo + i) | false => [],
        ⟨some (a.add (lo * n)), c - lo, by rw [hlen]; rfl, by rw [hlen]; omega, .inr ⟨fun j => g (lo * n + j), fun i => os (lo + i), ⟨hadd.2.2, arr, T, fr, by rw [hadd.1]; exact hh, ?_, hb, fun j => by show g (lo * n + j) = _; rw [hg, hadd.2.1]; congr 1; omega⟩, fun i hi' => ?_, ?_⟩⟩, ?_, ?_⟩
      · rw [hadd.2.1]
        have : lo * n + (c - lo) * n = c * n := by rw [← Nat.add_mul]; congr 1; omega
        omega
      · obtain ⟨hx, he⟩ := hget i hi'
        have := hel (lo + i) hx
        rw [he]
        have e : (fun j => g ((lo + i) * n + j)) = fun j => g (lo * n + (i * n + j)) := by
          funext j; congr 1; rw [Nat.add_mul]; omega
        rw [← e]; exact this
      · cases own with
        | true => simp only [hadd.1, hlen]
        | false => exact ⟨by rw [hadd.1]; exact ho.1, rfl, fun i hi' => ho.2.2 _ (by rw [hlen] at hi'; omega)⟩
      · cases own with
        | true =>
          intro b hb'
          rw [ho]
          rcases List.mem_cons.1 hb' with rfl | hb'
          · simp
          · obtain ⟨i, hi', hb'⟩ := List.mem_flatMap.1 hb'
            exact List.mem_cons_of_mem _ (List.mem_flatMap.2 ⟨lo + i, List.mem_range.2 (by have := List.mem_range.1 hi'; omega), hb'⟩)
        | false => intro b hb'; cases hb'
      · cases own with
        | false => simp
        | true =>
          intro hnd
          rw [ho] at hnd
          obtain ⟨h1', h2'⟩ := List.nodup_cons.1 hnd
          refine List.nodup_cons.2 ⟨fun hm => ?_, ?_⟩
          · obtain ⟨i, hi', hb'⟩ := List.mem_flatMap.1 hm
            exact h1' (List.mem_flatMap.2 ⟨lo + i, List.mem_range.2 (by have := List.mem_range.1 hi'; omega), hb'⟩)
          · have e : (List.range (hi - lo)).flatMap (fun i => os (lo + i)) = ((List.range (hi - lo)).map (lo + ·)).flatMap os := by
              simp [List.flatMap_map]
            rw [e, ← List.range'_eq_map_range]
            rw [List.range_eq_range'] at h2'
            have : List.range' 0 xs.length = List.range' 0 lo ++ (List.range' lo (hi - lo) ++ List.range' hi (xs.length - hi)) := by
              have e1 := List.range'_append_1 (s := lo) (m := hi - lo) (n := xs.length - hi)
              have e2 := List.range'_append_1 (s := 0) (m := lo) (n := xs.length - lo)
              rw [show lo + (hi - lo) = hi by omega] at e1
              rw [e1, show hi - lo + (xs.length - hi) = xs.length - lo by omega]
              rw [Nat.zero_add] at e2
              rw [e2]; congr 1; omega
            rw [this, List.flatMap_append, List.flatMap_append] at h2'
            exact (List.nodup_append.1 (List.nodup_append.1 h2').2.1).1

end
end Go.Ev

namespace Go.Ev
set_option linter.unusedVariables false
set_option linter.unusedSimpArgs false

/-- Blocks that are looked at, or lie below these roots. -/
def Seen (W : Wd) (rs : List Nat) (b : Nat) : Prop := W.fz b ∨ ∃ r ∈ rs, ∃ j, b ∈ W.om (.lf r j)

theorem rd_unpack : ∀ (ls : Ls) {d : Nat} {w : World} {fz : Nat → Prop} {g : Nat → Option Value} {x : ls.D} {o : List Nat},
    ls.rd d w fz g x o → ∀ (j : Nat) (lv : Lv), (unpack ls x)[j]? = some lv → ∃ u o', g j = some u ∧ lv.l.rd d w fz u lv.x o' ∧ ∀ b ∈ o', b ∈ o
  | .nil, _, _, _, _, _, _, _, j, lv, hj => by simp [unpack] at hj
  | .one l, d, w, fz, g, x, o, h, j, lv, hj => by
    simp only [Ls.rd] at h
    obtain ⟨v, hg, h⟩ := h
    cases j with
    | zero => simp [unpack] at hj; subst hj; exact ⟨v, o, hg, h, fun b hb => hb⟩
    | succ j => simp [unpack] at hj
  | .cons l ls, d, w, fz, g, x, o, h, j, lv, hj => by
    simp only [Ls.rd] at h
    obtain ⟨v, o1, o2, hg, h1, h2, rfl⟩ := h
    cases j with
    | zero => simp [unpack] at hj; subst hj; exact ⟨v, o1, hg, h1, fun b hb => List.mem_append_left _ hb⟩
    | succ j =>
      simp only [unpack, List.getElem?_cons_succ] at hj
      obtain ⟨u, o', a, b, c⟩ := rd_unpack ls h2 j lv hj
      exact ⟨u, o', a, b, fun x hx => List.mem_append_right _ (c x hx)⟩

theorem rd_of_unpack : ∀ (ls : Ls) {w : World} {fz : Nat → Prop} {g : Nat → Option Value} {x : ls.D},
    (∀ (j : Nat) (lv : Lv), (unpack ls x)[j]? = some lv → ∃ u, g j = some u ∧ lv.l.rd 0 w fz u lv.x []) → ls.rd 0 w fz g x []
  | .nil, _, _, _, _, _ => by simp only [Ls.rd]
  | .one l, w, fz, g, x, h => by
    simp only [Ls.rd]
    exact h 0 ⟨l, x⟩ rfl
  | .cons l ls, w, fz, g, x, h => by
    simp only [Ls.rd]
    obtain ⟨u, hu, hr⟩ := h 0 ⟨l, x.1⟩ rfl
    exact ⟨u, [], [], hu, hr, rd_of_unpack ls fun j lv hj => h (j + 1) lv (by simpa [unpack] using hj), rfl⟩

theorem nil_row {e : Ls} {d : Nat} {w : World} {fz : Nat → Prop} : RowRd e d w fz (.slice none 0 0) ([] : List e.D) [] := ⟨none, 0, rfl, Nat.le_refl _, rfl, rfl⟩

section
variable {P : Program} {E : Ent} {s : St} {tm : Array Value} {W : Wd} {o : Oper} {a : Act} {β : Type} {t : β}

theorem Seen.mono {rs rs' : List Nat} (h : ∀ r ∈ rs, r ∈ rs') {b : Nat} (hb : Seen W rs b) : Seen W rs' b := hb.imp id fun ⟨r, hr, x⟩ => ⟨r, h r hr, x⟩

theorem content_win (h : Rep E s tm W) {c : Loc} {lo hi : Nat} {v : Value} (hv : LAok s W (.win c lo hi) v) {k : (t : TypeId) → (e : Ls) → List e.D → Nat → Step β} (hl : (s.content c k).leads t) :
    ∃ (t' : TypeId) (e' : Ls) (ys : List e'.D) (d' : Nat) (o' : List Nat), (k t' e' ys d').leads t ∧ RowRd e' d' W.w W.fz v (sub ys lo hi) o' ∧ (∀ b ∈ o', b ∈ W.om (.lf c.r c.j)) := by
  obtain ⟨t0, e0, xs0, d0, gen, hleaf, hp, hk⟩ := content_ok h hl
  obtain ⟨u, e', A, n, k', hu, hn, h1, h2, rfl⟩ := hv gen t0 e0 xs0 d0 hleaf hp
  obtain ⟨t', ys, d', o', a, b, c'⟩ := hk u e' _ hu hn
  obtain ⟨o2, q1, q2, _⟩ := SlRd.sub b h1 h2
  exact ⟨t', e', ys, d', o2, a, q1, fun b hb => c' b (q2 b hb)⟩

theorem datum_ok (h : Rep E s tm W) {l : L} {la : LA} {v : Value} (hv : LAok s W la v) {k : l.D → Step β} (hl : (s.datum l la k).leads t) :
    ∃ x, (k x).leads t ∧ l.rd 0 W.w (Seen W la.roots) v x [] := by
  unfold St.datum at hl
  cases la with
  | sc m x =>
    simp only at hl
    split at hl
    · rename_i y hy
      obtain ⟨e, he⟩ := L.cast_some hy
      subst e; subst he
      exact ⟨x, hl, L.rd_frame m hv (fun b hb => rfl) fun b hb => .inl hb⟩
    · exact hl.elim
  | nils =>
    cases l with
    | sl t' e => exact ⟨_, hl, by rw [show v = .slice none 0 0 from hv]; exact nil_row⟩
    | _ => exact hl.elim
  | ref c =>
    obtain ⟨t', e', ys, d', o', hl, hr, ho⟩ := content_ref h hv hl
    split at hl
    · rename_i y hy
      obtain ⟨e, he⟩ := L.cast_some hy
      subst e; subst he
      exact ⟨ys, hl, hr.freeze fun b hb => hb.elim .inl fun hb => .inr ⟨c.r, by simp [LA.roots], c.j, ho b hb⟩⟩
    · exact hl.elim
  | win c lo hi =>
    obtain ⟨t', e', ys, d', o', hl, hr, ho⟩ := content_win h hv hl
    split at hl
    · rename_i y hy
      obtain ⟨e, he⟩ := L.cast_some hy
      subst e; subst he
      exact ⟨_, hl, hr.freeze fun b hb => hb.elim .inl fun hb => .inr ⟨c.r, by simp [LA.roots], c.j, ho b hb⟩⟩
    · exact hl.elim
  | _ => exact hl.elim

theorem data_ok (h : Rep E s tm W) : ∀ {ls : List L} {as : List LA} {g : Nat → Option Value} {k : List Lv → Step β}, (∀ (j : Nat) (b : LA), as[j]? = some b → ∃ u, g j = some u ∧ LAok s W b u) → (s.data ls as k).leads t →
    ∃ vs : List Lv, (k vs).leads t ∧ vs.length = as.length ∧ vs.map (·.l) = ls ∧ ∀ (j : Nat) (lv : Lv), vs[j]? = some lv → ∃ u, g j = some u ∧ lv.l.rd 0 W.w (Seen W (as.flatMap LA.roots)) u lv.x []
  | [], [], g, k, hg, hl => ⟨[], hl, rfl, rfl, fun j lv hj => by simp at hj⟩
  | [], _ :: _, g, k, hg, hl => hl.elim
  | _ :: _, [], g, k, hg, hl => hl.elim
  | l :: ls, b :: as, g, k, hg, hl => by
    obtain ⟨u, hu, hb⟩ := hg 0 b rfl
    obtain ⟨x, hl, hx⟩ := datum_ok h hb hl
    obtain ⟨vs, hl, hn, hm, hvs⟩ := data_ok h (g := fun j => g (j + 1)) (fun j b hj => hg (j + 1) b (by simpa using hj)) hl
    refine ⟨⟨l, x⟩ :: vs, hl, by simp [hn], by simp [hm], fun j lv hj => ?_⟩
    cases j with
    | zero =>
      simp at hj; subst hj
      exact ⟨u, hu, L.rd_frame l hx (fun _ _ => rfl) fun b hb => Seen.mono (fun r hr => by simp [hr]) hb⟩
    | succ j =>
      obtain ⟨u', hu', hr⟩ := hvs j lv (by simpa using hj)
      refine ⟨u', hu', L.rd_frame lv.l hr (fun _ _ => rfl) fun b hb => Seen.mono (fun r hr => ?_) hb⟩
      simp only [List.flatMap_cons, List.mem_append]; exact .inr hr

/-! ### what an address tells -/

theorem seenFrom_get (r : Nat) : ∀ (as : List LA) (j i : Nat), (seenFrom r j as)[i]? = (as[i]?).map (seen r (j + i))
  | [], j, i => by simp [seenFrom]
  | b :: as, j, 0 => by simp [seenFrom]
  | b :: as, j, i + 1 => by simp only [seenFrom, List.getElem?_cons_succ]; rw [seenFrom_get r as (j + 1) i, show j + 1 + i = j + (i + 1) by omega]
theorem seenFrom_len (r : Nat) : ∀ (as : List LA) (j : Nat), (seenFrom r j as).length = as.length
  | [], j => rfl
  | b :: as, j => by simp [seenFrom, seenFrom_len r as (j + 1)]

theorem seenFromZ_get (r : Nat) : ∀ (as : List LA) (j i : Nat), (seenFromZ r j as)[i]? = (as[i]?).map (seenZ r (j + i))
  | [], j, i => by simp [seenFromZ]
  | b :: as, j, 0 => by simp [seenFromZ]
  | b :: as, j, i + 1 => by simp only [seenFromZ, List.getElem?_cons_succ]; rw [seenFromZ_get r as (j + 1) i, show j + 1 + i = j + (i + 1) by omega]
theorem seenFromZ_len (r : Nat) : ∀ (as : List LA) (j : Nat), (seenFromZ r j as).length = as.length
  | [], j => rfl
  | b :: as, j => by simp [seenFromZ, seenFromZ_len r as (j + 1)]
/-- A box's leaf, as it's looked at. -/
theorem seen_ok (h : Rep E s tm W) {r j : Nat} {b : LA} {v : Value} (hb : s.leaf r j = b) (hc : W.cv r j = some v) : LAok s W (seen r j b) v := by
  have hr := (h.roots r).1 j
  unfold St.leaf at hb
  rw [hb, hc] at hr
  cases b with
  | arr ver gen t' e xs d =>
    intro gen' t2 e2 xs2 d2 hl _
    have : s.leaf r j = .arr ver gen t' e xs d := hb
    rw [this] at hl
    injection hl with h1 h2 h3 h4
    subst h4
    exact ⟨v, e, hc, rfl, rfl⟩
  | _ => exact hr.2 v rfl

theorem seenZ_ok (h : Rep E s tm W) {r j : Nat} {b : LA} {v : Value} (hb : s.leaf r j = b) (hc : W.cv r j = some v) : LAok s W (seenZ r j b) v := by
  have hs := seen_ok h hb hc
  cases b with
  | arr ver gen t' e xs d =>
    cases d with
    | succ d => exact hs
    | zero =>
      obtain ⟨u, hu, hrd⟩ := (h.roots r).row hb
      have : u = v := Option.some.inj (hu.symm.trans hc)
      subst this
      show RowRd e 0 W.w W.fz u xs []
      have hz := RowRd.zero hrd
      rw [hz] at hrd
      exact hrd
  | _ => exact hs
theorem elemLeaves_get (c : Loc) (i d : Nat) : ∀ (vs : List Lv) (off j : Nat), (elemLeaves c i d off vs)[j]? = (vs[j]?).map fun v => if isSl v.l && decide (0 < d) then LA.ref { c with p := c.p ++ [(i, off + j)] } else .sc v.l v.x
  | [], off, j => by simp [elemLeaves]
  | v :: vs, off, 0 => by simp [elemLeaves]
  | v :: vs, off, j + 1 => by simp only [elemLeaves, List.getElem?_cons_succ]; rw [elemLeaves_get c i d vs (off + 1) j, show off + 1 + j = off + (j + 1) by omega]

theorem nav_snoc {w : World} : ∀ (q : List (Nat × Nat)) {e : Ls} {h : Value} {e' : Ls} {a : Addr} {n k : Nat} {i off : Nat} {t' : TypeId} {f : Ls} {u : Value},
    nav w q e h e' (.slice (some a) n k) → a.spot = none → i < n → e'.kinds[off]? = some (.sl t' f) → w.cell? (at_ a (i * e'.n + off)) = some u → nav w (q ++ [(i, off)]) e h f u
  | [], e, h, e', a, n, k, i, off, t', f, u, hn, hs, hi, hk, hc => by
    obtain ⟨rfl, rfl⟩ := hn
    exact ⟨a, n, k, t', f, u, rfl, hs, hi, hk, hc, rfl, rfl⟩
  | (i0, j0) :: q, e, h, e', a, n, k, i, off, t', f, u, hn, hs, hi, hk, hc => by
    obtain ⟨a0, len, c0, t0, f0, h0, e0, s0, i1, k1, c1, hn⟩ := hn
    exact ⟨a0, len, c0, t0, f0, h0, e0, s0, i1, k1, c1, nav_snoc q hn hs hi hk hc⟩

theorem unpack_kinds : ∀ (ls : Ls) (x : ls.D), (unpack ls x).map (·.l) = ls.kinds
  | .nil, _ => rfl
  | .one _, _ => rfl
  | .cons l ls, x => by simp [unpack, Ls.kinds, unpack_kinds ls x.2]

/-- The address, and the leaves from it on. -/
theorem loads_ok (h : Rep E s tm W) {la : LA} {v : Value} (hv : LAok s W la v) {n : Nat} {k : List LA → Step β} (hl : (s.loads la n k).leads t) :
    ∃ as : List LA, (k as).leads t ∧ as.length ≤ n ∧ ∃ (b off : Nat), v = .pointer (some ⟨b, off, none⟩) ∧ ∀ (j : Nat) (x : LA), as[j]? = some x → ∃ u, W.w.cell? ⟨b, off + j, none⟩ = some u ∧ LAok s W x u := by
  unfold St.loads at hl
  cases la with
  | ptr r j ver =>
    simp only at hl
    split at hl
    · rename_i hcond
      simp only [Bool.and_eq_true, beq_iff_eq, decide_eq_true_eq] at hcond
      obtain ⟨⟨hb, hver⟩, hlen⟩ := hcond
      refine ⟨_, hl, by rw [seenFromZ_len]; simp; omega, W.bk r, j, hv hb hver, fun i x hx => ?_⟩
      rw [seenFromZ_get] at hx
      obtain ⟨_, hbox⟩ := h.roots r
      rw [if_pos hb] at hbox
      obtain ⟨_, arr, T, fr, hh, _, hsz, hcv⟩ := hbox
      cases hy : ((s.root r).ls.drop j |>.take n)[i]? with
      | none => rw [hy] at hx; cases hx
      | some y =>
        rw [hy] at hx; injection hx with hx; subst hx
        have hi : i < n ∧ (s.root r).ls[j + i]? = some y := by
          rw [List.getElem?_take] at hy
          split at hy
          · rename_i hi; rw [List.getElem?_drop] at hy; exact ⟨hi, hy⟩
          · cases hy
        have hlt : j + i < (s.root r).ls.length := (List.getElem?_eq_some_iff.1 hi.2).1
        have hleaf : s.leaf r (j + i) = y := by unfold St.leaf; rw [nth_of, hi.2]; rfl
        have hcell : W.cv r (j + i) = some (arr[j + i]'(by omega)) := by rw [hcv]; exact Array.getElem?_eq_getElem _
        refine ⟨arr[j + i]'(by omega), ?_, seenZ_ok h hleaf hcell⟩
        rw [← hcell, hcv]
        simp [World.cell?, hh]
    · exact hl.elim
  | fptr e x off =>
    obtain ⟨a, g, arr, T, fr, hv, hz, hh, hg, hrd⟩ := hv
    refine ⟨_, hl, by simp; omega, a.block, a.off + off, hv, fun i y hy => ?_⟩
    simp only [List.getElem?_map] at hy
    cases hq : (((unpack e x).drop off).take n)[i]? with
    | none => rw [hq] at hy; cases hy
    | some lv =>
      rw [hq] at hy; injection hy with hy; subst hy
      have hi : (unpack e x)[off + i]? = some lv := by
        rw [List.getElem?_take] at hq
        split at hq
        · rw [List.getElem?_drop] at hq; exact hq
        · cases hq
      obtain ⟨u, o', hu, hr, ho⟩ := rd_unpack e hrd _ lv hi
      have : o' = [] := L.rd_zero lv.l hr
      subst this
      refine ⟨u, ?_, hr⟩
      rw [hg] at hu
      simp only [World.cell?, hh]
      rw [show a.off + off + i = a.off + (off + i) by omega]
      simpa using hu
  | eptr c =>
    simp only at hl
    split at hl
    · exact hl.elim
    · rename_i q i off hq
      obtain ⟨t0, e0, xs0, d0, gen, hleaf, hp, hk⟩ := content_ok h hl
      dsimp only at hleaf hp hk
      have hpl : c.p.length ≤ 1 ∨ gen = c.gen := by
        rcases hp with hp | hp
        · left; rw [splitLast_len hq, hp]; simp
        · exact .inr hp
      obtain ⟨q', i', off', u, e', a, n', k', hq', hu, hn, hs, hi, rfl⟩ := hv gen t0 e0 xs0 d0 hleaf hpl
      rw [hq] at hq'
      injection hq' with hq'
      injection hq' with q1 q2
      injection q2 with q2 q3
      subst q1; subst q2; subst q3
      obtain ⟨t', ys, d', o', hl, hr, ho⟩ := hk u e' _ hu hn
      obtain ⟨x, hx, hl⟩ := hl
      obtain ⟨A, c', hv, hle, hr⟩ := hr
      injection hv with hA hlen hcap
      subst hA
      have hi' : i < ys.length := hlen ▸ hi
      rcases hr with hr | ⟨g, os, hrow, hel, hos⟩
      · have := hr.2.1; omega
      rw [List.getElem?_eq_getElem hi'] at hx
      injection hx with hx; subst hx
      refine ⟨_, hl, ?_, a.block, a.off + (i * e'.n + off), rfl, fun j y hy => ?_⟩
      · have : ∀ (vs : List Lv) (off : Nat), (elemLeaves { c with p := q, gen := s.genAt c.r c.j } i (dec d') off vs).length = vs.length := by
          intro vs; induction vs with
          | nil => intro _; rfl
          | cons v vs ih => intro off; simp [elemLeaves, ih]
        rw [this]; simp; omega
      · rw [elemLeaves_get] at hy
        cases hz : (((unpack e' ys[i]).drop off).take n)[j]? with
        | none => rw [hz] at hy; cases hy
        | some lv =>
          rw [hz] at hy; injection hy with hy
          have hj : (unpack e' ys[i])[off + j]? = some lv := by
            rw [List.getElem?_take] at hz
            split at hz
            · rw [List.getElem?_drop] at hz; exact hz
            · cases hz
          obtain ⟨w1, o1, hw1, hr1, ho1⟩ := rd_unpack e' (hel i hi') _ lv hj
          have hcell : W.w.cell? (at_ a (i * e'.n + (off + j))) = some w1 := by rw [hrow.cell]; exact hw1
          refine ⟨w1, by rw [show a.off + (i * e'.n + off) + j = a.off + (i * e'.n + (off + j)) by omega]; exact hcell, ?_⟩
          subst hy
          dsimp only
          split
          · rename_i hsl
            simp only [Bool.and_eq_true, decide_eq_true_eq] at hsl
            obtain ⟨ll, lx⟩ := lv
            cases ll with
            | sl t2 f =>
              intro gen2 t3 e3 xs3 d3 hl3 hp3
              dsimp only at hl3 hp3
              rw [hleaf] at hl3
              injection hl3 with z1 z2 z3 z4
              subst z4
              refine ⟨u, f, hu, ?_⟩
              have hkd : e'.kinds[off + j]? = some (.sl t2 f) := by
                rw [← unpack_kinds e' ys[i], List.getElem?_map, hj]; rfl
              exact nav_snoc q hn hs hi hkd hcell
            | _ => simp [isSl] at hsl
          · rename_i hsl
            have hzero : lv.l.rd 0 W.w W.fz w1 lv.x [] := by
              obtain ⟨ll, lx⟩ := lv
              cases ll with
              | sl t2 f =>
                have hd : dec d' = 0 := by
                  simp [isSl] at hsl; exact hsl
                rw [hd] at hr1
                have : o1 = [] := L.rd_zero _ hr1
                subst this; exact hr1
              | int k => exact ⟨hr1.1, rfl⟩
              | bool => exact ⟨hr1.1, rfl⟩
              | str => exact ⟨hr1.1, rfl⟩
            exact hzero
  | _ => exact hl.elim

end
end Go.Ev

namespace Go.Ev
set_option linter.unusedVariables false
set_option linter.unusedSimpArgs false

def outW (dst : Option Nat) (x : AV) : List Wr := match dst with
  | some d => [.slot d x]
  | none => []
theorem out_leads {dst : Option Nat} {x : AV} {ws : List Wr} (h : (match dst with | some d => Step.go [Wr.slot d x] | none => Step.go []).leads ws) : ws = outW dst x := by
  cases dst <;> exact h.symm

section
variable {P : Program} {E : Ent} {s : St} {W : Wd} {o : Oper} {a : Act} {ws : List Wr} {cx : Cx} {v : Nat} {β : Type}

theorem goes_out (h : Rep E s a.tmps W) {u : Value} {x : AV} (hrun : (execOp a.eval o).run P W.w = .ok (.value u) W.w) (hx : AVok s W x u) : Goes P E o a W.w (s.app (outW o.dst x)) := goes_value h hrun hx

theorem eqLeaf_ok {l : L} {la lb : LA} {u w : Value} {q : Bool} (ha : LAok s W la u) (hb : LAok s W lb w) (h : scEq l la lb = some q) {t : TypeId} (ht : PlainF P t l) (d : Nat) (w0 : World) : (Op.equalIn (d + 1) t u w).run P w0 = .ok q w0 := by
  unfold scEq at h
  cases l with
  | int k =>
    simp only at h
    split at h
    · rename_i i x j y
      split at h
      · rename_i hc
        simp only [Bool.and_eq_true] at hc
        obtain rfl := IntKind.code_beq hc.1
        obtain rfl := IntKind.code_beq hc.2
        injection h with h
        rw [show u = .int j x from ha.1, show w = .int j y from hb.1, run_equalIn_int w0 d t j j x y ht]
        subst h; rfl
      · cases h
    · cases h
  | bool =>
    simp only at h
    split at h
    · rename_i x y
      injection h with h
      rw [show u = .bool x from ha.1, show w = .bool y from hb.1, run_equalIn_bool' w0 d t x y ht]
      subst h; rfl
    · cases h
  | str =>
    simp only at h
    split at h
    · rename_i x y
      injection h with h
      rw [show u = .string ⟨(show List UInt8 from x).toArray⟩ from ha.1, show w = .string ⟨(show List UInt8 from y).toArray⟩ from hb.1, run_equalIn_string w0 d t _ _ ht]
      have tl : ∀ l : List UInt8, (⟨l.toArray⟩ : ByteArray).toList = l := fun l => by simp
      subst h
      rw [tl, tl]
    · cases h
  | sl t' e => cases h
theorem plain_one {t : TypeId} {l : L} (h : PlainF P t l) (cs : Array Value) (n : Nat) (x : Value) (hx : cs[n]? = some x) (w : World) : (part t cs n).run P w = .ok x w := by
  unfold part
  rw [Sem.run_bind]
  have hagg : (isAgg t).run P w = .ok false w := by
    unfold isAgg
    rw [Sem.run_bind]
    cases l with
    | int k => rw [run_underlying (show P.underlying t = some (.int k) from h)]; rfl
    | bool => rw [run_underlying (show P.underlying t = some .bool from h)]; rfl
    | str => rw [run_underlying (show P.underlying t = some .string from h)]; rfl
    | sl t' e => exact h.elim
  rw [hagg]
  simp [hx]
theorem eqFields_ok {d : Nat} {xs ys : Array Value} {w0 : World} : ∀ (fs : List Field) (ls : List L) (as bs : List LA) (n : Nat) (q : Bool), FieldsF P n fs ls → aggEq ls as bs = some q →
    (∀ (j : Nat) (b : LA), as[j]? = some b → ∃ u, xs[n + j]? = some u ∧ LAok s W b u) → (∀ (j : Nat) (b : LA), bs[j]? = some b → ∃ u, ys[n + j]? = some u ∧ LAok s W b u) →
    (Op.eqFields (d + 1) xs ys fs).run P w0 = .ok q w0
  | [], [], [], [], n, q, hf, hq, h1, h2 => by
    simp only [aggEq, Option.some.injEq] at hq
    subst hq; rfl
  | f :: fs, l :: ls, a :: as, b :: bs, n, q, hf, hq, h1, h2 => by
    obtain ⟨f1, f2, f3, f4⟩ := hf
    simp only [aggEq] at hq
    split at hq
    · rename_i p r hp hr
      injection hq with hq; subst hq
      obtain ⟨u, hu, hua⟩ := h1 0 a rfl
      obtain ⟨v, hv, hvb⟩ := h2 0 b rfl
      have ih := eqFields_ok (d := d) (xs := xs) (ys := ys) (w0 := w0) fs ls as bs (n + 1) r f4 hr (fun j b hj => by rw [show n + 1 + j = n + (j + 1) by omega]; exact h1 (j + 1) b (by simpa using hj)) (fun j b hj => by rw [show n + 1 + j = n + (j + 1) by omega]; exact h2 (j + 1) b (by simpa using hj))
      simp only [Op.eqFields]
      rw [if_pos f1, f2, Sem.run_bind, plain_one f3 xs n u (by simpa using hu)]
      simp only [Result.andThen_ok]
      rw [Sem.run_bind, plain_one f3 ys n v (by simpa using hv)]
      simp only [Result.andThen_ok]
      rw [Sem.run_bind, eqLeaf_ok hua hvb hp f3 d w0]
      simp only [Result.andThen_ok]
      cases p with
      | true => simpa using ih
      | false => simp
    · cases hq
  | [], [], [], _ :: _, n, q, hf, hq, h1, h2 => by simp [aggEq] at hq
  | [], [], _ :: _, _, n, q, hf, hq, h1, h2 => by simp [aggEq] at hq
  | f :: fs, l :: ls, [], _, n, q, hf, hq, h1, h2 => by simp [aggEq] at hq
  | f :: fs, l :: ls, _ :: _, [], n, q, hf, hq, h1, h2 => by simp [aggEq] at hq
  | [], _ :: _, as, bs, n, q, hf, hq, h1, h2 => hf.elim
  | _ :: _, [], as, bs, n, q, hf, hq, h1, h2 => hf.elim
theorem aggOp_ok (hc : CxF P cx) {op : BinOp} {tx : TypeId} {x y : Operand} {as bs : List LA} {u w : Value} (hu : Vok s W true as u) (hw : Vok s W true bs w) {k : AV → Step β} {t : β} (hl : (aggOp cx op tx as bs k).leads t) (w0 : World) :
    ∃ z r, (k z).leads t ∧ AVok s W z r ∧ (do eqGuard op tx x y u w; binOp op tx u w : Sem Value).run P w0 = .ok r w0 := by
  unfold aggOp at hl
  split at hl
  · rename_i ty hty
    split at hl
    · rename_i heq
      split at hl
      · rename_i q hq
        obtain ⟨cs, rfl, _, h1⟩ := hu
        obtain ⟨ds, rfl, _, h2⟩ := hw
        obtain ⟨e1, e2, fs, e3, e4⟩ := (hc tx ty hty).eqs heq
        have hfs : P.fieldsOf tx = fs := by unfold Program.fieldsOf; rw [e3]
        have hrun : (Op.equalIn 10000 tx (.agg cs) (.agg ds)).run P w0 = .ok q w0 := by
          rw [run_equalIn_struct w0 9999 tx cs ds (by rw [hfs]; exact e3) e1, hfs]
          exact eqFields_ok (d := 9998) _ _ _ _ 0 q e4 hq (fun j b hj => by rw [Nat.zero_add]; exact h1 j b hj) (fun j b hj => by rw [Nat.zero_add]; exact h2 j b hj)
        split at hl
        · refine ⟨_, _, hl, scB_ok _, ?_⟩
          rw [Sem.run_bind, run_eqGuard_agg w0 _ tx x y cs ds e2]
          simp only [Result.andThen_ok]
          rw [run_eql_struct, hrun]; rfl
        · refine ⟨_, _, hl, scB_ok _, ?_⟩
          rw [Sem.run_bind, run_eqGuard_agg w0 _ tx x y cs ds e2]
          simp only [Result.andThen_ok]
          rw [run_neq_struct, hrun]; rfl
        · exact hl.elim
      · exact hl.elim
    · exact hl.elim
  · exact hl.elim

theorem op_binOp (hc : CxF P cx) (h : Rep E s a.tmps W) {op : BinOp} {tx ty : TypeId} {x y : Operand} (ho : o.op = .binOp op tx x y ty) (hl : (opDelta cx v o s).leads ws) : Goes P E o a W.w (s.app ws) := by
  simp only [opDelta, ho] at hl
  have key : ∃ z r, (match o.dst with | some d => Step.go [Wr.slot d z] | none => Step.go []).leads ws ∧ AVok s W z r ∧ (do eqGuard op tx x y (a.eval x) (a.eval y); binOp op tx (a.eval x) (a.eval y) : Sem Value).run P W.w = .ok r W.w := by
    split at hl
    · rename_i as bs h1 h2
      exact aggOp_ok hc (by have := opd_ok h x; rw [h1] at this; exact this) (by have := opd_ok h y; rw [h2] at this; exact this) hl W.w
    · exact binop_ok (x := x) hc h hl
  obtain ⟨z, r, hl, hz, hr⟩ := key
  rw [out_leads hl]
  refine goes_out h ?_ hz
  simp only [execOp, ho]
  rw [Sem.run_bind, hr]; rfl

theorem op_unOp (h : Rep E s a.tmps W) {op : UnOp} {tx : TypeId} {x : Operand} (ho : o.op = .unOp op tx x) (hl : (opDelta cx v o s).leads ws) : Goes P E o a W.w (s.app ws) := by
  simp only [opDelta, ho] at hl
  have h1 := opd1_ok h x
  revert hl h1
  generalize s.opd1 x = p
  intro hl h1
  split at hl
  · rw [out_leads hl]
    rename_i b
    refine goes_out h (u := .bool (!b)) ?_ (scB_ok _)
    simp [execOp, ho, show a.eval x = .bool b from h1.1, Op.unary]
  · rename_i k n
    rw [out_leads hl]
    refine goes_out h (u := .int k (k.wrap (negI n))) ?_ (scI_ok _ _)
    simp [execOp, ho, show a.eval x = .int k n from h1.1, Op.unary, Op.intArith, negI]
  · exact hl.elim

theorem lone_of {t : TypeId} {ty : Ty} (hc : CxF P cx) (ht : cx.ty t = some ty) {l : L} (hl : ty.ls = .one l) (hg : ty.agg = false) : LoneF P t l := by
  obtain ⟨l', h1, h2⟩ := (hc t ty ht).lone hg
  rw [hl] at h1; injection h1 with h1; subst h1; exact h2

theorem op_pick (h : Rep E s a.tmps W) {x y z : Operand} (ho : o.op = .pick x y z) (hl : (opDelta cx v o s).leads ws) : Goes P E o a W.w (s.app ws) := by
  simp only [opDelta, ho] at hl
  have h1 := opd1_ok h x
  revert hl h1
  generalize s.opd1 x = p
  intro hl h1
  split at hl
  · rename_i t
    rcases iff_leads hl with ⟨ht, hl⟩ | ⟨ht, hl⟩
    · rw [out_leads hl]
      refine goes_out h (u := a.eval y) ?_ (opd_ok h y)
      simp [execOp, ho, show a.eval x = .bool t from h1.1, asBool, show t = true from ht]
    · rw [out_leads hl]
      refine goes_out h (u := a.eval z) ?_ (opd_ok h z)
      simp [execOp, ho, show a.eval x = .bool t from h1.1, asBool, show t = false from ht]
  · exact hl.elim

theorem alive_ok {la : LA} {u : Value} (hv : LAok s W la u) (ha : s.alive la = true) : ∃ ad, u = .pointer (some ad) := by
  unfold St.alive at ha
  cases la with
  | ptr r j ver =>
    simp only [Bool.and_eq_true, beq_iff_eq] at ha
    exact ⟨_, hv ha.1 ha.2⟩
  | eptr c =>
    simp only at ha
    split at ha
    · rename_i ver gen t e xs d hl
      simp only [Bool.and_eq_true, beq_iff_eq, Bool.or_eq_true, decide_eq_true_eq] at ha
      obtain ⟨rfl, hg⟩ := ha
      obtain ⟨q, i, off, h', e', ad, n, k, _, _, _, _, _, hu⟩ := hv gen t e xs d hl hg
      exact ⟨_, hu⟩
    · cases ha
  | fptr e x off => obtain ⟨ad, g, arr, T, fr, hu, _⟩ := hv; exact ⟨_, hu⟩
  | _ => cases ha

theorem av_one {a : AV} {v : Value} (h : AVok s W a v) : LAok s W a.one? v := by
  cases a with
  | tup vs => trivial
  | bx as => trivial
  | v g as =>
    cases g with
    | true => trivial
    | false => cases as with
      | nil => trivial
      | cons b bs => cases bs with
        | nil => exact h
        | cons => trivial
theorem loadsV_ok {tm : Array Value} (h : Rep E s tm W) {la : AV} {v : Value} (hv : AVok s W la v) {n : Nat} {β : Type} {t : β} {k : List LA → Step β} (hl : (s.loadsV la n k).leads t) :
    ∃ as : List LA, (k as).leads t ∧ as.length ≤ n ∧ ∃ (b off : Nat), v = .pointer (some ⟨b, off, none⟩) ∧ ∀ (j : Nat) (x : LA), as[j]? = some x → ∃ u, W.w.cell? ⟨b, off + j, none⟩ = some u ∧ LAok s W x u := by
  cases la with
  | v g as => exact loads_ok h (av_one hv) hl
  | tup vs => exact loads_ok h (av_one hv) hl
  | bx as =>
    simp only [St.loadsV] at hl
    split at hl
    · rename_i hlen
      obtain ⟨b, off, arr, T, fr, hp, hz, hh, hfr, hget⟩ := hv
      refine ⟨_, hl, by rw [List.length_take]; omega, b, off, hp, fun j x hx => ?_⟩
      have hx' : as[j]? = some x := by
        rw [List.getElem?_take] at hx
        split at hx
        · exact hx
        · cases hx
      obtain ⟨u, hu, hok⟩ := hget j x hx'
      exact ⟨u, by simp [World.cell?, hh, hu], hok⟩
    · exact hl.elim

theorem op_nilCheck (h : Rep E s a.tmps W) {x : Operand} (ho : o.op = .nilCheck x) (hl : (opDelta cx v o s).leads ws) : Goes P E o a W.w (s.app ws) := by
  simp only [opDelta, ho] at hl
  have h1 := opd_ok h x
  have hone : ∀ p : AV, AVok s W p (a.eval x) → (if s.alive p.one? then (match o.dst with | some d => (.go [.slot d (one p.one?)] : Step (List Wr)) | none => .go []) else .none).leads ws → Goes P E o a W.w (s.app ws) := by
    intro p h1 hl
    have h1 := av_one h1
    split at hl
    · rename_i hal
      obtain ⟨ad, hp⟩ := alive_ok h1 hal
      rw [out_leads hl]
      exact goes_out h (u := a.eval x) (by simp [execOp, ho, hp]) h1
    · exact hl.elim
  generalize s.opd x = p at hl h1
  cases p with
  | bx as =>
    have h2 := h1
    obtain ⟨b, off, arr, T, fr, hp, _⟩ := h1
    rw [out_leads hl]
    exact goes_out h (u := a.eval x) (by simp [execOp, ho, hp]) h2
  | v g as => exact hone _ h1 hl
  | tup vs => exact hone _ h1 hl

theorem asInt_ok {la : LA} {u : Value} (hv : LAok s W la u) {β : Type} {k : Int → Step β} {t : β} (hl : (asInt la k).leads t) : ∃ j n, u = .int j n ∧ (k n).leads t := by
  unfold asInt at hl
  cases la with
  | sc l x => cases l with
    | int j => exact ⟨j, x, hv.1, hl⟩
    | _ => exact hl.elim
  | _ => exact hl.elim

theorem lenS_ok {la : LA} {u : Value} (hv : LAok s W la u) {β : Type} {k : Int → Step β} {t : β} (hl : (lenS la k).leads t) : ∃ (n : Int) (b : ByteArray), (k n).leads t ∧ u = .string b ∧ n = b.size := by
  unfold lenS at hl
  cases la with
  | sc l x => cases l with
    | str => exact ⟨_, _, hl, hv.1, rfl⟩
    | _ => exact hl.elim
  | _ => exact hl.elim
theorem lenOf_ok (h : Rep E s a.tmps W) {la : LA} {u : Value} (hv : LAok s W la u) {β : Type} {k : Int → Step β} {t : β} (hl : (lenOf s la k).leads t) :
    ∃ n : Int, (k n).leads t ∧ ∃ A len c, u = .slice A len c ∧ n = (len : Int) := by
  unfold lenOf at hl
  cases la with
  | sc l x => cases l with
    | sl t e =>
      obtain ⟨A, c, hu, _⟩ := RowRd.len (show RowRd e 0 W.w W.fz u x [] from hv)
      exact ⟨_, hl, A, _, c, hu, rfl⟩
    | _ => exact hl.elim
  | nils => exact ⟨_, hl, none, 0, 0, hv, rfl⟩
  | ref c =>
    obtain ⟨t', e', ys, d', o', hl, hr, ho⟩ := content_ref h hv hl
    obtain ⟨A, c, hu, _⟩ := hr.len
    exact ⟨_, hl, A, _, c, hu, rfl⟩
  | win c lo hi =>
    obtain ⟨t', e', ys, d', o', hl, hr, ho⟩ := content_win h hv hl
    obtain ⟨A, c, hu, _⟩ := hr.len
    exact ⟨_, hl, A, _, c, hu, rfl⟩
  | _ => exact hl.elim

theorem op_load (hc : CxF P cx) (h : Rep E s a.tmps W) {t : TypeId} {x : Operand} (ho : o.op = .load t x) (hl : (opDelta cx v o s).leads ws) : Goes P E o a W.w (s.app ws) := by
  simp only [opDelta, ho] at hl
  split at hl
  · rename_i ty ht
    have hty := hc t ty ht
    obtain ⟨as, hl, _, b, off, hx, hget⟩ := loadsV_ok h (opd_ok h x) hl
    split at hl
    · rename_i hlen
      have hlen : as.length = ty.ls.n := by simpa using hlen
      rw [out_leads hl]
      cases hag : ty.agg with
      | false =>
        obtain ⟨l, hls, hlo⟩ := hty.lone hag
        rw [hls] at hlen
        obtain ⟨y, rfl⟩ : ∃ y, as = [y] := by
          match as, hlen with
          | [y], _ => exact ⟨y, rfl⟩
        obtain ⟨u, hu, hy⟩ := hget 0 y rfl
        obtain ⟨d, hd, hnd⟩ := hlo.notAgg
        refine goes_out h (u := u) ?_ (show AVok s W (.v false [y]) u from hy)
        have hagg : (isAgg t).run P W.w = .ok false W.w := by
          unfold isAgg
          rw [Sem.run_bind, run_underlying hd]
          cases d <;> simp_all
        simp only [Nat.add_zero] at hu
        simp [execOp, ho, Instr.loadAt, hx, Instr.sureAddr, loadVar, hagg, load, Sem.run, hu]
      | true =>
        obtain ⟨fs, hfs, _⟩ := hty.agg hag
        obtain ⟨i, hi, hsz, _⟩ := hty.info
        let f : Nat → Value := fun j => (W.w.cell? ⟨b, off + j, none⟩).getD Go.undef
        let cs : List Value := (List.range as.length).map f
        have hcs : ∀ j u, cs[j]? = some u → W.w.cell? ⟨b, off + j, none⟩ = some u := by
          intro j u hj
          simp only [cs, List.getElem?_map] at hj
          by_cases hlt : j < as.length
          · rw [List.getElem?_range hlt] at hj
            simp at hj
            obtain ⟨u', hu', _⟩ := hget j as[j] (List.getElem?_eq_getElem hlt)
            rw [← hj]; simp [f, hu']
          · rw [List.getElem?_eq_none (by simp; omega)] at hj; cases hj
        have hrun := run_loadVar_mid (P := P) W.w b off t cs (.struct fs) (fun j u hj => hcs j u hj) hfs rfl (by simp [hi, hsz, cs, hlen])
        refine goes_out h (u := .agg cs.toArray) ?_ ?_
        · simp [execOp, ho, Instr.loadAt, hx, Instr.sureAddr, hrun]
        · refine ⟨cs.toArray, rfl, by simp [cs], fun j y hy => ?_⟩
          obtain ⟨u, hu, hok⟩ := hget j y hy
          refine ⟨u, ?_, hok⟩
          have hlt : j < as.length := (List.getElem?_eq_some_iff.1 hy).1
          simp [cs, f, hlt, hu]
    · exact hl.elim
  · exact hl.elim

theorem op_len (hc : CxF P cx) (h : Rep E s a.tmps W) {c : Call} (ho : o.op = .call c) (hb : c.callee = .builtin .len) (hl : (opDelta cx v o s).leads ws) : Goes P E o a W.w (s.app ws) := by
  simp only [opDelta, ho, hb] at hl
  split at hl
  · rename_i x t hx ht
    split at hl
    · rename_i ty hty
      split at hl
      · exact hl.elim
      · rename_i hag
        have hargs : c.args = #[x] := by rw [← Array.toList_inj, hx]
        have hats : c.argTypes = #[t] := by rw [← Array.toList_inj, ht]
        obtain ⟨cal, args, ats⟩ := c
        dsimp only at hb hargs hats
        subst hb; subst hargs; subst hats
        split at hl
        · rename_i hls
          obtain ⟨n, b, hl, hu, rfl⟩ := lenS_ok (opd1_ok h x) hl
          rw [out_leads hl]
          refine goes_out h (u := .int .i64 b.size) ?_ (scI_ok _ _)
          have hund : P.underlying t = some .string := lone_of hc hty hls (by simpa using hag)
          simp [execOp, ho, resolve, invoke, builtin, Builtin.len_, hu, run_underlying hund, goInt]
        · rename_i t' e hls
          obtain ⟨n, hl, A, len, k, hu, rfl⟩ := lenOf_ok h (opd1_ok h x) hl
          rw [out_leads hl]
          refine goes_out h (u := .int .i64 len) ?_ (scI_ok _ _)
          have hund := (lone_of hc hty hls (by simpa using hag)).1
          simp [execOp, ho, resolve, invoke, builtin, Builtin.len_, hu, run_underlying hund, goInt]
        · exact hl.elim
    · exact hl.elim
  · exact hl.elim

end
end Go.Ev

namespace Go.Ev
set_option linter.unusedVariables false
set_option linter.unusedSimpArgs false

theorem nth?_get {α : Type} : ∀ (l : List α) (i : Nat), nth? l i = l[i]?
  | [], i => by simp [nth?]
  | x :: xs, 0 => by simp [nth?]
  | x :: xs, i + 1 => by simp [nth?, nth?_get xs i]

section
variable {P : Program} {E : Ent} {s : St} {W : Wd} {o : Oper} {a : Act} {ws : List Wr} {cx : Cx} {v : Nat}

theorem addr_add (b off n : Nat) : (⟨b, off, none⟩ : Addr).add n = ⟨b, off + n, none⟩ := by
  unfold Addr.add; split
  · rename_i h; subst h; rfl
  · rfl
theorem at_add (ad : Addr) (k n : Nat) : (at_ ad k).add n = at_ ad (k + n) := by
  unfold at_; rw [addr_add]; congr 1; omega

/-- A field, by its type's row. -/
theorem field_of (hc : CxF P cx) {t : TypeId} {ty : Ty} (ht : cx.ty t = some ty) {f fo : Nat} {ft : TypeId} (hf : (if ty.agg = true then nth? ty.fs f else none) = some (fo, ft)) :
    ty.agg = true ∧ ∃ (fs : Array Field) (fd : Field), P.underlying t = some (.struct fs) ∧ fs[f]? = some fd ∧ fd.offset = fo ∧ fd.type = ft := by
  split at hf
  · rename_i hag
    obtain ⟨fs, hu, hfs, _⟩ := (hc t ty ht).agg hag
    rw [nth?_get, ← hfs, List.getElem?_map] at hf
    cases hq : fs.toList[f]? with
    | none => rw [hq] at hf; cases hf
    | some fd =>
      rw [hq] at hf; injection hf with hf; injection hf with h1 h2
      exact ⟨hag, fs, fd, hu, by simpa using hq, h1, h2⟩
  · cases hf

theorem size_of (hc : CxF P cx) {t : TypeId} {ty : Ty} (ht : cx.ty t = some ty) (w : World) : (sizeOf t).run P w = .ok ty.ls.n w := by
  obtain ⟨i, hi, hs, _⟩ := (hc t ty ht).info
  simp [sizeOf, typeInfo, hi, hs]

theorem splitLast_snoc : ∀ (q : List (Nat × Nat)) (i off : Nat), splitLast (q ++ [(i, off)]) = some (q, i, off)
  | [], i, off => rfl
  | [x], i, off => rfl
  | x :: y :: r, i, off => by
    have := splitLast_snoc (y :: r) i off
    simp only [List.cons_append] at this ⊢
    simp only [splitLast]
    rw [this]

theorem op_fieldAddr (hc : CxF P cx) (h : Rep E s a.tmps W) {t : TypeId} {x : Operand} {f : Nat} (ho : o.op = .fieldAddr t x f) (hl : (opDelta cx v o s).leads ws) :
    Goes P E o a W.w (s.app ws) := by
  simp only [opDelta, ho] at hl
  split at hl
  · rename_i ty ht
    split at hl
    · rename_i fo ft hf
      obtain ⟨hag, fs, fd, hu, hfd, rfl, rfl⟩ := field_of hc ht hf
      split at hl
      · rename_i tf htf
        split at hl
        · exact hl.elim
        · rename_i hne
          have hsz := size_of hc htf W.w
          simp only [beq_iff_eq] at hne
          have h0 := opd_ok h x
          have run : ∀ ad : Addr, a.eval x = .pointer (some ad) → (execOp a.eval o).run P W.w = .ok (.value (.pointer (some (ad.add fd.offset)))) W.w := by
            intro ad had
            simp [execOp, ho, Instr.fieldAt, run_underlying hu, hfd, had, Instr.sureAddr, fieldPlace, hsz, hne]
          have hone : ∀ h1 : LAok s W (s.opd1 x) (a.eval x), (∀ as, s.opd x ≠ .bx as) → s.alive (s.opd1 x) = true → (match s.opd1 x with
              | .ptr r j ver => (match o.dst with | some d => (.go [.slot d (one (.ptr r (j + fd.offset) ver))] : Step (List Wr)) | none => .go [])
              | .fptr e y j => (match o.dst with | some d => (.go [.slot d (one (.fptr e y (j + fd.offset)))] : Step (List Wr)) | none => .go [])
              | .eptr c => match splitLast c.p with
                | some (q, i, off) => (match o.dst with | some d => (.go [.slot d (one (.eptr { c with p := q ++ [(i, off + fd.offset)] }))] : Step (List Wr)) | none => .go [])
                | none => .none
              | _ => .none : Step (List Wr)).leads ws → Goes P E o a W.w (s.app ws) := by
            intro h1 hnb halive hl
            obtain ⟨ad, had⟩ := alive_ok h1 halive
            have run := run ad had
            clear hnb
            generalize s.opd1 x = p at hl h1 halive
            split at hl
            · rename_i r j ver
              rw [out_leads hl]
              refine goes_out h run ?_
              intro hb hver
              have := h1 hb hver
              rw [had] at this
              injection this with this; injection this with this
              subst this
              rw [addr_add]
            · rename_i e y j
              rw [out_leads hl]
              refine goes_out h run ?_
              obtain ⟨ad', g, arr, T, fr, hv, rest⟩ := h1
              rw [had] at hv
              injection hv with hv; injection hv with hv
              subst hv
              exact ⟨ad', g, arr, T, fr, by rw [at_add], rest⟩
            · rename_i c
              split at hl
              · rename_i q i off hq
                rw [out_leads hl]
                refine goes_out h run ?_
                intro gen t0 e0 xs0 d0 hleaf hp
                dsimp only at hleaf hp
                obtain ⟨q', i', off', h', e', ad', n, k, hq', hcv, hn, hs, hi, hv⟩ := h1 gen t0 e0 xs0 d0 hleaf (by
                  rcases hp with hp | hp
                  · left; rw [splitLast_len hq]; simpa using hp
                  · exact .inr hp)
                rw [hq] at hq'
                injection hq' with hq'; injection hq' with z1 z2; injection z2 with z2 z3
                subst z1; subst z2; subst z3
                rw [had] at hv
                injection hv with hv; injection hv with hv
                subst hv
                exact ⟨q, i, off + fd.offset, h', e', ad', n, k, splitLast_snoc _ _ _, hcv, hn, hs, hi, by rw [at_add, Nat.add_assoc]⟩
              · exact hl.elim
            · exact hl.elim
          have hsel : ∀ p, s.opd x = p → (∀ as, p ≠ .bx as) → (if !s.alive p.one? then (.none : Step (List Wr)) else match p.one? with
              | .ptr r j ver => (match o.dst with | some d => (.go [.slot d (one (.ptr r (j + fd.offset) ver))] : Step (List Wr)) | none => .go [])
              | .fptr e y j => (match o.dst with | some d => (.go [.slot d (one (.fptr e y (j + fd.offset)))] : Step (List Wr)) | none => .go [])
              | .eptr c => match splitLast c.p with
                | some (q, i, off) => (match o.dst with | some d => (.go [.slot d (one (.eptr { c with p := q ++ [(i, off + fd.offset)] }))] : Step (List Wr)) | none => .go [])
                | none => .none
              | _ => .none).leads ws → Goes P E o a W.w (s.app ws) := by
            intro p hp hnb hl
            have h1 : LAok s W (s.opd1 x) (a.eval x) := opd1_ok h x
            split at hl
            · exact hl.elim
            · rename_i hal
              refine hone h1 (hp ▸ hnb) (by rw [St.opd1, hp]; simpa using hal) ?_
              rw [St.opd1, hp]; exact hl
          generalize hq : s.opd x = p at hl h0
          cases p with
          | bx as =>
            obtain ⟨b, off, arr, T, fr, hv, hz, hh, hfr, hget⟩ := h0
            have run := run _ hv
            rw [out_leads hl]
            refine goes_out h run ?_
            refine ⟨b, off + fd.offset, arr, T, fr, by rw [addr_add], hz, hh, hfr, fun j y hy => ?_⟩
            rw [List.getElem?_drop] at hy
            obtain ⟨u, hu, hok⟩ := hget _ y hy
            exact ⟨u, by rw [← hu, Nat.add_assoc], hok⟩
          | v g as => exact hsel _ hq (by simp) hl
          | tup vs => exact hsel _ hq (by simp) hl
      · exact hl.elim
    · exact hl.elim
  · exact hl.elim

theorem op_field (hc : CxF P cx) (h : Rep E s a.tmps W) {t : TypeId} {x : Operand} {f : Nat} (ho : o.op = .field t x f) (hl : (opDelta cx v o s).leads ws) : Goes P E o a W.w (s.app ws) := by
  simp only [opDelta, ho] at hl
  have h1 := opd_ok h x
  revert hl h1
  generalize s.opd x = p
  intro hl h1
  split at hl
  · rename_i ty as ht
    split at hl
    · rename_i fo ft hf
      obtain ⟨hag, fs, fd, hu, hfd, rfl, rfl⟩ := field_of hc ht hf
      split at hl
      · rename_i tf htf
        split at hl
        · rename_i hle
          have hle : fd.offset + tf.ls.n ≤ as.length := of_decide_eq_true hle
          rw [out_leads hl]
          obtain ⟨cs, hcs, hsz, hget⟩ := h1
          have hpart : ∃ u, (part fd.type cs fd.offset).run P W.w = .ok u W.w ∧ AVok s W (.v tf.agg ((as.drop fd.offset).take tf.ls.n)) u := by
            have htf' := hc _ _ htf
            cases hag' : tf.agg with
            | false =>
              obtain ⟨l, hls, hlo⟩ := htf'.lone hag'
              obtain ⟨d, hd, hnd⟩ := hlo.notAgg
              have hagg : (isAgg fd.type).run P W.w = .ok false W.w := by
                unfold isAgg
                rw [Sem.run_bind, run_underlying hd]
                cases d <;> simp_all
              have hn : tf.ls.n = 1 := by rw [hls]; rfl
              rw [hn] at hle ⊢
              have hlt : fd.offset < as.length := by omega
              obtain ⟨u, hu, hok⟩ := hget fd.offset as[fd.offset] (List.getElem?_eq_getElem hlt)
              refine ⟨u, by simp [part, hagg, hu], ?_⟩
              have : (as.drop fd.offset).take 1 = [as[fd.offset]] := by
                rw [List.drop_eq_getElem_cons hlt]; rfl
              rw [this]; exact hok
            | true =>
              obtain ⟨fs', hfs', _⟩ := htf'.agg hag'
              have hagg : (isAgg fd.type).run P W.w = .ok true W.w := by
                unfold isAgg
                rw [Sem.run_bind, run_underlying hfs']; rfl
              refine ⟨.agg (cs.extract fd.offset (fd.offset + tf.ls.n)), by simp [part, hagg, size_of hc htf], _, rfl, by simp; omega, fun j y hy => ?_⟩
              rw [List.getElem?_take] at hy
              split at hy
              · rename_i hj
                rw [List.getElem?_drop] at hy
                obtain ⟨u, hu, hok⟩ := hget _ y hy
                refine ⟨u, ?_, hok⟩
                rw [Array.getElem?_extract]
                rw [if_pos (by omega)]; exact hu
              · cases hy
          obtain ⟨u, hrun, hok⟩ := hpart
          exact goes_out h (u := u) (by simp [execOp, ho, Instr.field, run_underlying hu, hfd, hcs, asAgg, hrun]) hok
        · exact hl.elim
      · exact hl.elim
    · exact hl.elim
  · exact hl.elim

theorem op_extract (h : Rep E s a.tmps W) {x : Operand} {i : Nat} (ho : o.op = .extract x i) (hl : (opDelta cx v o s).leads ws) : Goes P E o a W.w (s.app ws) := by
  simp only [opDelta, ho] at hl
  have h1 := opd_ok h x
  revert hl h1
  generalize s.opd x = p
  intro hl h1
  split at hl
  · rename_i vs
    split at hl
    · rename_i g as hn
      rw [out_leads hl]
      rw [nth?_get] at hn
      obtain ⟨us, hus, hsz, hget⟩ := h1
      obtain ⟨u, hu, hok⟩ := hget i _ hn
      exact goes_out h (u := u) (by simp [execOp, ho, Instr.extract, hus, hu]) hok
    · exact hl.elim
  · exact hl.elim

theorem op_move (h : Rep E s a.tmps W) {x : Operand} (ho : o.op = .move x) (hn : isNils (s.opd x) = false) (hl : (opDelta cx v o s).leads ws) : Goes P E o a W.w (s.app ws) := by
  simp only [opDelta, ho, hn] at hl
  rw [out_leads hl]
  exact goes_out h (u := a.eval x) (by simp [execOp, ho]) (opd_ok h x)

theorem op_min (h : Rep E s a.tmps W) {c : Call} (ho : o.op = .call c) (hb : c.callee = .builtin .min) (hl : (opDelta cx v o s).leads ws) : Goes P E o a W.w (s.app ws) := by
  simp only [opDelta, ho, hb] at hl
  split at hl
  · rename_i x y hx
    have h1 := opd1_ok h x
    have h2 := opd1_ok h y
    generalize s.opd1 x = p at hl h1
    generalize s.opd1 y = q at hl h2
    split at hl
    · rename_i k m j n
      change Int at m n
      rw [out_leads hl]
      have hargs : c.args = #[x, y] := by rw [← Array.toList_inj, hx]
      obtain ⟨cal, args, ats⟩ := c
      dsimp only at hb hargs
      subst hb; subst hargs
      have e1 : a.eval x = .int k m := h1.1
      have e2 : a.eval y = .int j n := h2.1
      have hr : (Builtin.min_ ats o.type #[.int k m, .int j n]).run P W.w = .ok (.int k (minI m n)) W.w := by
        rw [run_min_int2]; unfold minI; rw [Bool.cond_decide]
      refine goes_out h (u := .int k (minI m n)) ?_ (scI_ok _ _)
      simp [execOp, ho, resolve, invoke, builtin, e1, e2]
      rw [hr]; rfl
    · exact hl.elim
  · exact hl.elim
theorem op_max (h : Rep E s a.tmps W) {c : Call} (ho : o.op = .call c) (hb : c.callee = .builtin .max) (hl : (opDelta cx v o s).leads ws) : Goes P E o a W.w (s.app ws) := by
  simp only [opDelta, ho, hb] at hl
  split at hl
  · rename_i x y hx
    have h1 := opd1_ok h x
    have h2 := opd1_ok h y
    generalize s.opd1 x = p at hl h1
    generalize s.opd1 y = q at hl h2
    split at hl
    · rename_i k m j n
      change Int at m n
      rw [out_leads hl]
      have hargs : c.args = #[x, y] := by rw [← Array.toList_inj, hx]
      obtain ⟨cal, args, ats⟩ := c
      dsimp only at hb hargs
      subst hb; subst hargs
      have e1 : a.eval x = .int k m := h1.1
      have e2 : a.eval y = .int j n := h2.1
      have hr : (Builtin.max_ ats o.type #[.int k m, .int j n]).run P W.w = .ok (.int k (maxI m n)) W.w := by
        rw [run_max_int2]; unfold maxI; rw [Bool.cond_decide]
      refine goes_out h (u := .int k (maxI m n)) ?_ (scI_ok _ _)
      simp [execOp, ho, resolve, invoke, builtin, e1, e2]
      rw [hr]; rfl
    · exact hl.elim
  · exact hl.elim

end
end Go.Ev

namespace Go.Ev
set_option linter.unusedVariables false
set_option linter.unusedSimpArgs false

section
variable {P : Program} {E : Ent} {s : St} {W : Wd} {o : Oper} {a : Act} {ws : List Wr} {cx : Cx} {v : Nat}

theorem isRow_ok (hc : CxF P cx) {t : TypeId} {e : Ls} (h : isRow cx t e = true) : ∃ t', P.underlying t = some (.slice t') ∧ ElF P t' e := by
  unfold isRow at h
  split at h
  · rename_i ty ht
    simp only [Bool.and_eq_true, Bool.not_eq_true'] at h
    obtain ⟨hg, h⟩ := h
    split at h
    · rename_i t' f hls
      obtain rfl := Ls.eq_of h
      exact ⟨t', lone_of hc ht hls hg⟩
    · cases h
  · cases h
theorem tyIs_str (hc : CxF P cx) {t : TypeId} (h : tyIs cx t .str = true) : P.underlying t = some .string := by
  unfold tyIs at h
  split at h
  · rename_i ty ht
    simp only [Bool.and_eq_true, Bool.not_eq_true'] at h
    obtain ⟨l, hl, hf⟩ := (hc t ty ht).lone h.1
    rw [hl] at h
    have := h.2
    simp only [Ls.eq?] at this
    obtain rfl := L.eq_of this
    exact hf
  · cases h
theorem ElF.sizeOf {t : TypeId} {e : Ls} (h : ElF P t e) (w : World) : (sizeOf t).run P w = .ok e.n w := by
  obtain ⟨i, hi, hs, _⟩ := h.info
  simp [Go.sizeOf, typeInfo, hi, hs]

theorem getI_some {α : Type} {xs : List α} {n : Int} {x : α} (h : getI xs n = some x) : 0 ≤ n ∧ ∃ hx : n.toNat < xs.length, xs[n.toNat] = x := by
  unfold getI at h
  split at h
  · rename_i h0
    obtain ⟨hx, he⟩ := List.getElem?_eq_some_iff.1 h
    exact ⟨h0, hx, he⟩
  · cases h
theorem inb_ok {α : Type} {xs : List α} {n : Int} (h : inb xs n = true) : 0 ≤ n ∧ n.toNat < xs.length := by
  unfold inb at h
  simp only [Bool.and_eq_true, decide_eq_true_eq] at h
  omega

theorem run_indexAddr (hc : CxF P cx) {ti : TypeId} {e : Ls} (hr : isRow cx ti e = true) {j : IntKind} {n : Int} {ad : Addr} {len c : Nat} (h0 : 0 ≤ n) (hn : n.toNat < len) (w : World) :
    (Instr.indexAt ti (.slice (some ad) len c) (.int j n)).run P w = .ok (.pointer (some (ad.add (n.toNat * e.n)))) w := by
  obtain ⟨t', hu, he⟩ := isRow_ok hc hr
  have : 0 ≤ n ∧ n < (len : Int) := by omega
  simp [Instr.indexAt, asIntOf, run_underlying hu, this, he.sizeOf]

theorem add_at {ad : Addr} (hs : ad.spot = none) (k : Nat) : ad.add k = at_ ad k := by
  obtain ⟨b, off, sp⟩ := ad
  dsimp only at hs; subst hs
  exact addr_add b off k

theorem op_indexAddr (hc : CxF P cx) (h : Rep E s a.tmps W) {ti : TypeId} {x i : Operand} (ho : o.op = .indexAddr ti x i) (hl : (opDelta cx v o s).leads ws) : Goes P E o a W.w (s.app ws) := by
  simp only [opDelta, ho] at hl
  obtain ⟨j, n, hi, hl⟩ := asInt_ok (opd1_ok h i) hl
  have h1 := opd1_ok h x
  generalize s.opd1 x = p at hl h1
  split at hl
  · rename_i t e xs
    split at hl
    · rename_i hr
      obtain ⟨y, hy, hl⟩ := hl
      rw [out_leads hl]
      obtain ⟨h0, hx, he⟩ := getI_some hy
      have h1 : RowRd e 0 W.w W.fz (a.eval x) xs [] := h1
      obtain ⟨A, c, hv, hcap, h1⟩ := h1
      cases A with
      | none => rw [h1.1] at hcap; omega
      | some ad =>
        rcases h1 with h1 | ⟨g, os, hrow, hel, hfz, _, _⟩
        · have := h1.2.1; omega
        have hrun := run_indexAddr (P := P) hc hr (j := j) (ad := ad) (c := c) h0 hx W.w
        refine goes_out h (u := .pointer (some (ad.add (n.toNat * e.n)))) (by simp [execOp, ho, hi, hv, hrun]) ?_
        obtain ⟨hs, arr, T, fr, hh, hnn, _, hg⟩ := hrow
        rw [add_at hs]
        refine ⟨at_ ad (n.toNat * e.n), fun j => g (n.toNat * e.n + j), arr, T, fr, by simp [at_], hfz, hh, fun j => ?_, ?_⟩
        · show g _ = _; rw [hg]; simp [at_, Nat.add_assoc]
        · have := hel n.toNat hx
          rw [he] at this
          have ho : os n.toNat = [] := Ls.rd_zero e this
          rw [ho] at this
          exact this
    · exact hl.elim
  · rename_i c
    have h1' := h1
    obtain ⟨t0, e0, xs0, d0, gen, hleaf, hp, hk⟩ := content_ok h hl
    obtain ⟨u, e', hu, hn⟩ := h1 gen t0 e0 xs0 d0 hleaf hp
    obtain ⟨t', ys, d', o', hl, hrd, _⟩ := hk u e' _ hu hn
    split at hl
    · rename_i hr
      rcases iff_leads hl with ⟨hb, hl⟩ | ⟨_, hl⟩
      · rw [out_leads hl]
        obtain ⟨h0, hx⟩ := inb_ok hb
        obtain ⟨A, cc, hv, hcap, hrd⟩ := hrd
        cases A with
        | none => rw [hrd.1] at hcap; omega
        | some ad =>
          rcases hrd with hrd | ⟨g, os, hrow, hel, _⟩
          · have := hrd.2.1; omega
          have hrun := run_indexAddr (P := P) hc hr (j := j) (ad := ad) (c := cc) h0 hx W.w
          refine goes_out h (u := .pointer (some (ad.add (n.toNat * e'.n)))) (by simp [execOp, ho, hi, hv, hrun]) ?_
          intro gen2 t2 e2 xs2 d2 hleaf2 hp2
          dsimp only at hleaf2 hp2
          rw [hleaf] at hleaf2
          injection hleaf2 with z1 z2 z3 z4
          subst z4
          rw [hv] at hn
          exact ⟨c.p, n.toNat, 0, u, e', ad, _, cc, splitLast_snoc _ _ _, hu, hn, hrow.1, hx, by rw [add_at hrow.1]; rfl⟩
      · exact hl.elim
    · exact hl.elim
  · rename_i c lo hi'
    obtain ⟨t0, e0, xs0, d0, gen, hleaf, hp, hk⟩ := content_ok h hl
    obtain ⟨u, e', A0, n0, k0, hu, hn, hlo, hhi, hv⟩ := h1 gen t0 e0 xs0 d0 hleaf hp
    obtain ⟨t', ys, d', o', hl, hrd, _⟩ := hk u e' _ hu hn
    split at hl
    · rename_i hr
      rcases iff_leads hl with ⟨hb, hl⟩ | ⟨_, hl⟩
      · rw [out_leads hl]
        obtain ⟨h0, hx⟩ := inb_ok hb
        obtain ⟨A, cc, hv', hcap, hrd⟩ := hrd
        injection hv' with z1 z2 z3
        subst z1; subst z2; subst z3
        have hx' : n.toNat < hi' - lo := by simp [sub] at hx; omega
        cases A0 with
        | none => rw [hrd.1] at hcap; omega
        | some ad =>
          rcases hrd with hrd | ⟨g, os, hrow, hel, _⟩
          · have := hrd.2.1; omega
          have hne : k0 ≠ lo := by omega
          rw [if_neg hne] at hv
          have hrun := run_indexAddr (P := P) hc hr (j := j) (ad := ad.add (lo * e'.n)) (c := k0 - lo) h0 hx' W.w
          refine goes_out h (u := .pointer (some ((ad.add (lo * e'.n)).add (n.toNat * e'.n)))) (by simp [execOp, ho, hi, hv, hrun]) ?_
          intro gen2 t2 e2 xs2 d2 hleaf2 hp2
          dsimp only at hleaf2 hp2
          rw [hleaf] at hleaf2
          injection hleaf2 with q1 q2 q3 q4
          subst q4
          exact ⟨c.p, lo + n.toNat, 0, u, e', ad, _, k0, splitLast_snoc _ _ _, hu, hn, hrow.1, by omega, by rw [add_at hrow.1, at_add, Nat.add_mul]; rfl⟩
      · exact hl.elim
    · exact hl.elim
  · exact hl.elim

theorem op_index (hc : CxF P cx) (h : Rep E s a.tmps W) {ti : TypeId} {x i : Operand} (ho : o.op = .index ti x i) (hl : (opDelta cx v o s).leads ws) : Goes P E o a W.w (s.app ws) := by
  simp only [opDelta, ho] at hl
  obtain ⟨j, n, hi, hl⟩ := asInt_ok (opd1_ok h i) hl
  have h1 := opd1_ok h x
  generalize s.opd1 x = p at hl h1
  split at hl
  · rename_i b
    change List UInt8 at b
    split at hl
    · rename_i hr
      have hu := tyIs_str hc hr
      obtain ⟨y, hy, hl⟩ := hl
      rw [out_leads hl]
      obtain ⟨h0, hx, he⟩ := getI_some hy
      have e1 : a.eval x = .string ⟨List.toArray (α := UInt8) b⟩ := h1.1
      refine goes_out h (u := .int .u8 y.toNat) ?_ (scI_ok _ _)
      have hget : (⟨List.toArray (α := UInt8) b⟩ : ByteArray)[n.toNat]? = some y := by
        rw [getElem?_pos _ _ (by simpa [ByteArray.size] using hx)]
        congr 1
      simp [execOp, ho, hi, e1, Instr.index, asIntOf, run_underlying hu, h0, hget]
    · exact hl.elim
  · exact hl.elim

theorem asIntO_ok (h : Rep E s a.tmps W) {x : Option Operand} {d : Int} {β : Type} {k : Int → Step β} {t : β} (hl : (asIntO s x d k).leads t) :
    ∃ n : Int, (k n).leads t ∧ ((x = none ∧ n = d) ∨ ∃ y j, x = some y ∧ a.eval y = .int j n) := by
  cases x with
  | none => exact ⟨d, hl, .inl ⟨rfl, rfl⟩⟩
  | some y =>
    obtain ⟨j, n, hi, hl⟩ := asInt_ok (opd1_ok h y) hl
    exact ⟨n, hl, .inr ⟨y, j, rfl, hi⟩⟩

theorem run_bounds {isS : Bool} {len cap : Nat} {lo hi : Option Operand} {l m : Int} (hlo : (lo = none ∧ l = 0) ∨ ∃ y j, lo = some y ∧ a.eval y = .int j l)
    (hhi : (hi = none ∧ m = (len : Int)) ∨ ∃ y j, hi = some y ∧ a.eval y = .int j m) (h0 : 0 ≤ l) (h1 : l ≤ m) (h2 : m ≤ (cap : Int)) (w : World) :
    (Instr.sliceBounds isS len cap (lo.map a.eval) (hi.map a.eval) none).run P w = .ok (l.toNat, m.toNat, cap) w := by
  rcases hlo with ⟨rfl, rfl⟩ | ⟨y, j, rfl, hy⟩ <;> rcases hhi with ⟨rfl, rfl⟩ | ⟨z, k, rfl, hz⟩
  · simp [Instr.sliceBounds]
  · simp [Instr.sliceBounds, hz, Instr.sliceBound, asIntOf, h2, h1]
  · simp [Instr.sliceBounds, hy, Instr.sliceBound, asIntOf, h0, h1]
  · have : 0 ≤ m := by omega
    have h3 : l ≤ (m.toNat : Int) := by omega
    simp [Instr.sliceBounds, hy, hz, Instr.sliceBound, asIntOf, h0, h1, h2, this, h3]
    intro h4; omega

theorem op_slice (hc : CxF P cx) (h : Rep E s a.tmps W) {ti : TypeId} {x : Operand} {lo hi : Option Operand} (ho : o.op = .slice ti x lo hi none) (hl : (opDelta cx v o s).leads ws) : Goes P E o a W.w (s.app ws) := by
  simp only [opDelta, ho] at hl
  have h1 := opd1_ok h x
  generalize s.opd1 x = p at hl h1
  split at hl
  · rename_i b
    change List UInt8 at b
    split at hl
    · rename_i hr
      have hu := tyIs_str hc hr
      obtain ⟨l, hl, hlo⟩ := asIntO_ok h hl
      obtain ⟨m, hl, hhi⟩ := asIntO_ok h hl
      rcases iff_leads hl with ⟨hb, hl⟩ | ⟨_, hl⟩
      · simp only [Bool.and_eq_true, decide_eq_true_eq] at hb
        obtain ⟨⟨b0, b1⟩, b2⟩ := hb
        rw [out_leads hl]
        have e1 : a.eval x = .string ⟨b.toArray⟩ := h1.1
        have hrun := run_bounds (P := P) (isS := false) (len := b.length) (cap := b.length) hlo hhi b0 b1 b2 W.w
        refine goes_out h (u := .string ((⟨b.toArray⟩ : ByteArray).extract l.toNat m.toNat)) ?_ ?_
        · have hs : (⟨b.toArray⟩ : ByteArray).size = b.length := by simp [ByteArray.size]
          simp [execOp, ho, e1, Instr.sliceAt, run_underlying hu, Instr.slice, hs, hrun]
        · have : (⟨b.toArray⟩ : ByteArray).extract l.toNat m.toNat = ⟨(sub b l.toNat m.toNat).toArray⟩ := by
            apply ByteArray.ext
            rw [ByteArray.data_extract]
            simp [sub, List.extract_eq_take_drop]
          rw [this]; exact scS_ok _
      · exact hl.elim
    · exact hl.elim
  · rename_i t e b
    change List e.D at b
    split at hl
    · rename_i hr
      obtain ⟨l, hl, hlo⟩ := asIntO_ok h hl
      obtain ⟨m, hl, hhi⟩ := asIntO_ok h hl
      rcases iff_leads hl with ⟨hb, hl⟩ | ⟨_, hl⟩
      · simp only [Bool.and_eq_true, decide_eq_true_eq] at hb
        obtain ⟨⟨b0, b1⟩, b2⟩ := hb
        rw [out_leads hl]
        obtain ⟨t', hu, he⟩ := isRow_ok hc hr
        have h1 : RowRd e 0 W.w W.fz (a.eval x) b [] := h1
        obtain ⟨A, c, hv, hcap⟩ := h1.len
        rw [hv] at h1
        obtain ⟨o', q1, q2, _⟩ := SlRd.sub h1 (lo := l.toNat) (hi := m.toNat) (by omega) (by omega)
        have ho' : o' = [] := SlRd.zero q1
        subst ho'
        have hrun := run_bounds (P := P) (isS := true) (len := b.length) (cap := c) hlo hhi b0 b1 (by omega) W.w
        refine goes_out h (u := .slice (if c = l.toNat then A else A.map (·.add (l.toNat * e.n))) (m.toNat - l.toNat) (c - l.toNat)) ?_ (show LAok s W (.sc (.sl t e) (sub b l.toNat m.toNat)) _ from q1)
        simp [execOp, ho, hv, Instr.sliceAt, run_underlying hu, Instr.slice, hrun, he.sizeOf]
      · exact hl.elim
    · exact hl.elim
  · rename_i c
    obtain ⟨t0, e0, xs0, d0, gen, hleaf, hp, hk⟩ := content_ok h hl
    obtain ⟨u, e', hu', hn⟩ := h1 gen t0 e0 xs0 d0 hleaf hp
    obtain ⟨t', ys, d', o', hl, hrd, _⟩ := hk u e' _ hu' hn
    split at hl
    · rename_i hr
      obtain ⟨l, hl, hlo⟩ := asIntO_ok h hl
      obtain ⟨m, hl, hhi⟩ := asIntO_ok h hl
      rcases iff_leads hl with ⟨hb, hl⟩ | ⟨_, hl⟩
      · simp only [Bool.and_eq_true, decide_eq_true_eq] at hb
        obtain ⟨⟨b0, b1⟩, b2⟩ := hb
        rw [out_leads hl]
        obtain ⟨t2, hu, he⟩ := isRow_ok hc hr
        obtain ⟨A, cc, hv, hcap⟩ := hrd.len
        have hrun := run_bounds (P := P) (isS := true) (len := ys.length) (cap := cc) hlo hhi b0 b1 (by omega) W.w
        refine goes_out h (u := .slice (if cc = l.toNat then A else A.map (·.add (l.toNat * e'.n))) (m.toNat - l.toNat) (cc - l.toNat)) ?_ ?_
        · simp [execOp, ho, hv, Instr.sliceAt, run_underlying hu, Instr.slice, hrun, he.sizeOf]
        · intro gen2 t3 e3 xs3 d3 hleaf3 hp3
          rw [hleaf] at hleaf3
          injection hleaf3 with q1 q2 q3 q4
          subst q4
          rw [hv] at hn
          exact ⟨u, e', A, _, cc, hu', hn, by omega, by omega, rfl⟩
      · exact hl.elim
    · exact hl.elim
  · exact hl.elim

end
end Go.Ev

namespace Go.Ev
set_option linter.unusedVariables false
set_option linter.unusedSimpArgs false

theorem app_append (s : St) : ∀ (xs ys : List Wr), s.app (xs ++ ys) = (s.app xs).app ys
  | [], ys => rfl
  | x :: xs, ys => by
    show ((s.app1 x).app (xs ++ ys)) = ((s.app1 x).app xs).app ys
    exact app_append (s.app1 x) xs ys

theorem leaf_app (s : St) (r j : Nat) (x : LA) (r' j' : Nat) : (s.app1 (.leaf r j x)).leaf r' j' = if r = r' ∧ j = j' ∧ r < s.ro.length ∧ j < (s.root r).ls.length then x else s.leaf r' j' := by
  have hroot : (s.app1 (.leaf r j x)).root r' = if r = r' ∧ r < s.ro.length then { s.root r with ls := upd (s.root r).ls j x } else s.root r' := nth_upd _ _ _ _ _
  unfold St.leaf
  rw [hroot]
  by_cases h : r = r' ∧ r < s.ro.length
  · obtain ⟨rfl, hlt⟩ := h
    rw [if_pos ⟨rfl, hlt⟩]
    show nth LA.bad (upd (s.root r).ls j x) j' = _
    rw [nth_upd]
    by_cases hj : j = j' ∧ j < (s.root r).ls.length
    · rw [if_pos hj, if_pos ⟨rfl, hj.1, hlt, hj.2⟩]
    · rw [if_neg hj, if_neg (fun hh => hj ⟨hh.2.1, hh.2.2.2⟩)]
  · rw [if_neg h, if_neg (fun hh => h ⟨hh.1, hh.2.2.1⟩)]

structure Same (s s' : St) : Prop where
  sl : s'.sl = s.sl
  len : s'.ro.length = s.ro.length
  box : ∀ r, (s'.root r).box = (s.root r).box ∧ (s'.root r).ver = (s.root r).ver ∧ (s'.root r).ls.length = (s.root r).ls.length

theorem app_leaf_same (s : St) (r j : Nat) (x : LA) : Same s (s.app1 (.leaf r j x)) where
  sl := rfl
  len := upd_len _ _ _
  box r' := by
    have hroot : (s.app1 (.leaf r j x)).root r' = if r = r' ∧ r < s.ro.length then { s.root r with ls := upd (s.root r).ls j x } else s.root r' := nth_upd _ _ _ _ _
    rw [hroot]
    by_cases h : r = r' ∧ r < s.ro.length
    · obtain ⟨rfl, hlt⟩ := h
      rw [if_pos ⟨rfl, hlt⟩]
      exact ⟨rfl, rfl, upd_len _ _ _⟩
    · rw [if_neg h]; exact ⟨rfl, rfl, rfl⟩

theorem gone_same (s : St) : ∀ us : List (Nat × Nat), Same s (s.app (gone us)) ∧ ∀ r j, (s.app (gone us)).leaf r j = if (r, j) ∈ us then .bad else s.leaf r j
  | [] => ⟨⟨rfl, rfl, fun _ => ⟨rfl, rfl, rfl⟩⟩, fun r j => by simp [gone, St.app]⟩
  | u :: us => by
    have h1 := app_leaf_same s u.1 u.2 .bad
    have h2 := leaf_app s u.1 u.2 .bad
    obtain ⟨a, b⟩ := gone_same (s.app1 (.leaf u.1 u.2 .bad)) us
    refine ⟨⟨a.sl.trans h1.sl, a.len.trans h1.len, fun r => ⟨(a.box r).1.trans (h1.box r).1, (a.box r).2.1.trans (h1.box r).2.1, (a.box r).2.2.trans (h1.box r).2.2⟩⟩, fun r j => ?_⟩
    show ((s.app1 (.leaf u.1 u.2 .bad)).app (gone us)).leaf r j = _
    rw [b, h2]
    by_cases hm : (r, j) ∈ us
    · rw [if_pos hm, if_pos (List.mem_cons_of_mem _ hm)]
    · rw [if_neg hm]
      by_cases he : (r, j) = u
      · have hin : (r, j) ∈ u :: us := by rw [he]; exact List.mem_cons_self
        rw [if_pos hin]
        subst he
        split
        · rfl
        · rename_i hne
          unfold St.leaf
          by_cases hr : r < s.ro.length
          · rw [nth_ge]
            exact Nat.le_of_not_lt fun hj => hne ⟨rfl, rfl, hr, hj⟩
          · have : s.root r = dead := nth_ge _ (Nat.le_of_not_lt hr)
            rw [this]; rfl
      · have hnin : ¬ (r, j) ∈ u :: us := fun hh => (List.mem_cons.1 hh).elim he hm
        rw [if_neg hnin]
        have : ¬ (u.1 = r ∧ u.2 = j ∧ u.1 < s.ro.length ∧ u.2 < (s.root u.1).ls.length) := fun hh => he (by rw [← hh.1, ← hh.2.1])
        rw [if_neg this]

section
variable {P : Program} {E : Ent} {s : St} {tm : Array Value} {W : Wd} {v : Nat}

/-- The world's row where root 'd' is made anew. -/
def placeW (W : Wd) (w' : World) (us : List (Nat × Nat)) (d : Nat) (cvd : Nat → Option Value) (bkd : Nat) (ob : List Nat) (oj : Nat → List Nat) : Wd :=
  { w := w', fz := W.fz
    cv := fun r j => if r = d then cvd j else W.cv r j
    bk := fun r => if r = d then bkd else W.bk r
    om := fun k => match k with
      | .blk r => if r = d then ob else W.om (.blk r)
      | .lf r j => if r = d then oj j else if (r, j) ∈ us then [] else W.om (.lf r j)
      | .fl _ => [] }

/-- The key stays as it is. -/
def Kept (us : List (Nat × Nat)) (d : Nat) : Key → Prop
  | .blk r => r ≠ d
  | .lf r j => r ≠ d ∧ (r, j) ∉ us
  | .fl _ => False

theorem Rep.place2 (h : Rep E s tm W) (hv : NoVer s v) {us : List (Nat × Nat)} {d : Nat} (hd : d < tm.size) {x : Root} {a : AV} {u : Value} {w' : World} {cvd : Nat → Option Value} {bkd : Nat} {ob : List Nat} {oj : Nat → List Nat}
    (hx : x.ver = v) (hxl : ∀ (j ver gen : Nat) (t : TypeId) (e : Ls) (xs : List e.D) (dd : Nat), nth .bad x.ls j = .arr ver gen t e xs dd → ver = v)
    (hw : ∀ b, (W.fz b ∨ ∃ k, Kept us d k ∧ b ∈ W.om k) → w'.heap[b]? = W.w.heap[b]?)
    (hfr : ∀ b, b < E.base → ¬ E.io b → w'.heap[b]? = W.w.heap[b]?) (hsz : W.w.heap.size ≤ w'.heap.size) (ho : w'.os = W.w.os ∧ w'.tape = W.w.tape ∧ w'.output = W.w.output)
    (hnb : ob.Nodup) (hnj : ∀ j, (oj j).Nodup) (hdb : ∀ j, ∀ b ∈ ob, b ∉ oj j) (hdj : ∀ i j, i ≠ j → ∀ b ∈ oj i, b ∉ oj j)
    (hfrom : ∀ b, (b ∈ ob ∨ ∃ j, b ∈ oj j) → (∃ k, ¬ Kept us d k ∧ b ∈ W.om k) ∨ (W.w.heap.size ≤ b ∧ b < w'.heap.size))
    (hroot : Turn v s (s.app (gone us ++ [.root d x, .slot d a])) W (placeW W w' us d cvd bkd ob oj) → (s.app (gone us ++ [.root d x, .slot d a])).root d = x → RootOk (s.app (gone us ++ [.root d x, .slot d a])) (placeW W w' us d cvd bkd ob oj) d x)
    (hslot : Turn v s (s.app (gone us ++ [.root d x, .slot d a])) W (placeW W w' us d cvd bkd ob oj) → (s.app (gone us ++ [.root d x, .slot d a])).root d = x → AVok (s.app (gone us ++ [.root d x, .slot d a])) (placeW W w' us d cvd bkd ob oj) a u) :
    Rep E (s.app (gone us ++ [.root d x, .slot d a])) (tm.setIfInBounds d u) (placeW W w' us d cvd bkd ob oj) := by
  obtain ⟨hsame, hleaf⟩ := gone_same s us
  generalize hs' : s.app (gone us ++ [.root d x, .slot d a]) = s' at *
  rw [app_append] at hs'
  generalize s.app (gone us) = s1 at hsame hleaf hs'
  have hd1 : d < s1.ro.length := by rw [hsame.len, h.len2]; exact hd
  have hd2 : d < s1.sl.length := by rw [hsame.sl, h.len1]; exact hd
  have hroots : ∀ r, s'.root r = if d = r then x else s1.root r := by
    intro r; subst hs'
    show ((s1.app1 (.root d x)).app1 (.slot d a)).root r = _
    have : ((s1.app1 (.root d x)).app1 (.slot d a)).root r = (s1.app1 (.root d x)).root r := rfl
    rw [this, root_app]
    by_cases hdr : d = r
    · rw [if_pos ⟨hdr, hd1⟩, if_pos hdr]
    · rw [if_neg (fun hh => hdr hh.1), if_neg hdr]
  have hslots : ∀ t, s'.slot t = if d = t then a else s.slot t := by
    intro t; subst hs'
    show ((s1.app1 (.root d x)).app1 (.slot d a)).slot t = _
    rw [slot_app]
    by_cases hdr : d = t
    · rw [if_pos ⟨hdr, hd2⟩, if_pos hdr]
    · rw [if_neg (fun hh => hdr hh.1), if_neg hdr]
      show nth _ s1.sl t = _
      rw [hsame.sl]; rfl
  have hleaves : ∀ r j, s'.leaf r j = if d = r then nth .bad x.ls j else if (r, j) ∈ us then .bad else s.leaf r j := by
    intro r j
    unfold St.leaf
    rw [hroots]
    by_cases hdr : d = r
    · rw [if_pos hdr, if_pos hdr]
    · rw [if_neg hdr, if_neg hdr]; exact hleaf r j
  have hturn : Turn v s s' W (placeW W w' us d cvd bkd ob oj) := {
    fz := fun b hb => hb
    fzm := fun b hb => hw b (.inl hb)
    leaf := by
      intro r j ver gen t e xs dd hl hne
      rw [hleaves] at hl
      by_cases hdr : d = r
      · rw [if_pos hdr] at hl; exact absurd (hxl j ver gen t e xs dd hl) hne
      · rw [if_neg hdr] at hl
        by_cases hm : (r, j) ∈ us
        · rw [if_pos hm] at hl; cases hl
        · rw [if_neg hm] at hl
          refine ⟨if_neg (fun e => hdr e.symm), gen, t, xs, dd, hl, fun _ => ⟨rfl, fun p h' e' u' hc hn => ?_⟩⟩
          obtain ⟨u0, hu0, hrd⟩ := (h.roots r).row hl
          rw [hc] at hu0; injection hu0 with hu0; subst hu0
          exact nav_frame p hrd hn fun b hb => hw b (hb.elim (fun hb => .inr ⟨.lf r j, ⟨fun e => hdr e.symm, hm⟩, hb⟩) .inl)
    box := by
      intro r hb hne
      rw [hroots] at hb hne ⊢
      by_cases hdr : d = r
      · rw [if_pos hdr] at hne; exact absurd hx hne
      · rw [if_neg hdr] at hb hne ⊢
        obtain ⟨b1, b2, b3⟩ := hsame.box r
        exact ⟨b1 ▸ hb, b2.symm, if_neg (fun e => hdr e.symm)⟩ }
  have hsep : Sep E (placeW W w' us d cvd bkd ob oj) := by
    refine h.sep.redo (fun k => ¬ Kept us d k) rfl hsz hfr ho ?_ ?_ ?_ ?_
    · intro k hk
      have hk : Kept us d k := Classical.not_not.1 hk
      cases k with
      | blk r => exact if_neg hk
      | lf r j => show (if r = d then oj j else if (r, j) ∈ us then [] else W.om (.lf r j)) = _; rw [if_neg hk.1, if_neg hk.2]
      | fl k => exact hk.elim
    · intro k hk
      cases k with
      | blk r =>
        have : r = d := Classical.not_not.1 hk
        show (if r = d then ob else W.om (.blk r)).Nodup; rw [if_pos this]; exact hnb
      | lf r j =>
        show (if r = d then oj j else if (r, j) ∈ us then [] else W.om (.lf r j)).Nodup
        by_cases hr : r = d
        · rw [if_pos hr]; exact hnj j
        · rw [if_neg hr]
          by_cases hm : (r, j) ∈ us
          · rw [if_pos hm]; exact List.nodup_nil
          · exact absurd ⟨hr, hm⟩ hk
      | fl k => exact List.nodup_nil
    · intro k k' hk hk' hne b hb hb'
      cases k with
      | fl k => cases hb
      | blk r =>
        have hr : r = d := Classical.not_not.1 hk
        subst hr
        have hb : b ∈ ob := by have : b ∈ (if r = r then ob else W.om (.blk r)) := hb; rwa [if_pos rfl] at this
        cases k' with
        | fl k => cases hb'
        | blk r' => have hr' : r' = r := Classical.not_not.1 hk'; exact hne (by rw [hr'])
        | lf r' j' =>
          have hb' : b ∈ (if r' = r then oj j' else if (r', j') ∈ us then [] else W.om (.lf r' j')) := hb'
          by_cases hr' : r' = r
          · rw [if_pos hr'] at hb'; exact hdb j' b hb hb'
          · rw [if_neg hr'] at hb'
            by_cases hm : (r', j') ∈ us
            · rw [if_pos hm] at hb'; cases hb'
            · exact hk' ⟨hr', hm⟩
      | lf r j =>
        have hb : b ∈ (if r = d then oj j else if (r, j) ∈ us then [] else W.om (.lf r j)) := hb
        by_cases hr : r = d
        · rw [if_pos hr] at hb
          cases k' with
          | fl k => cases hb'
          | blk r' =>
            have hr' : r' = d := Classical.not_not.1 hk'
            have hb' : b ∈ (if r' = d then ob else W.om (.blk r')) := hb'
            rw [if_pos hr'] at hb'
            exact hdb j b hb' hb
          | lf r' j' =>
            have hb' : b ∈ (if r' = d then oj j' else if (r', j') ∈ us then [] else W.om (.lf r' j')) := hb'
            by_cases hr' : r' = d
            · rw [if_pos hr'] at hb'
              exact hdj j j' (fun e => hne (by rw [hr, hr', e])) b hb hb'
            · rw [if_neg hr'] at hb'
              by_cases hm : (r', j') ∈ us
              · rw [if_pos hm] at hb'; cases hb'
              · exact hk' ⟨hr', hm⟩
        · rw [if_neg hr] at hb
          by_cases hm : (r, j) ∈ us
          · rw [if_pos hm] at hb; cases hb
          · exact hk ⟨hr, hm⟩
    · intro k hk b hb
      have hb2 : b ∈ ob ∨ ∃ j, b ∈ oj j := by
        cases k with
        | fl k => cases hb
        | blk r =>
          have hr : r = d := Classical.not_not.1 hk
          have hb : b ∈ (if r = d then ob else W.om (.blk r)) := hb
          rw [if_pos hr] at hb; exact .inl hb
        | lf r j =>
          have hb : b ∈ (if r = d then oj j else if (r, j) ∈ us then [] else W.om (.lf r j)) := hb
          by_cases hr : r = d
          · rw [if_pos hr] at hb; exact .inr ⟨j, hb⟩
          · rw [if_neg hr] at hb
            by_cases hm : (r, j) ∈ us
            · rw [if_pos hm] at hb; cases hb
            · exact absurd ⟨hr, hm⟩ hk
      exact hfrom b hb2
  refine h.redo hv hturn hsep ?_ ?_ ?_ ?_
  · subst hs'; simp only [St.app, St.app1, upd_len, Array.size_setIfInBounds]; rw [hsame.sl, h.len1]
  · subst hs'; simp only [St.app, St.app1, upd_len, Array.size_setIfInBounds]; rw [hsame.len, h.len2]
  · intro t
    rw [hslots]
    by_cases hdt : d = t
    · right
      rw [if_pos hdt]
      have : (tm.setIfInBounds d u).getD t Go.undef = u := by subst hdt; simp [Array.getElem?_setIfInBounds, hd]
      rw [this]; exact hslot hturn (by rw [hroots, if_pos rfl])
    · left
      rw [if_neg hdt]
      exact ⟨rfl, by simp [Array.getElem?_setIfInBounds, hdt]⟩
  · intro r
    rw [hroots]
    by_cases hdr : d = r
    · subst hdr; rw [if_pos rfl]; exact hroot hturn (by rw [hroots, if_pos rfl])
    · rw [if_neg hdr]
      obtain ⟨h1, h2⟩ := h.roots r
      obtain ⟨b1, b2, b3⟩ := hsame.box r
      have hdr' : ¬ r = d := fun e => hdr e.symm
      refine ⟨fun j => ?_, ?_⟩
      · have e1 : (placeW W w' us d cvd bkd ob oj).cv r j = W.cv r j := if_neg hdr'
        have e2 : (placeW W w' us d cvd bkd ob oj).om (.lf r j) = if (r, j) ∈ us then [] else W.om (.lf r j) := if_neg hdr'
        have e3 : nth LA.bad (s1.root r).ls j = if (r, j) ∈ us then .bad else s.leaf r j := hleaf r j
        rw [e1, e2, e3]
        by_cases hm : (r, j) ∈ us
        · rw [if_pos hm, if_pos hm]; exact ⟨rfl, fun _ _ => trivial⟩
        · rw [if_neg hm, if_neg hm]
          exact LeafOk.turn hturn (hv.2.1 r j) (fun b hb => hw b (.inr ⟨.lf r j, ⟨hdr', hm⟩, hb⟩)) (h1 j)
      · have e1 : (placeW W w' us d cvd bkd ob oj).om (.blk r) = W.om (.blk r) := if_neg hdr'
        have e2 : (placeW W w' us d cvd bkd ob oj).bk r = W.bk r := if_neg hdr'
        rw [b1, e1, e2]
        split
        · rename_i hb
          rw [if_pos hb] at h2
          obtain ⟨ho', arr, T, fr, hh, a1, a2, a3⟩ := h2
          refine ⟨ho', arr, T, fr, (hw _ (.inr ⟨.blk r, hdr', by rw [ho']; simp⟩)).trans hh, a1, by rw [b3]; exact a2, fun j => ?_⟩
          show (if r = d then cvd j else W.cv r j) = _
          rw [if_neg hdr']; exact a3 j
        · rename_i hb; rw [if_neg hb] at h2; exact h2

theorem Rep.place (h : Rep E s tm W) (hv : NoVer s v) {us : List (Nat × Nat)} {d : Nat} (hd : d < tm.size) {x : Root} {a : AV} {u : Value} {w' : World} {cvd : Nat → Option Value} {bkd : Nat} {ob : List Nat} {oj : Nat → List Nat}
    (hx : x.ver = v) (hxl : ∀ (j ver gen : Nat) (t : TypeId) (e : Ls) (xs : List e.D) (dd : Nat), nth .bad x.ls j = .arr ver gen t e xs dd → ver = v)
    (hw : ∀ b, (W.fz b ∨ ∃ k, Kept us d k ∧ b ∈ W.om k) → w'.heap[b]? = W.w.heap[b]?)
    (hfr : ∀ b, b < E.base → ¬ E.io b → w'.heap[b]? = W.w.heap[b]?) (hsz : W.w.heap.size ≤ w'.heap.size) (ho : w'.os = W.w.os ∧ w'.tape = W.w.tape ∧ w'.output = W.w.output)
    (hnb : ob.Nodup) (hnj : ∀ j, (oj j).Nodup) (hdb : ∀ j, ∀ b ∈ ob, b ∉ oj j) (hdj : ∀ i j, i ≠ j → ∀ b ∈ oj i, b ∉ oj j)
    (hfrom : ∀ b, (b ∈ ob ∨ ∃ j, b ∈ oj j) → (∃ r j, (r, j) ∈ us ∧ b ∈ W.om (.lf r j)) ∨ (W.w.heap.size ≤ b ∧ b < w'.heap.size))
    (hroot : Turn v s (s.app (gone us ++ [.root d x, .slot d a])) W (placeW W w' us d cvd bkd ob oj) → (s.app (gone us ++ [.root d x, .slot d a])).root d = x → RootOk (s.app (gone us ++ [.root d x, .slot d a])) (placeW W w' us d cvd bkd ob oj) d x)
    (hslot : Turn v s (s.app (gone us ++ [.root d x, .slot d a])) W (placeW W w' us d cvd bkd ob oj) → (s.app (gone us ++ [.root d x, .slot d a])).root d = x → AVok (s.app (gone us ++ [.root d x, .slot d a])) (placeW W w' us d cvd bkd ob oj) a u) :
    Rep E (s.app (gone us ++ [.root d x, .slot d a])) (tm.setIfInBounds d u) (placeW W w' us d cvd bkd ob oj) :=
  h.place2 hv hd hx hxl hw hfr hsz ho hnb hnj hdb hdj (fun b hb => (hfrom b hb).imp (fun ⟨r, j, hm, h0⟩ => ⟨.lf r j, fun hk => hk.2 hm, h0⟩) id) hroot hslot

end
end Go.Ev

namespace Go.Ev
set_option linter.unusedVariables false
set_option linter.unusedSimpArgs false

section
variable {P : Program} {E : Ent} {s : St} {tm : Array Value} {W : Wd} {v : Nat} {cx : Cx} {β : Type} {t : β}

/-- A slot gets a row of its own. -/
theorem Rep.placeRow (h : Rep E s tm W) (hv : NoVer s v) (us : List (Nat × Nat)) {d : Nat} (hd : d < tm.size) {t0 : TypeId} {e : Ls} {xs : List e.D} {dd : Nat} {u : Value} {w' : World} {o : List Nat}
    (hw : ∀ b, (W.fz b ∨ ∃ k, Kept us d k ∧ b ∈ W.om k) → w'.heap[b]? = W.w.heap[b]?)
    (hfr : ∀ b, b < E.base → ¬ E.io b → w'.heap[b]? = W.w.heap[b]?) (hsz : W.w.heap.size ≤ w'.heap.size) (ho : w'.os = W.w.os ∧ w'.tape = W.w.tape ∧ w'.output = W.w.output)
    (hr : RowRd e dd w' W.fz u xs o) (hn : o.Nodup) (hfrom : ∀ b ∈ o, (∃ r j, (r, j) ∈ us ∧ b ∈ W.om (.lf r j)) ∨ (W.w.heap.size ≤ b ∧ b < w'.heap.size)) :
    ∃ W', W'.w = w' ∧ Rep E (s.app (gone us ++ [.root d ⟨false, v, [.arr v v t0 e xs dd]⟩, .slot d (one (.ref ⟨d, 0, v, v, []⟩))])) (tm.setIfInBounds d u) W' := by
  refine ⟨placeW W w' us d (fun j => if j = 0 then some u else none) 0 [] (fun j => if j = 0 then o else []), rfl, ?_⟩
  obtain ⟨hsame, hleaf⟩ := gone_same s us
  refine h.place hv hd rfl ?_ hw hfr hsz ho List.nodup_nil ?_ (fun j b hb => by cases hb) ?_ ?_ ?_ ?_
  · intro j ver gen t e xs dd' hl
    cases j with
    | zero => simp only [nth] at hl; injection hl with h1; exact h1.symm
    | succ j => simp [nth] at hl
  · intro j; show (if j = 0 then o else []).Nodup; split
    · exact hn
    · exact List.nodup_nil
  · intro i j hij b hb hb'
    by_cases hi : i = 0
    · by_cases hj : j = 0
      · exact hij (hi.trans hj.symm)
      · simp [hj] at hb'
    · simp [hi] at hb
  · intro b hb
    rcases hb with hb | ⟨j, hb⟩
    · cases hb
    · by_cases hj : j = 0
      · simp [hj] at hb; exact hfrom b hb
      · simp [hj] at hb
  · intro _ _
    refine ⟨fun j => ?_, ?_⟩
    · cases j with
      | zero =>
        refine ⟨u, by simp [placeW], ?_⟩
        have : (placeW W w' us d (fun j => if j = 0 then some u else none) 0 [] (fun j => if j = 0 then o else [])).om (.lf d 0) = o := by simp [placeW]
        rw [this]
        exact hr
      | succ j =>
        have h1 : nth LA.bad [LA.arr v v t0 e xs dd] (j + 1) = .bad := by simp [nth]
        have h2 : (placeW W w' us d (fun j => if j = 0 then some u else none) 0 [] (fun j => if j = 0 then o else [])).om (.lf d (j + 1)) = [] := by simp [placeW]
        rw [h1, h2]
        exact ⟨rfl, fun _ _ => trivial⟩
    · show (if false = true then _ else _)
      simp [placeW]
  · intro _ _ gen t e2 xs2 d2 hl hp
    refine ⟨u, e2, ?_, rfl, rfl⟩
    simp [placeW]

/-- One leaf that is moved: what it is then, with the value that it had. -/
def Took (s : St) (W : Wd) (v : Nat) (b : LA) (u : Value) (o : List Nat) (us : List (Nat × Nat)) : Prop :=
  u.oneCell' = true ∧ o.Nodup ∧ (∀ b ∈ o, ∃ r j, (r, j) ∈ us ∧ b ∈ W.om (.lf r j)) ∧ match b with
    | .arr ver gen _ e xs d => ver = v ∧ gen = v ∧ RowRd e d W.w W.fz u xs o
    | b => o = [] ∧ LAok s W b u ∧ v ∉ b.vers

theorem slice_cells (A : Option Addr) (n c : Nat) : (Value.slice A n c).cells = #[.slice A n c] := rfl

theorem cells_one {u : Value} (h : u.oneCell' = true) : u.cells = #[u] := by
  cases u <;> first | rfl | cases h
theorem sc_cells : ∀ (l : L) {w : World} {fz : Nat → Prop} {u : Value} {x : l.D}, l.rd 0 w fz u x [] → u.oneCell' = true
  | .int k, _, _, u, x, h => by rw [show u = .int k x from h.1]; rfl
  | .bool, _, _, u, x, h => by rw [show u = .bool x from h.1]; rfl
  | .str, _, _, u, x, h => by rw [show u = .string ⟨x.toArray⟩ from h.1]; rfl
  | .sl _ e, _, _, u, x, h => by obtain ⟨A, c, hu, _⟩ := RowRd.len (show RowRd e 0 _ _ u x [] from h); rw [hu]; rfl

theorem take_ok (h : Rep E s tm W) {la : LA} (hva : v ∉ la.vers) {u : Value} (hu : LAok s W la u) {l : L} {k : LA → List (Nat × Nat) → Step β} (hl : (s.take cx v la l k).leads t) :
    ∃ b us o, (k b us).leads t ∧ Took s W v b u o us ∧ (∀ x ∈ us, cx.pin x.1 = false) ∧ us.length ≤ 1 := by
  unfold St.take at hl
  cases la with
  | sc m x =>
    simp only at hl
    split at hl
    · exact ⟨_, _, [], hl, ⟨sc_cells m hu, List.nodup_nil, (fun b hb => by cases hb), rfl, hu, hva⟩, (fun x hx => by cases hx), by simp⟩
    · exact hl.elim
  | nils =>
    cases l with
    | sl t' e =>
      refine ⟨_, _, [], hl, ⟨by rw [show u = .slice none 0 0 from hu]; rfl, List.nodup_nil, (fun b hb => by cases hb), rfl, rfl, ?_⟩, (fun x hx => by cases hx), by simp⟩
      rw [show u = .slice none 0 0 from hu]; exact nil_row
    | _ => exact hl.elim
  | ref c =>
    simp only at hl
    split at hl
    · rename_i ver gen t' e xs d hleaf
      split at hl
      · rename_i hc
        simp only [Bool.and_eq_true, beq_iff_eq, Bool.not_eq_true'] at hc
        obtain ⟨⟨⟨hver, hp⟩, hpin⟩, hk⟩ := hc
        subst hver
        have hp : c.p = [] := by cases hq : c.p <;> simp_all [isNil]
        obtain ⟨h', e', hcv, hn⟩ := hu gen t' e xs d hleaf (.inl hp)
        rw [hp] at hn
        obtain ⟨rfl, rfl⟩ := hn
        obtain ⟨u', hu', hrd⟩ := (h.roots c.r).row hleaf
        rw [hcv] at hu'; injection hu' with hu'; subst hu'
        obtain ⟨A, cc, huv, _⟩ := hrd.len
        refine ⟨_, _, W.om (.lf c.r c.j), hl, ⟨by rw [huv]; rfl, h.sep.nodup _, fun b hb => ⟨c.r, c.j, by simp, hb⟩, rfl, rfl, hrd⟩, fun x hx => ?_, by simp⟩
        simp at hx; subst hx; exact hpin
      · split at hl
        · obtain ⟨t2, e2, ys, d2, o2, hl, hr, ho⟩ := content_ref h hu hl
          split at hl
          · obtain ⟨u0, _, hr0⟩ := (h.roots c.r).row hleaf
            have hz : W.om (.lf c.r c.j) = [] := RowRd.zero hr0
            obtain ⟨A, cc, huv, _⟩ := hr.len
            exact ⟨_, _, [], hl, ⟨by rw [huv]; rfl, List.nodup_nil, (fun b hb => by cases hb), rfl, hr.freeze fun b hb => hb.elim id fun hb => (by have := ho b hb; rw [hz] at this; cases this), by simp [LA.vers]⟩, (fun x hx => by cases hx), by simp⟩
          · exact hl.elim
        · exact hl.elim
    · exact hl.elim
  | win c lo hi =>
    simp only at hl
    split at hl
    · rename_i ver gen t' e xs d hleaf
      split at hl
      · rename_i hc
        simp only [Bool.and_eq_true, beq_iff_eq, Bool.not_eq_true'] at hc
        obtain ⟨⟨⟨hver, hp⟩, hpin⟩, hk⟩ := hc
        subst hver
        have hp : c.p = [] := by cases hq : c.p <;> simp_all [isNil]
        obtain ⟨h', e', A, n, k0, hcv, hn, h1, h2, huv⟩ := hu gen t' e xs d hleaf (.inl hp)
        rw [hp] at hn
        obtain ⟨rfl, rfl⟩ := hn
        obtain ⟨u', hu', hrd⟩ := (h.roots c.r).row hleaf
        rw [hcv] at hu'; injection hu' with hu'; subst hu'
        obtain ⟨o', q1, q2, q3⟩ := SlRd.sub hrd h1 h2
        refine ⟨_, _, o', hl, ⟨by rw [huv]; rfl, q3 (h.sep.nodup _), fun b hb => ⟨c.r, c.j, by simp, q2 b hb⟩, rfl, rfl, ?_⟩, fun x hx => ?_, by simp⟩
        · rw [huv]; exact q1
        · simp at hx; subst hx; exact hpin
      · exact hl.elim
    · exact hl.elim
  | ptr r j ver =>
    simp only at hl
    split at hl
    · rename_i hc
      simp only [Bool.and_eq_true, beq_iff_eq] at hc
      refine ⟨_, _, [], hl, ⟨by rw [hu hc.1 hc.2]; rfl, List.nodup_nil, (fun b hb => by cases hb), rfl, hu, hva⟩, (fun x hx => by cases hx), by simp⟩
    · exact hl.elim
  | fn f => exact ⟨_, _, [], hl, ⟨by rw [show u = _ from hu]; rfl, List.nodup_nil, (fun b hb => by cases hb), rfl, hu, hva⟩, (fun x hx => by cases hx), by simp⟩
  | _ => exact hl.elim

theorem takes_ok (h : Rep E s tm W) : ∀ {ls : List L} {as : List LA} {g : Nat → Option Value} {k : List LA → List (Nat × Nat) → Step β}, (∀ (j : Nat) (b : LA), as[j]? = some b → v ∉ b.vers ∧ ∃ u, g j = some u ∧ LAok s W b u) →
    (s.takes cx v ls as k).leads t → ∃ (bs : List LA) (us : List (Nat × Nat)) (os : Nat → List Nat), (k bs us).leads t ∧ bs.length = as.length ∧ as.length = ls.length ∧ us.Nodup ∧ (∀ x ∈ us, cx.pin x.1 = false) ∧
      (∀ i j, i ≠ j → ∀ b ∈ os i, b ∉ os j) ∧ (∀ j, as.length ≤ j → os j = []) ∧ ∀ (j : Nat) (b : LA), bs[j]? = some b → ∃ u, g j = some u ∧ Took s W v b u (os j) us
  | [], [], g, k, hg, hl => ⟨[], [], fun _ => [], hl, rfl, rfl, List.nodup_nil, (fun x hx => by cases hx), (fun _ _ _ b hb => by cases hb), fun _ _ => rfl, (fun j b hb => by simp at hb)⟩
  | [], _ :: _, g, k, hg, hl => hl.elim
  | _ :: _, [], g, k, hg, hl => hl.elim
  | l :: ls, a :: as, g, k, hg, hl => by
    obtain ⟨hva, u, hu, ha⟩ := hg 0 a rfl
    obtain ⟨b, us, o, hl, hb, hbx, hlen1⟩ := take_ok h hva ha hl
    obtain ⟨bs, vs, os, hl, hlen, hlen2, hnd, hbx2, hdis, hbig, hbs⟩ := takes_ok h (g := fun j => g (j + 1)) (fun j b hj => hg (j + 1) b (by simpa using hj)) hl
    split at hl
    · rename_i hall
      have hapart : ∀ x ∈ us, x ∉ vs := by
        intro x hx hx'
        have := List.all_eq_true.1 hall x hx
        simp at this
        exact this hx'
      refine ⟨b :: bs, us ++ vs, fun j => match j with | 0 => o | j + 1 => os j, hl, by simp [hlen], by simp [hlen2], ?_, ?_, ?_, ?_, ?_⟩
      · refine List.nodup_append.2 ⟨?_, hnd, fun x hx y hy e => hapart x hx (e ▸ hy)⟩
        match us, hlen1 with
        | [], _ => exact List.nodup_nil
        | [x], _ => exact List.nodup_cons.2 ⟨by simp, List.nodup_nil⟩
      · intro x hx
        rcases List.mem_append.1 hx with hx | hx
        · exact hbx x hx
        · exact hbx2 x hx
      · have cross : ∀ j, ∀ y ∈ o, y ∉ os j := by
          intro j y hy hy'
          obtain ⟨r, jj, hm, h1⟩ := hb.2.2.1 y hy
          by_cases hj : j < bs.length
          · obtain ⟨u', _, ht⟩ := hbs j bs[j] (List.getElem?_eq_getElem hj)
            obtain ⟨r', jj', hm', h1'⟩ := ht.2.2.1 y hy'
            by_cases he : (r, jj) = (r', jj')
            · exact hapart _ hm (by rw [he]; exact hm')
            · exact h.sep.disj (.lf r jj) (.lf r' jj') (fun e => he (by injection e with e1 e2; rw [e1, e2])) y h1 h1'
          · rw [hbig j (by omega)] at hy'; cases hy'
        intro i j hij
        cases i with
        | zero => cases j with
          | zero => exact absurd rfl hij
          | succ j => exact cross j
        | succ i => cases j with
          | zero => exact fun y hy hy' => cross i y hy' hy
          | succ j => exact hdis i j (fun e => hij (by rw [e]))
      · intro j hj
        cases j with
        | zero => simp at hj
        | succ j => exact hbig j (by simpa using hj)
      · intro j y hy
        cases j with
        | zero =>
          simp at hy; subst hy
          refine ⟨u, hu, hb.1, hb.2.1, fun z hz => ?_, hb.2.2.2⟩
          obtain ⟨r, jj, hm, h1⟩ := hb.2.2.1 z hz
          exact ⟨r, jj, List.mem_append_left _ hm, h1⟩
        | succ j =>
          obtain ⟨u', hu', ht⟩ := hbs j y (by simpa using hy)
          refine ⟨u', hu', ht.1, ht.2.1, fun z hz => ?_, ht.2.2.2⟩
          obtain ⟨r, jj, hm, h1⟩ := ht.2.2.1 z hz
          exact ⟨r, jj, List.mem_append_right _ hm, h1⟩
    · exact hl.elim

end
end Go.Ev

namespace Go.Ev
set_option linter.unusedVariables false
set_option linter.unusedSimpArgs false

section
variable {P : Program} {E : Ent} {s : St} {W : Wd} {o : Oper} {a : Act} {ws : List Wr} {cx : Cx} {v : Nat} {tm : Array Value}

theorem goes_mem (h : Rep E s a.tmps W) {u : Value} {w' : World} {W' : Wd} {d : Nat} (hd : o.dst = some d) (hrun : (execOp a.eval o).run P W.w = .ok (.value u) w') (hw : W'.w = w')
    (hr : Rep E (s.app ws) (a.tmps.setIfInBounds d u) W') : Goes P E o a W.w (s.app ws) := by
  intro next Q hn
  unfold Oper.wp
  rw [hrun]
  show next (a.put o.dst u) w'
  rw [hd, ← hw]
  exact hn _ W' rfl hr

theorem still_refl {us : List (Nat × Nat)} {d : Nat} : ∀ b, (W.fz b ∨ ∃ k, Kept us d k ∧ b ∈ W.om k) → W.w.heap[b]? = W.w.heap[b]? := fun _ _ => rfl

theorem ofConst_vers (x : Value) : (ofConst x).vers = [] := by
  cases x with
  | slice A n c =>
    cases A with
    | none => cases n with
      | zero => cases c <;> rfl
      | succ n => rfl
    | some a => rfl
  | pointer A => cases A <;> rfl
  | _ => rfl
theorem opd_vers (hv : NoVer s v) (x : Operand) : v ∉ (s.opd x).vers := by
  cases x with
  | tmp t => exact hv.1 t
  | const c =>
    cases c with
    | agg cs =>
      show v ∉ (cs.toList.map ofConst).flatMap LA.vers
      intro hin
      obtain ⟨b, hb, hin⟩ := List.mem_flatMap.1 hin
      obtain ⟨y, _, rfl⟩ := List.mem_map.1 hb
      rw [ofConst_vers] at hin; cases hin
    | bool b => simp [St.opd, AV.vers, ofConst_vers]
    | int k n => simp [St.opd, AV.vers, ofConst_vers]
    | float k n => simp [St.opd, AV.vers, ofConst_vers]
    | complex k x y => simp [St.opd, AV.vers, ofConst_vers]
    | string b => simp [St.opd, AV.vers, ofConst_vers]
    | pointer b => simp [St.opd, AV.vers, ofConst_vers]
    | slice b n c => simp [St.opd, AV.vers, ofConst_vers]
    | map r => simp [St.opd, AV.vers, ofConst_vers]
    | chan r => simp [St.opd, AV.vers, ofConst_vers]
    | func f x y => simp [St.opd, AV.vers, ofConst_vers]
    | nilFunc => simp [St.opd, AV.vers, ofConst_vers]
    | iface t x => simp [St.opd, AV.vers, ofConst_vers]
    | nilIface => simp [St.opd, AV.vers, ofConst_vers]
    | tuple vs => simp [St.opd, AV.vers, ofConst_vers]
  | global g => simp [St.opd, AV.vers, LA.vers]
  | func f => simp [St.opd, AV.vers, LA.vers]
theorem one_vers {x : AV} (h : v ∉ x.vers) : v ∉ x.one?.vers := by
  cases x with
  | tup vs => simp [AV.one?, LA.vers]
  | bx as => simp [AV.one?, LA.vers]
  | v g as =>
    cases g with
    | true => simp [AV.one?, LA.vers]
    | false => cases as with
      | nil => simp [AV.one?, LA.vers]
      | cons b bs => cases bs with
        | nil => simpa [AV.one?, AV.vers] using h
        | cons => simp [AV.one?, LA.vers]
theorem opd1_vers (hv : NoVer s v) (x : Operand) : v ∉ (s.opd1 x).vers := one_vers (opd_vers hv x)

theorem op_assign (h : Rep E s a.tmps W) (hv : NoVer s v) {x : Operand} (ho : o.op = .assign x) (hd : ∀ d, o.dst = some d → d < a.tmps.size) (hl : (opDelta cx v o s).leads ws) : Goes P E o a W.w (s.app ws) := by
  simp only [opDelta, ho] at hl
  have hrun : (execOp a.eval o).run P W.w = .ok (.value (a.eval x)) W.w := by simp [execOp, ho]
  have h1 := opd1_ok h x
  have hva := opd1_vers hv x
  cases hds : o.dst with
  | none => rw [hds] at hl; exact hl.elim
  | some d =>
    rw [hds] at hl
    dsimp only at hl
    generalize s.opd1 x = p at hl h1 hva
    have val : ∀ y, LAok s W y (a.eval x) → ws = [.slot d (one y)] → Goes P E o a W.w (s.app ws) := by
      intro y hy hws
      subst hws
      exact goes_mem h hds hrun rfl (h.slot d (show AVok s W (one y) _ from hy))
    split at hl
    · exact val _ h1 hl.symm
    · exact val _ h1 hl.symm
    · exact val _ h1 hl.symm
    · exact val _ h1 hl.symm
    · exact val _ h1 hl.symm
    · exact val _ h1 hl.symm
    · split at hl
      · exact hl.elim
      · split at hl
        · rename_i ty hty
          split at hl
          · rename_i l hls
            obtain ⟨b, us, oo, hl, hb, hbx, _⟩ := take_ok h hva h1 hl
            split at hl
            · rename_i t e xs dd
              have hl : _ = ws := hl
              obtain ⟨hcells, hnd, hfrom, rfl, rfl, hrow⟩ := hb
              obtain ⟨W', hW', hrep⟩ := h.placeRow hv us (hd d hds) (t0 := t) (w' := W.w) (fun b hb => rfl) (fun b _ _ => rfl) (Nat.le_refl _) ⟨rfl, rfl, rfl⟩ hrow hnd (fun b hb => .inl (hfrom b hb))
              rw [hl] at hrep
              exact goes_mem h hds hrun hW' hrep
            · exact hl.elim
          · exact hl.elim
        · exact hl.elim

/-- A row of nothing, for a slot. -/
theorem op_moveNil (h : Rep E s a.tmps W) (hv : NoVer s v) {x : Operand} (ho : o.op = .move x) (hn : isNils (s.opd x) = true) (hd : ∀ d, o.dst = some d → d < a.tmps.size) (hl : (opDelta cx v o s).leads ws) : Goes P E o a W.w (s.app ws) := by
  simp only [opDelta, ho, hn, if_true] at hl
  have hval : a.eval x = .slice none 0 0 := by
    have h1 := opd_ok h x
    revert hn h1
    generalize s.opd x = p
    intro hn h1
    unfold isNils at hn
    split at hn
    · exact h1
    · cases hn
  split at hl
  · rename_i ty d hty hds
    split at hl
    · exact hl.elim
    · split at hl
      · rename_i t e hls
        have hl : _ = ws := hl
        obtain ⟨W', hW', hrep⟩ := h.placeRow hv [] (hd d hds) (t0 := t) (e := e) (xs := []) (dd := 2) (u := .slice none 0 0) (w' := W.w) (o := []) (fun b hb => rfl) (fun b _ _ => rfl) (Nat.le_refl _) ⟨rfl, rfl, rfl⟩ nil_row List.nodup_nil (fun b hb => by cases hb)
        rw [← hl]
        exact goes_mem h hds (by simp [execOp, ho, hval]) hW' hrep
      · exact hl.elim
  · exact hl.elim

theorem alloc_old (w : World) (x : Obj) {b : Nat} (h : b < w.heap.size) : (w.alloc x).heap[b]? = w.heap[b]? := heap_alloc_old w x h
theorem alloc_size (w : World) (x : Obj) : (w.alloc x).heap.size = w.heap.size + 1 := by show (w.heap.push x).size = _; simp
theorem still_alloc (h : Rep E s tm W) (x : Obj) {us : List (Nat × Nat)} {d : Nat} : ∀ b, (W.fz b ∨ ∃ k, Kept us d k ∧ b ∈ W.om k) → (W.w.alloc x).heap[b]? = W.w.heap[b]? := by
  intro b hb
  refine alloc_old _ _ ?_
  rcases hb with hb | ⟨k, _, hb⟩
  · exact (h.sep.fz b hb).1
  · exact (h.sep.own k b hb).2.1

/-- A slot gets a variable of its own. -/
theorem Rep.placeBox (h : Rep E s tm W) (hv : NoVer s v) {us : List (Nat × Nat)} {d : Nat} (hd : d < tm.size) {bs : List LA} {cs : Array Value} {T : TypeId} {os : Nat → List Nat}
    (hlen : cs.size = bs.length) (hbs : ∀ (j : Nat) (b : LA), bs[j]? = some b → ∃ u, cs[j]? = some u ∧ Took s W v b u (os j) us) (hdis : ∀ i j, i ≠ j → ∀ b ∈ os i, b ∉ os j) (hbig : ∀ j, bs.length ≤ j → os j = []) :
    ∃ W', W'.w = W.w.alloc (.cells cs T) ∧ Rep E (s.app (gone us ++ ownBox d v bs)) (tm.setIfInBounds d (.pointer (some ⟨W.w.heap.size, 0, none⟩))) W' := by
  refine ⟨placeW W (W.w.alloc (.cells cs T)) us d (fun j => cs[j]?) W.w.heap.size [W.w.heap.size] os, rfl, ?_⟩
  have hnth : ∀ j, j < bs.length → ∃ u, cs[j]? = some u ∧ Took s W v (nth .bad bs j) u (os j) us := by
    intro j hj
    have := hbs j bs[j] (List.getElem?_eq_getElem hj)
    rw [nth_of, List.getElem?_eq_getElem hj]; exact this
  have hosub : ∀ j, ∀ b ∈ os j, ∃ r k, (r, k) ∈ us ∧ b ∈ W.om (.lf r k) := by
    intro j b hb
    by_cases hj : j < bs.length
    · obtain ⟨u, _, ht⟩ := hnth j hj; exact ht.2.2.1 b hb
    · rw [hbig j (by omega)] at hb; cases hb
  have hold : ∀ j, ∀ b ∈ os j, b < W.w.heap.size := by
    intro j b hb
    obtain ⟨r, k, _, h1⟩ := hosub j b hb
    exact (h.sep.own _ b h1).2.1
  refine h.place hv hd rfl ?_ (still_alloc h _) (fun b hb _ => alloc_old _ _ (by have := h.sep.size; omega)) (by rw [alloc_size]; omega) ⟨rfl, rfl, rfl⟩ (List.nodup_cons.2 ⟨by simp, List.nodup_nil⟩) ?_ ?_ hdis ?_ ?_ ?_
  · intro j ver gen t e xs dd hl
    by_cases hj : j < bs.length
    · obtain ⟨u, _, ht⟩ := hnth j hj
      dsimp only at hl
      rw [hl] at ht
      exact ht.2.2.2.1
    · dsimp only at hl
      rw [nth_ge LA.bad (Nat.le_of_not_lt hj)] at hl; cases hl
  · intro j
    by_cases hj : j < bs.length
    · obtain ⟨u, _, ht⟩ := hnth j hj; exact ht.2.1
    · rw [hbig j (by omega)]; exact List.nodup_nil
  · intro j b hb hb'
    simp at hb; subst hb
    have := hold j _ hb'; omega
  · intro b hb
    rcases hb with hb | ⟨j, hb⟩
    · simp at hb; subst hb; exact .inr ⟨Nat.le_refl _, by rw [alloc_size]; omega⟩
    · exact .inl (hosub j b hb)
  · intro hturn hroot
    refine ⟨fun j => ?_, ?_⟩
    · have e1 : (placeW W (W.w.alloc (.cells cs T)) us d (fun j => cs[j]?) W.w.heap.size [W.w.heap.size] os).cv d j = cs[j]? := by simp [placeW]
      have e2 : (placeW W (W.w.alloc (.cells cs T)) us d (fun j => cs[j]?) W.w.heap.size [W.w.heap.size] os).om (.lf d j) = os j := by simp [placeW]
      rw [e1, e2]
      show LeafOk _ _ (nth LA.bad bs j) _ _
      by_cases hj : j < bs.length
      · obtain ⟨u, hu, ht⟩ := hnth j hj
        obtain ⟨_, _, _, ht⟩ := ht
        generalize nth LA.bad bs j = b at ht
        unfold LeafOk
        cases b with
        | arr ver gen t e xs dd =>
          obtain ⟨_, _, hr⟩ := ht
          exact ⟨u, hu, hr.frame (fun b hb => alloc_old _ _ (hb.elim (hold j b) fun hb => (h.sep.fz b hb).1)) fun b hb => hb⟩
        | _ => exact ⟨ht.1, fun u' hu' => by rw [hu] at hu'; injection hu' with hu'; subst hu'; exact LAok.turn hturn ht.2.2 ht.2.1⟩
      · rw [nth_ge LA.bad (Nat.le_of_not_lt hj), hbig j (by omega)]
        exact ⟨rfl, fun _ _ => trivial⟩
    · show (if true = true then _ else _)
      rw [if_pos rfl]
      refine ⟨by simp [placeW], cs, T, (0, 0), ?_, by intro j _; simp, hlen, fun j => by simp [placeW]⟩
      have : (placeW W (W.w.alloc (.cells cs T)) us d (fun j => cs[j]?) W.w.heap.size [W.w.heap.size] os).bk d = W.w.heap.size := by simp [placeW]
      rw [this]
      exact heap_alloc_new _ _
  · intro hturn hroot
    intro hb hver
    have : (placeW W (W.w.alloc (.cells cs T)) us d (fun j => cs[j]?) W.w.heap.size [W.w.heap.size] os).bk d = W.w.heap.size := by simp [placeW]
    rw [this]

theorem kinds_len : ∀ ls : Ls, ls.kinds.length = ls.n
  | .nil => rfl
  | .one _ => rfl
  | .cons _ ls => by simp [Ls.kinds, Ls.n, kinds_len ls]

theorem zero_took (l : L) : Took s W v (zeroL v l) (zcell l) [] [] := by
  cases l with
  | int k => exact ⟨rfl, List.nodup_nil, (fun b hb => by cases hb), rfl, ⟨rfl, rfl⟩, by simp [zeroL, LA.vers]⟩
  | bool => exact ⟨rfl, List.nodup_nil, (fun b hb => by cases hb), rfl, ⟨rfl, rfl⟩, by simp [zeroL, LA.vers]⟩
  | str => exact ⟨rfl, List.nodup_nil, (fun b hb => by cases hb), rfl, ⟨rfl, rfl⟩, by simp [zeroL, LA.vers]⟩
  | sl t e => exact ⟨rfl, List.nodup_nil, (fun b hb => by cases hb), rfl, rfl, nil_row⟩

theorem op_alloc (hc : CxF P cx) (hft : FtyOk P cx.env) (h : Rep E s a.tmps W) (hv : NoVer s v) {t : TypeId} (ho : o.op = .alloc t) (hd : ∀ d, o.dst = some d → d < a.tmps.size) (hl : (opDelta cx v o s).leads ws) : Goes P E o a W.w (s.app ws) := by
  simp only [opDelta, ho] at hl
  split at hl
  · rename_i ty d ht hds
    have hl : _ = ws := hl
    obtain ⟨i, hi, hsz, z, hz, hzc, _⟩ := (hc t ty ht).info
    obtain ⟨W', hW', hrep⟩ := h.placeBox hv (us := []) (hd d hds) (bs := ty.ls.kinds.map (zeroL v)) (cs := (ty.ls.kinds.map zcell).toArray) (T := t) (os := fun _ => []) (by simp)
      (fun j b hb => by
        simp only [List.getElem?_map] at hb
        cases hq : ty.ls.kinds[j]? with
        | none => rw [hq] at hb; cases hb
        | some l =>
          rw [hq] at hb; injection hb with hb; subst hb
          exact ⟨zcell l, by simp [hq], zero_took l⟩) (fun i j _ b hb => by cases hb) (fun _ _ => rfl)
    rw [← hl]
    refine goes_mem h hds ?_ hW' hrep
    simp [execOp, ho, Instr.alloc, zeroValue, typeInfo, hi, hz, newVar, newRow, hzc]
  · rename_i d ht hds
    split at hl
    · rename_i hf
      have hl : _ = ws := hl
      obtain ⟨i, z, c, hi, hsz, hz, hzc, hone⟩ := hft t hf
      obtain ⟨W', hW', hrep⟩ := h.placeBox hv (us := []) (hd d hds) (bs := [.bad]) (cs := #[c]) (T := t) (os := fun _ => []) rfl
        (fun j b hb => by
          cases j with
          | zero => simp at hb; subst hb; exact ⟨c, rfl, hone, List.nodup_nil, (fun b hb => by cases hb), rfl, trivial, by simp [LA.vers]⟩
          | succ j => simp at hb) (fun i j _ b hb => by cases hb) (fun _ _ => rfl)
      rw [← hl]
      refine goes_mem h hds ?_ hW' hrep
      simp [execOp, ho, Instr.alloc, zeroValue, typeInfo, hi, hz, newVar, newRow, hzc]
    · exact hl.elim
  · exact hl.elim

/-- The cells of a value, leaf by leaf. -/
theorem vok_cells {g : Bool} {as : List LA} {u : Value} (hu : Vok s W g as u) (hone : g = false → u.cells = #[u]) : u.cells.size = as.length ∧ ∀ (j : Nat) (b : LA), as[j]? = some b → ∃ y, u.cells[j]? = some y ∧ LAok s W b y := by
  cases g with
  | true =>
    obtain ⟨cs, rfl, hsz, hget⟩ := hu
    exact ⟨hsz, hget⟩
  | false =>
    have := hone rfl
    rw [this]
    cases as with
    | nil => exact hu.elim
    | cons b bs => cases bs with
      | cons => exact hu.elim
      | nil =>
        refine ⟨rfl, fun j y hy => ?_⟩
        cases j with
        | zero => simp at hy; subst hy; exact ⟨u, rfl, hu⟩
        | succ j => simp at hy

/-- A slot gets the address of a copy that nobody writes. -/
theorem Rep.placeCopy (h : Rep E s tm W) (hv : NoVer s v) {d : Nat} {as : List LA} {cs : Array Value} {T : TypeId} (hva : v ∉ as.flatMap LA.vers)
    (has : ∀ (j : Nat) (b : LA), as[j]? = some b → ∃ u, cs[j]? = some u ∧ LAok s W b u) :
    ∃ W', W'.w = W.w.alloc (.cells cs T) ∧ Rep E (s.app [.slot d (.bx as)]) (tm.setIfInBounds d (.pointer (some ⟨W.w.heap.size, 0, none⟩))) W' := by
  have hold : ∀ b, b < W.w.heap.size → (W.w.alloc (.cells cs T)).heap[b]? = W.w.heap[b]? := fun b hb => alloc_old _ _ hb
  have hrep : Rep E s tm { W with w := W.w.alloc (.cells cs T), fz := fun b => W.fz b ∨ b = W.w.heap.size } := by
    have hturn : Turn v s s W { W with w := W.w.alloc (.cells cs T), fz := fun b => W.fz b ∨ b = W.w.heap.size } := {
      fz := fun b hb => .inl hb
      fzm := fun b hb => hold b (h.sep.fz b hb).1
      leaf := fun r j ver gen t e xs dd hl hne => ⟨rfl, gen, t, xs, dd, hl, fun _ => ⟨rfl, fun p h' e' u hc' hn => by
        obtain ⟨u0, hu0, hrd⟩ := (h.roots r).row hl
        rw [hc'] at hu0; injection hu0 with hu0; subst hu0
        exact nav_frame p hrd hn fun b hb => hold b (hb.elim (fun hb => (h.sep.own _ b hb).2.1) fun hb => (h.sep.fz b hb).1)⟩⟩
      box := fun r hb hne => ⟨hb, rfl, rfl⟩ }
    refine h.redo hv hturn ?_ h.len1 h.len2 (fun t => .inl ⟨rfl, rfl⟩) fun r => ?_
    · have hs := h.sep
      exact {
        nodup := hs.nodup
        disj := hs.disj
        own := fun k b hb => by
          obtain ⟨a1, a2, a3⟩ := hs.own k b hb
          refine ⟨fun hz => hz.elim a1 fun e => ?_, by rw [alloc_size]; exact Nat.lt_succ_of_lt a2, a3⟩
          subst e; exact Nat.lt_irrefl _ a2
        fz := fun b hb => by
          rcases hb with hb | rfl
          · obtain ⟨a1, a2⟩ := hs.fz b hb
            exact ⟨by rw [alloc_size]; exact Nat.lt_succ_of_lt a1, a2⟩
          · exact ⟨by rw [alloc_size]; exact Nat.lt_succ_self _, .inr (.inl hs.size)⟩
        frame := fun b h1 h2 => (hold b (by have := hs.size; omega)).trans (hs.frame b h1 h2)
        size := by rw [alloc_size]; exact Nat.le_succ_of_le hs.size
        rest := hs.rest }
    · obtain ⟨h1, h2⟩ := h.roots r
      refine ⟨fun j => ?_, ?_⟩
      · exact LeafOk.turn hturn (by have := hv.2.1 r j; exact this) (fun b hb => hold b (h.sep.own _ b hb).2.1) (h1 j)
      · show (if (s.root r).box = true then _ else _)
        split
        · rename_i hb
          rw [if_pos hb] at h2
          obtain ⟨ho', arr', T', fr', hh', a1, a2, a3⟩ := h2
          refine ⟨ho', arr', T', fr', (hold _ ?_).trans hh', a1, a2, a3⟩
          exact (Array.getElem?_eq_some_iff.1 hh').1
        · rename_i hb; rw [if_neg hb] at h2; exact h2
  refine ⟨_, rfl, hrep.slot d ?_⟩
  refine ⟨W.w.heap.size, 0, cs, T, (0, 0), rfl, .inr rfl, heap_alloc_new _ _, by intro j _; simp, fun j b hb => ?_⟩
  obtain ⟨u, hu, hok⟩ := has j b hb
  refine ⟨u, by rw [Nat.zero_add]; exact hu, ?_⟩
  refine LAok.turn (v := v) (s := s) (W := W) ?_ (fun hin => hva (List.mem_flatMap.2 ⟨b, List.mem_of_getElem? hb, hin⟩)) hok
  exact {
      fz := fun b hb => .inl hb
      fzm := fun b hb => hold b (h.sep.fz b hb).1
      leaf := fun r j ver gen t e xs dd hl hne => ⟨rfl, gen, t, xs, dd, hl, fun _ => ⟨rfl, fun p h' e' u hc' hn => by
        obtain ⟨u0, hu0, hrd⟩ := (h.roots r).row hl
        rw [hc'] at hu0; injection hu0 with hu0; subst hu0
        exact nav_frame p hrd hn fun b hb => hold b (hb.elim (fun hb => (h.sep.own _ b hb).2.1) fun hb => (h.sep.fz b hb).1)⟩⟩
      box := fun r hb hne => ⟨hb, rfl, rfl⟩ }

theorem op_box (hc : CxF P cx) (h : Rep E s a.tmps W) (hv : NoVer s v) {t : TypeId} {x : Operand} (ho : o.op = .box t x) (hd : ∀ d, o.dst = some d → d < a.tmps.size) (hl : (opDelta cx v o s).leads ws) : Goes P E o a W.w (s.app ws) := by
  simp only [opDelta, ho] at hl
  have h1 := opd_ok h x
  have hva := opd_vers hv x
  generalize s.opd x = p at hl h1 hva
  split at hl
  · rename_i ty d g as ht hds
    split at hl
    · rename_i hlent
      simp only [Bool.and_eq_true] at hlent
      obtain ⟨hg, _⟩ := hlent
      subst hg
      have hl : _ = ws := hl
      obtain ⟨cs, hcs, hsz, hget⟩ := h1
      obtain ⟨W', hW', hrep⟩ := h.placeCopy hv (d := d) (as := as) (cs := cs) (T := t) hva hget
      rw [← hl]
      refine goes_mem h hds ?_ hW' hrep
      simp [execOp, ho, Instr.box, newVar, newRow, hcs, Value.cells]
    let gg : Nat → Option Value := fun j => match g with | true => (a.eval x).cells[j]? | false => if j = 0 then some (a.eval x) else none
    have hgg : ∀ (j : Nat) (b : LA), as[j]? = some b → v ∉ b.vers ∧ ∃ u, gg j = some u ∧ LAok s W b u := by
      intro j b hb
      refine ⟨fun hin => hva (List.mem_flatMap.2 ⟨b, List.mem_of_getElem? hb, hin⟩), ?_⟩
      cases g with
      | true => obtain ⟨cs, hcs, _, hget⟩ := h1; obtain ⟨u, hu, hok⟩ := hget j b hb; exact ⟨u, by simp only [gg, hcs]; exact hu, hok⟩
      | false =>
        cases as with
        | nil => exact h1.elim
        | cons b' bs => cases bs with
          | cons => exact h1.elim
          | nil => cases j with
            | zero => simp at hb; subst hb; exact ⟨a.eval x, by simp [gg], h1⟩
            | succ j => simp at hb
    obtain ⟨bs, us, os, hl, hlen, hlen2, hnd, hbx, hdis, hbig, hbs⟩ := takes_ok (v := v) h hgg hl
    split at hl
    · have hl : _ = ws := hl
      have hone : g = false → (a.eval x).cells = #[a.eval x] := by
        intro hg
        subst hg
        cases as with
        | nil => exact h1.elim
        | cons b' bs' => cases bs' with
          | cons => exact h1.elim
          | nil =>
            match bs, hlen, hbs with
            | [b], _, hbs => obtain ⟨u, hu, ht⟩ := hbs 0 b rfl; simp [gg] at hu; subst hu; exact cells_one ht.1
      have hcs := vok_cells h1 hone
      have hgc : ∀ j u, gg j = some u → (a.eval x).cells[j]? = some u := by
        intro j u hj
        cases g with
        | true => exact hj
        | false =>
          rw [hone rfl]
          by_cases h0 : j = 0
          · subst h0; simpa [gg] using hj
          · simp [gg, h0] at hj
      obtain ⟨W', hW', hrep⟩ := h.placeBox hv (us := us) (hd d hds) (bs := bs) (cs := (a.eval x).cells) (T := t) (os := os) (by rw [hcs.1, hlen])
        (fun j b hb => by obtain ⟨u, hu, ht⟩ := hbs j b hb; exact ⟨u, hgc j u hu, ht⟩) hdis (fun j hj => hbig j (by omega))
      rw [← hl]
      refine goes_mem h hds ?_ hW' hrep
      simp [execOp, ho, Instr.box, newVar, newRow]
    · exact hl.elim
  · exact hl.elim

end
end Go.Ev

namespace Go.Ev
set_option linter.unusedVariables false
set_option linter.unusedSimpArgs false

def setL : List Value → Nat → Array Value → Array Value
  | [], _, arr => arr
  | v :: r, o, arr => setL r (o + 1) (arr.setIfInBounds o v)
theorem setL_size : ∀ (vs : List Value) (o : Nat) (arr : Array Value), (setL vs o arr).size = arr.size
  | [], _, _ => rfl
  | v :: r, o, arr => by rw [setL, setL_size r]; simp
theorem setL_get : ∀ (vs : List Value) (o : Nat) (arr : Array Value), o + vs.length ≤ arr.size → ∀ k, (setL vs o arr)[k]? = if o ≤ k ∧ k < o + vs.length then vs[k - o]? else arr[k]?
  | [], o, arr, h, k => by
    rw [setL, if_neg (by simp)]
  | v :: r, o, arr, h, k => by
    simp only [List.length_cons] at h
    rw [setL, setL_get r (o + 1) _ (by simp; omega) k, Array.getElem?_setIfInBounds]
    by_cases h1 : k = o
    · subst h1
      rw [if_neg (by omega), if_pos rfl, if_pos (by omega), if_pos (by simp)]
      simp
    · by_cases h2 : o + 1 ≤ k ∧ k < o + 1 + r.length
      · rw [if_pos h2, if_pos (by simp; omega)]
        obtain ⟨j, rfl⟩ : ∃ j, k = o + 1 + j := ⟨k - (o + 1), by omega⟩
        rw [show o + 1 + j - (o + 1) = j by omega, show o + 1 + j - o = j + 1 by omega]
        rfl
      · rw [if_neg h2, if_neg (fun e => h1 e.symm), if_neg (by simp; omega)]

/-- One block has other cells, all else is as it was. -/
structure Put (w w' : World) (b : Nat) (arr' : Array Value) (T : TypeId) (fr : Nat × Nat) : Prop where
  here : w'.heap[b]? = some (.cells arr' T fr)
  else_ : ∀ c, c ≠ b → w'.heap[c]? = w.heap[c]?
  size : w'.heap.size = w.heap.size
  rest : w'.os = w.os ∧ w'.tape = w.tape ∧ w'.output = w.output

theorem setCells_put (b : Nat) {T : TypeId} {fr : Nat × Nat} : ∀ (vs : List Value) (o : Nat) (w : World) (arr : Array Value), w.heap[b]? = some (.cells arr T fr) → Put w (w.setCells b o vs) b (setL vs o arr) T fr
  | [], o, w, arr, h => ⟨h, fun _ _ => rfl, rfl, rfl, rfl, rfl⟩
  | v :: r, o, w, arr, h => by
    have h1 : (w.setCell ⟨b, o, none⟩ v).heap[b]? = some (.cells (arr.setIfInBounds o v) T fr) := by
      rw [setCell_eq_setRow w b o arr T fr v h]; exact setRow_heap w b arr _ T fr h
    have ih := setCells_put b r (o + 1) _ _ h1
    refine ⟨ih.here, fun c hc => (ih.else_ c hc).trans ?_, ih.size.trans ?_, ih.rest⟩
    · rw [setCell_eq_setRow w b o arr T fr v h]; exact setRow_other w b c _ hc
    · rw [setCell_eq_setRow w b o arr T fr v h]; exact setRow_size w b _

theorem run_put {P : Program} {w : World} {b o : Nat} {arr : Array Value} {T : TypeId} {fr : Nat × Nat} (vs : List Value) (h : w.heap[b]? = some (.cells arr T fr)) (hb : ∀ j, j < arr.size → ¬(fr.1 ≤ j ∧ j < fr.2)) (hl : o + vs.length ≤ arr.size) (h1 : ∀ v ∈ vs, v.oneCell' = true) :
    ∃ w', (storeCells ⟨b, o, none⟩ vs).run P w = .ok () w' ∧ Put w w' b (setL vs o arr) T fr := by
  refine ⟨_, run_storeCells_cells b o vs 0 w ?_ ?_ h1, ?_⟩
  · intro j hj
    simp only [World.cell?, h]
    simp; omega
  · intro j hj
    have := hb (o + 0 + j) (by omega)
    obtain ⟨lo, hi⟩ := fr
    simp only [World.frozen?, h]
    simp at this ⊢
    exact this
  · exact setCells_put b vs o w arr h

/-! ### elements -/

theorem L.rd_one : ∀ (l : L) {d : Nat} {w : World} {fz : Nat → Prop} {v : Value} {x : l.D} {o : List Nat}, l.rd d w fz v x o → v.oneCell' = true
  | .int _, _, _, _, _, _, _, h => by rw [h.1]; rfl
  | .bool, _, _, _, _, _, _, h => by rw [h.1]; rfl
  | .str, _, _, _, _, _, _, h => by rw [h.1]; rfl
  | .sl _ e, _, _, _, _, _, _, h => by obtain ⟨A, c, hv, _⟩ := h; rw [hv]; rfl
theorem Ls.rd_cell : ∀ (e : Ls) {d : Nat} {w : World} {fz : Nat → Prop} {g : Nat → Option Value} {x : e.D} {o : List Nat}, e.rd d w fz g x o → ∀ j, j < e.n → ∃ v, g j = some v ∧ v.oneCell' = true
  | .nil, _, _, _, _, _, _, h, j, hj => by simp [Ls.n] at hj
  | .one l, _, _, _, _, _, _, h, j, hj => by
    simp only [Ls.rd] at h
    obtain ⟨v, hg, h⟩ := h
    simp [Ls.n] at hj; subst hj
    exact ⟨v, hg, L.rd_one l h⟩
  | .cons l ls, _, _, _, _, _, _, h, j, hj => by
    simp only [Ls.rd] at h
    obtain ⟨v, o1, o2, hg, h1, h2, _⟩ := h
    cases j with
    | zero => exact ⟨v, hg, L.rd_one l h1⟩
    | succ j => exact Ls.rd_cell ls h2 j (by simp [Ls.n] at hj; omega)
theorem Ls.rd_congr : ∀ (e : Ls) {d : Nat} {w : World} {fz : Nat → Prop} {g g' : Nat → Option Value} {x : e.D} {o : List Nat}, e.rd d w fz g x o → (∀ j, j < e.n → g' j = g j) → e.rd d w fz g' x o
  | .nil, _, _, _, _, _, _, _, h, _ => h
  | .one l, _, _, _, _, _, _, _, h, hg => by
    simp only [Ls.rd] at h ⊢
    obtain ⟨v, h0, h⟩ := h
    exact ⟨v, (hg 0 (by simp [Ls.n])).trans h0, h⟩
  | .cons l ls, _, _, _, _, _, _, _, h, hg => by
    simp only [Ls.rd] at h ⊢
    obtain ⟨v, o1, o2, h0, h1, h2, ho⟩ := h
    exact ⟨v, o1, o2, (hg 0 (by simp [Ls.n])).trans h0, h1, Ls.rd_congr ls h2 fun j hj => hg (j + 1) (by simp [Ls.n]; omega), ho⟩
theorem L.flat_rd : ∀ (l : L) {d d' : Nat} {w w' : World} {fz fz' : Nat → Prop} {v : Value} {x : l.D} {o : List Nat}, isSl l = false → l.rd d w fz v x o → l.rd d' w' fz' v x o ∧ o = []
  | .int _, _, _, _, _, _, _, _, _, _, _, h => ⟨h, h.2⟩
  | .bool, _, _, _, _, _, _, _, _, _, _, h => ⟨h, h.2⟩
  | .str, _, _, _, _, _, _, _, _, _, _, h => ⟨h, h.2⟩
  | .sl _ e, _, _, _, _, _, _, _, _, _, hs, h => by simp [isSl] at hs
theorem Ls.flat_rd : ∀ (e : Ls) {d d' : Nat} {w w' : World} {fz fz' : Nat → Prop} {g : Nat → Option Value} {x : e.D} {o : List Nat}, isFlat e = true → e.rd d w fz g x o → e.rd d' w' fz' g x o ∧ o = []
  | .nil, _, _, _, _, _, _, _, _, _, _, h => ⟨h, h⟩
  | .one l, _, _, _, _, _, _, _, _, _, hs, h => by
    simp only [Ls.rd] at h ⊢
    obtain ⟨v, h0, h⟩ := h
    simp [isFlat] at hs
    obtain ⟨a, b⟩ := L.flat_rd l hs h
    exact ⟨⟨v, h0, a⟩, b⟩
  | .cons l ls, _, _, _, _, _, _, _, _, _, hs, h => by
    simp only [Ls.rd] at h ⊢
    obtain ⟨v, o1, o2, h0, h1, h2, ho⟩ := h
    simp [isFlat] at hs
    obtain ⟨a, b⟩ := L.flat_rd l hs.1 h1
    obtain ⟨a', b'⟩ := Ls.flat_rd ls hs.2 h2
    exact ⟨⟨v, o1, o2, h0, a, a', ho⟩, by rw [ho, b, b']; rfl⟩

/-- Elements lie one behind the other. -/
def Els (e : Ls) (d : Nat) (w : World) (fz : Nat → Prop) (g : Nat → Option Value) (xs : List e.D) (os : Nat → List Nat) : Prop :=
  ∀ i (h : i < xs.length), e.rd d w fz (fun j => g (i * e.n + j)) xs[i] (os i)

section
variable {e : Ls} {d : Nat} {w w' : World} {fz fz' : Nat → Prop} {g g' : Nat → Option Value} {xs ys : List e.D} {os os' : Nat → List Nat}

theorem mul_lt {i n j m : Nat} (hi : i < m) (hj : j < n) : i * n + j < m * n := by
  have : (i + 1) * n ≤ m * n := Nat.mul_le_mul_right n hi
  rw [Nat.add_mul] at this; omega
theorem Els.cell (h : Els e d w fz g xs os) (k : Nat) (hk : k < xs.length * e.n) : ∃ v, g k = some v ∧ v.oneCell' = true := by
  have hn : 0 < e.n := by rcases Nat.eq_zero_or_pos e.n with h0 | h0; · rw [h0] at hk; simp at hk
                          · exact h0
  have hi : k / e.n < xs.length := Nat.div_lt_of_lt_mul (by rwa [Nat.mul_comm] at hk)
  obtain ⟨v, hv, h1⟩ := Ls.rd_cell e (h _ hi) (k % e.n) (Nat.mod_lt _ hn)
  have : k / e.n * e.n + k % e.n = k := Nat.div_add_mod' _ _
  rw [this] at hv
  exact ⟨v, hv, h1⟩
theorem Els.congr (h : Els e d w fz g xs os) (hg : ∀ k, k < xs.length * e.n → g' k = g k) : Els e d w fz g' xs os :=
  fun i hi => Ls.rd_congr e (h i hi) fun j hj => hg _ (mul_lt hi hj)
theorem Els.frame (h : Els e d w fz g xs os) (hf : ∀ b, (∃ i, i < xs.length ∧ b ∈ os i) ∨ fz b → w'.heap[b]? = w.heap[b]?) (hz : ∀ b, fz b → fz' b) : Els e d w' fz' g xs os :=
  fun i hi => Ls.rd_frame e (h i hi) (fun b hb => hf b (hb.imp (fun hb => ⟨i, hi, hb⟩) id)) hz
theorem Els.flat (hf : isFlat e = true) (h : Els e d w fz g xs os) (d' : Nat) (w' : World) (fz' : Nat → Prop) : Els e d' w' fz' g xs fun _ => [] := fun i hi => by
  obtain ⟨a, b⟩ := Ls.flat_rd e hf (h i hi) (d' := d') (w' := w') (fz' := fz')
  rw [b] at a; exact a
theorem Els.append (h1 : Els e d w fz g xs os) (h2 : Els e d w fz (fun k => g (xs.length * e.n + k)) ys os') : Els e d w fz g (xs ++ ys) fun i => if i < xs.length then os i else os' (i - xs.length) := by
  intro i hi
  by_cases h : i < xs.length
  · simp only [if_pos h]
    rw [List.getElem_append_left h]
    exact h1 i h
  · simp only [if_neg h]
    rw [List.getElem_append_right (Nat.le_of_not_lt h)]
    have := h2 (i - xs.length) (by simp at hi; omega)
    refine Ls.rd_congr e this fun j hj => ?_
    show g (i * e.n + j) = g (xs.length * e.n + ((i - xs.length) * e.n + j))
    congr 1
    have : i * e.n = xs.length * e.n + (i - xs.length) * e.n := by rw [← Nat.add_mul]; congr 1; omega
    omega

/-- Cells that hold elements are a row. -/
theorem mkRow {ad : Addr} {arr : Array Value} {T : TypeId} {fr : Nat × Nat} {c : Nat} (hh : w.heap[ad.block]? = some (.cells arr T fr)) (hs : ad.spot = none) (hb : ∀ j, j < arr.size → ¬(fr.1 ≤ j ∧ j < fr.2))
    (hc : ad.off + c * e.n ≤ arr.size) (hl : xs.length ≤ c) (hel : Els e 2 w fz (fun k => arr[ad.off + k]?) xs os) :
    RowRd e 2 w fz (.slice (some ad) xs.length c) xs (ad.block :: (List.range xs.length).flatMap os) :=
  ⟨some ad, c, rfl, hl, .inr ⟨fun k => arr[ad.off + k]?, os, ⟨hs, arr, T, fr, hh, hc, fun _ => hb, fun j => rfl⟩, hel, rfl⟩⟩

/-- A row's cells, if it has any. -/
theorem RowRd.els {v : Value} {o : List Nat} (h : RowRd e d w fz v xs o) : ∃ A c, v = .slice A xs.length c ∧ xs.length ≤ c ∧ (A = none → c = 0 ∧ o = []) ∧
    ∀ ad, A = some ad → (0 < c ∨ 0 < d) → ∃ arr T fr os, ad.spot = none ∧ w.heap[ad.block]? = some (.cells arr T fr) ∧ ad.off + c * e.n ≤ arr.size ∧ (0 < d → ∀ j, j < arr.size → ¬(fr.1 ≤ j ∧ j < fr.2)) ∧
      Els e (dec d) w fz (fun k => arr[ad.off + k]?) xs os ∧ (0 < d → o = ad.block :: (List.range xs.length).flatMap os) ∧ (d = 0 → fz ad.block ∧ ∀ i, i < xs.length → os i = []) := by
  obtain ⟨A, c, hv, hc, h⟩ := h
  refine ⟨A, c, hv, hc, ?_, ?_⟩
  · intro hA; subst hA; exact h
  · intro ad hA hpos
    subst hA
    rcases h with h | ⟨g, os, ⟨hs, arr, T, fr, hh, hn, hb, hg⟩, hel, ho⟩
    · obtain ⟨h1, h2, _⟩ := h
      have h1 : ¬ 0 < d := by simpa using h1
      omega
    refine ⟨arr, T, fr, os, hs, hh, hn, fun hd => hb (by simpa using hd), ?_, ?_, ?_⟩
    · intro i hi
      refine Ls.rd_congr e (hel i hi) fun j _ => (hg _).symm
    · intro hd
      have : decide (0 < d) = true := by simpa using hd
      rw [this] at ho; exact ho
    · intro hd
      subst hd
      exact ⟨ho.1, ho.2.2⟩

/-- So many cells as a list. -/
def firstL (g : Nat → Option Value) (m : Nat) : List Value := (List.range m).map fun j => (g j).getD Go.undef
theorem firstL_len (g : Nat → Option Value) (m : Nat) : (firstL g m).length = m := by simp [firstL]
theorem firstL_get {m : Nat} (h : ∀ k, k < m → ∃ v, g k = some v ∧ v.oneCell' = true) (k : Nat) (hk : k < m) : (firstL g m)[k]? = g k := by
  obtain ⟨v, hv, _⟩ := h k hk
  simp [firstL, hk, hv]
theorem firstL_one {m : Nat} (h : ∀ k, k < m → ∃ v, g k = some v ∧ v.oneCell' = true) : ∀ v ∈ firstL g m, v.oneCell' = true := by
  intro v hv
  obtain ⟨k, hk, rfl⟩ := List.mem_map.1 hv
  obtain ⟨u, hu, h1⟩ := h k (List.mem_range.1 hk)
  simp [hu, h1]
end

/-- The zero leaves read as the zero. -/
theorem L.zero_rd : ∀ (l : L) {d : Nat} {w : World} {fz : Nat → Prop}, l.rd d w fz (zcell l) (zeroD l) []
  | .int _, _, _, _ => ⟨rfl, rfl⟩
  | .bool, _, _, _ => ⟨rfl, rfl⟩
  | .str, _, _, _ => ⟨rfl, rfl⟩
  | .sl _ e, _, _, _ => nil_row
theorem Ls.zero_rd : ∀ (e : Ls) {d : Nat} {w : World} {fz : Nat → Prop} {g : Nat → Option Value}, (∀ j, j < e.n → g j = (e.kinds.map zcell)[j]?) → e.rd d w fz g (zeroDs e) []
  | .nil, _, _, _, _, _ => rfl
  | .one l, _, _, _, _, hg => by
    simp only [Ls.rd]
    exact ⟨zcell l, (hg 0 (by simp [Ls.n])).trans rfl, L.zero_rd l⟩
  | .cons l ls, _, _, _, _, hg => by
    simp only [Ls.rd]
    exact ⟨zcell l, [], [], (hg 0 (by simp [Ls.n])).trans rfl, L.zero_rd l, Ls.zero_rd ls fun j hj => (hg (j + 1) (by simp [Ls.n]; omega)).trans (by simp [Ls.kinds]), rfl⟩

end Go.Ev
