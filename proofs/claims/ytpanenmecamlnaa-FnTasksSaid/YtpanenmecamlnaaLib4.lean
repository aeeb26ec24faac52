/- A plain evaluator for Go's loaded code, and that it is sound; part 4. Conditions: none. -/
import Derived.Test.YtpanenmecamlnaaLib3
import Derived.SizedLaws
import Derived.Carry
import Derived.ChangeShapes
import Derived.RowKit
namespace Go.Ev
set_option linter.unusedVariables false
set_option linter.unusedSimpArgs false

mutual
/-- Whole numbers are of their kind; lengths are lengths. -/
def L.fit : (l : L) → l.D → Prop
  | .int k, x => k.min ≤ (show Int from x) ∧ (show Int from x) ≤ k.max
  | .bool, _ => True
  | .str, x => List.length (α := UInt8) x ≤ maxLen
  | .sl _ e, x => List.length (α := e.D) x ≤ maxLen ∧ ∀ y, List.Mem (α := e.D) y x → e.fit y
def Ls.fit : (ls : Ls) → ls.D → Prop
  | .nil, _ => True
  | .one l, x => l.fit x
  | .cons l ls, x => l.fit x.1 ∧ ls.fit x.2
end

theorem mkLs_n : ∀ ls : List L, (mkLs ls).n = ls.length
  | [] => rfl
  | [_] => rfl
  | _ :: m :: r => by simp only [mkLs, Ls.n, mkLs_n (m :: r), List.length_cons]
theorem mkLs_kinds : ∀ ls : List L, (mkLs ls).kinds = ls
  | [] => rfl
  | [_] => rfl
  | _ :: m :: r => by simp only [mkLs, Ls.kinds, mkLs_kinds (m :: r)]

mutual
theorem L.eq_refl' : ∀ l : L, L.eq? l l = true
  | .int _ => by simp [L.eq?]
  | .bool => rfl
  | .str => rfl
  | .sl t e => by simp [L.eq?, Ls.eq_refl' e]
theorem Ls.eq_refl' : ∀ e : Ls, Ls.eq? e e = true
  | .nil => rfl
  | .one l => by simp [Ls.eq?, L.eq_refl' l]
  | .cons l ls => by simp [Ls.eq?, L.eq_refl' l, Ls.eq_refl' ls]
end

/-- A row of leaves out of single ones. -/
theorem pack_of : ∀ (e : Ls) (vs : List Lv), vs.map (·.l) = e.kinds → ∃ x : e.D, pack e vs = some x ∧ ((∀ (j : Nat) (lv : Lv), vs[j]? = some lv → lv.l.fit lv.x) → e.fit x)
  | .nil, [], _ => ⟨(), rfl, fun _ => trivial⟩
  | .nil, _ :: _, h => by simp [Ls.kinds] at h
  | .one l, [], h => by simp [Ls.kinds] at h
  | .one l, [v], h => by
    simp [Ls.kinds] at h
    subst h
    refine ⟨v.x, ?_, fun hf => hf 0 v rfl⟩
    have he : L.eq? v.l v.l = true := L.eq_refl' v.l
    simp only [pack, L.cast, he, dif_pos]
    rfl
  | .one l, _ :: _ :: _, h => by simp [Ls.kinds] at h
  | .cons l ls, [], h => by simp [Ls.kinds] at h
  | .cons l ls, v :: vs, h => by
    simp only [Ls.kinds, List.map_cons, List.cons.injEq] at h
    obtain ⟨h1, h2⟩ := h
    subst h1
    obtain ⟨xs, hx, hf⟩ := pack_of ls vs h2
    have he : L.eq? v.l v.l = true := L.eq_refl' v.l
    refine ⟨(v.x, xs), ?_, fun hh => ⟨hh 0 v rfl, hf fun j lv hj => hh (j + 1) lv (by simpa using hj)⟩⟩
    simp only [pack, L.cast, he, dif_pos, hx]

/-! ### the kinds of a type's leaves, out of the program's own table -/

def layFs (P : Program) (r : TypeId → Option (List L)) : Nat → List Field → Option (List L)
  | _, [] => some []
  | off, f :: fs => match f.offset == off, r f.type with
    | true, some ls => match P.cellsOf f.type == ls.length, layFs P r (off + ls.length) fs with
      | true, some ms => some (ls ++ ms)
      | _, _ => none
    | _, _ => none
def lay (P : Program) : Nat → TypeId → Option (List L)
  | 0, _ => none
  | k + 1, t => match P.underlying t with
    | some .bool => some [.bool]
    | some (.int k) => some [.int k]
    | some .string => some [.str]
    | some (.slice e) => match lay P k e with
      | some ls => match P.cellsOf e == ls.length, ls with
        | true, l :: ls => some [.sl e (mkLs (l :: ls))]
        | _, _ => none
      | none => none
    | some (.struct fs) => match layFs P (lay P k) 0 fs.toList with
      | some ls => match P.cellsOf t == ls.length with
        | true => some ls
        | false => none
      | none => none
    | _ => none

/-- All old blocks. -/
def Old (w : World) (b : Nat) : Prop := b < w.heap.size

section
variable {H : Type} {enc : TypeId × Value → H} {P : Program} {w : World} {base : Nat} {held : Bool}

/-- What cells hold, leaf by leaf. -/
def Holds (w : World) (ls : List L) (cs : List Value) : Prop := cs.length = ls.length ∧ ∃ vs : List Lv, vs.map (·.l) = ls ∧ ∀ (j : Nat) (lv : Lv), vs[j]? = some lv → ∃ v, cs[j]? = some v ∧ lv.l.rd 0 w (Old w) v lv.x [] ∧ lv.l.fit lv.x

theorem Holds.append {ls ms : List L} {cs ds : List Value} (h1 : Holds w ls cs) (h2 : Holds w ms ds) : Holds w (ls ++ ms) (cs ++ ds) := by
  obtain ⟨a1, vs, a2, a3⟩ := h1
  obtain ⟨b1, us, b2, b3⟩ := h2
  have hl : vs.length = cs.length := by have := congrArg List.length a2; simp at this; omega
  refine ⟨by simp [a1, b1], vs ++ us, by simp [a2, b2], fun j lv hj => ?_⟩
  rcases Nat.lt_or_ge j vs.length with hlt | hge
  · rw [List.getElem?_append_left hlt] at hj
    obtain ⟨v, hv, hr⟩ := a3 j lv hj
    exact ⟨v, by rw [List.getElem?_append_left (by omega)]; exact hv, hr⟩
  · rw [List.getElem?_append_right hge] at hj
    obtain ⟨v, hv, hr⟩ := b3 _ lv hj
    exact ⟨v, by rw [List.getElem?_append_right (by omega), ← hl]; exact hv, hr⟩

theorem Holds.elem {e : Ls} {cs : List Value} (h : Holds w e.kinds cs) : ∃ x : e.D, e.rd 0 w (Old w) (fun j => cs[j]?) x [] ∧ e.fit x := by
  obtain ⟨_, vs, h1, h2⟩ := h
  obtain ⟨x, hx, hf⟩ := pack_of e vs h1
  refine ⟨x, rd_of_unpack e fun j lv hj => ?_, hf fun j lv hj => ?_⟩
  · rw [unpack_pack e vs x hx] at hj
    obtain ⟨v, hv, hr, _⟩ := h2 j lv hj
    exact ⟨v, hv, hr⟩
  · obtain ⟨v, _, _, hf⟩ := h2 j lv hj
    exact hf

theorem layFs_ok {r : TypeId → Option (List L)} {cs : List Value} : ∀ (fs : List Field) (off : Nat) {ls : List L}, layFs P r off fs = some ls → off + ls.length = cs.length →
    (∀ (i : Nat) (f : Field) (ms : List L), fs[i]? = some f → r f.type = some ms → Holds w ms ((cs.drop f.offset).take (P.cellsOf f.type))) → Holds w ls (cs.drop off)
  | [], off, ls, h, hl, hf => by
    simp only [layFs, Option.some.injEq] at h
    subst h
    have : cs.drop off = [] := by simp at hl; simp; omega
    rw [this]
    exact ⟨rfl, [], rfl, fun j lv hj => by simp at hj⟩
  | f :: fs, off, ls, h, hl, hf => by
    simp only [layFs] at h
    split at h
    · rename_i ls1 hoff hr
      have hoff : f.offset = off := by simpa using hoff
      split at h
      · rename_i ms hc hrest
        injection h with h
        subst h
        have hc : P.cellsOf f.type = ls1.length := by simpa using hc
        have h1 := hf 0 f ls1 rfl hr
        rw [hoff, hc] at h1
        have h2 := layFs_ok fs (off + ls1.length) hrest (by simp at hl ⊢; omega) fun i f' ms' hi hr' => hf (i + 1) f' ms' (by simpa using hi) hr'
        have := h1.append h2
        rw [← List.drop_drop, List.take_append_drop] at this
        exact this
      · cases h
    · cases h

theorem cells_at {a : Addr} {n i : Nat} {cs : List Value} (hn : 0 < n) (hs : a.spot = none) (h : w.cells? base (a.add (i * n)) n = some cs) : cs.length = n ∧ ∀ j, j < n → w.cell? ⟨a.block, a.off + (i * n + j), none⟩ = cs[j]? := by
  obtain ⟨_, h1, h2⟩ := World.cells?_some h
  refine ⟨h1, fun j hj => ?_⟩
  rw [← h2 j hj, add_at hs]
  have : (at_ a (i * n)).spot = none := rfl
  rw [add_at this]
  simp [at_, Nat.add_assoc]
theorem spot_none {a : Addr} {n : Nat} {cs : List Value} (hn : 0 < n) (h : w.cells? base (a.add (0 * n)) n = some cs) : a.spot = none := by
  obtain ⟨_, h1, h2⟩ := World.cells?_some h
  have := h2 0 hn
  rw [show cs[0]? = some (cs[0]'(by omega)) from List.getElem?_eq_getElem _] at this
  simp only [Nat.zero_mul, Addr.add, if_pos] at this
  unfold World.cell? at this
  split at this
  · cases hq : a.spot with
    | none => rfl
    | some s => simp [hq] at this
  · cases this

theorem trod_lay : ∀ (k : Nat) {t : TypeId} {ls : List L} {fuel : Nat} {cs : List Value} {x : DataW H × List MemPlace}, lay P k t = some ls → DataW.trod enc P w base (fun _ => true) held fuel t cs = some x → Holds w ls cs
  | 0, t, ls, fuel, cs, x, h, hx => by simp [lay] at h
  | k + 1, t, ls, fuel, cs, x, h, hx => by
    simp only [lay] at h
    split at h
    · rename_i hu
      injection h with h; subst h
      obtain ⟨b, rfl, _⟩ := DataW.trod_bool hu hx
      refine ⟨rfl, [⟨.bool, show Bool from b⟩], rfl, fun j lv hj => ?_⟩
      cases j with
      | zero => simp at hj; subst hj; exact ⟨_, rfl, ⟨rfl, rfl⟩, trivial⟩
      | succ j => simp at hj
    · rename_i kk hu
      injection h with h; subst h
      obtain ⟨n, rfl, _, hw⟩ := DataW.trod_int hu hx
      refine ⟨rfl, [⟨.int kk, show Int from n⟩], rfl, fun j lv hj => ?_⟩
      cases j with
      | zero => simp at hj; subst hj; exact ⟨_, rfl, ⟨rfl, rfl⟩, by simpa [Lit.wf, L.fit] using hw⟩
      | succ j => simp at hj
    · rename_i hu
      injection h with h; subst h
      obtain ⟨s, rfl, _, hs⟩ := DataW.trod_string hu hx
      refine ⟨rfl, [⟨.str, show List UInt8 from s.data.toList⟩], rfl, fun j lv hj => ?_⟩
      cases j with
      | zero => simp at hj; subst hj; exact ⟨_, rfl, ⟨by simp, rfl⟩, by simpa [L.fit] using hs⟩
      | succ j => simp at hj
    · rename_i e hu
      split at h
      · rename_i ls1 hl1
        split at h
        · rename_i l ls2 hc
          injection h with h; subst h
          have hc : P.cellsOf e = (l :: ls2).length := by simpa using hc
          let E : Ls := mkLs (l :: ls2)
          have hEn : E.n = P.cellsOf e := by rw [hc]; exact mkLs_n _
          have hEk : E.kinds = l :: ls2 := mkLs_kinds _
          have hpos : 0 < P.cellsOf e := by rw [hc]; simp
          rcases DataW.trod_slice hu hx with ⟨rfl, _⟩ | ⟨a, len, cap, elems, rest, n, rfl, rfl, _, hb, hle, hcap, hel, h1, h2, _⟩
          · refine ⟨rfl, [⟨.sl e E, ([] : List E.D)⟩], rfl, fun j lv hj => ?_⟩
            cases j with
            | zero => simp at hj; subst hj; exact ⟨_, rfl, nil_row, by simp [L.fit], fun y hy => by cases hy⟩
            | succ j => simp at hj
          · have all : ∀ i, i < cap → ∃ cs' y, w.cells? base (a.add (i * P.cellsOf e)) (P.cellsOf e) = some cs' ∧ DataW.trod enc P w base (fun _ => true) held n e cs' = some y := by
              intro i hi
              obtain ⟨h3, h4⟩ := h2 rfl
              rcases Nat.lt_or_ge i len with hlt | hge
              · have := h1 i hlt
                rw [List.getElem?_eq_getElem (show i < elems.length by omega)] at this
                obtain ⟨cs', q1, q2⟩ := Option.bind_eq_some_iff.1 this
                exact ⟨cs', _, q1, q2⟩
              · have := h4 (i - len) (by omega)
                rw [List.getElem?_eq_getElem (show i - len < rest.length by omega), show len + (i - len) = i by omega] at this
                obtain ⟨cs', q1, q2⟩ := Option.bind_eq_some_iff.1 this
                exact ⟨cs', _, q1, q2⟩
            have elem : a.spot = none → ∀ i, i < cap → ∃ y : E.D, E.rd 0 w (Old w) (fun j => w.cell? ⟨a.block, a.off + (i * E.n + j), none⟩) y [] ∧ E.fit y := by
              intro hs i hi
              obtain ⟨cs', y, q1, q2⟩ := all i hi
              have hh := trod_lay k hl1 q2
              rw [← hEk] at hh
              obtain ⟨z, hz, hf⟩ := hh.elem
              obtain ⟨c1, c2⟩ := cells_at hpos hs q1
              exact ⟨z, Ls.rd_congr E hz fun j hj => by rw [hEn]; exact c2 j (by omega), hf⟩
            refine ⟨rfl, ?_⟩
            by_cases hc0 : cap = 0
            · have hl0 : len = 0 := by omega
              subst hl0; subst hc0
              refine ⟨[⟨.sl e E, ([] : List E.D)⟩], rfl, fun j lv hj => ?_⟩
              cases j with
              | zero => simp at hj; subst hj; exact ⟨_, rfl, ⟨some a, 0, rfl, Nat.le_refl _, .inl ⟨rfl, rfl, rfl⟩⟩, by simp [L.fit], fun y hy => by cases hy⟩
              | succ j => simp at hj
            · obtain ⟨cs0, y0, q0, _⟩ := all 0 (by omega)
              have hs := spot_none hpos q0
              have hy := elem hs
              let F : Nat → E.D := fun i => if hi : i < cap then (hy i hi).choose else zeroDs E
              have hF : ∀ i, i < cap → E.rd 0 w (Old w) (fun j => w.cell? ⟨a.block, a.off + (i * E.n + j), none⟩) (F i) [] ∧ E.fit (F i) := by
                intro i hi
                simp only [F, dif_pos hi]
                exact (hy i hi).choose_spec
              obtain ⟨csl, yl, ql, _⟩ := all (cap - 1) (by omega)
              obtain ⟨l1, l2⟩ := cells_at hpos hs ql
              have hlast := l2 (P.cellsOf e - 1) (by omega)
              rw [List.getElem?_eq_getElem (show P.cellsOf e - 1 < csl.length by omega)] at hlast
              have hoff : a.off + ((cap - 1) * P.cellsOf e + (P.cellsOf e - 1)) = a.off + cap * P.cellsOf e - 1 := by
                have : cap * P.cellsOf e = (cap - 1) * P.cellsOf e + P.cellsOf e := by
                  rw [← Nat.succ_mul]; congr 1; omega
                omega
              rw [hoff] at hlast
              have hblk : ∃ arr T fr, w.heap[a.block]? = some (.cells arr T fr) ∧ a.off + cap * P.cellsOf e ≤ arr.size := by
                unfold World.cell? at hlast
                split at hlast
                · rename_i arr T fr hh
                  refine ⟨arr, T, fr, hh, ?_⟩
                  simp only [Option.isSome_none, Bool.false_eq_true, if_false] at hlast
                  have hlt := (Array.getElem?_eq_some_iff.1 hlast).1
                  have : 0 < cap * P.cellsOf e := Nat.mul_pos (by omega) hpos
                  omega
                · cases hlast
              obtain ⟨arr, T, fr, hh, hsz⟩ := hblk
              let xs : List E.D := (List.range len).map F
              have hxl : xs.length = len := by simp [xs]
              have hxg : ∀ i (hi : i < xs.length), xs[i] = F i := fun i hi => by simp [xs]
              refine ⟨[⟨.sl e E, xs⟩], rfl, fun j lv hj => ?_⟩
              cases j with
              | succ j => simp at hj
              | zero =>
                simp at hj; subst hj
                refine ⟨_, rfl, ⟨some a, cap, by rw [hxl], by show xs.length ≤ cap; omega, .inr ⟨fun j => arr[a.off + j]?, fun _ => [], ⟨hs, arr, T, fr, hh, by rw [hEn]; exact hsz, fun h => by simp at h, fun j => rfl⟩, fun i hi => ?_, ?_⟩⟩, ?_, fun y hy => ?_⟩
                · have hi : i < xs.length := hi
                  show E.rd 0 w (Old w) _ xs[i] []
                  rw [hxg i hi]
                  have := (hF i (by omega)).1
                  refine Ls.rd_congr E this fun j hj => ?_
                  simp [World.cell?, hh]
                · exact ⟨(Array.getElem?_eq_some_iff.1 hh).1, rfl, fun _ _ => rfl⟩
                · show xs.length ≤ maxLen
                  omega
                · have hy : y ∈ xs := hy
                  obtain ⟨i, hi, rfl⟩ := List.mem_map.1 hy
                  exact (hF i (by have := List.mem_range.1 hi; omega)).2
        · cases h
      · cases h
    · rename_i fs hu
      split at h
      · rename_i ls1 hl1
        split at h
        · rename_i hc
          injection h with h; subst h
          have hc : P.cellsOf t = ls1.length := by simpa using hc
          obtain ⟨xs, n, rfl, _, hlen, hxl, hget⟩ := DataW.trod_struct hu hx
          have := layFs_ok (w := w) (cs := cs) fs.toList 0 hl1 (by omega) fun i f ms hi hr => by
            have hi' : fs[i]? = some f := by simpa using hi
            have hlt : i < xs.length := by rw [hxl]; exact (Array.getElem?_eq_some_iff.1 hi').1
            have hg := hget i f hi'
            rw [List.getElem?_eq_getElem hlt] at hg
            exact trod_lay k hr hg
          simpa using this
        · cases h
      · cases h
    · cases h
end
end Go.Ev

namespace Go.Ev
open Go.ChangeShapes Go.RowKit
set_option linter.unusedVariables false
set_option linter.unusedSimpArgs false

def aggOf (P : Program) (t : TypeId) : Bool := match P.underlying t with
  | some (.struct _) => true
  | _ => false
def valsOf (P : Program) : List TypeId → Option (List PM)
  | [] => some []
  | t :: ts => match lay P 12 t, valsOf P ts with
    | some ls, some ps => some (.val (aggOf P t) ls :: ps)
    | _, _ => none
def readsB (P : Program) (ts : List TypeId) : Bool := ts.all fun t => P.readableRec t && decide (t < P.types.size)

section
variable {H : Type} {enc : TypeId × Value → H} {P : Program} {w : World} {base base' : Nat} {held : Bool}

theorem one_cell {t : TypeId} {v : Value} {ls : List L} {r : Reach} (h : Value.okWide P w r base t v) (hl : lay P 12 t = some ls) (ha : aggOf P t = false) : v.cells = #[v] ∧ ls.length = 1 := by
  unfold lay at hl
  unfold aggOf at ha
  unfold Value.okWide Cell.okWide Cell.ok at h
  split at hl
  · rename_i hu; rw [hu] at h; injection hl with hl; subst hl
    cases v <;> first | exact ⟨rfl, rfl⟩ | exact h.elim
  · rename_i hu; rw [hu] at h; injection hl with hl; subst hl
    cases v <;> first | exact ⟨rfl, rfl⟩ | exact h.elim
  · rename_i hu; rw [hu] at h; injection hl with hl; subst hl
    cases v <;> first | exact ⟨rfl, rfl⟩ | exact h.elim
  · rename_i hu
    rw [hu] at h
    split at hl
    · split at hl
      · injection hl with hl; subst hl
        cases v <;> first | exact ⟨rfl, rfl⟩ | exact h.elim
      · cases hl
    · cases hl
  · rename_i hu; rw [hu] at ha; cases ha
  · cases hl
theorem agg_cells {t : TypeId} {v : Value} {r : Reach} (h : Value.okWide P w r base t v) (ha : aggOf P t = true) : ∃ cs, v = .agg cs := by
  unfold aggOf at ha
  unfold Value.okWide at h
  split at ha
  · rename_i hu; rw [hu] at h; obtain ⟨cs, h, _⟩ := h; exact ⟨cs, h⟩
  · cases ha

theorem args_of : ∀ {ts : List TypeId} {vs : List Value} {ds : List (DataW H)} {p : List MemPlace} {pms : List PM}, DataW.TrodAll enc P w base (fun _ => true) held ts vs ds p →
    (∀ (j : Nat) t v, ts[j]? = some t → vs[j]? = some v → Value.okWide P w .any base' t v) → valsOf P ts = some pms →
    vs.length = pms.length ∧ ds.length = ts.length ∧ ∃ vss : List (List Lv), vss.length = pms.length ∧ vss.flatten.map (·.l) = pms.flatMap PM.ins ∧ (∀ (j : Nat) (lv : Lv), vss.flatten[j]? = some lv → lv.l.fit lv.x) ∧
      ∀ (i : Nat) (pm : PM) (u : Value) (xs : List Lv), pms[i]? = some pm → vs[i]? = some u → vss[i]? = some xs → PArg w (Old w) pm u xs 0 (fun _ => []) ∧ ∃ g ls, pm = .val g ls
  | [], [], [], p, pms, h, hv, hp => by
    simp only [valsOf, Option.some.injEq] at hp
    subst hp
    exact ⟨rfl, rfl, [], rfl, rfl, (fun j lv hj => by simp at hj), fun i pm u xs hi => by simp at hi⟩
  | t :: ts, v :: vs, d :: ds, p, pms, h, hv, hp => by
    obtain ⟨p1, p2, ⟨fuel, h1⟩, h2, _⟩ := h
    simp only [valsOf] at hp
    split at hp
    · rename_i ls ps hl hps
      injection hp with hp; subst hp
      obtain ⟨a1, a2, vss, a3, a4, a5, a6⟩ := args_of h2 (fun j t v ht hv' => hv (j + 1) t v (by simpa using ht) (by simpa using hv')) hps
      have hok := hv 0 t v rfl rfl
      obtain ⟨hlen, us, b1, b2⟩ := trod_lay 12 hl h1
      have hul : us.length = ls.length := by have := congrArg List.length b1; simpa using this
      refine ⟨by simp [a1], by simp [a2], us :: vss, by simp [a3], by simp [a4, b1, PM.ins], fun j lv hj => ?_, fun i pm u xs hi hu hx => ?_⟩
      · rw [List.flatten_cons] at hj
        rcases Nat.lt_or_ge j us.length with hlt | hge
        · rw [List.getElem?_append_left hlt] at hj
          obtain ⟨_, _, _, hf⟩ := b2 j lv hj
          exact hf
        · rw [List.getElem?_append_right hge] at hj
          exact a5 _ lv hj
      · cases i with
        | succ i => exact a6 i pm u xs (by simpa using hi) (by simpa using hu) (by simpa using hx)
        | zero =>
          simp at hi hu hx
          subst hi; subst hu; subst hx
          refine ⟨⟨by simp [b1, Function.comp_def], ?_, fun j p lv hj hlv => ?_⟩, _, _, rfl⟩
          · cases hag : aggOf P t with
            | true =>
              obtain ⟨cs, rfl⟩ := agg_cells hok hag
              exact ⟨cs, rfl, by simpa [Value.cells] using hlen⟩
            | false =>
              have := (one_cell hok hl hag).2
              simpa using this
          · obtain ⟨y, hy, hr, _⟩ := b2 j lv hlv
            have hp2 : p.2 = 0 := by
              simp only [List.getElem?_map] at hj
              cases hq : ls[j]? with
              | none => rw [hq] at hj; cases hj
              | some l => rw [hq] at hj; injection hj with hj; rw [← hj]
            rw [hp2]
            refine ⟨y, ?_, hr⟩
            cases hag : aggOf P t with
            | true =>
              show v.cells[j]? = some y
              rw [← hy]; simp
            | false =>
              obtain ⟨q1, q2⟩ := one_cell hok hl hag
              rw [q1] at hy
              cases j with
              | zero => simp at hy; subst hy; rfl
              | succ j => simp at hy
    · cases hp
  | [], _ :: _, _, _, _, h, _, _ => by cases h
  | [], [], _ :: _, _, _, h, _, _ => by cases h
  | _ :: _, [], _, _, _, h, _, _ => by cases h
  | _ :: _, _ :: _, [], _, _, h, _, _ => by cases h

theorem trodAll_below (hl : laidOutB P = true) {W W' : World} (hb : Below W.heap.size W W') : ∀ {ts : List TypeId} {vs : List Value} {ds : List (DataW H)} {p : List MemPlace}, readsB P ts = true →
    DataW.TrodAll enc P W 0 (fun _ => true) true ts vs ds p → (∀ x ∈ p, x.block < W.heap.size) → DataW.TrodAll enc P W' 0 (fun b => decide (b < W.heap.size)) true ts vs ds p
  | [], [], [], p, hr, h, hlt => h
  | t :: ts, v :: vs, d :: ds, p, hr, h, hlt => by
    obtain ⟨p1, p2, h1, h2, rfl⟩ := h
    simp only [readsB, List.all_cons, Bool.and_eq_true, decide_eq_true_eq] at hr
    exact ⟨p1, p2, Below.trod hl hr.1.1 hr.1.2 h1 hb (fun x hx => hlt x (List.mem_append_left _ hx)), trodAll_below hl hb (by simpa [readsB] using hr.2) h2 (fun x hx => hlt x (List.mem_append_right _ hx)), rfl⟩
  | [], _ :: _, _, _, _, h, _ => by cases h
  | [], [], _ :: _, _, _, h, _ => by cases h
  | _ :: _, [], _, _, _, h, _ => by cases h
  | _ :: _, _ :: _, [], _, _, h, _ => by cases h
end

theorem rout_one {w : World} {fz : Nat → Prop} {om : Nat → List Nat} {g : Bool} {ls : List (L × Nat)} : ∀ {rv : List Value} {vsR : List (List Lv)} {off : Nat}, ROut w fz om [(g, ls)] rv vsR off → ∃ u vs, rv = [u] ∧ vsR = [vs] ∧ RArg w fz g ls u vs (fun j => om (off + j))
  | [u], [vs], _, h => ⟨u, vs, rfl, rfl, h.1⟩
  | [], _, _, h => h.elim
  | _ :: _, [], _, h => h.elim
  | [_], _ :: _ :: _, _, h => h.2.elim
  | _ :: _ :: _, [_], _, h => h.2.elim
  | _ :: _ :: _, _ :: _ :: _, _, h => h.2.elim

/-- A LAW: its function's summary, its plain statement: its row. -/
theorem row_ok {H : Type} {enc : TypeId × Value → H} {C : Checked} {os : Os} {f : FuncId} {fn : Func} {s : ChangeSpec} {conds : List PathCond}
    (own : ownKnob C.prog.godebug = none) (started : os.Started) (noInit : C.prog.inits.idxOf? f = none) (hfn : C.prog.funcs[f]? = some fn)
    (witness : ∃ (w : World) (tape : Tape) (i : Input), w.os = os ∧ (w.forCall tape i).Shaped C.prog ∧ i.vars = [] ∧ Input.okWide C.prog (w.forCall tape i) .any w.heap.size f i ∧
      s.pre6 enc C.prog fn conds false (w.forCall tape i).memory i.args ∧ ({} : Assume).holds C.prog (lone (Frame.enter C.prog f i.args .normal) [] (w.forCall tape i)))
    {sm : Sm} {F : Nat → sm.ins.D → Option sm.outs.D} (hok : ∀ n, FnOk C.prog [] f ⟨sm, F n⟩) (hps : valsOf C.prog fn.params.toList = some sm.ps) (hrs : sm.rs = [(false, [(.bool, 0)])])
    {tb : TypeId} (hres : fn.resultTypes = #[tb]) (htb : C.prog.underlying tb = some .bool) (hvars : s.vars = []) (hreads : readsB C.prog fn.params.toList = true) (hlaid : laidOutB C.prog = true)
    (hspec : ∀ (ds : List (DataW H)), ds.length = fn.params.toList.length → s.fn H ds = { results := [.lit (.bool true)], args := ds })
    (pure : ∀ x : sm.ins.D, sm.ins.fit x → ∃ n z, F n x = some z ∧ unpack sm.outs z = [⟨.bool, (show Bool from true)⟩]) :
    ReturnsInHanded {} C os f .any (s.pre6 enc C.prog fn conds false) (s.post enc C.prog fn false true false false) := by
  refine returnsInHanded_of_change_sized own started noInit hfn witness ?_
  intro W base args ds gs before hval hW _ _ _
  have hW' := hW
  obtain ⟨p, q, hA, hV, rfl, hfz, hnd⟩ := hW
  rw [hvars] at hV
  obtain ⟨rfl, rfl⟩ := trodVars_none hV
  obtain ⟨a1, a2, vss, a3, a4, a5, a6⟩ := args_of hA (fun j t v ht hv => hval j t v (by simpa using ht) (by simpa using hv)) hps
  have hkin : vss.flatten.map (·.l) = sm.ins.kinds := by rw [a4]; exact (mkLs_kinds _).symm
  obtain ⟨x, hx, hfit⟩ := pack_of sm.ins vss.flatten hkin
  obtain ⟨n, z, hz, hzu⟩ := pure x (hfit a5)
  have hin : ArgsIn sm.ps W (Old W) args.toList vss (fun _ => 0) (fun _ => []) := {
    len := a1
    len2 := a3
    each := fun i pm u xs h1 h2 h3 => (a6 i pm u xs h1 h2 h3).1
    blk := fun i => by
      cases hq : sm.ps[i]? with
      | none => rfl
      | some pm =>
        have hlt := (List.getElem?_eq_some_iff.1 hq).1
        obtain ⟨_, g, ls, rfl⟩ := a6 i pm _ _ hq (List.getElem?_eq_getElem (by omega)) (List.getElem?_eq_getElem (by omega))
        rfl
    none := fun i _ _ j => rfl
    box := fun i ls _ j _ => rfl
    row := fun i g ls _ j _ => rfl
    fl := fun k => rfl
    nodup := fun k => List.nodup_nil
    disj := fun k k' _ b hb => by cases hb
    own := fun k b hb => by cases hb
    fz := fun b hb => hb }
  have hcall := hok n args.toList W (Old W) vss _ _ x z (fun _ h => by cases h) hin hx hz
  have hmk : sm.mk? = false := by unfold Sm.mk?; rw [hrs]
  have hmk : (SmF.mk sm (F n)).s.mk? = false := hmk
  rw [hmk] at hcall
  rw [Array.toArray_toList] at hcall
  refine hcall.mono ?_
  rintro en W' ⟨r, fz', om', rv, vsR, vsP, rfl, co⟩
  have hout := co.outs
  have hres1 := co.resOk
  rw [hrs] at hres1
  obtain ⟨u, vs, rfl, rfl, b1, _, b2⟩ := rout_one hres1
  have hvl : vs.length = 1 := by have := congrArg List.length b1; simpa using this
  obtain ⟨lv, rfl⟩ : ∃ lv, vs = [lv] := by
    match vs, hvl with
    | [x], _ => exact ⟨x, rfl⟩
  obtain ⟨l0, x0⟩ := lv
  have hl0 : l0 = .bool := by simpa using b1
  subst hl0
  obtain ⟨y, hy, hr⟩ := b2 0 (.bool, 0) ⟨.bool, x0⟩ rfl rfl
  have hyu : u = y := by simpa [partG] using hy
  subst hyu
  have hzu : unpack sm.outs z = [⟨.bool, (show Bool from true)⟩] := hzu
  have hout : unpack sm.outs z = _ := hout
  rw [hzu] at hout
  simp only [List.flatten_cons, List.flatten_nil, List.append_nil, List.cons_append, List.nil_append, List.cons.injEq] at hout
  have hx0 : x0 = (show Bool from true) := by
    have := hout.1
    injection this with _ h2
    exact h2.symm
  subst hx0
  have hu : u = .bool true := hr.1
  subst hu
  have hrr : r = .bool true := co.res
  subst hrr
  have hbelow : Below W.heap.size W W' := ⟨co.rest.1, co.rest.2.1, co.rest.2.2, co.size, fun k hk => co.frame k hk fun _ hb => by cases hb⟩
  have hlt : ∀ y ∈ p, y.block < W.heap.size := fun y hy => hW'.lt y (by simpa using hy)
  refine ⟨_, rfl, ds, [], _, [], p, [], hW', ?_, ?_, ?_, hbelow.frame _, fun h => by cases h⟩
  · rw [List.append_nil, hspec ds a2, hres]
    exact trodAll_mk1 (shut_bool htb _)
  · rw [List.append_nil, hspec ds a2]
    exact trodAll_below hlaid hbelow hreads hA hlt
  · rw [List.append_nil, hspec ds a2, hvars]
    rfl
end Go.Ev

namespace Go.Ev
set_option linter.unusedVariables false
set_option linter.unusedSimpArgs false

/-- Look-up in a list by number. -/
def find {α : Type} : List (Nat × α) → Nat → Option α
  | [], _ => none
  | (k, x) :: r, t => match Nat.beq k t with
    | true => some x
    | false => find r t
theorem find_mem {α : Type} : ∀ {l : List (Nat × α)} {t : Nat} {x : α}, find l t = some x → (t, x) ∈ l
  | [], t, x, h => by cases h
  | (k, y) :: r, t, x, h => by
    unfold find at h
    split at h
    · rename_i hk
      have : k = t := Nat.eq_of_beq_eq_true hk
      injection h with h; subst h; subst this; exact List.mem_cons_self
    · exact List.mem_cons_of_mem _ (find_mem h)

/-! ### types -/

/-- Is it the zero of such a leaf? -/
def isZ : L → Value → Bool
  | .int k, .int k' n => IntKind.code k == IntKind.code k' && n == 0
  | .bool, .bool b => !b
  | .str, .string s => s.size == 0
  | .sl _ _, .slice none l c => l == 0 && c == 0
  | _, _ => false
theorem isZ_ok {l : L} {v : Value} (h : isZ l v = true) : v = zcell l := by
  unfold isZ at h
  split at h
  · simp only [Bool.and_eq_true, beq_iff_eq] at h
    obtain ⟨h1, rfl⟩ := h
    rw [IntKind.code_inj h1]; rfl
  · simp at h; subst h; rfl
  · rename_i s
    have : s = .empty := ByteArray.size_eq_zero_iff.1 (by simpa using h)
    subst this; rfl
  · simp only [Bool.and_eq_true, beq_iff_eq] at h
    obtain ⟨rfl, rfl⟩ := h; rfl
  · cases h
def allZ : List L → List Value → Bool
  | [], [] => true
  | l :: ls, v :: vs => isZ l v && allZ ls vs
  | _, _ => false
theorem allZ_ok : ∀ {ls : List L} {vs : List Value}, allZ ls vs = true → vs = ls.map zcell
  | [], [], _ => rfl
  | l :: ls, v :: vs, h => by
    simp only [allZ, Bool.and_eq_true] at h
    rw [isZ_ok h.1, allZ_ok h.2]; rfl
  | [], _ :: _, h => by cases h
  | _ :: _, [], h => by cases h

def elB (P : Program) (t : TypeId) (e : Ls) : Bool := decide (0 < e.n) && match P.info? t with
  | some i => i.size == e.n && decide (i.bytes ≤ 1024) && match i.zero with
    | some z => allZ e.kinds z.cells.toList
    | none => false
  | none => false
theorem elB_ok {P : Program} {t : TypeId} {e : Ls} (h : elB P t e = true) : ElF P t e := by
  unfold elB at h
  simp only [Bool.and_eq_true, decide_eq_true_eq] at h
  obtain ⟨hp, h⟩ := h
  split at h
  · rename_i i hi
    simp only [Bool.and_eq_true, decide_eq_true_eq, beq_iff_eq] at h
    obtain ⟨⟨h1, h2⟩, h⟩ := h
    split at h
    · rename_i z hz
      exact ⟨⟨i, hi, h1, h2, z, hz, by rw [← allZ_ok h]⟩, hp⟩
    · cases h
  · cases h
def loneB (P : Program) (t : TypeId) : L → Bool
  | .int k => match P.underlying t with
    | some (.int k') => IntKind.code k == IntKind.code k'
    | _ => false
  | .bool => match P.underlying t with
    | some .bool => true
    | _ => false
  | .str => match P.underlying t with
    | some .string => true
    | _ => false
  | .sl t' e => (match P.underlying t with
    | some (.slice t'') => t' == t''
    | _ => false) && elB P t' e
theorem loneB_ok {P : Program} {t : TypeId} {l : L} (h : loneB P t l = true) : LoneF P t l := by
  cases l with
  | int k =>
    simp only [loneB] at h
    split at h
    · rename_i k' hk
      have := IntKind.code_inj (by simpa using h : IntKind.code k = IntKind.code k')
      subst this; exact hk
    · cases h
  | bool =>
    simp only [loneB] at h
    split at h
    · assumption
    · cases h
  | str =>
    simp only [loneB] at h
    split at h
    · assumption
    · cases h
  | sl t' e =>
    simp only [loneB, Bool.and_eq_true] at h
    obtain ⟨h1, h2⟩ := h
    split at h1
    · rename_i t'' ht
      have : t' = t'' := by simpa using h1
      subst this
      exact ⟨ht, elB_ok h2⟩
    · cases h1
def fieldsB : List Field → List (Nat × TypeId) → Bool
  | [], [] => true
  | f :: fs, (o, t) :: r => f.offset == o && f.type == t && fieldsB fs r
  | _, _ => false
theorem fieldsB_ok : ∀ {fs : List Field} {r : List (Nat × TypeId)}, fieldsB fs r = true → fs.map (fun f => (f.offset, f.type)) = r
  | [], [], _ => rfl
  | f :: fs, (o, t) :: r, h => by
    simp only [fieldsB, Bool.and_eq_true, beq_iff_eq] at h
    rw [List.map_cons, h.1.1, h.1.2, fieldsB_ok h.2]
  | [], _ :: _, h => by cases h
  | _ :: _, [], h => by cases h
def placesB (P : Program) : List Field → Bool
  | [] => true
  | f :: fs => (P.info? f.type).isSome && placesB P fs
theorem placesB_ok {P : Program} : ∀ {fs : List Field}, placesB P fs = true → ∃ pl, fs.mapM (fun f => (P.info? f.type).map fun i => (f.offset, i.size)) = some pl
  | [], _ => ⟨[], rfl⟩
  | f :: fs, h => by
    simp only [placesB, Bool.and_eq_true] at h
    obtain ⟨pl, hpl⟩ := placesB_ok h.2
    obtain ⟨i, hi⟩ := Option.isSome_iff_exists.1 h.1
    exact ⟨(f.offset, i.size) :: pl, by simp [List.mapM_cons, hi, hpl]⟩
def tyB (P : Program) (t : TypeId) (ty : Ty) : Bool :=
  (match P.info? t with
    | some i => i.size == ty.ls.n && match i.zero with
      | some z => match ty.agg with
        | true => match z with
          | .agg cs => allZ ty.ls.kinds cs.toList
          | _ => false
        | false => allZ ty.ls.kinds z.cells.toList
      | none => false
    | none => false) &&
  match ty.agg with
  | true => match P.underlying t with
    | some (.struct fs) => fieldsB fs.toList ty.fs && placesB P fs.toList
    | _ => false
  | false => match ty.ls with
    | .one l => loneB P t l
    | _ => false
theorem tyB_ok {P : Program} {t : TypeId} {ty : Ty} (h : tyB P t ty = true) : TyF P t ty := by
  unfold tyB at h
  simp only [Bool.and_eq_true] at h
  obtain ⟨h1, h2⟩ := h
  refine ⟨?_, fun ha => ?_, fun ha => ?_⟩
  · split at h1
    · rename_i i hi
      simp only [Bool.and_eq_true, beq_iff_eq] at h1
      obtain ⟨hs, h1⟩ := h1
      split at h1
      · rename_i z hz
        refine ⟨i, hi, hs, z, hz, ?_⟩
        split at h1
        · rename_i ha
          split at h1
          · rename_i cs
            have hc : cs = (ty.ls.kinds.map zcell).toArray := by rw [← allZ_ok h1]
            exact ⟨hc, .inl (by rw [hc])⟩
          · cases h1
        · rename_i ha
          exact ⟨by rw [← allZ_ok h1], .inr ha⟩
      · cases h1
    · cases h1
  · rw [ha] at h2
    dsimp only at h2
    split at h2
    · rename_i fs hfs
      simp only [Bool.and_eq_true] at h2
      exact ⟨fs, hfs, fieldsB_ok h2.1, placesB_ok h2.2⟩
    · cases h2
  · rw [ha] at h2
    dsimp only at h2
    split at h2
    · rename_i l hl; exact ⟨l, hl, loneB_ok h2⟩
    · cases h2
theorem table_ok {P : Program} {tbl : List (Nat × Ty)} (h : tbl.all (fun p => tyB P p.1 p.2) = true) : ∀ t x, find tbl t = some x → TyF P t x :=
  fun t x hx => tyB_ok (List.all_eq_true.1 h _ (find_mem hx))

/-! ### summaries -/

/-- A function's code is there. -/
def HasBody (P : Program) (f : FuncId) : Prop := ∃ (fn : Func) (c : Code), P.funcs[f]? = some fn ∧ fn.body = some c ∧ (fn.name == "runtime.NumGoroutine") = false
theorem env_nil {P : Program} {T : List (String × Array Value)} : EnvFn P T (find []) := fun f g h => by cases h
theorem env_cons {P : Program} {T : List (String × Array Value)} {f : FuncId} {g : SmF} {l : List (FuncId × SmF)} (h : FnOk P T f g) (hb : HasBody P f) (hl : EnvFn P T (find l)) : EnvFn P T (find ((f, g) :: l)) := by
  intro f' g' h'
  unfold find at h'
  split at h'
  · rename_i hk
    have : f = f' := Nat.eq_of_beq_eq_true hk
    subst this
    injection h' with h'; subst h'
    exact ⟨h, hb⟩
  · exact hl f' g' h'
/-- A function whose native form is known. -/
theorem fn_native {P : Program} {T : List (String × Array Value)} {tbl : List (Nat × Ty)} {l : List (FuncId × SmF)} {an : An} {n : Nat} {sm : Sm} {fn : Func} {f : FuncId} {c : Code} {F : sm.ins.D → Option sm.outs.D}
    (hf : P.funcs[f]? = some fn) (hb : fn.body = some c) (hlen : decide (sm.ps.length ≤ fn.ntmps) = true) (ht : tbl.all (fun p => tyB P p.1 p.2) = true) (hl : EnvFn P T (find l)) (hm : P.follows .mixedOrders = true)
    (hF : ∀ x, evFn (find tbl) (find l) an n fn sm x = F x) : FnOk P T f ⟨sm, F⟩ := by
  have h := fn_ok (an := an) (n := n) (sm := sm) hf hb (of_decide_eq_true hlen) (table_ok ht) hl hm
  have : evFn (find tbl) (find l) an n fn sm = F := funext hF
  rw [this] at h
  exact h
end Go.Ev
