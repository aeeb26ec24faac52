/- FnDispatched, as a plain law aN native forms: what the program's function answers is what the reference's answers. Conditions: none but the lengths' and numbers' bounds. -/
import Derived.Test.YtglbgceejloiaaaFnDispatchedPureA
namespace Go.Ev.N
open Go Go.Ev
set_option linter.unusedVariables false
set_option linter.unusedSimpArgs false
theorem Uq {l : List QU} {i : Nat} (h : i < l.length) : SR l i = l[i] := by unfold SR; rw [List.getD, List.getElem?_eq_getElem h]; rfl
theorem Ui {crew : List RM} {i : Nat} (h : i < crew.length) : Sx crew i = crew[i] := by unfold Sx; rw [List.getD, List.getElem?_eq_getElem h]; rfl
theorem Tq {x u : QU} : PV x u = false ↔ ¬ (x.1 = u.1 ∧ x.2.1 = u.2.1) ∧ (x.2.2.2 ≠ 1 → x.2.2.1 ≠ u.2.2.1 ∧ (x.2.1 = u.2.1 → u.2.2.2 = 1)) := by
 unfold PV
 rw [Bool.or_eq_false_iff]
 constructor
 ·rintro ⟨h1, h2⟩
  refine ⟨fun ⟨e1, e2⟩ => by simp [e1, e2] at h1, fun hne => ?_⟩
  rw [show (x.2.2.2 == 1) = false by simpa using hne] at h2
  simp only [Bool.not_false, Bool.true_and, Bool.or_eq_false_iff] at h2
  refine ⟨by simpa using h2.1, fun e => ?_⟩
  have := h2.2
  simp [e] at this
  exact this
 ·rintro ⟨h1, h2⟩
  refine ⟨?_, ?_⟩
  ·by_cases e1 : x.1 = u.1
   ·have e2 : x.2.1 ≠ u.2.1 := fun e => h1 ⟨e1, e⟩
    simp [e2]
   ·simp [e1]
  ·by_cases hne : x.2.2.2 = 1
   ·simp [hne]
   ·obtain ⟨h3, h4⟩ := h2 hne
    by_cases e : x.2.1 = u.2.1
    ·simp [h3, h4 e]
    ·simp [h3, e]
structure CW (c : List Int) (crew : List RM) : Prop where
 jF : crew.length ≤ 20
 iP : ∀ r ∈ crew, 1 ≤ r.1 ∧ r.1 ≤ 99
 jW : ∀ r ∈ crew, QV c r.2.1 = true
 goal : ∀ r ∈ crew, r.2.2.1 = -1 ∨ QV c r.2.2.1 = true
 jB : ∀ r ∈ crew, 0 ≤ r.2.2.2.2 ∧ r.2.2.2.2 ≤ 1000000
 ids : crew.Pairwise fun r s => r.1 < s.1
 cH : crew.Pairwise fun r s => r.2.1 ≠ s.2.1
theorem Vt {β : Type} (f : β → Int) (l : List β) (h : ∀ i (hi : i + 1 < l.length), f l[i] < f l[i + 1]) : l.Pairwise fun x y => f x < f y := by
 rw [List.pairwise_iff_getElem]
 have key : ∀ d i (hj : i + d + 1 < l.length), f (l[i]'(by omega)) < f l[i + d + 1] := by
  intro d
  induction d with
  | zero => intro i hj; exact h i hj
  | succ d ih =>
   intro i hj
   have h1 := ih i (by omega)
   have h2 := h (i + d + 1) (by omega)
   have e : i + (d + 1) + 1 = i + d + 1 + 1 := by omega
   simp only [e]
   omega
 intro i j hi hj hij
 have := key (j - i - 1) i (by omega)
 have e : i + (j - i - 1) + 1 = j := by omega
 simpa only [e] using this
theorem U5 {c : List Int} {crew : List RM} {i : Nat} (hi : i < crew.length) : YU c crew i = true ↔ (1 ≤ crew[i].1 ∧ crew[i].1 ≤ 99) ∧ QV c crew[i].2.1 = true ∧ (crew[i].2.2.1 = -1 ∨ QV c crew[i].2.2.1 = true) ∧ (0 ≤ crew[i].2.2.2.2 ∧ crew[i].2.2.2.2 ≤ 1000000) ∧
  (∀ j (hj : j + 1 = i), (crew[j]'(by omega)).1 < crew[i].1) ∧ ∀ j (hj : j < i), (crew[j]'(by omega)).2.1 ≠ crew[i].2.1 := by
 have hp : RF (·.1) crew i crew[i] = true ↔ ∀ j (hj : j + 1 = i), (crew[j]'(by omega)).1 < crew[i].1 := by
  cases i with
  | zero => exact ⟨fun _ j hj => by omega, fun _ => rfl⟩
  | succ k =>
   simp only [RF, List.getElem?_eq_getElem (show k < crew.length by omega), Bool.not_eq_true', decide_eq_false_iff_not]
   exact ⟨fun h j hj => by
    have : j = k := by omega
    subst this
    omega, fun h => by have := h k rfl; omega⟩
 have ha : ((crew.take i).all fun y => !(y.2.1 == crew[i].2.1)) = true ↔ ∀ j (hj : j < i), (crew[j]'(by omega)).2.1 ≠ crew[i].2.1 := by
  rw [List.all_eq_true]
  constructor
  ·intro h j hj
   have := h crew[j] (List.mem_iff_getElem.2 ⟨j, by simp; omega, by simp⟩)
   simpa using this
  ·intro h y hy
   obtain ⟨j, hj, rfl⟩ := List.mem_iff_getElem.1 hy
   have hji : j < i := by simp at hj; omega
   have := h j hji
   simpa using this
 unfold YU
 rw [List.getElem?_eq_getElem hi]
 simp only [Bool.and_eq_true, hp, ha, Bool.or_eq_true, beq_iff_eq]
 unfold SC
 simp only [Bool.and_eq_true, decide_eq_true_eq]
 constructor
 ·rintro ⟨⟨⟨⟨⟨h1, h2⟩, h3⟩, h4⟩, h5⟩, h6⟩; exact ⟨h1, h2, h3, h4, h5, h6⟩
 ·rintro ⟨h1, h2, h3, h4, h5, h6⟩; exact ⟨⟨⟨⟨⟨h1, h2⟩, h3⟩, h4⟩, h5⟩, h6⟩
theorem U1 {w h : Int} {c : List Int} {crew : List RM} : Ri w h c crew = true ↔ PR w h c = true ∧ CW c crew := by
 unfold Ri
 simp only [Bool.and_eq_true, decide_eq_true_eq, List.all_eq_true, List.mem_range]
 constructor
 ·rintro ⟨⟨hf, hn⟩, hall⟩
  have hr : ∀ i (hi : i < crew.length), _ := fun i hi => (U5 hi).1 (hall i hi)
  refine ⟨hf, ⟨hn, fun r hr' => ?_, fun r hr' => ?_, fun r hr' => ?_, fun r hr' => ?_, Vt _ _ fun i hi => (hr (i + 1) hi).2.2.2.2.1 i rfl, List.pairwise_iff_getElem.2 fun i j hi hj hij => (hr j hj).2.2.2.2.2 i hij⟩⟩ <;>
   (obtain ⟨i, hi, rfl⟩ := List.mem_iff_getElem.1 hr')
  ·exact (hr i hi).1
  ·exact (hr i hi).2.1
  ·exact (hr i hi).2.2.1
  ·exact (hr i hi).2.2.2.1
 ·rintro ⟨hf, hw⟩
  refine ⟨⟨hf, hw.jF⟩, fun i hi => (U5 hi).2 ?_⟩
  have hm := List.getElem_mem hi
  exact ⟨hw.iP _ hm, hw.jW _ hm, hw.goal _ hm, hw.jB _ hm, fun j hj => List.pairwise_iff_getElem.1 hw.ids j i (by omega) hi (by omega), fun j hj => List.pairwise_iff_getElem.1 hw.cH j i (by omega) hi hj⟩
theorem Xl.bL {w h : Int} {c : List Int} {a : List Q6} {crew : List RM} {l : List QU} {prs : List (Nat × Nat)} (hd : Xl w h c a crew l prs) (hc : CW c crew) {p : Nat × Nat} (hp : p ∈ prs) : ∃ hk : p.2 < crew.length, 1 ≤ crew[p.2].1 ∧ crew[p.2].1 ≤ 99 ∧ crew[p.2].2.2.1 = -1 ∧ crew[p.2].2.2.2.1 = false ∧ ∀ j (hj : j < l.length), l[j].2.2.1 ≠ crew[p.2].1 := by
 obtain ⟨hk, hi⟩ := S9 (hd.jf p hp)
 have h1 := hc.iP _ (List.getElem_mem hk)
 unfold Ub at hi
 simp only [Bool.and_eq_true, List.all_eq_true, beq_iff_eq, Bool.not_eq_true'] at hi
 refine ⟨hk, h1.1, h1.2, hi.1.1, hi.1.2, fun j hj e => ?_⟩
 have := hi.2 _ (List.getElem_mem hj)
 rw [e] at this; simp at this
theorem Xl.bM {w h : Int} {c : List Int} {a : List Q6} (ha : a.length ≤ 1048576) {crew : List RM} {l : List QU} {prs : List (Nat × Nat)} (hd : Xl w h c a crew l prs) {p : Nat × Nat} (hp : p ∈ prs) : ∃ hk : p.1 < l.length, l[p.1].2.2.2 = 1 ∧ l[p.1].2.1 ∉ Q5 l ∧ ∃ i, ∃ hi : i < a.length, Ss a l[p.1].2.1 = (i : Int) ∧ a[i].1 = l[p.1].2.1 ∧ PY a l[p.1].2.1 = a[i].2.1 := by
 obtain ⟨q1, q2, q3, q4⟩ := Su ha (hd.Tl p hp)
 rw [Uq q1] at q2 q3 q4
 exact ⟨q1, q2, q3, q4⟩
theorem VQ {l : List QU} {j : Nat} (hj : j < l.length) (hne : l[j].2.2.2 ≠ 1) : l[j].2.1 ∈ Q5 l := by
 unfold Q5
 exact List.mem_map.2 ⟨l[j], List.mem_filter.2 ⟨List.getElem_mem hj, by simpa using hne⟩, rfl⟩
theorem Xl.two {w h : Int} {c : List Int} {a : List Q6} (ha : a.length ≤ 1048576) {crew : List RM} {l : List QU} {prs : List (Nat × Nat)} (hd : Xl w h c a crew l prs) (hc : CW c crew) {p q : Nat × Nat} (hp : p ∈ prs) (hq : q ∈ prs) (hne : p.1 ≠ q.1) :
  (Sx crew p.2).1 ≠ (Sx crew q.2).1 ∧ (SR l p.1).2.1 ≠ (SR l q.1).2.1 := by
 obtain ⟨r1, _⟩ := hd.bL hc hp
 obtain ⟨r2, _⟩ := hd.bL hc hq
 obtain ⟨i, hi, rfl⟩ := List.mem_iff_getElem.1 hp
 obtain ⟨j, hj, rfl⟩ := List.mem_iff_getElem.1 hq
 have hij : i ≠ j := fun q => hne (by subst q; rfl)
 have h2 : prs[i].2 ≠ prs[j].2 := fun e => hij (by
  have h2 := hd.n2
  have e2 : (prs.map (·.2))[i]'(by simpa using hi) = (prs.map (·.2))[j]'(by simpa using hj) := by rw [List.getElem_map, List.getElem_map]; exact e
  exact Uh h2 _ _ e2)
 refine ⟨fun e => h2 ?_, ?_⟩
 ·rw [Ui r1, Ui r2] at e
  rcases Nat.lt_trichotomy prs[i].2 prs[j].2 with hlt | hlt | hlt
  ·have := List.pairwise_iff_getElem.1 hc.ids _ _ r1 r2 hlt; omega
  ·exact hlt
  ·have := List.pairwise_iff_getElem.1 hc.ids _ _ r2 r1 hlt; omega
 ·have pw := Uj a l (PI crew l).length (Q5 l) 0
  obtain ⟨t1, _⟩ := hd.bM ha hp
  obtain ⟨t2, _⟩ := hd.bM ha hq
  have m1 := hd.Tl _ hp
  have m2 := hd.Tl _ hq
  rw [Uq t1, Uq t2]
  obtain ⟨x, hx, ex⟩ := List.mem_iff_getElem.1 m1
  obtain ⟨y, hy, ey⟩ := List.mem_iff_getElem.1 m2
  have fwd : ∀ (x y : Nat) (hx : x < (PS a l (PI crew l).length).length) (hy : y < (PS a l (PI crew l).length).length) (s t : Nat) (hs : s < l.length) (ht : t < l.length), (PS a l (PI crew l).length)[x] = s → (PS a l (PI crew l).length)[y] = t → x < y → l[s].2.1 ≠ l[t].2.1 := by
   intro x y hx hy s t hs ht es et hlt
   have := (List.pairwise_iff_getElem.1 pw x y hx hy hlt).2
   have es' : (Go.Ev.N.Tl a (PI crew l).length (Q5 l) 0 l)[x]'hx = s := es
   have et' : (Go.Ev.N.Tl a (PI crew l).length (Q5 l) 0 l)[y]'hy = t := et
   simp only [es', et', Nat.sub_zero] at this
   exact this hs ht
  rcases Nat.lt_trichotomy x y with hlt | hlt | hlt
  ·exact fwd x y hx hy _ _ t1 t2 ex ey hlt
  ·subst hlt; exact absurd (ex.symm.trans ey) hne
  ·exact (fwd y x hy hx _ _ t2 t1 ey ex hlt).symm
theorem Wb.tasks {w h : Int} {c : List Int} {a : List Q6} (ha : a.length ≤ 1048576) {crew : List RM} {l : List QU} {prs : List (Nat × Nat)} {crew' : List RM} {l' : List QU} (hs : Wb a crew l prs crew' l') (hd : Xl w h c a crew l prs) (ht : TP l) (hc : CW c crew) : TP l' := by
 have hl2 := hs.l2
 refine ⟨by rw [hl2]; exact ht.len, fun i hi => ?_, fun i j hi hj => ?_⟩
 ·have hil : i < l.length := by omega
  rcases hs.tk i hil hi with ⟨p, hp, rfl, e⟩ | ⟨_, e⟩
  ·obtain ⟨hk, r1, r2, _⟩ := hd.bL hc hp
   have hg := ht.eB p.1 hil
   obtain ⟨t1, t2, _⟩ := hd.bM ha hp
   rw [e, Ui hk]
   unfold P9 at hg ⊢
   simp only [Bool.and_eq_true, decide_eq_true_eq] at hg ⊢
   obtain ⟨⟨⟨⟨⟨⟨⟨⟨g1, g2⟩, g3⟩, g4⟩, g5⟩, g6⟩, g7⟩, g8⟩, g9⟩ := hg
   refine ⟨⟨⟨⟨⟨⟨⟨⟨g1, g2⟩, g3⟩, g4⟩, by omega⟩, by omega⟩, by omega⟩, by omega⟩, ?_⟩
   rw [show (crew[p.2].1 == 0) = false by rw [beq_eq_false_iff_ne]; omega]
   rfl
  ·rw [e]; exact ht.eB i hil
 ·have hil : i < l.length := by omega
  have hjl : j < l.length := by omega
  have hold := Tq.1 (ht.apart i j hil hj)
  rw [Tq]
  rcases hs.tk i hil hi with ⟨p, hp, rfl, e⟩ | ⟨hno, e⟩
  ·obtain ⟨hk, r1, r2, r3, r4, r5⟩ := hd.bL hc hp
   obtain ⟨t1, t2, t3, _⟩ := hd.bM ha hp
   rcases hs.tk j hjl (by omega) with ⟨q, hq, rfl, e2⟩ | ⟨hno2, e2⟩
   ·obtain ⟨n1, n2⟩ := hd.two ha hc hp hq (by omega)
    rw [Uq hil, Uq hjl] at n2
    rw [e, e2]
    exact ⟨hold.1, fun _ => ⟨n1, fun q => absurd q n2⟩⟩
   ·rw [e, e2, Ui hk]
    refine ⟨hold.1, fun _ => ⟨fun q => r5 j hjl q.symm, fun q => ?_⟩⟩
    refine Classical.byContradiction fun hne => t3 ?_
    have q : l[p.1].2.1 = l[j].2.1 := q
    rw [q]; exact VQ hjl hne
  ·rcases hs.tk j hjl (by omega) with ⟨q, hq, rfl, e2⟩ | ⟨hno2, e2⟩
   ·obtain ⟨hk, r1, r2, r3, r4, r5⟩ := hd.bL hc hq
    obtain ⟨t1, t2, t3, _⟩ := hd.bM ha hq
    rw [e, e2, Ui hk]
    refine ⟨hold.1, fun hne => ⟨r5 i hil, fun q2 => ?_⟩⟩
    have q2 : l[i].2.1 = l[q.1].2.1 := q2
    exact absurd (q2 ▸ VQ hil hne) t3
   ·rw [e, e2]; exact hold
theorem Wb.crew {w h : Int} {c : List Int} (hcl : c.length ≤ 1048576) (hf : PR w h c = true) {a : List Q6} {crew : List RM} {l : List QU} {prs : List (Nat × Nat)} {crew' : List RM} {l' : List QU} (hs : Wb a crew l prs crew' l') (hd : Xl w h c a crew l prs) (hc : CW c crew) : CW c crew' := by
 have hl1 := hs.l1
 have each : ∀ k (h : k < crew.length) (h' : k < crew'.length), crew'[k].1 = crew[k].1 ∧ crew'[k].2.1 = crew[k].2.1 ∧ (crew'[k].2.2.1 = -1 ∨ QV c crew'[k].2.2.1 = true) ∧ 0 ≤ crew'[k].2.2.2.2 ∧ crew'[k].2.2.2.2 ≤ 1000000 := fun k hk hk' => by
  rcases hs.rb k hk hk' with ⟨p, hp, rfl, e⟩ | ⟨_, e⟩
  ·rw [e]
   exact ⟨rfl, rfl, .inr (Vy hcl hf (hd.ji p hp)), by show (0 : Int) ≤ 0; omega, by show (0 : Int) ≤ 1000000; omega⟩
  ·rw [e]
   have hm := List.getElem_mem hk
   exact ⟨rfl, rfl, hc.goal _ hm, hc.jB _ hm⟩
 have mem : ∀ r ∈ crew', ∃ k, ∃ h : k < crew.length, ∃ h' : k < crew'.length, crew'[k] = r := fun r hr => by
  obtain ⟨k, hk, rfl⟩ := List.mem_iff_getElem.1 hr
  exact ⟨k, by omega, hk, rfl⟩
 refine ⟨by rw [hl1]; exact hc.jF, fun r hr => ?_, fun r hr => ?_, fun r hr => ?_, fun r hr => ?_, ?_, ?_⟩
 ·obtain ⟨k, h, h', rfl⟩ := mem r hr
  rw [(each k h h').1]; exact hc.iP _ (List.getElem_mem h)
 ·obtain ⟨k, h, h', rfl⟩ := mem r hr
  rw [(each k h h').2.1]; exact hc.jW _ (List.getElem_mem h)
 ·obtain ⟨k, h, h', rfl⟩ := mem r hr
  exact (each k h h').2.2.1
 ·obtain ⟨k, h, h', rfl⟩ := mem r hr
  exact (each k h h').2.2.2
 ·refine List.pairwise_iff_getElem.2 fun i j hi hj hij => ?_
  rw [(each i (by omega) hi).1, (each j (by omega) hj).1]
  exact List.pairwise_iff_getElem.1 hc.ids i j (by omega) (by omega) hij
 ·refine List.pairwise_iff_getElem.2 fun i j hi hj hij => ?_
  rw [(each i (by omega) hi).2.1, (each j (by omega) hj).2.1]
  exact List.pairwise_iff_getElem.1 hc.cH i j (by omega) (by omega) hij
def je (x : Int) : Prop := IntKind.min .u8 ≤ x ∧ x ≤ IntKind.max .u8
theorem Te (x : Int) : 0 ≤ OO .i64 x 255 ∧ OO .i64 x 255 ≤ 255 := by
 unfold OO
 have h : (BitVec.ofInt (IntKind.bits .i64) x &&& BitVec.ofInt (IntKind.bits .i64) 255).toNat ≤ 255 := by
  rw [BitVec.toNat_and]
  have : (BitVec.ofInt (IntKind.bits .i64) 255).toNat = 255 := by decide
  rw [this]
  exact Nat.and_le_right
 generalize (BitVec.ofInt (IntKind.bits .i64) x &&& BitVec.ofInt (IntKind.bits .i64) 255).toNat = m at h
 have : IntKind.wrap .i64 (m : Int) = (m : Int) := PL (by omega) (by omega)
 rw [this]
 omega
theorem T5 (b : List Int) (i h : Int) (hi : 0 ≤ i) (hb : b.length ≤ 1048576) : ∃ x i' h' : Int, QP b i h = some (x, b, i', h') ∧ 0 ≤ x ∧ x ≤ 255 ∧ 0 ≤ i' := by
 unfold QP
 rw [show decide ((0 : Nat) ≤ 33) = true from rfl, show decide ((0 : Nat) ≤ 47) = true from rfl]
 simp only [cond_true]
 by_cases hl : i < (b.length : Int)
 ·obtain ⟨j, rfl⟩ : ∃ j : Nat, i = (j : Int) := ⟨i.toNat, by omega⟩
  have hj : j < b.length := by omega
  rw [show decide ((j : Int) < (b.length : Int)) = true by simpa using hl, cond_true, PH hj]
  simp only [Option.bind_some]
  refine ⟨_, _, _, rfl, (Te _).1, (Te _).2, ?_⟩
  rw [PC hj (by omega)]; omega
 ·rw [show decide (i < (b.length : Int)) = false by simpa using hl, cond_false]
  simp only [Option.bind_some]
  exact ⟨_, _, _, rfl, (Te _).1, (Te _).2, hi⟩
theorem TA (b : List Int) (i h : Int) (hi : 0 ≤ i) (hb : b.length ≤ 1048576) (n : Int) : ∃ x i' h' : Int, PK b i h n = some (x, b, i', h') ∧ 0 ≤ i' ∧ 0 ≤ x ∧ (x < n ∨ n ≤ 0 ∧ x = 0) := by
 unfold PK
 by_cases h0 : n ≤ 0
 ·rw [show decide (n ≤ 0) = true by simpa using h0, cond_true]
  exact ⟨0, i, h, rfl, hi, by omega, .inr ⟨h0, rfl⟩⟩
 rw [show decide (n ≤ 0) = false by simpa using h0, cond_false]
 have hz : (n == 0) = false := by rw [← Bool.not_eq_true]; simp; omega
 rw [hz]
 have fin : ∀ x : Int, 0 ≤ x → 0 ≤ Int.tmod x n ∧ Int.tmod x n < n := fun x hx => by
  rw [Int.tmod_eq_emod_of_nonneg hx]
  exact ⟨Int.emod_nonneg _ (by omega), Int.emod_lt_of_pos _ (by omega)⟩
 obtain ⟨x, i1, h1, e1, x0, x1, j1⟩ := T5 b i h hi hb
 rw [e1]
 simp only [Option.bind_some, cond_false]
 by_cases h2 : n ≤ 256
 ·rw [show decide (n ≤ 256) = true by simpa using h2, cond_true]
  exact ⟨_, _, _, rfl, j1, (fin x x0).1, .inl (fin x x0).2⟩
 rw [show decide (n ≤ 256) = false by simpa using h2, cond_false]
 obtain ⟨y, i2, h2', e2, y0, y1, j2⟩ := T5 b i1 h1 j1 hb
 rw [e2]
 simp only [Option.bind_some]
 obtain ⟨z, i3, h3', e3, z0, z1, j3⟩ := T5 b i2 h2' j2 hb
 rw [e3]
 simp only [Option.bind_some]
 rw [PL (n := x * 65536) (by omega) (by omega), PL (n := y * 256) (by omega) (by omega), PL (n := x * 65536 + y * 256) (by omega) (by omega), PL (n := x * 65536 + y * 256 + z) (by omega) (by omega)]
 exact ⟨_, _, _, rfl, j3, (fin _ (by omega)).1, .inl (fin _ (by omega)).2⟩
theorem Ws (a : List Int) (ha : a.length ≤ 1048576) (n : Nat) (hn : PQ ≤ n) : ∃ h : Int, Sj n a = some (a, 0, h) := by
 obtain ⟨_, r, e, _⟩ := Ue (α := Int × Int) (γ := Int × Int) (SE a) (SE a) (fun i x => x.2 = (i : Int)) (fun _ => True) a.length (fun i x hi hI => by
  refine ⟨rfl, ?_⟩
  obtain ⟨h, k⟩ := x
  dsimp only at hI
  subst hI
  unfold SE
  dsimp only
  by_cases hl : i < a.length
  ·rw [show decide ((i : Int) < (a.length : Int)) = true by simp; omega, cond_true]
   simp only [Option.bind_some]
   cases decide ((i : Int) < 4000) with
   | false => exact .inr ⟨_, rfl, trivial⟩
   | true =>
    rw [cond_true, PH hl]
    exact .inl ⟨_, rfl, PC hl (by omega), hl⟩
  ·rw [show decide ((i : Int) < (a.length : Int)) = false by simp; omega]
   exact .inr ⟨_, rfl, trivial⟩) n (by unfold PQ at hn; omega) (PF (275275 + (a.length : Int)), 0) rfl
 unfold Sj
 rw [e]
 exact ⟨r.1, rfl⟩
def Ok {α : Type} (x : Option α) (P : α → Prop) : Prop := ∃ r, x = some r ∧ P r
section
variable {α β γ : Type} {P : α → Prop} {Q : β → Prop}
theorem Ok.pure {r : α} (h : P r) : Ok (some r) P := ⟨r, rfl, h⟩
theorem Ok.bind {x : Option α} {f : α → Option β} (h : Ok x P) (hf : ∀ r, P r → Ok (f r) Q) : Ok (x.bind f) Q := by
 obtain ⟨r, rfl, hr⟩ := h
 exact hf r hr
theorem Ok.cond {b : Bool} {x y : Option α} (h1 : b = true → Ok x P) (h2 : b = false → Ok y P) : Ok (bif b then x else y) P := by
 cases b with
 | true => exact h1 rfl
 | false => exact h2 rfl
theorem Ok.guard {b : Bool} {x y : Option α} (hb : b = true) (h : Ok x P) : Ok (bif b then x else y) P := by
 subst hb; exact h
theorem Ok.mono {x : Option α} {P' : α → Prop} (h : Ok x P) (hp : ∀ r, P r → P' r) : Ok x P' := by
 obtain ⟨r, e, hr⟩ := h
 exact ⟨r, e, hp r hr⟩
theorem Ok.of {x : Option α} {r : α} (e : x = some r) (h : P r) : Ok x P := ⟨r, e, h⟩
theorem Ok.ND {xs : List α} {i : Int} (h : 0 ≤ i ∧ i < (xs.length : Int)) : Ok (Go.Ev.ND xs i) fun r => xs[i.toNat]? = some r := by
 obtain ⟨m, rfl⟩ : ∃ m : Nat, i = m := ⟨i.toNat, by omega⟩
 have hm : m < xs.length := by omega
 exact ⟨xs[m], PH hm, by simp [hm]⟩
theorem Ok.get {xs : List α} {i : Nat} (h : i < xs.length) : Ok xs[i]? fun r => xs[i]? = some r := ⟨xs[i], List.getElem?_eq_getElem h, List.getElem?_eq_getElem h⟩
theorem Tc {xs : List α} {i : Int} (h : 0 ≤ i ∧ i < (xs.length : Int)) : Of xs i = true := by
 unfold Of; rw [decide_eq_true h.1, decide_eq_true h.2]; rfl
theorem Ok.iter {f : α → Option (α ⊕ γ)} {S : γ → Prop} (R : Nat → α → Prop)
  (h : ∀ k x, R k x → Ok (f x) fun y => (∃ x', y = .inl x' ∧ ∃ k', R k' x' ∧ k' < k) ∨ ∃ z, y = .inr z ∧ S z) {n k : Nat} {x : α} (hR : R k x) (hk : k < n) : Ok (Go.Ev.iter n f x) S := by
 obtain ⟨z, hz, e⟩ := Qy R S (fun k x hx => by
  obtain ⟨y, e, hy⟩ := h k x hx
  rcases hy with ⟨x', rfl, k', h1, h2⟩ | ⟨z, rfl, h1⟩
  ·exact .inr ⟨x', k', e, h1, h2⟩
  ·exact .inl ⟨z, e, h1⟩) n k x hR hk
 exact ⟨z, e, hz⟩
end
def Pc {α : Type} (g : Nat → Option α) : Prop := ∀ n m r, n ≤ m → g n = some r → g m = some r
theorem Pc.const {α : Type} (x : Option α) : Pc fun _ => x := fun _ _ _ _ h => h
theorem Pc.bind {α β : Type} {g : Nat → Option α} {f : Nat → α → Option β} (hg : Pc g) (hf : ∀ x, Pc fun n => f n x) : Pc fun n => (g n).bind (f n) := by
 intro n m r hnm h
 cases hx : g n with
 | none => simp only [hx] at h; cases h
 | some x =>
  simp only [hx, Option.bind_some] at h
  simp only [hg n m x hnm hx, Option.bind_some]
  exact hf x n m r hnm h
theorem Pc.cond {α : Type} {b : Bool} {g h : Nat → Option α} (hg : Pc g) (hh : Pc h) : Pc fun n => bif b then g n else h n := by
 cases b with
 | true => exact hg
 | false => exact hh
theorem Pc.sum {α β γ : Type} {x : α ⊕ β} {g : α → Nat → Option γ} {h : β → Nat → Option γ} (hg : ∀ a, Pc (g a)) (hh : ∀ b, Pc (h b)) : Pc fun n => (match x with | .inl a => g a n | .inr b => h b n) := by
 cases x with
 | inl a => exact hg a
 | inr b => exact hh b
theorem Pc.iter {α γ : Type} {L : Nat → α → Option (α ⊕ γ)} (hL : ∀ x, Pc fun n => L n x) (x0 : α) : Pc fun n => Go.Ev.iter n (L n) x0 := by
 have key : ∀ (k n m : Nat) (x : α) (r : γ), n ≤ m → k ≤ k + 0 → Go.Ev.iter k (L n) x = some r → ∀ j, k ≤ j → Go.Ev.iter j (L m) x = some r := by
  intro k
  induction k with
  | zero => intro n m x r _ _ h; simp [Go.Ev.iter] at h
  | succ k ih =>
   intro n m x r hnm _ h j hj
   obtain ⟨j, rfl⟩ : ∃ i, j = i + 1 := ⟨j - 1, by omega⟩
   simp only [Go.Ev.iter] at h ⊢
   cases hx : L n x with
   | none => rw [hx] at h; cases h
   | some y =>
    rw [hx] at h
    have h2 : L m x = some y := hL x n m y hnm hx
    rw [h2]
    cases y with
    | inl x' => exact ih n m x' r hnm (by omega) h j (by omega)
    | inr z => exact h
 intro n m r hnm h
 exact key n n m x0 r hnm (by omega) h m hnm
def Cu (b : List Int) (i : Int) : Prop := b.length ≤ 1048576 ∧ 0 ≤ i
theorem Pg {b : List Int} {i c : Int} (h : Cu b i) (m : Int) : Ok (PK b i c m) fun x => Cu x.2.1 x.2.2.1 ∧ 0 ≤ x.1 ∧ (0 < m → x.1 < m) := by
 obtain ⟨x, i', h', e, h1, h2, h3⟩ := TA b i c h.2 h.1 m
 exact ⟨_, e, ⟨h.1, h1⟩, h2, fun hm => by rcases h3 with h3 | h3 <;> omega⟩
theorem Sr {b : List Int} {i c : Int} (h : Cu b i) (m : Int) : Ok (Pa b i c m) fun x => Cu x.2.1 x.2.2.1 := by
 unfold Pa
 exact (Pg h m).bind fun r hr => Ok.pure hr.1
theorem ok_int {b : List Int} {i c : Int} (h : Cu b i) {xs : List Int} (hx : 0 < xs.length) : Ok (PZ b i c xs) fun x => Cu x.2.1 x.2.2.1 ∧ x.1 ∈ xs := by
 unfold PZ
 refine (Pg h _).bind fun r hr => (Ok.ND ⟨hr.2.1, hr.2.2 (by omega)⟩).bind fun v hv => Ok.pure ⟨hr.1, List.mem_of_getElem? hv⟩
theorem aK {b : List Int} {i c : Int} (h : Cu b i) {xs : List (List UInt8)} (hx : 0 < xs.length) : Ok (Sk b i c xs) fun x => Cu x.2.1 x.2.2.1 ∧ x.1 ∈ xs := by
 unfold Sk
 refine (Pg h _).bind fun r hr => (Ok.ND ⟨hr.2.1, hr.2.2 (by omega)⟩).bind fun v hv => Ok.pure ⟨hr.1, List.mem_of_getElem? hv⟩
theorem Vx (s : List UInt8) (b : Int) : Pc fun n => Rw n s b := by
 unfold Rw
 exact Pc.bind (Pc.iter (L := fun _ => TH s b) (fun _ => Pc.const _) _) fun _ => Pc.const _
theorem WT (c : Int) : Pc fun n => SH n c := by
 unfold SH
 exact Pc.bind (Pc.iter (L := fun _ => TO c) (fun _ => Pc.const _) _) fun x => Pc.const _
theorem Vs (s : List UInt8) : Pc fun n => Pf n s := by
 unfold Pf
 refine Pc.bind (Vx s 10) fun x1 => Pc.cond (Pc.bind (Pc.const _) fun x2 => Pc.bind (Pc.iter (L := fun n => RY n x1) (fun x3 => ?_) _) fun _ => Pc.const _) (Pc.const _)
 unfold RY
 refine Pc.cond (Pc.bind (Pc.const _) fun x5 => Pc.cond (Pc.const _) (Pc.bind (Pc.const _) fun x9 => Pc.cond (Pc.const _) (Pc.bind (Pc.iter (L := fun n => RZ n x1 x3) (fun x10 => ?_) _) fun _ => Pc.const _))) (Pc.const _)
 unfold RZ
 refine Pc.cond (Pc.bind (Pc.const _) fun _ => Pc.cond (Pc.cond (Pc.bind (Pc.const _) fun _ => Pc.bind (Pc.const _) fun _ => Pc.bind (WT _) fun _ => Pc.const _) (Pc.const _)) (Pc.const _)) (Pc.const _)
def Tb : List (List UInt8) := [[99, 46, 46, 46, 46, 46, 10, 46, 112, 112, 46, 112, 46, 10, 46, 112, 112, 46, 112, 46, 10, 46, 46, 46, 46, 46, 115, 10], [99, 46, 46, 10, 46, 46, 46, 10, 46, 46, 115, 10], [46, 46, 46, 46, 46, 10, 46, 112, 35, 112, 46, 10, 46, 46, 115, 46, 46, 10, 46, 112, 35, 112, 46, 10, 99, 46, 46, 46, 99, 10], [46, 46, 46, 35, 46, 46, 46, 10, 46, 46, 46, 46, 46, 46, 46, 10, 46, 46, 46, 35, 46, 46, 46, 10], [99, 46, 46, 46, 46, 46, 46, 46, 10, 46, 112, 46, 112, 46, 112, 46, 46, 10, 46, 46, 46, 46, 46, 46, 46, 115, 10, 46, 112, 46, 112, 46, 112, 46, 46, 10, 99, 46, 46, 46, 46, 46, 46, 115, 10], [46, 46, 10, 46, 46, 10], [99, 46, 35, 46, 115, 10, 46, 46, 35, 46, 46, 10]]
def VD (s : List UInt8) : Bool := match Pf 60 s with
 | some (w, h, c, b) => PR w h c && b == -1 && decide (0 < c.length)
 | none => false
theorem Ur : Tb.all VD = true := by kernel_rfl
theorem Wt {s : List UInt8} (h : VD s = true) (n : Nat) (hn : PQ ≤ n) : Ok (Pf n s) fun x => PR x.1 x.2.1 x.2.2.1 = true ∧ x.2.2.2 = -1 ∧ 0 < x.2.2.1.length := by
 unfold VD at h
 cases hp : Pf 60 s with
 | none => rw [hp] at h; cases h
 | some x =>
  rw [hp] at h
  obtain ⟨w, q, c, b⟩ := x
  simp only [Bool.and_eq_true, beq_iff_eq, decide_eq_true_eq] at h
  exact ⟨_, Vs s 60 n _ (by unfold PQ at hn; omega) hp, h.1.1, h.1.2, h.2⟩
theorem Vl (n : Nat) (hn : PQ ≤ n) {b : List Int} {i c : Int} (h : Cu b i) : Ok (Ru n b i c) fun x => PR x.1 x.2.1 x.2.2.1 = true ∧ 0 < x.2.2.1.length ∧ Cu x.2.2.2.1 x.2.2.2.2.1 := by
 unfold Ru
 refine (Sr h 3).bind fun r hr => Ok.cond (fun _ => ?_) fun _ => ?_
 ·refine (aK hr (xs := Tb) (by simp [Tb])).bind fun t ht => ?_
  refine (Wt (List.all_eq_true.1 Ur _ ht.2) n hn).bind fun x hx => Ok.pure ⟨hx.1, hx.2.2, ht.1⟩
 ·refine (Pg hr 7).bind fun x hx => (Pg hx.1 6).bind fun y hy => ?_
  have x1 := hx.2.2 (by omega)
  have y1 := hy.2.2 (by omega)
  have x0 := hx.2.1
  have y0 := hy.2.1
  rw [PL (n := 1 + x.1) (by omega) (by omega), PL (n := 1 + y.1) (by omega) (by omega)]
  generalize hW : 1 + x.1 = W
  generalize hH : 1 + y.1 = H
  have hWH : W * H ≤ 100 ∧ 1 ≤ W * H := by
   have a1 : 1 ≤ W := by omega
   have a2 : W ≤ 10 := by omega
   have a3 : 1 ≤ H := by omega
   have a4 : H ≤ 10 := by omega
   have h1 : W * H ≤ 10 * H := Int.mul_le_mul_of_nonneg_right a2 (by omega)
   have h2 : 1 * H ≤ W * H := Int.mul_le_mul_of_nonneg_right a1 (by omega)
   omega
  refine Ok.bind (P := fun z => PR W H z.2.2.2.2.2.2 = true ∧ 0 < z.2.2.2.2.2.2.length ∧ z.2.2.2.2.1 = W ∧ z.2.2.2.2.2.1 = H ∧ Cu z.2.1 z.2.2.1) (Ok.iter (fun k z => z.1 + (k : Int) = W * H ∧ 0 ≤ z.1 ∧ (z.2.2.2.2.2.2.length : Int) = z.1 ∧ (z.2.2.2.2.2.2.all fun k => SC k 0 4) = true ∧ z.2.2.2.2.1 = W ∧ z.2.2.2.2.2.1 = H ∧ Cu z.2.1 z.2.2.1) (fun k z hz => ?_) (k := (W * H).toNat) ⟨by show (0 : Int) + _ = _; omega, by show (0 : Int) ≤ 0; omega, rfl, rfl, rfl, rfl, hy.1⟩ (by unfold PQ at hn; omega)) fun z hz => ?_
  ·obtain ⟨z1, z2, z3, z4, z5, z6, z7⟩ := hz
   unfold TG
   rw [z5, z6, PL (n := W * H) (by omega) (by omega)]
   refine Ok.cond (fun hb => ?_) fun hb => ?_
   ·have hb := of_decide_eq_true hb
    refine (ok_int z7 (by simp)).bind fun v hv => Ok.guard (Sy (by omega)) (Ok.pure (.inl ⟨_, rfl, k - 1, ⟨?_, ?_, ?_, ?_, rfl, rfl, hv.1⟩, by omega⟩))
    ·show PF (z.1 + 1) + _ = _
     rw [PL (by omega) (by omega)]; omega
    ·show 0 ≤ PF (z.1 + 1)
     rw [PL (by omega) (by omega)]; omega
    ·show ((z.2.2.2.2.2.2 ++ [v.1]).length : Int) = PF (z.1 + 1)
     rw [PL (by omega) (by omega)]; simp; omega
    ·show ((z.2.2.2.2.2.2 ++ [v.1]).all fun k => SC k 0 4) = true
     rw [List.all_append, z4]
     have hv2 := hv.2
     simp only [List.mem_cons, List.not_mem_nil, or_false] at hv2
     rcases hv2 with e | e | e | e | e | e | e | e | e | e <;> rw [e] <;> rfl
   ·have hb := of_decide_eq_false hb
    refine Ok.pure (.inr ⟨_, rfl, ?_, ?_, rfl, rfl, z7⟩)
    ·show PR W H z.2.2.2.2.2.2 = true
     unfold PR
     rw [z4, PL (n := W * H) (by omega) (by omega), show ((z.2.2.2.2.2.2.length : Int) == W * H) = true by rw [beq_iff_eq]; omega]
     unfold SC
     rw [decide_eq_true (show 1 ≤ W by omega), decide_eq_true (show W ≤ 10 by omega), decide_eq_true (show 1 ≤ H by omega), decide_eq_true (show H ≤ 10 by omega)]
     rfl
    ·show 0 < z.2.2.2.2.2.2.length
     omega
  ·obtain ⟨z1, z2, z3, z4, z5⟩ := hz
   refine Ok.pure ⟨?_, z2, z5⟩
   show PR z.2.2.2.2.1 z.2.2.2.2.2.1 z.2.2.2.2.2.2 = true
   rw [z3, z4]; exact z1
theorem Um (a : List Q6) (hs : Sv a) (n : Nat) (hn : PQ ≤ n) : SN n a = some a := by
 have hl : a.length ≤ 1048576 := hs.1
 have hc := Ud (σ := List Q6) (Ry a) (fun i s => ((i : Int), s)) a (fun l s => ((a.length : Int), s ++ l)) (fun i s => s.length = i)
  (fun s hs => by simp [Ry])
  (fun i x l s h1 h2 h3 h4 h5 => by
   left
   have hx : a[i] = x := by rw [List.getElem?_eq_getElem h1] at h2; exact Option.some.inj h2
   have hst : x.2.2.length ≤ 1048576 := by rw [← hx]; exact hs.2 _ (List.getElem_mem h1)
   have hr : decide (s.length + 1 ≤ DZ) = true := Sy (by omega)
   exact ⟨s ++ [x], by simp [Ry, h1, PH h1, hx, ig hst, hr, PC h1 (by omega)], by simp [h5], by simp⟩)
  n (by unfold PQ at hn; omega) [] rfl
 unfold SN
 rw [show ((0 : Nat) : Int) = 0 from rfl] at hc
 rw [hc]; rfl
theorem WJ (b : List Int) (i h : Int) (hi : 0 ≤ i) (hb : b.length ≤ 1048576) (n : Int) : ∃ (x : Bool) (i' h' : Int), Pa b i h n = some (x, b, i', h') ∧ 0 ≤ i' := by
 obtain ⟨x, i', h', e, hi', _⟩ := TA b i h hi hb n
 unfold Pa
 rw [e]
 exact ⟨_, _, _, rfl, hi'⟩
theorem VT (b : List Int) (i h : Int) (hi : 0 ≤ i) (hb : b.length ≤ 1048576) (xs : List Int) (hx : 0 < xs.length) : ∃ x i' h' : Int, PZ b i h xs = some (x, b, i', h') ∧ 0 ≤ i' ∧ x ∈ xs := by
 obtain ⟨x, i', h', e, hi', x0, x1⟩ := TA b i h hi hb (xs.length : Int)
 unfold PZ
 rw [e, Option.bind_some]
 obtain ⟨k, rfl⟩ : ∃ k : Nat, x = (k : Int) := ⟨x.toNat, by omega⟩
 have hk : k < xs.length := by omega
 dsimp only
 rw [PH hk, Option.bind_some]
 exact ⟨_, _, _, rfl, hi', List.getElem_mem hk⟩
def Vb (l : List Qj) : Prop := l.Pairwise (fun a b => a.1 < b.1) ∧ (∀ x ∈ l, 1 ≤ x.1 ∧ x.1 ≤ 50 ∧ 1 ≤ x.2.1 ∧ x.2.1 ≤ 1000 ∧ 0 ≤ x.2.2 ∧ x.2.2 ≤ x.2.1) ∧ l.length ≤ 8
def Ts (a : List Q6) : Prop := a.length ≤ 12 ∧ a.Pairwise (fun x y => x.1 < y.1 ∧ x.2.1 ≠ y.2.1) ∧ ∀ p ∈ a, (1 ≤ p.1 ∧ p.1 ≤ 999) ∧ (0 ≤ p.2.1 ∧ p.2.1 ≤ 99) ∧ Vb p.2.2
theorem VY {β : Type} {key : β → Int} {a : List β} {R : β → β → Prop} (h : a.Pairwise R) (hR : ∀ x y, R x y → key x < key y) (i : Nat) (hi : i < a.length) : RF key a i a[i] = true := by
 cases i with
 | zero => rfl
 | succ j =>
  have := hR _ _ (List.pairwise_iff_getElem.1 h j (j + 1) (by omega) hi (by omega))
  simp only [RF, List.getElem?_eq_getElem (show j < a.length by omega)]
  simpa using this
theorem Vb.ok {l : List Qj} (h : Vb l) : Rz l = true := by
 obtain ⟨h1, h2, h3⟩ := h
 unfold Rz
 simp only [Bool.and_eq_true, List.all_eq_true, List.mem_range, decide_eq_true_eq]
 refine ⟨fun i hi => ?_, h3⟩
 obtain ⟨a1, a2, a3, a4, a5, a6⟩ := h2 _ (List.getElem_mem hi)
 simp only [Sw, List.getElem?_eq_getElem hi, VY h1 (fun x y h => h) i hi, SC, Bool.and_eq_true, decide_eq_true_eq]
 exact ⟨⟨⟨⟨a1, a2⟩, a3, a4⟩, a5, a6⟩, trivial⟩
theorem Ts.ok {a : List Q6} (h : Ts a) : RX a = true := by
 obtain ⟨h1, h2, h3⟩ := h
 unfold RX
 simp only [Bool.and_eq_true, List.all_eq_true, List.mem_range, decide_eq_true_eq]
 refine ⟨h1, fun i hi => ?_⟩
 obtain ⟨⟨a1, a2⟩, ⟨a3, a4⟩, a5⟩ := h3 _ (List.getElem_mem hi)
 have hp := VY (key := (·.1)) h2 (fun x y h => h.1) i hi
 have hh : ((a.take i).all fun y => !(y.2.1 == a[i].2.1)) = true := List.all_eq_true.2 fun y hy => by
  obtain ⟨j, hj, rfl⟩ := List.getElem_of_mem hy
  have hj' : j < i := by rw [List.length_take] at hj; omega
  have := (List.pairwise_iff_getElem.1 h2 j i (by omega) hi hj').2
  rw [List.getElem_take]
  simpa using this
 simp only [UF, List.getElem?_eq_getElem hi, hp, hh, a5.ok, SC, Bool.and_eq_true, decide_eq_true_eq]
 exact ⟨⟨⟨⟨⟨a1, a2⟩, a3, a4⟩, trivial⟩, trivial⟩, trivial⟩
theorem Ts.sm {a : List Q6} (h : Ts a) : Sv a := ⟨by have := h.1; omega, fun y hy => by show y.2.2.length ≤ _; have := (h.2.2 y hy).2.2.2.2; omega⟩
theorem WN (n : Nat) (hn : PQ ≤ n) (b : List Int) (hb : b.length ≤ 1048576) (ci ch : Int) (hci : 0 ≤ ci) (id home : Int) :
  ∃ (c : Int) (ci' ch' : Int) (l : List Qj), iter n QM (1, b, ci, ch, id, home, ([] : List Qj)) = some (c, b, ci', ch', id, home, l) ∧ 0 ≤ ci' ∧ Vb l := by
 obtain ⟨_, r, e, hr⟩ := Ue QM QM (fun i (x : Int × (List Int) × Int × Int × Int × Int × (List Qj)) => x.1 = (i : Int) + 1 ∧ i ≤ 5 ∧ x.2.1 = b ∧ 0 ≤ x.2.2.1 ∧ x.2.2.2.2.1 = id ∧ x.2.2.2.2.2.1 = home ∧ x.2.2.2.2.2.2.Pairwise (fun a b => a.1 < b.1) ∧ (∀ y ∈ x.2.2.2.2.2.2, 1 ≤ y.1 ∧ y.1 ≤ (i : Int) ∧ 1 ≤ y.2.1 ∧ y.2.1 ≤ 1000 ∧ 0 ≤ y.2.2 ∧ y.2.2 ≤ y.2.1) ∧ x.2.2.2.2.2.2.length ≤ i)
  (fun r => r.2.1 = b ∧ 0 ≤ r.2.2.1 ∧ r.2.2.2.2.1 = id ∧ r.2.2.2.2.2.1 = home ∧ Vb r.2.2.2.2.2.2) 5 (fun i x hi hI => by
  refine ⟨rfl, ?_⟩
  obtain ⟨s, b0, ci, ch, id0, home0, l⟩ := x
  obtain ⟨h1, h2, h3, h4, h5, h6, h7, h8, h9⟩ := hI
  dsimp only at h1 h3 h4 h5 h6 h7 h8 h9
  subst h1; subst h3; subst h5; subst h6
  by_cases h5 : i < 5
  ·left
   obtain ⟨v, i1, g1, e1, j1, m1⟩ := VT b0 ci ch h4 hb [0, 0, 1, 3, 5, 12] (by simp)
   have hv : 0 ≤ v ∧ v ≤ 12 := by
    simp at m1
    omega
   unfold QM
   dsimp only
   rw [show decide ((i : Int) + 1 < 6) = true by simp; omega, cond_true, e1, Option.bind_some]
   dsimp only
   rw [PL (n := (i : Int) + 1 + 1) (by omega) (by omega)]
   by_cases hv0 : v > 0
   ·rw [show decide (v > 0) = true by simpa using hv0, cond_true, PL (n := v + 1) (by omega) (by omega)]
    obtain ⟨u, i2, g2, e2, j2, u0, u1⟩ := TA b0 i1 g1 j1 hb (v + 1)
    rw [e2, Option.bind_some]
    dsimp only
    obtain ⟨t, i3, g3, e3, j3, m3⟩ := VT b0 i2 g2 j2 hb [0, 0, 0, u] (by simp)
    have ht : 0 ≤ t ∧ t ≤ v := by
     simp at m3
     omega
    rw [e3, Option.bind_some]
    dsimp only
    rw [show decide (l.length + [((i : Int) + 1, v, t)].length ≤ DZ) = true from Sy (by omega), cond_true, Option.bind_some]
    refine ⟨_, rfl, ⟨by show (i : Int) + 1 + 1 = ((i + 1 : Nat) : Int) + 1; omega, by omega, rfl, j3, rfl, rfl, ?_, ?_, ?_⟩, h5⟩
    ·refine List.pairwise_append.2 ⟨h7, List.pairwise_singleton _ _, fun x hx y hy => ?_⟩
     rw [List.mem_singleton.1 hy]
     have := h8 x hx
     show x.1 < (i : Int) + 1
     omega
    ·intro y hy
     rcases List.mem_append.1 hy with hy | hy
     ·obtain ⟨q1, q2, q3⟩ := h8 y hy
      exact ⟨q1, by omega, q3⟩
     ·rw [List.mem_singleton.1 hy]
      refine ⟨by show 1 ≤ (i : Int) + 1; omega, by show (i : Int) + 1 ≤ ((i + 1 : Nat) : Int); omega, by show 1 ≤ v; omega, by show v ≤ 1000; omega, ht.1, ht.2⟩
    ·show (l ++ [_]).length ≤ i + 1
     rw [List.length_append, List.length_singleton]; omega
   ·rw [show decide (v > 0) = false by simpa using hv0, cond_false, Option.bind_some]
    refine ⟨_, rfl, ⟨by show (i : Int) + 1 + 1 = ((i + 1 : Nat) : Int) + 1; omega, by omega, rfl, j1, rfl, rfl, h7, fun y hy => ?_, by show l.length ≤ i + 1; omega⟩, h5⟩
    obtain ⟨q1, q2, q3⟩ := h8 y hy
    exact ⟨q1, by omega, q3⟩
  ·right
   have : i = 5 := by omega
   subst this
   refine ⟨_, by unfold QM; rfl, rfl, h4, rfl, rfl, h7, fun y hy => ?_, by show l.length ≤ 8; omega⟩
   obtain ⟨q1, q2, q3⟩ := h8 y hy
   exact ⟨q1, by omega, q3⟩) n (by unfold PQ at hn; omega) (1, b, ci, ch, id, home, ([] : List Qj)) ⟨rfl, by omega, rfl, hci, rfl, rfl, List.Pairwise.nil, (fun y hy => by cases hy), by simp⟩
 obtain ⟨c, b0, ci', ch', id0, home0, l⟩ := r
 obtain ⟨h1, h2, h3, h4, h5⟩ := hr
 dsimp only at h1 h2 h3 h4 h5
 subst h1; subst h3; subst h4
 exact ⟨c, ci', ch', l, e, h2, h5⟩
theorem WO (n : Nat) (hn : PQ ≤ n) (b : List Int) (hb : b.length ≤ 1048576) (ci ch : Int) (hci : 0 ≤ ci) :
  ∃ (s : List Q6) (ci' ch' : Int), SO n b ci ch = some (s, b, ci', ch') ∧ 0 ≤ ci' ∧ Ts s := by
 obtain ⟨_, r, e, hr⟩ := Ue (Qs n) (Qs n) (fun i (x : Int × (List Int) × Int × Int × (List Q6)) => x.1 = (i : Int) + 1 ∧ i ≤ 5 ∧ x.2.1 = b ∧ 0 ≤ x.2.2.1 ∧ x.2.2.2.2.length ≤ i ∧ x.2.2.2.2.Pairwise (fun x y => x.1 < y.1 ∧ x.2.1 ≠ y.2.1) ∧ ∀ p ∈ x.2.2.2.2, (1 ≤ p.1 ∧ p.1 ≤ 10 * (i : Int)) ∧ (20 - (i : Int) ≤ p.2.1 ∧ p.2.1 ≤ 19) ∧ Vb p.2.2)
  (fun r => r.2.1 = b ∧ 0 ≤ r.2.2.1 ∧ Ts r.2.2.2.2) 5 (fun i x hi hI => by
  refine ⟨rfl, ?_⟩
  obtain ⟨s, b0, ci, ch, l⟩ := x
  obtain ⟨h1, h2, h3, h4, h5, h6, h7⟩ := hI
  dsimp only at h1 h3 h4 h5 h6 h7
  subst h1; subst h3
  by_cases hlt : i < 5
  ·left
   obtain ⟨v, i1, g1, e1, j1⟩ := WJ b0 ci ch h4 hb 4
   unfold Qs
   dsimp only
   rw [show decide ((i : Int) + 1 < 6) = true by simp; omega, cond_true, e1, Option.bind_some]
   dsimp only
   rw [PL (n := (i : Int) + 1 + 1) (by omega) (by omega)]
   have more : ∀ p ∈ l, (1 ≤ p.1 ∧ p.1 ≤ 10 * ((i + 1 : Nat) : Int)) ∧ (20 - ((i + 1 : Nat) : Int) ≤ p.2.1 ∧ p.2.1 ≤ 19) ∧ Vb p.2.2 := fun p hp => by
    obtain ⟨⟨q1, q2⟩, ⟨q3, q4⟩, q5⟩ := h7 p hp
    exact ⟨⟨q1, by omega⟩, ⟨by omega, q4⟩, q5⟩
   cases v with
   | true =>
    rw [cond_true, Option.bind_some]
    exact ⟨_, rfl, ⟨by show (i : Int) + 1 + 1 = ((i + 1 : Nat) : Int) + 1; omega, by omega, rfl, j1, by show l.length ≤ i + 1; omega, h6, more⟩, hlt⟩
   | false =>
    rw [cond_false, PL (n := ((i : Int) + 1) * 10) (by omega) (by omega), PL (n := 20 - ((i : Int) + 1)) (by omega) (by omega)]
    obtain ⟨c, ci', ch', st, e2, j2, hst⟩ := WN n hn b0 hb i1 g1 j1 (((i : Int) + 1) * 10) (20 - ((i : Int) + 1))
    rw [e2, Option.bind_some]
    dsimp only
    rw [show decide (l.length + [(((i : Int) + 1) * 10, 20 - ((i : Int) + 1), st)].length ≤ DZ) = true from Sy (by omega), cond_true, Option.bind_some]
    refine ⟨_, rfl, ⟨by show (i : Int) + 1 + 1 = ((i + 1 : Nat) : Int) + 1; omega, by omega, rfl, j2, ?_, ?_, ?_⟩, hlt⟩
    ·show (l ++ [_]).length ≤ i + 1
     rw [List.length_append, List.length_singleton]; omega
    ·refine List.pairwise_append.2 ⟨h6, List.pairwise_singleton _ _, fun x hx y hy => ?_⟩
     rw [List.mem_singleton.1 hy]
     obtain ⟨⟨q1, q2⟩, ⟨q3, q4⟩, _⟩ := h7 x hx
     show x.1 < ((i : Int) + 1) * 10 ∧ x.2.1 ≠ 20 - ((i : Int) + 1)
     omega
    ·intro p hp
     rcases List.mem_append.1 hp with hp | hp
     ·exact more p hp
     ·rw [List.mem_singleton.1 hp]
      refine ⟨⟨by show 1 ≤ ((i : Int) + 1) * 10; omega, by show ((i : Int) + 1) * 10 ≤ 10 * ((i + 1 : Nat) : Int); omega⟩, ⟨by show 20 - ((i + 1 : Nat) : Int) ≤ 20 - ((i : Int) + 1); omega, by show 20 - ((i : Int) + 1) ≤ 19; omega⟩, hst⟩
  ·right
   have : i = 5 := by omega
   subst this
   refine ⟨_, by unfold Qs; rfl, rfl, h4, by show l.length ≤ 12; omega, h6, fun p hp => ?_⟩
   obtain ⟨⟨q1, q2⟩, ⟨q3, q4⟩, q5⟩ := h7 p hp
   exact ⟨⟨q1, by omega⟩, ⟨by omega, by omega⟩, q5⟩) n (by unfold PQ at hn; omega) (1, b, ci, ch, ([] : List Q6)) ⟨rfl, by omega, rfl, hci, by simp, List.Pairwise.nil, fun y hy => by cases hy⟩
 obtain ⟨c, b0, ci', ch', s⟩ := r
 obtain ⟨h1, h2, h3⟩ := hr
 dsimp only at h1 h2 h3
 subst h1
 unfold SO
 rw [e]
 exact ⟨s, ci', ch', rfl, h2, h3⟩
theorem WK (w h : Int) (c : List Int) (hc : c.length ≤ 1048576) (n : Nat) (hn : PQ ≤ n) : ∃ L : List Int, Re n w h c = some L ∧ L.length ≤ c.length := by
 have := Ok.iter (f := Sl c) (S := fun z => z.1.length ≤ c.length) (fun k x => x.2 + (k : Int) = (c.length : Int) ∧ 0 ≤ x.2 ∧ (x.1.length : Int) ≤ x.2) (fun k x hx => by
  obtain ⟨h1, h2, h3⟩ := hx
  unfold Sl
  refine Ok.cond (fun hb => ?_) fun hb => ?_
  ·have hb := of_decide_eq_true hb
   refine Ok.bind (P := fun z => (z.length : Int) ≤ x.2 + 1) ?_ fun z hz => Ok.pure (.inl ⟨_, rfl, k - 1, ⟨?_, ?_, ?_⟩, by clear hn; omega⟩)
   ·refine (Ok.ND ⟨h2, hb⟩).bind fun v _ => Ok.cond (fun _ => Ok.guard (Sy (by clear hn; omega)) (Ok.pure ?_)) fun _ => Ok.pure (by clear hn; omega)
    rw [List.length_append, List.length_singleton]; clear hn; omega
   ·show PF (x.2 + 1) + _ = _
    rw [PL (by clear hn; omega) (by clear hn; omega)]; clear hn; omega
   ·show 0 ≤ PF (x.2 + 1)
    rw [PL (by clear hn; omega) (by clear hn; omega)]; clear hn; omega
   ·show (z.length : Int) ≤ PF (x.2 + 1)
    rw [PL (by clear hn; omega) (by clear hn; omega)]; exact hz
  ·exact Ok.pure (.inr ⟨_, rfl, by show x.1.length ≤ c.length; clear hn; omega⟩)) (n := n) (k := c.length) (x := ([], 0)) ⟨by simp, by simp, by simp⟩ (by unfold PQ at hn; omega)
 obtain ⟨z, e, hz⟩ := this
 exact ⟨z.1, by unfold Re; rw [e]; rfl, hz⟩
theorem WR (w h : Int) (c : List Int) (hc : c.length ≤ 100) (n : Nat) (hn : PQ ≤ n) {b : List Int} {i q : Int} (hcu : Cu b i) (most : Int) (hm : 0 ≤ most ∧ most ≤ 100) : Ok (SQ n b i q w h c most) fun x => x.1.length ≤ 20 ∧ Cu x.2.1 x.2.2.1 := by
 obtain ⟨L, hL, hLl⟩ := WK w h c (by clear hn; omega) n hn
 unfold SQ
 rw [hL, Option.bind_some]
 refine (Pg hcu _).bind fun r hr => ?_
 rw [PL (n := most + 1) (by clear hn; omega) (by clear hn; omega)] at hr
 refine Ok.bind (P := fun z => z.1.length ≤ 20 ∧ Cu z.2.2.2.1 z.2.2.2.2.1) (Ok.iter (fun k x => (x.2.2.1 = (k : Int) ∧ k ≤ 101) ∧ x.1.length ≤ 20 ∧ x.2.1.length ≤ L.length ∧ Cu x.2.2.2.1 x.2.2.2.2.1) (fun k x hx => ?_) (k := r.1.toNat) ⟨⟨by show r.1 = _; clear hn; omega, by have := hr.2.2 (by clear hn; omega); clear hn; omega⟩, by simp, Nat.le_refl _, hr.1⟩ (by unfold PQ at hn; have := hr.2.2 (by omega); omega)) fun z hz => Ok.pure hz
 obtain ⟨⟨h1, h1b⟩, h2, h3, h4⟩ := hx
 unfold TQ
 refine Ok.bind (P := fun v => v = (decide (x.2.2.1 > 0) && decide ((x.2.1.length : Int) > 0) && decide ((x.1.length : Int) < 20))) ?_ fun v hv => ?_
 ·cases decide (x.2.2.1 > 0) <;> cases decide ((x.2.1.length : Int) > 0) <;> cases decide ((x.1.length : Int) < 20) <;> exact Ok.pure rfl
 ·refine Ok.cond (fun hb => ?_) fun hb => Ok.pure (.inr ⟨_, rfl, h2, h4⟩)
  rw [hv] at hb
  simp only [Bool.and_eq_true, decide_eq_true_eq] at hb
  obtain ⟨⟨b1, b2⟩, b3⟩ := hb
  refine (Pg h4 _).bind fun y hy => ?_
  rw [hL, Option.bind_some]
  have hy2 := hy.2.2 (by clear hn; omega)
  obtain ⟨m, hm2⟩ : ∃ m : Nat, y.1 = (m : Int) := ⟨y.1.toNat, by have := hy.2.1; clear hn; omega⟩
  have hml : m < x.2.1.length := by clear hn; omega
  refine Ok.guard (Tc ⟨hy.2.1, hy2⟩) ?_
  rw [hm2, Int.toNat_natCast]
  refine (Ok.get hml).bind fun v1 _ => (Pg hy.1 _).bind fun g hg => ?_
  have hg2 := hg.2.2 (by clear hn; omega)
  refine Ok.guard (Tc ⟨hg.2.1, hg2⟩) ?_
  refine (Ok.get (by have := hg.2.1; clear hn; omega)).bind fun v2 _ => (Sr hg.1 3).bind fun v3 hv3 => (ok_int hv3 (by simp)).bind fun v4 hv4 => ?_
  refine Ok.bind (P := fun v5 => Cu v5.1 v5.2.1) ((Sr hv4.1 5).bind fun v6 hv6 => Ok.cond (fun _ => Ok.pure hv6) fun _ => Ok.pure hv6) fun v5 hv5 => ?_
  have hw1 : PF ((m : Int) + 1) = ((m + 1 : Nat) : Int) := PC hml (by clear hn; omega)
  rw [hw1]
  have sl1 : (sub x.2.1 (Int.toNat 0) m).length = m := by rw [Int.toNat_zero, Sn, List.length_take]; clear hn; omega
  have sl2 : (sub x.2.1 (Int.toNat ((m + 1 : Nat) : Int)) (Int.toNat (x.2.1.length : Int))).length = x.2.1.length - (m + 1) := by rw [Int.toNat_natCast, Int.toNat_natCast, TS, List.length_drop]
  refine Ok.guard (Sy (by clear hn; omega)) (Ok.guard ?_ (Ok.guard ?_ (Ok.guard ?_ (Ok.guard ?_ (Ok.pure (.inl ⟨_, rfl, k - 1, ⟨⟨?_, by clear hn; omega⟩, ?_, ?_, hv5⟩, by clear hn; omega⟩))))))
  ·rw [decide_eq_true (show (0 : Int) ≤ 0 by omega), decide_eq_true (show (0 : Int) ≤ (m : Int) by omega), decide_eq_true (show (m : Int) ≤ (x.2.1.length : Int) by clear hn; omega)]; rfl
  ·rw [decide_eq_true_eq, sl1]; simp [DZ]; clear hn; omega
  ·rw [decide_eq_true (show (0 : Int) ≤ ((m + 1 : Nat) : Int) by omega), decide_eq_true (show ((m + 1 : Nat) : Int) ≤ (x.2.1.length : Int) by clear hn; omega), decide_eq_true (Int.le_refl _)]; rfl
  ·rw [decide_eq_true_eq, List.length_append, sl1, sl2]; simp [DZ]; clear hn; omega
  ·show PF (x.2.2.1 - 1) = _
   rw [PL (by clear hn; omega) (by clear hn; omega)]; clear hn; omega
  ·show (x.1 ++ [_]).length ≤ 20
   rw [List.length_append, List.length_singleton]; clear hn; omega
  ·show (([] ++ sub x.2.1 (Int.toNat 0) m) ++ sub x.2.1 (Int.toNat ((m + 1 : Nat) : Int)) (Int.toNat (x.2.1.length : Int))).length ≤ _
   rw [List.length_append, List.nil_append, sl1, sl2]; clear hn; omega
theorem WQ {b : List Int} {i q : Int} (hcu : Cu b i) (crew : List RM) (hl : crew.length ≤ 1000) : Ok (SP b i q crew) fun x => x.1.length = crew.length ∧ Cu x.2.1 x.2.2.1 := by
 unfold SP
 rw [List.nil_append]
 refine Ok.guard (by rw [decide_eq_true_eq]; simp [DZ]; omega) (Ok.cond (fun _ => Ok.pure ⟨rfl, hcu⟩) fun hne => ?_)
 have h0 : 0 < crew.length := by
  rcases Nat.eq_zero_or_pos crew.length with e | e
  ·rw [e] at hne; simp at hne
  ·exact e
 refine (Pg hcu _).bind fun r hr => ?_
 have hi := Tc (xs := crew) ⟨hr.2.1, hr.2.2 (by omega)⟩
 refine Ok.bind (P := fun x => x.2.2.2.length = crew.length ∧ Cu x.1 x.2.1) ((Pg hr.1 6).bind fun y hy => Ok.cond (fun _ => (ok_int hy.1 (by simp)).bind fun v hv => Ok.guard hi (Ok.pure ⟨by simp, hv.1⟩)) fun _ => Ok.cond (fun _ => (ok_int hy.1 (by simp)).bind fun v hv => Ok.guard hi (Ok.pure ⟨by simp, hv.1⟩)) fun _ => Ok.cond (fun _ => (ok_int hy.1 (by simp)).bind fun v hv => Ok.guard hi (Ok.pure ⟨by simp, hv.1⟩)) fun _ => Ok.cond (fun _ => (ok_int hy.1 (by simp)).bind fun v hv => Ok.guard hi (Ok.pure ⟨by simp, hv.1⟩)) fun _ => Ok.pure ⟨rfl, hy.1⟩) fun x hx => Ok.pure hx
theorem VF (n : Nat) (hn : PQ ≤ n) {b : List Int} {i q : Int} (hcu : Cu b i) : Ok (Qt n b i q) fun x => PR x.1 x.2.1 x.2.2.1 = true ∧ x.2.2.2.1.length ≤ 20 ∧ Cu x.2.2.2.2.1 x.2.2.2.2.2.1 := by
 unfold Qt
 refine (Vl n hn hcu).bind fun f hf => (ok_int hf.2.2 (by simp)).bind fun m hm => ?_
 have hm2 : 0 ≤ m.1 ∧ m.1 ≤ 100 := by
  have := hm.2
  simp only [List.mem_cons, List.not_mem_nil, or_false] at this
  omega
 refine (WR f.1 f.2.1 f.2.2.1 (Vh hf.1).le n hn hm.1 m.1 hm2).bind fun c hc => ?_
 refine Ok.bind (P := fun x => x.1.length ≤ 20 ∧ Cu x.2.1 x.2.2.1) ((Sr hc.2 8).bind fun o ho => Ok.cond (fun _ => (WQ ho c.1 (by omega)).bind fun x hx => Ok.pure ⟨by show x.1.length ≤ 20; have := hx.1; have := hc.1; omega, hx.2⟩) fun _ => Ok.pure ⟨hc.1, ho⟩) fun x hx => Ok.pure ⟨hf.1, hx.1, hx.2⟩
theorem WM (n : Nat) (hn : PQ ≤ n) {b : List Int} {i q : Int} (hcu : Cu b i) (a : List Q6) (ha : a.length ≤ 1000) (hs : ∀ p ∈ a, p.2.2.length ≤ 1000) : Ok (SL n b i q a) fun x => (x.1.length ≤ a.length + 1 ∧ ∀ p ∈ x.1, p.2.2.length ≤ 1001) ∧ Cu x.2.1 x.2.2.1 := by
 have hsm : Sv a := ⟨by show a.length ≤ _; clear hn; omega, fun y hy => by show y.2.2.length ≤ _; have := hs y hy; clear hn; omega⟩
 unfold SL
 rw [Um a hsm n hn, Option.bind_some]
 have keep : a.length ≤ a.length + 1 ∧ ∀ p ∈ a, p.2.2.length ≤ 1001 := ⟨by clear hn; omega, fun p hp => by have := hs p hp; clear hn; omega⟩
 refine Ok.cond (fun _ => Ok.pure ⟨keep, hcu⟩) fun hne => ?_
 have h0 : 0 < a.length := by
  rcases Nat.eq_zero_or_pos a.length with e | e
  ·rw [e] at hne; simp at hne
  ·exact e
 refine (Pg hcu _).bind fun r hr => ?_
 have hr2 := hr.2.2 (by clear hn; omega)
 have hi := Tc (xs := a) ⟨hr.2.1, hr2⟩
 obtain ⟨m, hm⟩ : ∃ m : Nat, r.1 = (m : Int) := ⟨r.1.toNat, by have := hr.2.1; clear hn; omega⟩
 have hml : m < a.length := by clear hn; omega
 rw [hm] at hi ⊢
 rw [Int.toNat_natCast]
 have modK : ∀ (f : Q6 → Q6), (∀ p ∈ a, (f p).2.2.length ≤ 1001) → (a.modify m f).length ≤ a.length + 1 ∧ ∀ p ∈ a.modify m f, p.2.2.length ≤ 1001 := fun f hf => by
  refine ⟨by simp, fun p hp => ?_⟩
  obtain ⟨j, hj, rfl⟩ := List.mem_iff_getElem.1 hp
  have hja : j < a.length := by simpa using hj
  have : (a.modify m f)[j]? = some (if m = j then f a[j] else a[j]) := by
   rw [List.getElem?_modify, List.getElem?_eq_getElem hja]; rfl
  rw [List.getElem?_eq_getElem hj] at this
  injection this with this
  rw [this]
  split
  ·exact hf _ (List.getElem_mem hja)
  ·exact keep.2 _ (List.getElem_mem hja)
 have row : ∀ p ∈ a, ∀ x : Qj, decide (p.2.2.length + [x].length ≤ DZ) = true := fun p hp x => Sy (by have := hs p hp; clear hn; omega)
 refine Ok.bind (P := fun x => (x.2.2.2.length ≤ a.length + 1 ∧ ∀ p ∈ x.2.2.2, p.2.2.length ≤ 1001) ∧ Cu x.1 x.2.1) ((Pg hr.1 6).bind fun y hy => Ok.cond (fun _ => (ok_int hy.1 (by simp)).bind fun v hv => Ok.guard hi (Ok.pure ⟨modK (fun y => (v.1, y.2.1, y.2.2)) fun p hp => keep.2 p hp, hv.1⟩)) fun _ => Ok.cond (fun _ => (ok_int hy.1 (by simp)).bind fun v hv => Ok.guard hi (Ok.pure ⟨modK (fun y => (y.1, v.1, y.2.2)) fun p hp => keep.2 p hp, hv.1⟩)) fun _ => Ok.cond (fun _ => Ok.guard hi ?_) fun _ => Ok.cond (fun _ => Ok.guard (Tc ⟨by omega, by clear hn; omega⟩) ?_) fun _ => Ok.pure ⟨keep, hy.1⟩) fun x hx => Ok.pure hx
 ·refine (Ok.get hml).bind fun p0 hp0 => (ok_int hy.1 (by simp)).bind fun v hv => (Pg hv.1 3).bind fun u hu => (Ok.get hml).bind fun p hp => ?_
  have hpm : p ∈ a := List.mem_of_getElem? hp
  refine Ok.guard (row p hpm (9, v.1, u.1)) (Ok.guard hi (Ok.pure ⟨modK _ fun p' _ => ?_, hu.1⟩))
  show (p.2.2 ++ [_]).length ≤ 1001
  rw [List.length_append, List.length_singleton]
  have := hs p hpm
  clear hn; omega
 ·rw [Int.toNat_zero]
  refine (Ok.get h0).bind fun p hp => (Ok.get h0).bind fun p2 hp2 => Ok.guard (Sy (by clear hn; omega)) (Ok.pure ⟨⟨by rw [List.length_append, List.length_singleton]; exact Nat.le_refl _, fun x hx => ?_⟩, hy.1⟩)
  rcases List.mem_append.1 hx with hx | hx
  ·exact keep.2 x hx
  ·rw [List.mem_singleton.1 hx]
   exact keep.2 p2 (List.mem_of_getElem? hp2)
theorem VE (n : Nat) (hn : PQ ≤ n) {b : List Int} {i q : Int} (hcu : Cu b i) : Ok (Qr n b i q) fun x => (x.1.length ≤ 13 ∧ ∀ p ∈ x.1, p.2.2.length ≤ 1001) ∧ Cu x.2.1 x.2.2.1 := by
 unfold Qr
 obtain ⟨s, ci, ch, e, h1, h2⟩ := WO n hn b hcu.1 i q hcu.2
 have hcu2 : Cu b ci := ⟨hcu.1, h1⟩
 refine (Ok.of (P := fun x => x = (s, b, ci, ch)) e rfl).bind fun x hx => ?_
 subst hx
 have h12 := h2.1
 have h8 : ∀ p ∈ s, p.2.2.length ≤ 8 := fun p hp => (h2.2.2 p hp).2.2.2.2
 refine Ok.bind (P := fun x => (x.2.2.2.length ≤ 13 ∧ ∀ p ∈ x.2.2.2, p.2.2.length ≤ 1001) ∧ Cu x.1 x.2.1) ((Sr hcu2 8).bind fun o ho => Ok.cond (fun _ => (WM n hn ho s (by clear hn; omega) (fun p hp => by have := h8 p hp; clear hn; omega)).bind fun x hx => Ok.pure ⟨⟨by show x.1.length ≤ 13; have := hx.1.1; clear hn; omega, hx.1.2⟩, hx.2⟩) fun _ => Ok.pure ⟨⟨by show s.length ≤ 13; clear hn; omega, fun p hp => by have := h8 p hp; clear hn; omega⟩, ho⟩) fun x hx => Ok.pure hx
theorem VS (n : Nat) (hn : PQ ≤ n) {b : List Int} {i q : Int} (hcu : Cu b i) : Ok (RK n b i q) fun x => x.1.length ≤ 7 ∧ Cu x.2.1 x.2.2.1 := by
 unfold RK
 refine (Pg hcu 7).bind fun r hr => ?_
 have hr2 := hr.2.2 (by omega)
 refine Ok.bind (P := fun z => z.1.length ≤ 7 ∧ Cu z.2.2.1 z.2.2.2.1) (Ok.iter (fun k x => x.2.1 = (k : Int) ∧ x.1.length + k ≤ 7 ∧ Cu x.2.2.1 x.2.2.2.1) (fun k x hx => ?_) (k := r.1.toNat) ⟨by show r.1 = _; have := hr.2.1; clear hn; omega, by simp; clear hn; omega, hr.1⟩ (by unfold PQ at hn; omega)) fun z hz => Ok.pure hz
 obtain ⟨h1, h2, h3⟩ := hx
 unfold S3
 refine Ok.cond (fun hb => ?_) fun hb => Ok.pure (.inr ⟨_, rfl, by show x.1.length ≤ 7; clear hn; omega, h3⟩)
 have hb := of_decide_eq_true hb
 refine Ok.bind (P := fun z => z.1.length ≤ x.1.length + 1 ∧ Cu z.2.1 z.2.2.1) ?_ fun z hz => Ok.pure (.inl ⟨_, rfl, k - 1, ⟨?_, ?_, hz.2⟩, by clear hn; omega⟩)
 ·refine (Pg h3 4).bind fun x1 hx1 => (Pg hx1.1 5).bind fun x2 hx2 => Ok.bind (P := fun v => Cu v.1 v.2.1) ((Sr hx2.1 4).bind fun o ho => Ok.cond (fun _ => (Pg ho 3).bind fun u hu => (Pg hu.1 6).bind fun u2 hu2 => Ok.pure hu2.1) fun _ => Ok.pure ho) fun v hv => ?_
  refine Ok.guard (by rw [decide_eq_true_eq]; simp [DZ]; clear hn; omega) (Ok.guard (by rw [decide_eq_true_eq]; simp [DZ]; clear hn; omega) ?_)
  have htk : ∀ l : List QU, l.length ≤ 1000 → P7 n l = some (Pv l) := fun l hl => SS l (by clear hn; omega) n hn
  rw [htk _ (by simp; clear hn; omega), Option.bind_some]
  refine Ok.bind (P := fun u => Cu u.2.1 u.2.2.1) (Ok.cond (fun _ => Ok.pure hv) fun _ => (Sr hv 20).bind fun o ho => Ok.pure ho) fun u hu => Ok.cond (fun _ => Ok.pure ⟨by simp, hu⟩) fun _ => Ok.pure ⟨by show x.1.length ≤ x.1.length + 1; clear hn; omega, hu⟩
 ·show PF (x.2.1 - 1) = _
  rw [PL (by clear hn; omega) (by clear hn; omega)]; clear hn; omega
 ·have := hz.1
  show z.1.length + (k - 1) ≤ 7
  clear hn; omega
theorem UJ (n : Nat) (hn : PQ ≤ n) (code : List Int) (hl : code.length ≤ 1048576) : Ok (P6 n code) fun x => PR x.1 x.2.1 x.2.2.1 = true ∧ (x.2.2.2.1.length ≤ 13 ∧ ∀ p ∈ x.2.2.2.1, p.2.2.length ≤ 1001) ∧ x.2.2.2.2.1.length ≤ 20 ∧ x.2.2.2.2.2.length ≤ 7 := by
 unfold P6
 obtain ⟨q, e⟩ := Ws code hl n hn
 rw [e, Option.bind_some]
 refine (VF n hn (b := code) (i := 0) ⟨hl, by omega⟩).bind fun f hf => ?_
 refine Ok.bind (P := fun z => z.2.1.length ≤ 20 ∧ Cu z.2.2.1 z.2.2.2.1) (Ok.iter (fun k x => x.1 + (k : Int) = (f.2.2.2.1.length : Int) ∧ 0 ≤ x.1 ∧ x.2.1.length = f.2.2.2.1.length ∧ Cu x.2.2.1 x.2.2.2.1) (fun k x hx => ?_) (k := f.2.2.2.1.length) ⟨by simp, by simp, rfl, hf.2.2⟩ (by have := hf.2.1; unfold PQ at hn; omega)) fun z hz => ?_
 ·obtain ⟨h1, h2, h3, h4⟩ := hx
  have h20 := hf.2.1
  unfold SG
  refine Ok.cond (fun hb => ?_) fun hb => Ok.pure (.inr ⟨_, rfl, by show x.2.1.length ≤ 20; clear hn; omega, h4⟩)
  have hb := of_decide_eq_true hb
  have hi := Tc (xs := x.2.1) ⟨h2, hb⟩
  refine Ok.bind (P := fun z => z.1.length = x.2.1.length ∧ Cu z.2.1 z.2.2.1) ((Sr h4 2).bind fun o ho => Ok.cond (fun _ => Ok.guard hi (Ok.guard (Tc ⟨h2, by rw [List.length_modify]; exact hb⟩) (Ok.pure ⟨by rw [List.length_modify, List.length_modify], ho⟩))) fun _ => Ok.pure ⟨rfl, ho⟩) fun z hz => Ok.pure (.inl ⟨_, rfl, k - 1, ⟨?_, ?_, by show z.1.length = _; rw [hz.1, h3], hz.2⟩, by clear hn; omega⟩)
  ·show PF (x.1 + 1) + _ = _
   rw [PL (by clear hn; omega) (by clear hn; omega)]; clear hn; omega
  ·show 0 ≤ PF (x.1 + 1)
   rw [PL (by clear hn; omega) (by clear hn; omega)]; clear hn; omega
 ·refine (VE n hn hz.2).bind fun s hs => (VS n hn hs.2).bind fun t ht => Ok.pure ⟨hf.1, hs.1, hz.1, ht.1⟩
theorem UG (a : List RM) (ha : a.length ≤ 1048576) (n : Nat) (hn : PQ ≤ n) : Qf n a a = some true := by
 have h1 := QD (Qz a a) a (fun _ => true) (fun i x hi hx => by
  obtain ⟨_, rfl⟩ := List.getElem?_eq_some_iff.1 hx
  have hd : decide ((i : Int) < (a.length : Int)) = true := by rw [decide_eq_true_eq]; clear hn; omega
  simp only [Qz, hd, cond_true, PH hi, Option.bind_some, beq_self_eq_true, Bool.and_self, Bool.not_true, cond_false, PC hi (show a.length ≤ 9223372036854775807 by clear hn; omega)]) (by simp [Qz]) n (by unfold PQ at hn; omega)
 unfold Qf
 have hall : a.all (fun _ => true) = true := by simp
 rw [hall, cond_true] at h1
 simp only [bne_self_eq_false, cond_false, h1, Option.bind_some]
theorem Tm (a : List QU) (ha : a.length ≤ 1048576) (n : Nat) (hn : PQ ≤ n) : QG n a a = some true := by
 have h1 := QD (Qi a a) a (fun _ => true) (fun i x hi hx => by
  obtain ⟨_, rfl⟩ := List.getElem?_eq_some_iff.1 hx
  have hd : decide ((i : Int) < (a.length : Int)) = true := by rw [decide_eq_true_eq]; clear hn; omega
  simp only [Qi, hd, cond_true, PH hi, Option.bind_some, beq_self_eq_true, Bool.and_self, Bool.not_true, cond_false, PC hi (show a.length ≤ 9223372036854775807 by clear hn; omega)]) (by simp [Qi]) n (by unfold PQ at hn; omega)
 unfold QG
 have hall : a.all (fun _ => true) = true := by simp
 rw [hall, cond_true] at h1
 simp only [bne_self_eq_false, cond_false, h1, Option.bind_some]
theorem TB (code : List Int) (hx : (iO je) code) : ∃ n, Qh n code = some true := by
 refine ⟨PQ, ?_⟩
 have hB : PQ ≤ PQ := Nat.le_refl _
 unfold Qh Th
 rw [Option.bind_some]
 by_cases hbig : (code.length : Int) > 1048576
 ·rw [decide_eq_true hbig]; rfl
 rw [decide_eq_false hbig, cond_false]
 obtain ⟨⟨w, h, c, a, crew, l⟩, e0, hf, hs, hcr, hl⟩ := UJ PQ hB code (by omega)
 dsimp only at hf hs hcr hl
 rw [e0, Option.bind_some]
 have hc : c.length ≤ 1048576 := by have := (Vh hf).le; omega
 have hsm : Sv a := ⟨by show a.length ≤ _; omega, fun y hy => by show y.2.2.length ≤ _; have := hs.2 y hy; omega⟩
 dsimp only
 rw [T3 hc hsm (by omega) (by omega) PQ hB, UB hc hsm (by omega) (by omega) PQ hB]
 simp only [Option.bind_some]
 have si := Wm w h c a crew l
 rw [UG _ (by rw [si.l1]; omega) PQ hB, Tm _ (by rw [si.l2]; omega) PQ hB]
 simp only [Option.bind_some, Bool.not_true, cond_false, TN w h c hc crew (by omega) PQ hB, SS l (by omega) PQ hB, TF a hsm PQ hB]
 cases hok : TJ w h c a crew l with
 | false =>
  have hF : TW w h c a crew l = (crew, l) := by unfold TW; rw [hok]; rfl
  rw [hF]
  have hg : (bif !Ri w h c crew then some true else bif !Pv l then some true else some !RX a) = some true := by
   unfold TJ at hok
   cases h1 : Ri w h c crew <;> cases h2 : Pv l <;> cases h3 : RX a <;> rw [h1, h2, h3] at hok <;> first | rfl | cases hok
  rw [hg]
  simp only [Option.bind_some, cond_true, UG crew (by omega) PQ hB, Tm l (by omega) PQ hB]
 | true =>
  unfold TJ at hok
  simp only [Bool.and_eq_true] at hok
  obtain ⟨⟨h1, h2⟩, h3⟩ := hok
  have hF : TW w h c a crew l = sendAll a crew l (TK w h c a crew l) := by unfold TW TJ; rw [h1, h2, h3]; rfl
  have hcw := (U1.1 h2).2
  have htp := UI.1 h3
  have hd := Wn hc hf a crew l
  have hsent := VK (a := a) (crew := crew) (l := l) hd.n1 hd.n2
  rw [hF] at si ⊢
  generalize hR : sendAll a crew l (TK w h c a crew l) = R at hsent si
  obtain ⟨cr, tk⟩ := R
  dsimp only at hsent
  have l1 := hsent.l1
  have l2 := hsent.l2
  have ok1 : Pv tk = true := UI.2 (hsent.tasks (by omega) hd htp hcw)
  have ok2 : Ri w h c cr = true := U1.2 ⟨hf, hsent.crew hc hf hd hcw⟩
  simp only [h1, h2, h3, Option.bind_some, Bool.not_true, cond_false, TD tk (by omega) PQ hB, TL w h c hc cr (by omega) PQ hB, ok1, ok2]
  have a1 := QD (P4 (w, h, c, a, crew, l) (cr, tk)) l (fun _ => true) (fun i x hi hx => by
   obtain ⟨_, rfl⟩ := List.getElem?_eq_some_iff.1 hx
   have hdd : decide ((i : Int) < (l.length : Int)) = true := by rw [decide_eq_true_eq]; omega
   have hi2 : i < tk.length := by omega
   simp only [P4, hdd, cond_true, PJ hi, PJ hi2, Int.toNat_natCast, List.getElem?_eq_getElem hi, List.getElem?_eq_getElem hi2, Option.bind_some, PC hi (show l.length ≤ 9223372036854775807 by omega)]
   cases hq : (l[i].2.2.2 != 1) with
   | false => rfl
   | true =>
    have hne : l[i].2.2.2 ≠ 1 := by simpa using hq
    rcases hsent.tk i hi hi2 with ⟨p, hp, rfl, _⟩ | ⟨_, e⟩
    ·obtain ⟨_, t2, _⟩ := hd.bM (by omega) hp
     exact absurd t2 hne
    ·rw [e]
     simp only [beq_self_eq_true, Bool.and_self, Bool.not_true, cond_true, Option.bind_some, cond_false]) (by simp [P4]) PQ (by unfold PQ; omega)
  have a2 := QD (P5 (w, h, c, a, crew, l) (cr, tk)) crew (fun _ => true) (fun i x hi hx => by
   obtain ⟨_, rfl⟩ := List.getElem?_eq_some_iff.1 hx
   have hdd : decide ((i : Int) < (crew.length : Int)) = true := by rw [decide_eq_true_eq]; omega
   have hi2 : i < cr.length := by omega
   simp only [P5, hdd, cond_true, PJ hi, PJ hi2, Int.toNat_natCast, List.getElem?_eq_getElem hi, List.getElem?_eq_getElem hi2, Option.bind_some, PC hi (show crew.length ≤ 9223372036854775807 by omega)]
   cases hq : (crew[i].2.2.1 != -1) with
   | false => rfl
   | true =>
    have hne : crew[i].2.2.1 ≠ -1 := by simpa using hq
    rcases hsent.rb i hi hi2 with ⟨p, hp, rfl, _⟩ | ⟨_, e⟩
    ·obtain ⟨_, _, _, r3, _⟩ := hd.bL hcw hp
     exact absurd r3 hne
    ·rw [e]
     simp only [beq_self_eq_true, Bool.and_self, Bool.not_true, cond_true, Option.bind_some, cond_false]) (by simp [P5]) PQ (by unfold PQ; omega)
  have e1 : l.all (fun _ => true) = true := by simp
  have e2 : crew.all (fun _ => true) = true := by simp
  rw [e1, cond_true] at a1
  rw [e2, cond_true] at a2
  simp only [a1, a2, Option.bind_some]
end Go.Ev.N
