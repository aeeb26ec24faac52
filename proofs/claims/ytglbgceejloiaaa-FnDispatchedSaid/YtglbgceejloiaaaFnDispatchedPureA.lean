/- FnDispatched, as a plain law aN native forms: what the program's function answers is what the reference's answers. Conditions: none but the lengths' and numbers' bounds. -/
import Derived.Test.YtglbgceejloiaaaFnDispatchedNat
namespace Go.Ev.N
open Go Go.Ev
set_option linter.unusedVariables false
set_option linter.unusedSimpArgs false
theorem PL {n : Int} (h1 : -9223372036854775808 ≤ n) (h2 : n ≤ 9223372036854775807) : PF n = n := by
 unfold PF IntKind.wrap
 simp only [IntKind.bits, IntKind.signed]
 simp
 split <;> omega
theorem iz {i : Int} {m : Nat} (h0 : 0 ≤ i) (h : i < (m : Int)) (hm : m ≤ 9223372036854775807) : PF (i + 1) = i + 1 := PL (by omega) (by omega)
theorem PC {i m : Nat} (h : i < m) (hm : m ≤ 9223372036854775807) : PF ((i : Int) + 1) = ((i + 1 : Nat) : Int) := by rw [PL (by omega) (by omega)]; omega
theorem Pr {α : Type} (xs : List α) (i : Nat) : ND xs (i : Int) = xs[i]? := by
 unfold ND
 rw [if_pos (by omega)]
 simp
theorem PH {α : Type} {xs : List α} {i : Nat} (h : i < xs.length) : ND xs (i : Int) = some xs[i] := by rw [Pr]; exact List.getElem?_eq_getElem h
theorem YR {α : Type} (xs : List α) (i : Nat) : Of xs (i : Int) = decide (i < xs.length) := by
 unfold Of
 have : decide (0 ≤ (i : Int)) = true := by simp
 rw [this, Bool.true_and]
 simp
theorem PJ {α : Type} {xs : List α} {i : Nat} (h : i < xs.length) : Of xs (i : Int) = true := by rw [YR]; simpa using h
theorem QN {α : Type} (l : List α) (n : Nat) (y : α) : CV l n y = l.set n y := Bk l n y
def fI (x : Int) : Prop := IntKind.min .i64 ≤ x ∧ x ≤ IntKind.max .i64
def fB (_ : Bool) : Prop := True
def jd (x : List UInt8) : Prop := List.length x ≤ maxLen
def iO {α : Type} (p : α → Prop) (x : List α) : Prop := List.length x ≤ maxLen ∧ ∀ y, List.Mem y x → p y
def fP {α β : Type} (p : α → Prop) (q : β → Prop) (x : α × β) : Prop := p x.1 ∧ q x.2
theorem jc {x : Int} (h : fI x) : -9223372036854775808 ≤ x ∧ x ≤ 9223372036854775807 := by
 unfold fI IntKind.min IntKind.max at h
 simpa [IntKind.bits, IntKind.signed] using h
theorem gZ {α : Type} {p : α → Prop} {x : List α} (h : iO p x) : x.length ≤ 9223372036854775807 := h.1
theorem gb {α : Type} {p : α → Prop} {x : List α} (h : iO p x) {y : α} (hy : y ∈ x) : p y := h.2 y hy
section
variable {α γ σ β : Type}
theorem RQ {f : α → Option (α ⊕ γ)} {x y : α} (h : f x = some (.inl y)) (n : Nat) : iter (n + 1) f x = iter n f y := by simp [iter, h]
theorem Pd {f : α → Option (α ⊕ γ)} {x : α} {z : γ} (h : f x = some (.inr z)) (n : Nat) : iter (n + 1) f x = some z := by simp [iter, h]
theorem PX (f : α → Option (α ⊕ γ)) (st : Nat → α) (m : Nat) (r : γ) (hs : ∀ i, i < m → f (st i) = some (.inl (st (i + 1)))) (he : f (st m) = some (.inr r)) : ∀ n, m < n → iter n f (st 0) = some r := by
 have key : ∀ d i n, i + d = m → d < n → iter n f (st i) = some r := by
  intro d
  induction d with
  | zero =>
   intro i n hi hn
   obtain ⟨n, rfl⟩ : ∃ k, n = k + 1 := ⟨n - 1, by omega⟩
   have : i = m := by omega
   subst this
   exact Pd he n
  | succ d ih =>
   intro i n hi hn
   obtain ⟨n, rfl⟩ : ∃ k, n = k + 1 := ⟨n - 1, by omega⟩
   rw [RQ (hs i (by omega)) n]
   exact ih (i + 1) n (by omega) (by omega)
 exact fun n hn => key m 0 n (by omega) hn
theorem Ud (f : α → Option (α ⊕ γ)) (st : Nat → σ → α) (xs : List β) (G : List β → σ → γ) (Inv : Nat → σ → Prop)
  (hend : ∀ s, Inv xs.length s → f (st xs.length s) = some (.inr (G [] s)))
  (hstep : ∀ i x l s, i < xs.length → xs[i]? = some x → xs.drop i = x :: l → xs.drop (i + 1) = l → Inv i s → (∃ s', f (st i s) = some (.inl (st (i + 1) s')) ∧ Inv (i + 1) s' ∧ G (x :: l) s = G l s') ∨ f (st i s) = some (.inr (G (x :: l) s))) :
  ∀ n, xs.length < n → ∀ s, Inv 0 s → iter n f (st 0 s) = some (G xs s) := by
 have key : ∀ d i n s, i + d = xs.length → d < n → Inv i s → iter n f (st i s) = some (G (xs.drop i) s) := by
  intro d
  induction d with
  | zero =>
   intro i n s hi hn hI
   obtain ⟨n, rfl⟩ : ∃ k, n = k + 1 := ⟨n - 1, by omega⟩
   have : i = xs.length := by omega
   subst this
   rw [Pd (hend s hI) n, List.drop_length]
  | succ d ih =>
   intro i n s hi hn hI
   obtain ⟨n, rfl⟩ : ∃ k, n = k + 1 := ⟨n - 1, by omega⟩
   have hlt : i < xs.length := by omega
   have hd : xs.drop i = xs[i] :: xs.drop (i + 1) := List.drop_eq_getElem_cons hlt
   rcases hstep i xs[i] (xs.drop (i + 1)) s hlt (List.getElem?_eq_getElem hlt) hd rfl hI with ⟨s', h1, h2, h3⟩ | h1
   ·rw [RQ h1 n, ih (i + 1) n s' (by omega) (by omega) h2, hd, h3]
   ·rw [Pd h1 n, hd]
 intro n hn s hI
 have := key xs.length 0 n s (by omega) hn hI
 simpa using this
theorem Sb (f : Int → Option (Int ⊕ γ)) (xs : List β) (G : List β → List β → γ) (hend : f (xs.length : Int) = some (.inr (G xs [])))
  (hstep : ∀ i x l p, i < xs.length → xs[i]? = some x → xs = p ++ x :: l → p.length = i → p = xs.take i → (f (i : Int) = some (.inl ((i + 1 : Nat) : Int)) ∧ G p (x :: l) = G (p ++ [x]) l) ∨ f (i : Int) = some (.inr (G p (x :: l)))) :
  ∀ n, xs.length < n → iter n f 0 = some (G [] xs) := by
 intro n hn
 refine Ud (σ := List β) f (fun i _ => (i : Int)) xs (fun l p => G p l) (fun i p => p = xs.take i) (fun s hs => ?_) (fun i x l s h1 h2 h3 h4 h5 => ?_) n hn [] (by simp)
 ·have : s = xs := by rw [hs]; simp
  rw [this]; exact hend
 ·have hlen : s.length = i := by rw [h5]; simp; omega
  have hx : xs = s ++ x :: l := by rw [← h3, h5, List.take_append_drop]
  rcases hstep i x l s h1 h2 hx hlen h5 with ⟨q1, q2⟩ | q1
  ·refine .inl ⟨s ++ [x], q1, ?_, q2⟩
   have hxi : x = xs[i] := by rw [List.getElem?_eq_getElem h1] at h2; exact (Option.some.inj h2).symm
   rw [h5, List.take_succ_eq_append_getElem h1, hxi]
  ·exact .inr q1
end
theorem QD {β : Type} (f : Int → Option (Int ⊕ (Int ⊕ Bool))) (xs : List β) (P : β → Bool) (hs : ∀ (i : Nat) (x : β), i < xs.length → xs[i]? = some x → f (i : Int) = some (bif P x then .inl ((i + 1 : Nat) : Int) else .inr (.inr false)))
  (he : f (xs.length : Int) = some (.inr (.inl (xs.length : Int)))) : ∀ n, xs.length < n → iter n f 0 = some (bif xs.all P then .inl (xs.length : Int) else .inr false) := by
 intro n hn
 refine Sb f xs (fun p l => bif l.all P then .inl (xs.length : Int) else .inr false) ?_ ?_ n hn
 ·rw [he]; simp
 ·intro i x l p h1 h2 h3 h4 h5
  rw [hs i x h1 h2]
  cases hp : P x with
  | true => exact .inl ⟨by simp, by simp [hp]⟩
  | false => exact .inr (by simp [hp])
theorem jn (b c : Bool) : (bif b then some true else some c) = some (b || c) := by cases b <;> rfl
theorem jX (b c : Bool) : (bif b then some c else some false) = some (b && c) := by cases b <;> rfl
theorem jY (b c : Bool) : (bif b then some false else some c) = some (!b && c) := by cases b <;> rfl
theorem jo (b c : Bool) : (bif b then some c else some true) = some (!b || c) := by cases b <;> rfl
theorem bI {α : Type} (b : Bool) (x y : α) : (bif b then some x else some y) = some (bif b then x else y) := by cases b <;> rfl
theorem gY {β : Type} (L : Int × List β → Option ((Int × List β) ⊕ (Int × List β))) (xs : List β) (z : β)
  (hL : ∀ (i : Nat) (h : i < xs.length) (out : List β), out.length = xs.length → L ((i : Int), out) = some (.inl (((i + 1 : Nat) : Int), out.set i xs[i]))) (hend : ∀ out, L ((xs.length : Int), out) = some (.inr ((xs.length : Int), out))) :
  ∀ n, xs.length < n → iter n L (0, List.replicate xs.length z) = some ((xs.length : Int), xs) := by
 intro n hn
 have := Ud (σ := List β) L (fun i s => ((i : Int), s)) xs (fun l s => ((xs.length : Int), s.take (xs.length - l.length) ++ l)) (fun i s => s.length = xs.length ∧ s.take i = xs.take i)
  (fun s hs => by
   rw [hend s, show s.take (xs.length - ([] : List β).length) ++ [] = s by simp [← hs.1]])
  (fun i x l s h1 h2 h3 h4 h5 => by
   left
   have hx : xs[i] = x := by rw [List.getElem?_eq_getElem h1] at h2; exact Option.some.inj h2
   refine ⟨s.set i xs[i], hL i h1 s h5.1, ⟨by simp [h5.1], ?_⟩, ?_⟩
   ·rw [List.take_succ_eq_append_getElem h1, List.take_succ_eq_append_getElem (by simp [h5.1]; exact h1)]
    congr 1
    ·rw [List.take_set_of_le (Nat.le_refl i), h5.2]
    ·simp
   ·have hl : l.length = xs.length - (i + 1) := by rw [← h4]; simp
    congr 1
    rw [List.length_cons, hl, show xs.length - (xs.length - (i + 1) + 1) = i by omega, show xs.length - (xs.length - (i + 1)) = i + 1 by omega]
    rw [List.take_succ_eq_append_getElem (by simp [h5.1]; exact h1), List.take_set_of_le (Nat.le_refl i)]
    simp [hx])
  n hn (List.replicate xs.length z) ⟨by simp, by simp⟩
 simpa using this
def PQ : Nat := 18446744073709551616
theorem bK : maxLen = 9223372036854775807 := rfl
def WX (a : List (Int × Int × Int)) : Prop := a.length ≤ 1048576
def bF (a : Int × Int × (List (Int × Int × Int))) : Prop := WX a.2.2
def Sv (a : List (Int × Int × (List (Int × Int × Int)))) : Prop := a.length ≤ 1048576 ∧ ∀ y ∈ a, bF y
theorem Sy {m : Nat} (h : m ≤ 1048576) : decide (m + 1 ≤ DZ) = true := by
 have hm : DZ = 68719476736 := rfl
 rw [hm]; simp; omega
theorem ig {m : Nat} (h : m ≤ 1048576) : decide (m ≤ DZ) = true := by
 have hm : DZ = 68719476736 := rfl
 rw [hm]; simp; omega
theorem Ue {α γ : Type} (f g : α → Option (α ⊕ γ)) (I : Nat → α → Prop) (Q : γ → Prop) (m : Nat)
  (h : ∀ i x, i ≤ m → I i x → g x = f x ∧ ((∃ y, f x = some (.inl y) ∧ I (i + 1) y ∧ i < m) ∨ ∃ r, f x = some (.inr r) ∧ Q r)) :
  ∀ n, m < n → ∀ x, I 0 x → iter n g x = iter n f x ∧ ∃ r, iter n f x = some r ∧ Q r := by
 have key : ∀ d i n x, i + d = m → d < n → I i x → iter n g x = iter n f x ∧ ∃ r, iter n f x = some r ∧ Q r := by
  intro d
  induction d with
  | zero =>
   intro i n x hi hn hI
   obtain ⟨n, rfl⟩ : ∃ k, n = k + 1 := ⟨n - 1, by omega⟩
   obtain ⟨e, h1 | ⟨r, h1, h2⟩⟩ := h i x (by omega) hI
   ·obtain ⟨y, _, _, hlt⟩ := h1; omega
   ·exact ⟨by rw [Pd h1 n, Pd (e.trans h1) n], r, Pd h1 n, h2⟩
  | succ d ih =>
   intro i n x hi hn hI
   obtain ⟨n, rfl⟩ : ∃ k, n = k + 1 := ⟨n - 1, by omega⟩
   obtain ⟨e, ⟨y, h1, h2, _⟩ | ⟨r, h1, h2⟩⟩ := h i x (by omega) hI
   ·obtain ⟨j1, j2⟩ := ih (i + 1) n y (by omega) (by omega) h2
    rw [RQ h1 n, RQ (e.trans h1) n]
    exact ⟨j1, j2⟩
   ·exact ⟨by rw [Pd h1 n, Pd (e.trans h1) n], r, Pd h1 n, h2⟩
 exact fun n hn x hx => key m 0 n x (by omega) hn hx
theorem V5 : PW = PN := rfl
theorem YS (a b c : Int) : PN a b c = some (decide (b ≤ a) && decide (a ≤ c)) := by
 unfold PN
 by_cases h : a ≥ b <;> simp [h]
theorem Sa {α : Type} (f : α → Option (α ⊕ (α ⊕ Bool))) (st : Nat → α) (m : Nat) (P : Nat → Bool) (hs : ∀ i, i < m → f (st i) = some (bif P i then .inl (st (i + 1)) else .inr (.inr false))) (he : f (st m) = some (.inr (.inl (st m)))) :
  ∀ n, m < n → iter n f (st 0) = some (bif (List.range m).all P then .inl (st m) else .inr false) := by
 have key : ∀ d i n, i + d = m → d < n → iter n f (st i) = some (bif (List.range' i d).all P then .inl (st m) else .inr false) := by
  intro d
  induction d with
  | zero =>
   intro i n hi hn
   obtain ⟨n, rfl⟩ : ∃ k, n = k + 1 := ⟨n - 1, by omega⟩
   have : i = m := by omega
   subst this
   rw [Pd he n]; rfl
  | succ d ih =>
   intro i n hi hn
   obtain ⟨n, rfl⟩ : ∃ k, n = k + 1 := ⟨n - 1, by omega⟩
   have hf := hs i (by omega)
   rw [List.range'_succ, List.all_cons]
   cases hp : P i with
   | true => rw [hp, cond_true] at hf; rw [RQ hf n, ih (i + 1) n (by omega) (by omega)]; rfl
   | false => rw [hp, cond_false] at hf; rw [Pd hf n]; rfl
 intro n hn
 rw [List.range_eq_range']
 exact key m 0 n (by omega) hn
theorem bH (f : Int → Option (Int ⊕ Int)) (m : Nat) (P : Nat → Bool) (hs : ∀ i, i < m → f (i : Int) = some (bif P i then .inl ((i + 1 : Nat) : Int) else .inr (i : Int))) (he : f (m : Int) = some (.inr (m : Int))) :
  ∀ n, m < n → ∃ j, j ≤ m ∧ iter n f 0 = some (j : Int) ∧ (∀ i, i < j → P i = true) ∧ (j < m → P j = false) := by
 have key : ∀ d i n, i + d = m → d < n → ∃ j, i ≤ j ∧ j ≤ m ∧ iter n f (i : Int) = some (j : Int) ∧ (∀ q, i ≤ q → q < j → P q = true) ∧ (j < m → P j = false) := by
  intro d
  induction d with
  | zero =>
   intro i n hi hn
   obtain ⟨n, rfl⟩ : ∃ k, n = k + 1 := ⟨n - 1, by omega⟩
   have : i = m := by omega
   subst this
   exact ⟨i, Nat.le_refl _, Nat.le_refl _, Pd he n, fun q h1 h2 => by omega, fun h => by omega⟩
  | succ d ih =>
   intro i n hi hn
   obtain ⟨n, rfl⟩ : ∃ k, n = k + 1 := ⟨n - 1, by omega⟩
   have hf := hs i (by omega)
   cases hp : P i with
   | true =>
    rw [hp, cond_true] at hf
    obtain ⟨j, h1, h2, h3, h4, h5⟩ := ih (i + 1) n (by omega) (by omega)
    refine ⟨j, by omega, h2, by rw [RQ hf n]; exact h3, fun q q1 q2 => ?_, h5⟩
    by_cases e : q = i
    ·subst e; exact hp
    ·exact h4 q (by omega) q2
   | false => rw [hp, cond_false] at hf; exact ⟨i, Nat.le_refl _, by omega, Pd hf n, fun q h1 h2 => by omega, fun _ => hp⟩
 intro n hn
 obtain ⟨j, _, h2, h3, h4, h5⟩ := key m 0 n (by omega) hn
 exact ⟨j, h2, h3, fun i hi => h4 i (by omega) hi, h5⟩
theorem Tp {β : Type} {a : List β} {i j : Nat} {y : β} (h : j < (a.take i).length) (hy : (a.take i)[j]? = some y) : j < i ∧ ∃ h : j < a.length, a[j] = y := by
 rw [List.length_take] at h
 rw [List.getElem?_take, if_pos (by omega), List.getElem?_eq_getElem (by omega)] at hy
 exact ⟨by omega, by omega, Option.some.inj hy⟩
def RF {β : Type} (key : β → Int) (a : List β) (i : Nat) (x : β) : Bool := match i with
 | 0 => true
 | j + 1 => match a[j]? with
  | some y => !decide (key y ≥ key x)
  | none => true
theorem T8 {β γ : Type} (key : β → Int) (a : List β) (x : β) (i : Nat) (hi : i < a.length) (hl : a.length ≤ 1048576) (F : Bool → Option γ) :
  (bif decide ((i : Int) > 0) then (ND a (PF ((i : Int) - 1))).bind (fun y => F (decide (key y ≥ key x))) else F false) = F (!RF key a i x) := by
 cases i with
 | zero => rfl
 | succ j =>
  have hw : PF (((j + 1 : Nat) : Int) - 1) = (j : Int) := by rw [PL (by omega) (by omega)]; omega
  rw [show decide (((j + 1 : Nat) : Int) > 0) = true by rw [decide_eq_true_eq]; omega, cond_true, hw, PH (by omega), Option.bind_some]
  simp only [RF, List.getElem?_eq_getElem (show j < a.length by omega), Bool.not_not]
def SC (a b c : Int) : Bool := decide (b ≤ a) && decide (a ≤ c)
theorem TE (a b c : Int) : PN a b c = some (SC a b c) := YS a b c
def PR (w h : Int) (c : List Int) : Bool := SC w 1 10 && SC h 1 10 && ((c.length : Int) == PF (w * h)) && c.all fun k => SC k 0 4
theorem QY (w h : Int) (c : List Int) (hl : c.length ≤ 1048576) (n : Nat) (hn : PQ ≤ n) : QS n w h c = some (PR w h c) := by
 have := QD (RT c) c (fun k => SC k 0 4) (fun i x h1 h2 => by
  have hx : c[i] = x := by rw [List.getElem?_eq_getElem h1] at h2; exact Option.some.inj h2
  simp only [RT, PH h1, hx, Option.bind_some, PC h1 (by omega), TE]
  rw [show decide ((i : Int) < (c.length : Int)) = true by simpa using h1]
  cases SC x 0 4 <;> rfl) (by simp [RT]) n (by unfold PQ at hn; omega)
 unfold QS PR
 rw [this]
 simp only [TE, Option.bind_some, bne]
 cases SC w 1 10 <;> cases SC h 1 10 <;> cases ((c.length : Int) == PF (w * h)) <;> cases (c.all fun k => SC k 0 4) <;> rfl
theorem UW : Qw = QS := rfl
def QV (c : List Int) (i : Int) : Bool := SC i 0 ((c.length : Int) - 1) && (c.getD i.toNat 0 != 0)
theorem Ua {c : List Int} {i : Int} (h : SC i 0 ((c.length : Int) - 1) = true) : ∃ m : Nat, i = (m : Int) ∧ m < c.length := by
 unfold SC at h
 simp only [Bool.and_eq_true, decide_eq_true_eq] at h
 exact ⟨i.toNat, by omega, by omega⟩
theorem Un (w h : Int) (c : List Int) (hl : c.length ≤ 1048576) (i : Int) : Rf w h c i = some (QV c i) := by
 unfold Rf QV
 rw [show PF ((c.length : Int) - 1) = (c.length : Int) - 1 from PL (by omega) (by omega)]
 simp only [TE, Option.bind_some]
 cases hb : SC i 0 ((c.length : Int) - 1) with
 | false => rfl
 | true =>
  obtain ⟨m, rfl, hm⟩ := Ua hb
  simp [PH hm, hm]
theorem Qn (w h : Int) (c : List Int) (hl : c.length ≤ 1048576) (hf : PR w h c = true) (i : Int) (n : Nat) (hn : PQ ≤ n) : ∃ k, QO n w h c i = some k ∧ (k != 0) = QV c i := by
 unfold QO Qp QV
 rw [UW, QY w h c hl n hn, hf, show PF ((c.length : Int) - 1) = (c.length : Int) - 1 from PL (by omega) (by omega)]
 simp only [V5, TE, Option.bind_some]
 cases hb : SC i 0 ((c.length : Int) - 1) with
 | false => exact ⟨0, rfl, rfl⟩
 | true =>
  obtain ⟨m, rfl, hm⟩ := Ua hb
  exact ⟨c[m], by simp [PH hm], by simp [hm]⟩
theorem T4 (w h : Int) (c : List Int) (hl : c.length ≤ 1048576) (hf : PR w h c = true) (x : O9) (n : Nat) (hn : PQ ≤ n) : Qe n w h c x.1 x.2.1 x.2.2.1 x.2.2.2.1 x.2.2.2.2 = some (QV c x.2.1 && (x.2.2.1 == -1 || QV c x.2.2.1)) := by
 unfold Qe
 obtain ⟨k1, e1, q1⟩ := Qn w h c hl hf x.2.1 n hn
 obtain ⟨k2, e2, q2⟩ := Qn w h c hl hf x.2.2.1 n hn
 simp only [e1, e2, Option.bind_some, q1, q2]
 cases QV c x.2.1 <;> cases (x.2.2.1 == -1) <;> cases QV c x.2.2.1 <;> rfl
def YU (c : List Int) (crew : List (Int × Int × Int × Bool × Int)) (i : Nat) : Bool := match crew[i]? with
 | none => false
 | some x => SC x.1 1 99 && QV c x.2.1 && (x.2.2.1 == -1 || QV c x.2.2.1) && SC x.2.2.2.2 0 1000000 && RF (·.1) crew i x && (crew.take i).all fun y => !(y.2.1 == x.2.1)
def Ri (w h : Int) (c : List Int) (crew : List (Int × Int × Int × Bool × Int)) : Bool := PR w h c && decide (crew.length ≤ 20) && (List.range crew.length).all (YU c crew)
theorem Ul (crew : List (Int × Int × Int × Bool × Int)) (hl : crew.length ≤ 1048576) (i : Nat) (hi : i < crew.length) (x : Int × Int × Int × Bool × Int) (n : Nat) (hn : PQ ≤ n) :
  iter n (QH crew (i : Int) x) 0 = some (bif (crew.take i).all fun y => !(y.2.1 == x.2.1) then .inl (i : Int) else .inr false) := by
 have hlen : (crew.take i).length = i := by simp; omega
 have := QD (QH crew (i : Int) x) (crew.take i) (fun y => !(y.2.1 == x.2.1)) (fun j y h1 h2 => by
  obtain ⟨hj, hj2, hy⟩ := Tp h1 h2
  simp only [QH, PH hj2, hy, Option.bind_some, PC hj2 (by omega)]
  rw [show decide ((j : Int) < (i : Int)) = true by rw [decide_eq_true_eq]; omega]
  cases (y.2.1 == x.2.1) <;> rfl) (by first | (simp [QH, hlen]; done) | (simp [QH, hlen]; omega)) n (by unfold PQ at hn; omega)
 rw [hlen] at this
 exact this
theorem TN (w h : Int) (c : List Int) (hc : c.length ≤ 1048576) (crew : List (Int × Int × Int × Bool × Int)) (hl : crew.length ≤ 1048576) (n : Nat) (hn : PQ ≤ n) : Rc n w h c crew = some (Ri w h c crew) := by
 have := Sa (Rr n w h c crew) (fun i => (i : Int)) crew.length (YU c crew) (fun i hi => by
  have hp : (bif decide ((i : Int) > 0) then (ND crew (PF ((i : Int) - 1))).bind (fun y => some (decide (y.1 ≥ crew[i].1))) else some false) = some (!RF (·.1) crew i crew[i]) := T8 (·.1) crew crew[i] i hi hl some
  simp only [Rr, YU, PH hi, List.getElem?_eq_getElem hi, Option.bind_some, TE, Un w h c hc, PC hi (by omega), hp, Ul crew hl i hi crew[i] n hn, bne]
  rw [show decide ((i : Int) < (crew.length : Int)) = true by simpa using hi]
  generalize crew[i] = x
  generalize ((crew.take i).all fun y => !(y.2.1 == x.2.1)) = b6
  generalize RF (·.1) crew i x = b5
  generalize SC x.2.2.2.2 0 1000000 = b4
  generalize (x.2.2.1 == -1) = b3
  generalize QV c x.2.2.1 = b7
  generalize QV c x.2.1 = b2
  generalize SC x.1 1 99 = b1
  cases b1 <;> cases b2 <;> cases b3 <;> cases b4 <;> cases b5 <;> cases b6 <;> cases b7 <;> rfl) (by simp [Rr]) n (by unfold PQ at hn; omega)
 unfold Rc Ri
 rw [show ((0 : Nat) : Int) = 0 from rfl] at this
 rw [this, QY w h c hc n hn]
 rw [show decide ((crew.length : Int) > 20) = !decide (crew.length ≤ 20) by by_cases q : crew.length ≤ 20 <;> simp [q] <;> omega]
 cases PR w h c <;> cases decide (crew.length ≤ 20) <;> cases (List.range crew.length).all (YU c crew) <;> rfl
theorem UX (crew : List (Int × Int × Int × Bool × Int)) (hl : crew.length ≤ 1048576) (i : Nat) (hi : i < crew.length) (x : Int × Int × Int × Bool × Int) (n : Nat) (hn : PQ ≤ n) :
  iter n (Qm crew (i : Int) x) 0 = some (bif (crew.take i).all fun y => !(y.2.1 == x.2.1) then .inl (i : Int) else .inr false) := by
 have hsub : sub crew (Int.toNat (0 : Int)) (Int.toNat (i : Int)) = crew.take i := by simp [sub]
 have hlen : (crew.take i).length = i := by simp; omega
 have := QD (Qm crew (i : Int) x) (crew.take i) (fun y => !(y.2.1 == x.2.1)) (fun j y h1 h2 => by
  obtain ⟨hj, hj2, hy⟩ := Tp h1 h2
  simp only [Qm, hsub, Pr, h2, Option.bind_some, PC hj2 (by omega), hlen]
  rw [show decide ((j : Int) < (i : Int)) = true by rw [decide_eq_true_eq]; omega]
  cases (y.2.1 == x.2.1) <;> rfl) (by simp only [Qm, hsub, hlen]; simp) n (by unfold PQ at hn; omega)
 rw [hlen] at this
 exact this
theorem TL (w h : Int) (c : List Int) (hc : c.length ≤ 1048576) (crew : List (Int × Int × Int × Bool × Int)) (hl : crew.length ≤ 1048576) (n : Nat) (hn : PQ ≤ n) : Ra n w h c crew = some (Ri w h c crew) := by
 unfold Ra Ri
 rw [UW, QY w h c hc n hn]
 rw [show decide ((crew.length : Int) > 20) = !decide (crew.length ≤ 20) by by_cases q : crew.length ≤ 20 <;> simp [q] <;> omega]
 cases hf : PR w h c with
 | false => rfl
 | true =>
  have := Sa (Rl n w h c crew) (fun i => (i : Int)) crew.length (YU c crew) (fun i hi => by
   have hp : ∀ C : Option Bool, (bif decide ((i : Int) > 0) then (ND crew (PF ((i : Int) - 1))).bind (fun y => bif decide (y.1 ≥ crew[i].1) then some true else C) else C) = bif !RF (·.1) crew i crew[i] then some true else C := fun C => T8 (·.1) crew crew[i] i hi hl fun b => bif b then some true else C
   have hr : (decide (0 ≤ (0 : Int)) && decide ((0 : Int) ≤ (i : Int)) && decide ((i : Int) ≤ (crew.length : Int))) = true := by simp; omega
   simp only [Rl, YU, PH hi, List.getElem?_eq_getElem hi, Option.bind_some, V5, TE, T4 w h c hc hf _ n hn, PC hi (by omega), hp, UX crew hl i hi crew[i] n hn, hr]
   rw [show decide ((i : Int) < (crew.length : Int)) = true by simpa using hi]
   generalize crew[i] = x
   generalize ((crew.take i).all fun y => !(y.2.1 == x.2.1)) = b6
   generalize RF (·.1) crew i x = b5
   generalize SC x.2.2.2.2 0 1000000 = b4
   generalize (x.2.2.1 == -1) = b3
   generalize QV c x.2.2.1 = b7
   generalize QV c x.2.1 = b2
   generalize SC x.1 1 99 = b1
   cases b1 <;> cases b2 <;> cases b3 <;> cases b4 <;> cases b5 <;> cases b6 <;> cases b7 <;> rfl) (by simp [Rl]) n (by unfold PQ at hn; omega)
  rw [show ((0 : Nat) : Int) = 0 from rfl] at this
  rw [this]
  cases decide (crew.length ≤ 20) <;> cases (List.range crew.length).all (YU c crew) <;> rfl
section
variable {α β γ δ : Type}
theorem eD {f : α → Option (α ⊕ γ)} {g : β → Option (β ⊕ δ)} (R : α → β → Prop) (S : γ → δ → Prop) (μ : α → Nat)
  (h : ∀ x y, R x y → (∃ z w, f x = some (.inr z) ∧ g y = some (.inr w) ∧ S z w) ∨ (∃ x' y', f x = some (.inl x') ∧ g y = some (.inl y') ∧ R x' y' ∧ μ x' < μ x)) :
  ∀ n x y, R x y → μ x < n → ∃ z w, S z w ∧ iter n f x = some z ∧ iter n g y = some w := by
 intro n
 induction n with
 | zero => intro x y _ hn; omega
 | succ n ih =>
  intro x y hR hn
  rcases h x y hR with ⟨z, w, h1, h2, h3⟩ | ⟨x', y', h1, h2, h3, h4⟩
  ·exact ⟨z, w, h3, Pd h1 n, Pd h2 n⟩
  ·obtain ⟨z, w, h5, h6, h7⟩ := ih x' y' h3 (by omega)
   exact ⟨z, w, h5, (RQ h1 n).trans h6, (RQ h2 n).trans h7⟩
theorem U3 {f : α → Option (α ⊕ γ)} {g : β → Option (β ⊕ δ)} (R : α → β → Prop) (S : γ → δ → Prop) (μ : α → Nat)
  (h : ∀ x y, R x y → (∃ z w, f x = some (.inr z) ∧ g y = some (.inr w) ∧ S z w) ∨ (∃ x' y', f x = some (.inl x') ∧ g y = some (.inl y') ∧ R x' y' ∧ μ x' < μ x)) :
  ∀ n n' x y, R x y → μ x < n → μ x < n' → ∃ z w, S z w ∧ iter n f x = some z ∧ iter n' g y = some w := by
 intro n
 induction n with
 | zero => intro n' x y _ hn; omega
 | succ n ih =>
  intro n' x y hR hn hn'
  obtain ⟨n', rfl⟩ : ∃ k, n' = k + 1 := ⟨n' - 1, by omega⟩
  rcases h x y hR with ⟨z, w, h1, h2, h3⟩ | ⟨x', y', h1, h2, h3, h4⟩
  ·exact ⟨z, w, h3, Pd h1 n, Pd h2 n'⟩
  ·obtain ⟨z, w, h5, h6, h7⟩ := ih n' x' y' h3 (by omega) (by omega)
   exact ⟨z, w, h5, (RQ h1 n).trans h6, (RQ h2 n').trans h7⟩
theorem Uc {f : α → Option (α ⊕ γ)} (R : α → Prop) (S : γ → Prop) (μ : α → Nat)
  (h : ∀ x, R x → (∃ z, f x = some (.inr z) ∧ S z) ∨ (∃ x', f x = some (.inl x') ∧ R x' ∧ μ x' < μ x)) :
  ∀ n x, R x → μ x < n → ∃ z, S z ∧ iter n f x = some z := by
 intro n
 induction n with
 | zero => intro x _ hn; omega
 | succ n ih =>
  intro x hR hn
  rcases h x hR with ⟨z, h1, h3⟩ | ⟨x', h1, h3, h4⟩
  ·exact ⟨z, h3, Pd h1 n⟩
  ·obtain ⟨z, h5, h6⟩ := ih x' h3 (by omega)
   exact ⟨z, h5, (RQ h1 n).trans h6⟩
end
theorem UE (L : List Int × Int → Option ((List Int × Int) ⊕ (List Int × Int))) (xs : List Int) (P : Int → Bool)
  (hstep : ∀ (i : Nat) (x : Int) (out : List Int), xs[i]? = some x → i < xs.length → out.length ≤ i → L (out, (i : Int)) = some (.inl ((bif P x then out ++ [x] else out), ((i + 1 : Nat) : Int))))
  (hend : ∀ out, L (out, (xs.length : Int)) = some (.inr (out, (xs.length : Int)))) (n : Nat) (hn : xs.length < n) : iter n L ([], 0) = some (xs.filter P, (xs.length : Int)) := by
 obtain ⟨z, h1, h2⟩ := Uc (f := L) (fun s => ∃ i ≤ xs.length, s = ((xs.take i).filter P, (i : Int))) (fun s => s = (xs.filter P, (xs.length : Int))) (fun s => xs.length - s.2.toNat) (fun s hs => by
  obtain ⟨i, hi, rfl⟩ := hs
  by_cases hi2 : i = xs.length
  ·subst hi2
   exact .inl ⟨_, hend _, by rw [List.take_length]⟩
  ·have hi' : i < xs.length := by omega
   have hx : xs[i]? = some xs[i] := List.getElem?_eq_getElem hi'
   have hlen : ((xs.take i).filter P).length ≤ i := Nat.le_trans (List.length_filter_le _ _) (by simp; omega)
   refine .inr ⟨_, hstep i _ _ hx hi' hlen, ⟨i + 1, by omega, ?_⟩, by show xs.length - ((i + 1 : Nat) : Int).toNat < xs.length - (i : Int).toNat; omega⟩
   rw [List.take_succ_eq_append_getElem hi', List.filter_append]
   cases hp : P xs[i] <;> simp [hp]) n ([], 0) ⟨0, by omega, by simp⟩ (by simpa using hn)
 rw [h2, h1]
def Qu (w h i : Int) : List Int := (bif decide (i.tdiv w > 0) then [i - w] else []) ++ (bif decide (i.tmod w > 0) then [i - 1] else []) ++ (bif decide (i.tmod w < w - 1) then [i + 1] else []) ++ (bif decide (i.tdiv w < h - 1) then [i + w] else [])
structure Cell (w h i : Int) : Prop where
 w1 : 1 ≤ w
 w2 : w ≤ 10
 h1 : 1 ≤ h
 h2 : h ≤ 10
 i1 : 0 ≤ i
 i2 : i < w * h
theorem Xh {w h : Int} (h1 : 1 ≤ w) (h2 : w ≤ 10) (h3 : 1 ≤ h) (h4 : h ≤ 10) : w * h ≤ 100 := by
 have := Int.mul_le_mul h2 h4 (by omega) (by omega : (0 : Int) ≤ 10)
 omega
theorem VR {w h i : Int} (c : Cell w h i) : ∃ q r, i = w * q + r ∧ 0 ≤ r ∧ r < w ∧ 0 ≤ q ∧ q ≤ h - 1 ∧ i.tdiv w = q ∧ i.tmod w = r ∧ 0 ≤ w * q ∧ w * q + w ≤ w * h := by
 obtain ⟨w1, w2, h1, h2, i1, i2⟩ := c
 have e1 : i.tdiv w = i / w := Int.tdiv_eq_ediv_of_nonneg i1
 have e2 : i.tmod w = i % w := Int.tmod_eq_emod_of_nonneg i1
 have e3 := Int.mul_ediv_add_emod i w
 have r1 := Int.emod_nonneg i (show w ≠ 0 by omega)
 have r2 := Int.emod_lt_of_pos i (show 0 < w by omega)
 have q1 : 0 ≤ i / w := Int.ediv_nonneg i1 (by omega)
 have q2 : i / w < h := Int.ediv_lt_of_lt_mul (by omega) (by rw [Int.mul_comm]; exact i2)
 refine ⟨i / w, i % w, e3.symm, r1, r2, q1, by omega, e1, e2, Int.mul_nonneg (by omega) q1, ?_⟩
 have := Int.mul_le_mul_of_nonneg_left (show i / w + 1 ≤ h by omega) (show (0 : Int) ≤ w by omega)
 rw [Int.mul_add, Int.mul_one] at this
 exact this
theorem Tt {w h i : Int} (c : Cell w h i) : (∀ y ∈ Qu w h i, 0 ≤ y ∧ y < w * h ∧ y ≠ i) ∧ (Qu w h i).Nodup ∧ (Qu w h i).length ≤ 4 := by
 obtain ⟨q, r, e, r1, r2, q1, q2, e1, e2, m1, m2⟩ := VR c
 obtain ⟨w1, w2, h1, h2, i1, i2⟩ := c
 unfold Qu
 rw [e1, e2]
 have g1 : 0 < q → w ≤ w * q := fun h => by
  have := Int.mul_le_mul_of_nonneg_left (show (1 : Int) ≤ q by omega) (show (0 : Int) ≤ w by omega)
  omega
 have g2 : q < h - 1 → w * q + w + w ≤ w * h := fun hq => by
  have := Int.mul_le_mul_of_nonneg_left (show q + 1 + 1 ≤ h by omega) (show (0 : Int) ≤ w by omega)
  rw [Int.mul_add, Int.mul_add, Int.mul_one] at this
  omega
 have G1 : q ≤ 0 ∨ w ≤ w * q := by
  by_cases hq : 0 < q
  ·exact .inr (g1 hq)
  ·exact .inl (by omega)
 have G2 : h - 1 ≤ q ∨ w * q + w + w ≤ w * h := by
  by_cases hq : q < h - 1
  ·exact .inr (g2 hq)
  ·exact .inl (by omega)
 clear g1 g2
 generalize w * q = m at *
 generalize w * h = t at *
 subst e
 by_cases a1 : q > 0 <;> by_cases a2 : r > 0 <;> by_cases a3 : r < w - 1 <;> by_cases a4 : q < h - 1 <;> simp [a1, a2, a3, a4] <;> omega
theorem Uz {w h i : Int} (c : Cell w h i) (cs : List Int) : Qg w h cs i = some (Qu w h i) := by
 obtain ⟨q, r, e, r1, r2, q1, q2, e1, e2, m1, m2⟩ := VR c
 obtain ⟨w1, w2, h1, h2, i1, i2⟩ := c
 have hb := Xh w1 w2 h1 h2
 unfold Qg Qu
 rw [e1, e2]
 rw [show (w == 0) = false by rw [beq_eq_false_iff_ne]; omega]
 simp only [cond_false, PL (show -9223372036854775808 ≤ q by omega) (by omega), PL (show -9223372036854775808 ≤ i - w by omega) (by omega), PL (show -9223372036854775808 ≤ i - 1 by omega) (by omega), PL (show -9223372036854775808 ≤ i + 1 by omega) (by omega), PL (show -9223372036854775808 ≤ i + w by omega) (by omega), PL (show -9223372036854775808 ≤ w - 1 by omega) (by omega), PL (show -9223372036854775808 ≤ h - 1 by omega) (by omega)]
 generalize decide (q > 0) = b1
 generalize decide (r > 0) = b2
 generalize decide (r < w - 1) = b3
 generalize decide (q < h - 1) = b4
 cases b1 <;> cases b2 <;> cases b3 <;> cases b4 <;> rfl
theorem WD : Sp = Qg := rfl
def QF (c : List Int) (i : Int) : Int := c.getD i.toNat 0
theorem Uf {c : List Int} {i : Int} (h : 0 ≤ i ∧ i < (c.length : Int)) : ND c i = some (QF c i) := by
 obtain ⟨m, rfl⟩ : ∃ m : Nat, i = m := ⟨i.toNat, by omega⟩
 rw [PH (by omega)]
 simp [QF, List.getD, List.getElem?_eq_getElem (show m < c.length by omega)]
structure Xi (w h : Int) (c : List Int) : Prop where
 w1 : 1 ≤ w
 w2 : w ≤ 10
 h1 : 1 ≤ h
 h2 : h ≤ 10
 len : (c.length : Int) = w * h
theorem Xi.cell {w h : Int} {c : List Int} (f : Xi w h c) {i : Int} (hi : 0 ≤ i ∧ i < (c.length : Int)) : Cell w h i := ⟨f.w1, f.w2, f.h1, f.h2, hi.1, f.len ▸ hi.2⟩
theorem Xi.le {w h : Int} {c : List Int} (f : Xi w h c) : c.length ≤ 100 := by
 have := Xh f.w1 f.w2 f.h1 f.h2
 have := f.len
 omega
theorem Vh {w h : Int} {c : List Int} (hf : PR w h c = true) : Xi w h c := by
 unfold PR SC at hf
 simp only [Bool.and_eq_true, decide_eq_true_eq, beq_iff_eq] at hf
 obtain ⟨⟨⟨⟨a, b⟩, ⟨d, e⟩⟩, g⟩, _⟩ := hf
 have h1 := Xh a b d e
 have h2 : 0 ≤ w * h := Int.mul_nonneg (by omega) (by omega)
 rw [PL (by omega) (by omega)] at g
 exact ⟨a, b, d, e, g⟩
def U4 (w h : Int) (c : List Int) (i : Int) (a : Bool) : List Int := (Qu w h i).filter fun k => QF c k != 0 && !(a && QF c k == 2)
theorem YT {w h : Int} {c : List Int} (f : Xi w h c) {i : Int} (hi : 0 ≤ i ∧ i < (c.length : Int)) (a : Bool) : (∀ y ∈ U4 w h c i a, (0 ≤ y ∧ y < (c.length : Int)) ∧ y ≠ i) ∧ (U4 w h c i a).Nodup ∧ (U4 w h c i a).length ≤ 4 := by
 obtain ⟨h1, h2, h3⟩ := Tt (f.cell hi)
 refine ⟨fun y hy => ?_, h2.filter _, Nat.le_trans (List.length_filter_le _ _) h3⟩
 have := h1 y (List.mem_filter.1 hy).1
 rw [f.len]
 exact ⟨⟨this.1, this.2.1⟩, this.2.2⟩
theorem VN {w h : Int} {c : List Int} (f : Xi w h c) {i : Int} (hi : 0 ≤ i ∧ i < (c.length : Int)) (a : Bool) (n : Nat) (hn : PQ ≤ n) : SJ n w h c i a = some (U4 w h c i a) := by
 obtain ⟨h1, h2, h3⟩ := Tt (f.cell hi)
 have := UE (Rv c a (Qu w h i)) (Qu w h i) (fun k => QF c k != 0 && !(a && QF c k == 2)) (fun j x out hx hj ho => by
  have hxm := h1 x (List.mem_of_getElem? hx)
  have hm : decide (out.length + [x].length ≤ DZ) = true := by rw [decide_eq_true_eq]; simp [DZ]; omega
  simp only [Rv, PJ hj, Int.toNat_natCast, hx, Option.bind_some, Uf (c := c) (i := x) (by rw [f.len]; exact ⟨hxm.1, hxm.2.1⟩), PC hj (by omega), cond_true, hm]
  rw [show decide ((j : Int) < ((Qu w h i).length : Int)) = true by simpa using hj]
  simp only [bne]
  generalize (QF c x == 0) = b1
  generalize (QF c x == 2) = b2
  cases a <;> cases b1 <;> cases b2 <;> rfl) (fun out => by simp [Rv]) n (by unfold PQ at hn; omega)
 unfold SJ
 rw [Uz (f.cell hi), Option.bind_some, this]
 rfl
theorem VC {w h : Int} {c : List Int} (f : Xi w h c) {i : Int} (hi : 0 ≤ i ∧ i < (c.length : Int)) (a : Bool) (n : Nat) (hn : PQ ≤ n) : S0 n w h c i a = some (U4 w h c i a) := by
 obtain ⟨h1, h2, h3⟩ := Tt (f.cell hi)
 have := UE (SY c a (Qu w h i)) (Qu w h i) (fun k => QF c k != 0 && !(a && QF c k == 2)) (fun j x out hx hj ho => by
  have hxm := h1 x (List.mem_of_getElem? hx)
  have hm : decide (out.length + [x].length ≤ DZ) = true := by rw [decide_eq_true_eq]; simp [DZ]; omega
  simp only [SY, PJ hj, Int.toNat_natCast, hx, Option.bind_some, Uf (c := c) (i := x) (by rw [f.len]; exact ⟨hxm.1, hxm.2.1⟩), PC hj (by omega), cond_true, hm]
  rw [show decide ((j : Int) < ((Qu w h i).length : Int)) = true by simpa using hj]
  simp only [bne]
  generalize (QF c x == 0) = b1
  generalize (QF c x == 2) = b2
  cases a <;> cases b1 <;> cases b2 <;> rfl) (fun out => by simp [SY]) n (by unfold PQ at hn; omega)
 unfold S0
 rw [WD, Uz (f.cell hi), Option.bind_some, this]
 rfl
structure FJ (N : Nat) (q out : List Int) : Prop where
 len : out.length = N
 jI : ∀ y ∈ q, 0 ≤ y ∧ y < (N : Int)
 Mt : ∀ x ∈ out, -1 ≤ x ∧ x < (q.length : Int)
 O5 : q.length + out.countP (fun x => decide (x < 0)) = N
theorem VO {out : List Int} {v : Int} (h : 0 ≤ v ∧ v < (out.length : Int)) : Of out v = true ∧ out[v.toNat]? = some (QF out v) ∧ QF out v ∈ out := by
 obtain ⟨m, rfl⟩ : ∃ m : Nat, v = m := ⟨v.toNat, by omega⟩
 have hm : m < out.length := by omega
 have e : QF out (m : Int) = out[m] := by simp [QF, List.getD, List.getElem?_eq_getElem hm]
 refine ⟨PJ hm, ?_, ?_⟩
 ·rw [e, Int.toNat_natCast]; exact List.getElem?_eq_getElem hm
 ·rw [e]; exact List.getElem_mem hm
theorem FJ.fT {N : Nat} {q out : List Int} (h : FJ N q out) {v a : Int} (hv : 0 ≤ v ∧ v < (N : Int)) (ha : 0 ≤ a ∧ a < (N : Int)) (hneg : QF out v < 0) : FJ N (q ++ [v]) (out.set v.toNat (QF out a + 1)) := by
 obtain ⟨_, e1, _⟩ := VO (out := out) (v := v) (by rw [h.len]; exact hv)
 obtain ⟨_, _, m2⟩ := VO (out := out) (v := a) (by rw [h.len]; exact ha)
 have hb := h.Mt _ m2
 obtain ⟨hvl, e2⟩ := List.getElem?_eq_some_iff.1 e1
 refine ⟨by simp [h.len], fun y hy => ?_, fun x hx => ?_, ?_⟩
 ·rcases List.mem_append.1 hy with hy | hy
  ·exact h.jI y hy
  ·rw [List.mem_singleton.1 hy]; exact hv
 ·rcases List.mem_or_eq_of_mem_set hx with hx | rfl
  ·have := h.Mt x hx
   simp; omega
  ·simp; omega
 ·have hc := h.O5
  rw [List.countP_set hvl, e2]
  have hp : 0 < out.countP (fun x => decide (x < 0)) := List.countP_pos_iff.2 ⟨QF out v, by rw [← e2]; exact List.getElem_mem hvl, by simpa using hneg⟩
  simp only [hneg, decide_true, if_true, List.length_append, List.length_singleton]
  rw [if_neg (by simp; omega)]
  omega
theorem Wp (w h : Int) (c : List Int) (N : Nat) (hN : N ≤ 100) (a : Int) (ha : 0 ≤ a ∧ a < (N : Int)) (nl : List Int) (hnl : ∀ y ∈ nl, 0 ≤ y ∧ y < (N : Int)) (hl4 : nl.length ≤ 4) (k : Nat) (n n' : Nat) (hn : PQ ≤ n) (hn' : PQ ≤ n') (q out : List Int) (hk : k ≤ q.length) (hJ : FJ N q out) :
  ∃ q' out', iter n (P1 a nl) (q, 0, out) = some (q', (nl.length : Int), out') ∧ iter n' (Qd a nl) (q.drop k, 0, out) = some (q'.drop k, (nl.length : Int), out') ∧ k ≤ q'.length ∧ FJ N q' out' := by
 obtain ⟨z, w', ⟨q', out', rfl, rfl, h1, h2⟩, h3, h4⟩ := U3 (f := P1 a nl) (g := Qd a nl)
  (fun x y => ∃ (i : Nat) (q out : List Int), x = (q, (i : Int), out) ∧ y = (q.drop k, (i : Int), out) ∧ i ≤ nl.length ∧ k ≤ q.length ∧ FJ N q out)
  (fun z w => ∃ (q out : List Int), z = (q, (nl.length : Int), out) ∧ w = (q.drop k, (nl.length : Int), out) ∧ k ≤ q.length ∧ FJ N q out)
  (fun x => nl.length - x.2.1.toNat) (fun x y hR => by
   obtain ⟨i, q, out, rfl, rfl, hi, hk, hJ⟩ := hR
   by_cases hi2 : i = nl.length
   ·subst hi2
    exact .inl ⟨(q, (nl.length : Int), out), (q.drop k, (nl.length : Int), out), by simp [P1], by simp [Qd], q, out, rfl, rfl, hk, hJ⟩
   ·right
    have hi' : i < nl.length := by omega
    have hv := hnl nl[i] (List.getElem_mem hi')
    have hx : nl[i]? = some nl[i] := List.getElem?_eq_getElem hi'
    generalize nl[i] = v at hv hx
    obtain ⟨v1, v2, v3⟩ := VO (out := out) (v := v) (by rw [hJ.len]; exact hv)
    obtain ⟨a1, a2, a3⟩ := VO (out := out) (v := a) (by rw [hJ.len]; exact ha)
    have hd : decide ((i : Int) < (nl.length : Int)) = true := by simpa using hi'
    have hq : q.length ≤ 100 := by have := hJ.O5; omega
    have hw : PF (QF out a + 1) = QF out a + 1 := by
     have := hJ.Mt _ a3
     exact PL (by omega) (by omega)
    by_cases hneg : QF out v < 0
    ·refine ⟨(q ++ [v], ((i + 1 : Nat) : Int), out.set v.toNat (QF out a + 1)), ((q ++ [v]).drop k, ((i + 1 : Nat) : Int), out.set v.toNat (QF out a + 1)), ?_, ?_, ⟨i + 1, _, _, rfl, rfl, by omega, by simp; omega, hJ.fT hv ha hneg⟩, by show nl.length - ((i + 1 : Nat) : Int).toNat < nl.length - (i : Int).toNat; omega⟩
     ·have hm : decide (q.length + [v].length ≤ DZ) = true := by rw [decide_eq_true_eq]; simp [DZ]; omega
      simp only [P1, hd, PJ hi', Int.toNat_natCast, hx, Option.bind_some, v1, v2, a1, a2, decide_eq_true hneg, cond_true, hm, hw, PC hi' (by omega), QN]
     ·have hm : decide ((q.drop k).length + [v].length ≤ DZ) = true := by rw [decide_eq_true_eq]; simp [DZ]; omega
      simp only [Qd, hd, PJ hi', Int.toNat_natCast, hx, Option.bind_some, v1, v2, a1, a2, decide_eq_true hneg, cond_true, hm, hw, PC hi' (by omega), QN]
      rw [List.drop_append_of_le_length hk]
    ·refine ⟨(q, ((i + 1 : Nat) : Int), out), (q.drop k, ((i + 1 : Nat) : Int), out), ?_, ?_, ⟨i + 1, _, _, rfl, rfl, by omega, hk, hJ⟩, by show nl.length - ((i + 1 : Nat) : Int).toNat < nl.length - (i : Int).toNat; omega⟩
     ·simp only [P1, hd, PJ hi', Int.toNat_natCast, hx, Option.bind_some, v1, v2, decide_eq_false hneg, cond_true, cond_false, PC hi' (by omega)]
     ·simp only [Qd, hd, PJ hi', Int.toNat_natCast, hx, Option.bind_some, v1, v2, decide_eq_false hneg, cond_true, cond_false, PC hi' (by omega)]) n n' (q, 0, out) (q.drop k, 0, out) ⟨0, q, out, rfl, rfl, by omega, hk, hJ⟩ (by show nl.length - (0 : Int).toNat < n; unfold PQ at hn; omega) (by show nl.length - (0 : Int).toNat < n'; unfold PQ at hn'; omega)
 exact ⟨q', out', h3, h4, h1, h2⟩
theorem Vf (c : List Int) (hl : c.length ≤ 100) (n : Nat) (hn : PQ ≤ n) : iter n (Qb c) ([], 0) = some (List.replicate c.length (-1), (c.length : Int)) := by
 have := PX (Qb c) (fun i => (List.replicate i (-1), (i : Int))) c.length (List.replicate c.length (-1), (c.length : Int)) (fun i hi => by
  have hm : decide ((List.replicate i (-1 : Int)).length + [(-1 : Int)].length ≤ DZ) = true := by rw [decide_eq_true_eq]; simp [DZ]; omega
  simp only [Qb, hm, PC hi (by omega)]
  rw [show decide ((i : Int) < (c.length : Int)) = true by simpa using hi]
  simp [List.replicate_succ']) (by simp [Qb]) n (by unfold PQ at hn; omega)
 simpa using this
theorem Wv (L : Int × List Int → Option ((Int × List Int) ⊕ (Int × List Int))) (N : Nat) (x : Int) (hL : ∀ (i : Nat) (out : List Int), i < N → out.length = N → L ((i : Int), out) = some (.inl (((i + 1 : Nat) : Int), out.set i x))) (he : ∀ out, out.length = N → L ((N : Int), out) = some (.inr ((N : Int), out))) (n : Nat) (hn : N < n) :
  iter n L (0, List.replicate N 0) = some ((N : Int), List.replicate N x) := by
 have := PX L (fun i => ((i : Int), List.replicate i x ++ List.replicate (N - i) 0)) N ((N : Int), List.replicate N x) (fun i hi => by
  rw [hL i _ hi (by simp; omega)]
  congr 3
  rw [List.set_append_right _ _ (by simp), List.length_replicate, Nat.sub_self, List.replicate_succ']
  rw [show N - i = (N - (i + 1)) + 1 by omega, List.replicate_succ, List.set_cons_zero, List.append_assoc]
  rfl) (by rw [he _ (by simp)]; simp) n hn
 simpa using this
theorem UN (c : List Int) (hl : c.length ≤ 100) (n : Nat) (hn : PQ ≤ n) : iter n (R8 c) (0, List.replicate (Int.toNat (c.length : Int)) 0) = some ((c.length : Int), List.replicate c.length (-1)) := by
 rw [Int.toNat_natCast]
 refine Wv _ c.length (-1) (fun i out hi ho => ?_) (fun out ho => by simp [R8]) n (by unfold PQ at hn; omega)
 simp only [R8, PJ (ho ▸ hi), PC hi (by omega), QN, Int.toNat_natCast, cond_true, List.length_replicate]
 rw [show decide ((i : Int) < (c.length : Int)) = true by simpa using hi]
 rfl
theorem Tx {w h : Int} {c : List Int} (f : Xi w h c) {t : Int} (ht : 0 ≤ t ∧ t < (c.length : Int)) (b : Bool) (n n' : Nat) (hn : PQ ≤ n) (hn' : PQ ≤ n') :
  ∃ F, Q3 n w h c t b = some F ∧ R3 n' w h c t b = some F ∧ F.length = c.length ∧ ∀ x ∈ F, -1 ≤ x ∧ x < (c.length : Int) := by
 have hN := f.le
 have hB : 1048576 ≤ n := Nat.le_trans (by decide) hn
 have hB' : 1048576 ≤ n' := Nat.le_trans (by decide) hn'
 have hJ0 : FJ c.length [t] ((List.replicate c.length (-1)).set t.toNat 0) := by
  have hr : ∀ x ∈ List.replicate c.length (-1 : Int), x = -1 := fun x hx => (List.mem_replicate.1 hx).2
  have htl : t.toNat < (List.replicate c.length (-1 : Int)).length := by simp; omega
  refine ⟨by simp, fun y hy => by rw [List.mem_singleton.1 hy]; exact ht, fun x hx => ?_, ?_⟩
  ·rcases List.mem_or_eq_of_mem_set hx with hx | rfl
   ·rw [hr x hx]; simp
   ·simp
  ·rw [List.countP_set htl]
   have : (List.replicate c.length (-1 : Int)).countP (fun x => decide (x < 0)) = c.length := by rw [List.countP_replicate]; simp
   rw [this]
   simp; omega
 obtain ⟨z, w', ⟨F, hz, hw, h1, h2⟩, h3, h4⟩ := U3 (f := Qc n w h c t b) (g := RA n' w h c t b)
  (fun x y => ∃ (k : Nat) (q out : List Int), x = (q, (k : Int), out) ∧ y = (q.drop k, out) ∧ k ≤ q.length ∧ FJ c.length q out)
  (fun z w => ∃ F, z.2.2 = F ∧ w.2 = F ∧ F.length = c.length ∧ ∀ x ∈ F, -1 ≤ x ∧ x < (c.length : Int))
  (fun x => c.length - x.2.1.toNat) (fun x y hR => by
   obtain ⟨k, q, out, rfl, rfl, hk, hJ⟩ := hR
   have hq : q.length ≤ c.length := by have := hJ.O5; omega
   by_cases hk2 : k = q.length
   ·subst hk2
    refine .inl ⟨(q, (q.length : Int), out), ([], out), by simp [Qc], by simp [RA], out, rfl, rfl, hJ.len, fun x hx => ?_⟩
    have := hJ.Mt x hx
    omega
   ·right
    have hk' : k < q.length := by omega
    have hx : q[k]? = some q[k] := List.getElem?_eq_getElem hk'
    have hv := hJ.jI q[k] (List.getElem_mem hk')
    have hdc : q.drop k = q[k] :: q.drop (k + 1) := List.drop_eq_getElem_cons hk'
    generalize q[k] = v at hx hv hdc
    have hd : decide ((k : Int) < (q.length : Int)) = true := by simpa using hk'
    have hlen1 : decide (((q.drop k).length : Int) > 0) = true := by rw [decide_eq_true_eq]; simp; omega
    have hsub : sub (q.drop k) (Int.toNat 1) (Int.toNat ((q.drop k).length : Int)) = q.drop (k + 1) := by
     rw [hdc]; simp [sub, List.take_of_length_le]
    have hrng : (decide ((0 : Nat) ≤ 1) && decide ((1 : Int) ≤ ((q.drop k).length : Int)) && decide (((q.drop k).length : Int) ≤ ((q.drop k).length : Int))) = true := by simp; omega
    have h0 : (q.drop k)[Int.toNat 0]? = some v := by rw [hdc]; rfl
    have hi0 : Of (q.drop k) 0 = true := by rw [hdc]; exact PJ (i := 0) (by simp)
    have hwk := PC hk' (by omega)
    have hkc := Uf (c := c) (i := v) (by exact hv)
    by_cases hskip : (b && v != t && QF c v == 2) = true
    ·refine ⟨(q, ((k + 1 : Nat) : Int), out), (q.drop (k + 1), out), ?_, ?_, ⟨k + 1, q, out, rfl, rfl, by omega, hJ⟩, by show c.length - ((k + 1 : Nat) : Int).toNat < c.length - (k : Int).toNat; omega⟩
     ·simp only [Qc, hd, PJ hk', Int.toNat_natCast, hx, Option.bind_some, cond_true, hkc, hwk]
      rw [Bool.and_eq_true, Bool.and_eq_true] at hskip
      rw [hskip.1.1, hskip.1.2, hskip.2]
      rfl
     ·simp only [RA, hlen1, hi0, h0, Option.bind_some, cond_true, hrng, hkc, hsub]
      rw [Bool.and_eq_true, Bool.and_eq_true] at hskip
      rw [hskip.1.1, hskip.1.2, hskip.2]
      rfl
    ·obtain ⟨n1, n2, n3⟩ := YT f hv false
     obtain ⟨q', out', e1, e2, e3, e4⟩ := Wp w h c c.length hN v hv (U4 w h c v false) (fun y hy => (n1 y hy).1) n3 (k + 1) n n' hn hn' q out (by omega) hJ
     refine ⟨(q', ((k + 1 : Nat) : Int), out'), (q'.drop (k + 1), out'), ?_, ?_, ⟨k + 1, q', out', rfl, rfl, e3, e4⟩, by show c.length - ((k + 1 : Nat) : Int).toNat < c.length - (k : Int).toNat; omega⟩
     ·simp only [Qc, hd, PJ hk', Int.toNat_natCast, hx, Option.bind_some, cond_true, hkc, hwk, VN f hv false n hn, e1]
      generalize (v != t) = b2 at hskip
      generalize (QF c v == 2) = b3 at hskip
      cases b <;> cases b2 <;> cases b3 <;> first | rfl | (exact absurd rfl hskip) | (exact absurd hskip (by decide))
     ·simp only [RA, hlen1, hi0, h0, Option.bind_some, cond_true, hrng, hkc, hsub, VC f hv false n' hn', e2]
      generalize (v != t) = b2 at hskip
      generalize (QF c v == 2) = b3 at hskip
      cases b <;> cases b2 <;> cases b3 <;> first | rfl | (exact absurd rfl hskip) | (exact absurd hskip (by decide))) n n' ([t], 0, (List.replicate c.length (-1)).set t.toNat 0) ([t], (List.replicate c.length (-1)).set t.toNat 0) ⟨0, [t], _, rfl, rfl, by simp, hJ0⟩ (by show c.length - (0 : Int).toNat < n; omega) (by show c.length - (0 : Int).toNat < n'; omega)
 have hin : Of (List.replicate c.length (-1 : Int)) t = true := (VO (by simpa using ht)).1
 have hmr : (decide ((0 : Int) ≤ (c.length : Int)) && decide ((c.length : Int) ≤ (DZ : Int)) && decide ((c.length : Int) = (c.length : Int))) = true := by
  have hm : (c.length : Int) ≤ (DZ : Int) := by unfold DZ; omega
  rw [decide_eq_true hm]; simp
 refine ⟨F, ?_, ?_, h1, h2⟩
 ·unfold Q3
  rw [Vf c hN n hn, Option.bind_some]
  dsimp only
  rw [hin, QN, h3, ← hz]; rfl
 ·unfold R3
  rw [hmr, UN c hN n' hn', cond_true, Option.bind_some]
  dsimp only
  rw [hin, QN, h4, ← hw]; rfl
theorem Wq {w h : Int} {c : List Int} (f : Xi w h c) {t : Int} (ht : 0 ≤ t ∧ t < (c.length : Int)) (b : Bool) :
  ∃ F, (∀ n, PQ ≤ n → Q3 n w h c t b = some F ∧ R3 n w h c t b = some F) ∧ F.length = c.length ∧ ∀ x ∈ F, -1 ≤ x ∧ x < (c.length : Int) := by
 obtain ⟨F, h1, h2, h3, h4⟩ := Tx f ht b PQ PQ (Nat.le_refl _) (Nat.le_refl _)
 refine ⟨F, fun n hn => ⟨?_, ?_⟩, h3, h4⟩
 ·obtain ⟨G, g1, g2, _⟩ := Tx f ht b n PQ hn (Nat.le_refl _)
  rw [h2] at g2; injection g2 with g2
  rw [g1, g2]
 ·obtain ⟨G, g1, g2, _⟩ := Tx f ht b PQ n (Nat.le_refl _) hn
  rw [h1] at g1; injection g1 with g1
  rw [g2, g1]
theorem VM (a b c : Int) : PN a b c = some (decide (b ≤ a) && decide (a ≤ c)) := by
 unfold PN
 by_cases h : a ≥ b <;> simp [h]
theorem UZ (a b c : Int) : PW a b c = some (decide (b ≤ a) && decide (a ≤ c)) := by
 unfold PW
 by_cases h : a ≥ b <;> simp [h]
def P9 (t : Int × Int × Int × Int) : Bool :=
 decide (1 ≤ t.1) && decide (t.1 ≤ 1000000) && decide (1 ≤ t.2.1) && decide (t.2.1 ≤ 999) && decide (1 ≤ t.2.2.2) && decide (t.2.2.2 ≤ 4) && decide (0 ≤ t.2.2.1) && decide (t.2.2.1 ≤ 99) && ((t.2.2.1 == 0) == (t.2.2.2 == 1))
def PV (t u : Int × Int × Int × Int) : Bool :=
 (t.1 == u.1 && t.2.1 == u.2.1) || (!(t.2.2.2 == 1) && (t.2.2.1 == u.2.2.1 || (t.2.1 == u.2.1 && !(u.2.2.2 == 1))))
def QA : List (Int × Int × Int × Int) → List (Int × Int × Int × Int) → Bool
 | _, [] => true
 | p, x :: l => P9 x && p.all (fun u => !PV x u) && QA (p ++ [x]) l
def Pv (l : List (Int × Int × Int × Int)) : Bool := decide (l.length ≤ 60) && QA [] l
theorem sub_zero {α : Type} (xs : List α) (i : Nat) : sub xs (Int.toNat (0 : Int)) (Int.toNat (i : Int)) = xs.take i := by simp [sub]
theorem Vi (x u : Int × Int × Int × Int) (i : Nat) (a : List (Int × Int × Int × Int)) (k : Nat) (hk : k < (a.take i).length) (hu : (a.take i)[k]? = some u) (hm : a.length ≤ 1048576) :
  Px a i x k = some (bif PV x u then .inr (.inr false) else .inl ((k + 1 : Nat) : Int)) := by
 unfold Px
 rw [sub_zero, Pr, hu]
 have hk' : decide ((k : Int) < ((a.take i).length : Int)) = true := by simp only [decide_eq_true_eq]; omega
 rw [hk', cond_true, PC hk (by simp; omega)]
 simp only [Option.bind_some, PV]
 cases (x.1 == u.1) <;> cases (x.2.1 == u.2.1) <;> cases (x.2.2.2 == 1) <;> cases (x.2.2.1 == u.2.2.1) <;> cases hq : (u.2.2.2 == 1) <;> simp [bne, hq]
theorem Vu (x u : Int × Int × Int × Int) (i : Nat) (a : List (Int × Int × Int × Int)) (k : Nat) (hk : k < i) (hu : a[k]? = some u) (hi : i ≤ a.length) (hm : a.length ≤ 1048576) :
  P0 a i x k = some (bif PV x u then .inr (.inr false) else .inl ((k + 1 : Nat) : Int)) := by
 unfold P0
 rw [Pr, hu]
 have hk' : decide ((k : Int) < (i : Int)) = true := by simp only [decide_eq_true_eq]; omega
 rw [hk', cond_true, PC hk (by omega)]
 simp only [Option.bind_some, PV]
 rw [BEq.comm (a := u.1), BEq.comm (a := u.2.1), BEq.comm (a := u.2.2.1)]
 cases (x.1 == u.1) <;> cases (x.2.1 == u.2.1) <;> cases (x.2.2.2 == 1) <;> cases (x.2.2.1 == u.2.2.1) <;> cases hq : (u.2.2.2 == 1) <;> simp [bne, hq]
theorem Vk (x : Int × Int × Int × Int) (i : Nat) (a : List (Int × Int × Int × Int)) (hi : i ≤ a.length) (hm : a.length ≤ 1048576) (n : Nat) (hn : PQ ≤ n) :
  iter n (Px a i x) 0 = some (bif (a.take i).all (fun u => !PV x u) then .inl (i : Int) else .inr false) := by
 have hl : (a.take i).length = i := by simp; omega
 refine (Sb (Px a i x) (a.take i) (fun p l => bif l.all (fun u => !PV x u) then .inl (i : Int) else .inr false) ?_ ?_ n (by unfold PQ at hn; omega))
 ·unfold Px
  rw [sub_zero, hl]; simp [hl]
 ·intro k u l p h1 h2 h3 h4 h5
  rw [Vi x u i a k h1 h2 hm]
  cases hc : PV x u with
  | true => exact .inr (by simp [hc])
  | false => exact .inl ⟨by simp, by simp [hc]⟩
theorem Vw (x : Int × Int × Int × Int) (i : Nat) (a : List (Int × Int × Int × Int)) (hi : i ≤ a.length) (hm : a.length ≤ 1048576) (n : Nat) (hn : PQ ≤ n) :
  iter n (P0 a i x) 0 = some (bif (a.take i).all (fun u => !PV x u) then .inl (i : Int) else .inr false) := by
 have hl : (a.take i).length = i := by simp; omega
 refine (Sb (P0 a i x) (a.take i) (fun p l => bif l.all (fun u => !PV x u) then .inl (i : Int) else .inr false) ?_ ?_ n (by unfold PQ at hn; omega))
 ·unfold P0
  rw [hl]; simp
 ·intro k u l p h1 h2 h3 h4 h5
  have hk : k < i := by omega
  rw [Vu x u i a k hk (by rw [List.getElem?_take_of_lt hk] at h2; exact h2) hi hm]
  cases hc : PV x u with
  | true => exact .inr (by simp [hc])
  | false => exact .inl ⟨by simp, by simp [hc]⟩
theorem WH (x : Int × Int × Int × Int) :
  ((PW x.1 1 1000000).bind fun (x3 : Bool) => bif (!x3) then some true else (PW x.2.1 1 999).bind fun (x4 : Bool) => bif (!x4) then some true else (PW x.2.2.2 1 4).bind fun (x5 : Bool) => bif (!x5) then some true else
   bif ((x.2.2.2 == 1) != (x.2.2.1 == 0)) then some true else (PW x.2.2.1 0 99).bind fun (x6 : Bool) => some (!x6)) = some (!P9 x) := by
 simp only [UZ, Option.bind_some, P9]
 cases decide (1 ≤ x.1) <;> cases decide (x.1 ≤ 1000000) <;> cases decide (1 ≤ x.2.1) <;> cases decide (x.2.1 ≤ 999) <;> cases decide (1 ≤ x.2.2.2) <;> cases decide (x.2.2.2 ≤ 4) <;> simp <;>
  cases (x.2.2.2 == 1) <;> cases (x.2.2.1 == 0) <;> simp
theorem WY (x : Int × Int × Int × Int) :
  ((PN x.1 1 1000000).bind fun (x3 : Bool) => bif (!x3) then some true else (PN x.2.1 1 999).bind fun (x4 : Bool) => bif (!x4) then some true else (PN x.2.2.2 1 4).bind fun (x5 : Bool) => bif (!x5) then some true else
   (PN x.2.2.1 0 99).bind fun (x6 : Bool) => bif (!x6) then some true else some ((x.2.2.1 == 0) != (x.2.2.2 == 1))) = some (!P9 x) := by
 simp only [VM, Option.bind_some, P9]
 cases decide (1 ≤ x.1) <;> cases decide (x.1 ≤ 1000000) <;> cases decide (1 ≤ x.2.1) <;> cases decide (x.2.1 ≤ 999) <;> cases decide (1 ≤ x.2.2.2) <;> cases decide (x.2.2.2 ≤ 4) <;> simp <;>
  cases (x.2.2.2 == 1) <;> cases (x.2.2.1 == 0) <;> cases decide (0 ≤ x.2.2.1) <;> cases decide (x.2.2.1 ≤ 99) <;> simp
theorem TD (a : List (Int × Int × Int × Int)) (hm : a.length ≤ 1048576) (n : Nat) (hn : PQ ≤ n) : Qx n a = some (Pv a) := by
 have key : iter n (Pw n a) 0 = some (bif QA [] a then .inl (a.length : Int) else .inr false) := by
  refine Sb (Pw n a) a (fun p l => bif QA p l then .inl (a.length : Int) else .inr false) ?_ ?_ n (by unfold PQ at hn; omega)
  ·unfold Pw; simp [QA]
  ·intro i x l p h1 h2 h3 h4 h5
   have e : Pw n a i = some (bif P9 x && p.all (fun u => !PV x u) then .inl ((i + 1 : Nat) : Int) else .inr (.inr false)) := by
    unfold Pw
    rw [show decide ((i : Int) < (a.length : Int)) = true by simp only [decide_eq_true_eq]; omega, cond_true, Pr, h2]
    simp only [Option.bind_some, WH, PC h1 (by omega)]
    cases hg : P9 x with
    | false => simp
    | true =>
     rw [show (decide ((0 : Int) ≤ (0 : Int)) && decide ((0 : Int) ≤ (i : Int)) && decide ((i : Int) ≤ (a.length : Int))) = true by simp; omega]
     rw [Vk x i a (by omega) hm n hn, ← h5]
     cases hp : p.all (fun u => !PV x u) <;> simp
   rw [e]
   cases hg : (P9 x && p.all fun u => !PV x u) with
   | true => exact .inl ⟨by simp, by simp [QA, hg]⟩
   | false => exact .inr (by simp [QA, hg])
 unfold Qx
 rw [key]
 cases h : QA [] a with
 | true => simp [Pv, h]; omega
 | false => simp [Pv, h]
theorem SS (a : List (Int × Int × Int × Int)) (hm : a.length ≤ 1048576) (n : Nat) (hn : PQ ≤ n) : P7 n a = some (Pv a) := by
 have key : iter n (Pz n a) 0 = some (bif QA [] a then .inl (a.length : Int) else .inr false) := by
  refine Sb (Pz n a) a (fun p l => bif QA p l then .inl (a.length : Int) else .inr false) ?_ ?_ n (by unfold PQ at hn; omega)
  ·unfold Pz; simp [QA]
  ·intro i x l p h1 h2 h3 h4 h5
   have e : Pz n a i = some (bif P9 x && p.all (fun u => !PV x u) then .inl ((i + 1 : Nat) : Int) else .inr (.inr false)) := by
    unfold Pz
    rw [show decide ((i : Int) < (a.length : Int)) = true by simp only [decide_eq_true_eq]; omega, cond_true, Pr, h2]
    simp only [Option.bind_some, WY, PC h1 (by omega)]
    cases hg : P9 x with
    | false => simp
    | true =>
     rw [Vw x i a (by omega) hm n hn, ← h5]
     cases hp : p.all (fun u => !PV x u) <;> simp
   rw [e]
   cases hg : (P9 x && p.all fun u => !PV x u) with
   | true => exact .inl ⟨by simp, by simp [QA, hg]⟩
   | false => exact .inr (by simp [QA, hg])
 unfold P7
 rw [key]
 by_cases hl : a.length ≤ 60
 ·rw [show decide ((a.length : Int) > 60) = false by simp; omega]
  cases h : QA [] a with
  | true => simp [Pv, h, hl]
  | false => simp [Pv, h]
 ·rw [show decide ((a.length : Int) > 60) = true by simp; omega]
  simp [Pv, hl]
def Sw (l : List Qj) (i : Nat) : Bool := match l[i]? with
 | none => false
 | some x => SC x.1 1 50 && SC x.2.1 1 1000 && SC x.2.2 0 x.2.1 && RF (·.1) l i x
def Rz (l : List Qj) : Bool := (List.range l.length).all (Sw l) && decide (l.length ≤ 8)
abbrev Q6 := Int × Int × List Qj
def UF (a : List Q6) (i : Nat) : Bool := match a[i]? with
 | none => false
 | some x => SC x.1 1 999 && SC x.2.1 0 99 && Rz x.2.2 && RF (·.1) a i x && (a.take i).all fun y => !(y.2.1 == x.2.1)
def RX (a : List Q6) : Bool := decide (a.length ≤ 12) && (List.range a.length).all (UF a)
theorem UC (l : List Qj) (hl : l.length ≤ 1048576) (n : Nat) (hn : PQ ≤ n) : RL n l = some (Rz l) := by
 have := Sa (Q4 l) (fun i => (i : Int)) l.length (Sw l) (fun i hi => by
  have hp : (bif decide ((i : Int) > 0) then (ND l (PF ((i : Int) - 1))).bind (fun y => some (decide (y.1 ≥ l[i].1))) else some false) = some (!RF (·.1) l i l[i]) := T8 (·.1) l l[i] i hi hl some
  simp only [Q4, Sw, PH hi, List.getElem?_eq_getElem hi, Option.bind_some, TE, PC hi (by omega), hp]
  rw [show decide ((i : Int) < (l.length : Int)) = true by simpa using hi]
  generalize l[i] = x
  generalize RF (·.1) l i x = b4
  cases SC x.1 1 50 <;> cases SC x.2.1 1 1000 <;> cases SC x.2.2 0 x.2.1 <;> cases b4 <;> rfl) (by simp [Q4]) n (by unfold PQ at hn; omega)
 unfold RL Rz
 rw [show ((0 : Nat) : Int) = 0 from rfl] at this
 rw [this]
 rw [show decide ((l.length : Int) ≤ 8) = decide (l.length ≤ 8) by rw [Bool.eq_iff_iff]; simp; omega]
 cases (List.range l.length).all (Sw l) <;> rfl
theorem UO (a : List Q6) (hl : a.length ≤ 1048576) (i : Nat) (hi : i < a.length) (x : Q6) (n : Nat) (hn : PQ ≤ n) :
  iter n (Py a (i : Int) x) 0 = some (bif (a.take i).all fun y => !(y.2.1 == x.2.1) then .inl (i : Int) else .inr false) := by
 have hlen : (a.take i).length = i := by simp; omega
 have := QD (Py a (i : Int) x) (a.take i) (fun y => !(y.2.1 == x.2.1)) (fun j y h1 h2 => by
  obtain ⟨hj, hj2, hy⟩ := Tp h1 h2
  simp only [Py, PH hj2, hy, Option.bind_some, PC hj2 (by omega)]
  rw [show decide ((j : Int) < (i : Int)) = true by rw [decide_eq_true_eq]; omega]
  cases (y.2.1 == x.2.1) <;> rfl) (by first | (simp [Py, hlen]; done) | (simp [Py, hlen]; omega)) n (by unfold PQ at hn; omega)
 rw [hlen] at this
 exact this
theorem TF (a : List Q6) (hs : Sv a) (n : Nat) (hn : PQ ≤ n) : Q1 n a = some (RX a) := by
 have hl : a.length ≤ 1048576 := hs.1
 have := Sa (RU n a) (fun i => (i : Int)) a.length (UF a) (fun i hi => by
  have hp : (bif decide ((i : Int) > 0) then (ND a (PF ((i : Int) - 1))).bind (fun y => some (decide (y.1 ≥ a[i].1))) else some false) = some (!RF (·.1) a i a[i]) := T8 (·.1) a a[i] i hi hl some
  have hst : a[i].2.2.length ≤ 1048576 := hs.2 _ (List.getElem_mem hi)
  simp only [RU, UF, PH hi, List.getElem?_eq_getElem hi, Option.bind_some, TE, PC hi (by omega), hp, UC _ hst n hn, UO a hl i hi a[i] n hn]
  rw [show decide ((i : Int) < (a.length : Int)) = true by simpa using hi]
  generalize a[i] = x
  generalize ((a.take i).all fun y => !(y.2.1 == x.2.1)) = b5
  generalize RF (·.1) a i x = b4
  cases SC x.1 1 999 <;> cases SC x.2.1 0 99 <;> cases Rz x.2.2 <;> cases b4 <;> cases b5 <;> rfl) (by simp [RU]) n (by unfold PQ at hn; omega)
 unfold Q1 RX
 rw [show ((0 : Nat) : Int) = 0 from rfl] at this
 rw [this, show decide ((a.length : Int) > 12) = !decide (a.length ≤ 12) by by_cases q : a.length ≤ 12 <;> simp [q] <;> omega]
 cases decide (a.length ≤ 12) <;> cases (List.range a.length).all (UF a) <;> rfl
theorem Uu (p : Q6) (hl : p.2.2.length ≤ 1048576) (n : Nat) (hn : PQ ≤ n) : Sf n p.1 p.2.1 p.2.2 = some (SC p.1 1 999 && SC p.2.1 0 99 && Rz p.2.2) := by
 have := Sa (SA p.2.2) (fun i => (i : Int)) p.2.2.length (Sw p.2.2) (fun i hi => by
  have hp : (bif decide ((i : Int) > 0) then (ND p.2.2 (PF ((i : Int) - 1))).bind (fun y => some (decide (y.1 ≥ p.2.2[i].1))) else some false) = some (!RF (·.1) p.2.2 i p.2.2[i]) := T8 (·.1) p.2.2 p.2.2[i] i hi hl some
  simp only [SA, Sw, PH hi, List.getElem?_eq_getElem hi, Option.bind_some, V5, TE, PC hi (by omega), hp]
  rw [show decide ((i : Int) < (p.2.2.length : Int)) = true by simpa using hi]
  generalize p.2.2[i] = x
  generalize RF (·.1) p.2.2 i x = b4
  cases SC x.1 1 50 <;> cases SC x.2.1 1 1000 <;> cases SC x.2.2 0 x.2.1 <;> cases b4 <;> rfl) (by simp [SA]) n (by unfold PQ at hn; omega)
 unfold Sf Rz
 rw [show ((0 : Nat) : Int) = 0 from rfl] at this
 rw [this, show decide ((p.2.2.length : Int) > 8) = !decide (p.2.2.length ≤ 8) by by_cases q : p.2.2.length ≤ 8 <;> simp [q] <;> omega]
 simp only [V5, TE, Option.bind_some]
 cases SC p.1 1 999 <;> cases SC p.2.1 0 99 <;> cases decide (p.2.2.length ≤ 8) <;> cases (List.range p.2.2.length).all (Sw p.2.2) <;> rfl
theorem UL (a : List Q6) (hl : a.length ≤ 1048576) (i : Nat) (hi : i < a.length) (x : Q6) (n : Nat) (hn : PQ ≤ n) :
  iter n (QX a (i : Int) x) 0 = some (bif (a.take i).all fun y => !(y.2.1 == x.2.1) then .inl (i : Int) else .inr false) := by
 have hsub : sub a (Int.toNat (0 : Int)) (Int.toNat (i : Int)) = a.take i := by simp [sub]
 have hlen : (a.take i).length = i := by simp; omega
 have := QD (QX a (i : Int) x) (a.take i) (fun y => !(y.2.1 == x.2.1)) (fun j y h1 h2 => by
  obtain ⟨hj, hj2, hy⟩ := Tp h1 h2
  simp only [QX, hsub, Pr, h2, Option.bind_some, PC hj2 (by omega), hlen]
  rw [show decide ((j : Int) < (i : Int)) = true by rw [decide_eq_true_eq]; omega]
  cases (y.2.1 == x.2.1) <;> rfl) (by simp only [QX, hsub, hlen]; simp) n (by unfold PQ at hn; omega)
 rw [hlen] at this
 exact this
theorem UM (a : List Q6) (hs : Sv a) (n : Nat) (hn : PQ ≤ n) : Rm n a = some (RX a) := by
 have hl : a.length ≤ 1048576 := hs.1
 have := Sa (RP n a) (fun i => (i : Int)) a.length (UF a) (fun i hi => by
  have hp : (bif decide ((i : Int) > 0) then (ND a (PF ((i : Int) - 1))).bind (fun y => some (decide (y.1 ≥ a[i].1))) else some false) = some (!RF (·.1) a i a[i]) := T8 (·.1) a a[i] i hi hl some
  have hst : a[i].2.2.length ≤ 1048576 := hs.2 _ (List.getElem_mem hi)
  have hr : (decide (0 ≤ (0 : Int)) && decide ((0 : Int) ≤ (i : Int)) && decide ((i : Int) ≤ (a.length : Int))) = true := by simp; omega
  simp only [RP, UF, PH hi, List.getElem?_eq_getElem hi, Option.bind_some, PC hi (by omega), hp, Uu _ hst n hn, UL a hl i hi a[i] n hn, hr]
  rw [show decide ((i : Int) < (a.length : Int)) = true by simpa using hi]
  generalize a[i] = x
  generalize ((a.take i).all fun y => !(y.2.1 == x.2.1)) = b5
  generalize RF (·.1) a i x = b4
  cases SC x.1 1 999 <;> cases SC x.2.1 0 99 <;> cases Rz x.2.2 <;> cases b4 <;> cases b5 <;> rfl) (by simp [RP]) n (by unfold PQ at hn; omega)
 unfold Rm RX
 rw [show ((0 : Nat) : Int) = 0 from rfl] at this
 rw [this]
 rw [show decide ((a.length : Int) ≤ 12) = decide (a.length ≤ 12) by rw [Bool.eq_iff_iff]; simp; omega]
 cases decide (a.length ≤ 12) <;> cases (List.range a.length).all (UF a) <;> rfl
def AS : List (Nat → Int) → List Nat → Int → Prop
 | [], _, x => x = 0
 | r :: rs, S, x => ∃ k ∈ S, ∃ y, AS rs (S.erase k) y ∧ x = r k + y
def ZK (R : List (Nat → Int)) (S : List Nat) (x : Int) : Prop := AS R S x ∧ ∀ y, AS R S y → x ≤ y
theorem ZK.uniq {R : List (Nat → Int)} {S : List Nat} {x y : Int} (h1 : ZK R S x) (h2 : ZK R S y) : x = y :=
 Int.le_antisymm (h1.2 y h2.1) (h2.2 x h1.1)
def Pl : List Int → Int
 | [] => 0
 | x :: l => x + Pl l
theorem Uo : ∀ a b : List Int, Pl (a ++ b) = Pl a + Pl b
 | [], b => by simp [Pl]
 | x :: a, b => by simp only [List.cons_append, Pl, Uo a b]; omega
theorem Td (v : Nat → Int) : ∀ (S : List Nat) (k : Nat), k ∈ S → Pl (S.map v) = v k + Pl ((S.erase k).map v)
 | [], k, h => by cases h
 | a :: S, k, h => by
  by_cases e : a = k
  ·subst e; simp [Pl]
  ·have hk : k ∈ S := by
    rcases List.mem_cons.1 h with h | h
    ·exact absurd h.symm e
    ·exact h
   have e2 : (a == k) = false := by simpa using e
   rw [List.erase_cons, e2]
   simp only [Bool.false_eq_true, if_false, List.map_cons, Pl, Td v S k hk]
   omega
theorem Va (v : Nat → Int) : ∀ (S : List Nat), (∀ k ∈ S, v k ≤ 0) → Pl (S.map v) ≤ 0
 | [], _ => by simp [Pl]
 | a :: S, h => by
  simp only [List.map_cons, Pl]
  have := Va v S (fun k hk => h k (List.mem_cons_of_mem _ hk))
  have := h a List.mem_cons_self
  omega
theorem AS.ge (v : Nat → Int) : ∀ (R : List (Nat → Int)) (u : List Int) (S : List Nat) (x : Int), u.length = R.length → (∀ i (hi : i < R.length) (hu : i < u.length), ∀ k ∈ S, u[i] + v k ≤ R[i] k) → (∀ k ∈ S, v k ≤ 0) → AS R S x → Pl u + Pl (S.map v) ≤ x
 | [], u, S, x, hl, _, hv, hx => by
  obtain rfl : u = [] := List.eq_nil_of_length_eq_zero hl
  have := Va v S hv
  simp only [AS] at hx
  simp only [Pl]; omega
 | r :: R, [], S, x, hl, _, _, _ => by simp at hl
 | r :: R, u0 :: u, S, x, hl, hc, hv, hx => by
  obtain ⟨k, hk, y, hy, rfl⟩ := hx
  have ih := AS.ge v R u (S.erase k) y (by simpa using hl) (fun i hi hu q hq => by
   have := hc (i + 1) (by simp; omega) (by simp; omega) q (List.mem_of_mem_erase hq)
   simpa using this) (fun q hq => hv q (List.mem_of_mem_erase hq)) hy
  have h0 := hc 0 (by simp) (by simp) k hk
  simp only [List.getElem_cons_zero] at h0
  rw [Td v S k hk]
  simp only [Pl]; omega
theorem U8 (f : Nat → Int) : ∀ (S : List Nat), (∀ k ∈ S, f k = 0) → Pl (S.map f) = 0
 | [], _ => rfl
 | a :: S, h => by
  simp only [List.map_cons, Pl, U8 f S (fun k hk => h k (List.mem_cons_of_mem _ hk)), h a List.mem_cons_self]
  omega
theorem Vz (f : Nat → Int) : ∀ (cs S : List Nat), cs.Nodup → S.Nodup → (∀ k ∈ cs, k ∈ S) → (∀ k ∈ S, k ∉ cs → f k = 0) → Pl (S.map f) = Pl (cs.map f)
 | [], S, _, _, _, h => by rw [U8 f S (fun k hk => h k hk (by simp))]; rfl
 | k :: cs, S, hn, hS, hs, h => by
  obtain ⟨h1, h2⟩ := List.nodup_cons.1 hn
  rw [Td f S k (hs k List.mem_cons_self), Vz f cs (S.erase k) h2 (hS.erase k) (fun q hq => ?_) (fun q hq hc => ?_)]
  ·rfl
  ·have hne : q ≠ k := fun e => h1 (e ▸ hq)
   exact (List.mem_erase_of_ne hne).2 (hs q (List.mem_cons_of_mem _ hq))
  ·have hne : q ≠ k := fun e => hS.not_mem_erase (e ▸ hq)
   refine h q (List.mem_of_mem_erase hq) (fun hq2 => ?_)
   rcases List.mem_cons.1 hq2 with hq2 | hq2
   ·exact hne hq2
   ·exact hc hq2
theorem Ti : ∀ (a b : List Nat), a.Nodup → (∀ x ∈ a, x ∈ b) → a.length ≤ b.length
 | [], _, _, _ => by simp
 | x :: a, b, hn, hs => by
  obtain ⟨h1, h2⟩ := List.nodup_cons.1 hn
  have hx := hs x List.mem_cons_self
  have := Ti a (b.erase x) h2 (fun q hq => (List.mem_erase_of_ne (fun e : q = x => h1 (e ▸ hq))).2 (hs q (List.mem_cons_of_mem _ hq)))
  rw [List.length_erase_of_mem hx] at this
  have := List.length_pos_of_mem hx
  simp only [List.length_cons]; omega
def WW : List (Nat → Int) → List Nat → Int
 | r :: rs, k :: ks => r k + WW rs ks
 | _, _ => 0
theorem AS.of : ∀ (R : List (Nat → Int)) (cs : List Nat) (S : List Nat), cs.length = R.length → cs.Nodup → (∀ k ∈ cs, k ∈ S) → AS R S (WW R cs)
 | [], [], S, _, _, _ => rfl
 | [], c :: cs, S, hl, _, _ => by simp at hl
 | r :: R, [], S, hl, _, _ => by simp at hl
 | r :: R, k :: cs, S, hl, hn, hs => by
  obtain ⟨h1, h2⟩ := List.nodup_cons.1 hn
  refine ⟨k, hs k List.mem_cons_self, WW R cs, AS.of R cs (S.erase k) (by simpa using hl) h2 (fun q hq => ?_), rfl⟩
  have hne : q ≠ k := fun e => h1 (e ▸ hq)
  exact (List.mem_erase_of_ne hne).2 (hs q (List.mem_cons_of_mem _ hq))
def TU : Option Int → Option Int → Option Int
 | none, b => b
 | some x, none => some x
 | some x, some y => some (if y < x then y else x)
theorem V8 {a b : Option Int} {x : Int} (h : TU a b = some x) : a = some x ∨ b = some x := by
 cases a with
 | none => exact .inr h
 | some y => cases b with
  | none => exact .inl h
  | some z =>
   simp only [TU, Option.some.injEq] at h
   by_cases hz : z < y
   ·rw [if_pos hz] at h; exact .inr (by rw [h])
   ·rw [if_neg hz] at h; exact .inl (by rw [h])
theorem aL {a b : Option Int} {y : Int} (h : a = some y) : ∃ z, TU a b = some z ∧ z ≤ y := by
 subst h
 cases b with
 | none => exact ⟨y, rfl, Int.le_refl _⟩
 | some z => exact ⟨_, rfl, by split <;> omega⟩
theorem aM {a b : Option Int} {y : Int} (h : b = some y) : ∃ z, TU a b = some z ∧ z ≤ y := by
 subst h
 cases a with
 | none => exact ⟨y, rfl, Int.le_refl _⟩
 | some z => exact ⟨_, rfl, by split <;> omega⟩
theorem T7 (g : Nat → Option Int) : ∀ (l : List Nat) (b : Option Int),
  (∀ x, l.foldl (fun b k => TU b (g k)) b = some x → b = some x ∨ ∃ k ∈ l, g k = some x) ∧
  (∀ y, b = some y → ∃ x, l.foldl (fun b k => TU b (g k)) b = some x ∧ x ≤ y) ∧
  (∀ k ∈ l, ∀ y, g k = some y → ∃ x, l.foldl (fun b k => TU b (g k)) b = some x ∧ x ≤ y)
 | [], b => ⟨fun x h => .inl h, fun y h => ⟨y, h, Int.le_refl _⟩, fun k hk => by cases hk⟩
 | k :: l, b => by
  obtain ⟨i1, i2, i3⟩ := T7 g l (TU b (g k))
  simp only [List.foldl_cons]
  refine ⟨fun x hx => ?_, fun y hy => ?_, fun q hq y hy => ?_⟩
  ·rcases i1 x hx with h | ⟨q, hq, e⟩
   ·rcases V8 h with h | h
    ·exact .inl h
    ·exact .inr ⟨k, List.mem_cons_self, h⟩
   ·exact .inr ⟨q, List.mem_cons_of_mem _ hq, e⟩
  ·obtain ⟨z, h1, h2⟩ := aL (b := g k) hy
   obtain ⟨x, h3, h4⟩ := i2 z h1
   exact ⟨x, h3, by omega⟩
  ·rcases List.mem_cons.1 hq with rfl | hq
   ·obtain ⟨z, h1, h2⟩ := aM (a := b) hy
    obtain ⟨x, h3, h4⟩ := i2 z h1
    exact ⟨x, h3, by omega⟩
   ·exact i3 q hq y hy
def S6 : List (Nat → Int) → List Nat → Option Int
 | [], _ => some 0
 | r :: rs, S => S.foldl (fun b k => TU b ((S6 rs (S.erase k)).map fun y => r k + y)) none
theorem Qk : ∀ (R : List (Nat → Int)) (S : List Nat), (∀ x, S6 R S = some x → ZK R S x) ∧ (∀ y, AS R S y → ∃ x, S6 R S = some x ∧ x ≤ y)
 | [], S => ⟨fun x h => by
   simp only [S6, Option.some.injEq] at h
   subst h
   exact ⟨rfl, fun y hy => by simp only [AS] at hy; omega⟩, fun y hy => ⟨0, rfl, by simp only [AS] at hy; omega⟩⟩
 | r :: R, S => by
  obtain ⟨f1, _, f3⟩ := T7 (fun k => (S6 R (S.erase k)).map fun y => r k + y) S none
  have up : ∀ y, AS (r :: R) S y → ∃ x, S6 (r :: R) S = some x ∧ x ≤ y := by
   rintro _ ⟨k, hk, y, hy, rfl⟩
   obtain ⟨x, h1, h2⟩ := (Qk R (S.erase k)).2 y hy
   obtain ⟨z, h3, h4⟩ := f3 k hk (r k + x) (by rw [h1]; rfl)
   exact ⟨z, h3, by omega⟩
  refine ⟨fun x hx => ⟨?_, fun y hy => ?_⟩, up⟩
  ·rcases f1 x hx with h | ⟨k, hk, e⟩
   ·cases h
   ·cases hb : S6 R (S.erase k) with
    | none => rw [hb] at e; cases e
    | some y =>
     rw [hb] at e
     simp only [Option.map_some, Option.some.injEq] at e
     exact ⟨k, hk, y, ((Qk R (S.erase k)).1 y hb).1, e.symm⟩
  ·obtain ⟨z, h1, h2⟩ := up y hy
   rw [hx] at h1
   injection h1 with h1
   omega
theorem V4 {R : List (Nat → Int)} {S : List Nat} {x : Int} (h : ZK R S x) : S6 R S = some x := by
 obtain ⟨y, h1, h2⟩ := (Qk R S).2 x h.1
 rw [h1, ((Qk R S).1 y h1).uniq h]
theorem Ve (R : List (Nat → Int)) (S : List Nat) (hn : S.Nodup) (hl : R.length ≤ S.length) : ∃ x, S6 R S = some x := by
 obtain ⟨x, h, _⟩ := (Qk R S).2 _ (AS.of R (S.take R.length) S (by simp; omega) (hn.sublist (List.take_sublist _ _)) (fun k hk => List.mem_of_mem_take hk))
 exact ⟨x, h⟩
theorem US {R : List (Nat → Int)} {S : List Nat} {x : Int} (h : S6 R S = some x) (hc : ∀ r ∈ R, ∀ k ∈ S, 0 ≤ r k) : 0 ≤ x := by
 induction R generalizing S x with
 | nil => simp only [S6, Option.some.injEq] at h; omega
 | cons r R ih =>
  obtain ⟨⟨k, hk, y, hy, rfl⟩, _⟩ := (Qk _ _).1 x h
  obtain ⟨z, h1, h2⟩ := (Qk R (S.erase k)).2 y hy
  have := ih h1 (fun r hr q hq => hc r (List.mem_cons_of_mem _ hr) q (List.mem_of_mem_erase hq))
  have := hc r List.mem_cons_self k hk
  omega
theorem Wl {R : List (Nat → Int)} {S : List Nat} {x : Int} {M : Int} (h : S6 R S = some x) (hM : 0 ≤ M) (hc : ∀ r ∈ R, ∀ k ∈ S, r k ≤ M) : x ≤ M * R.length := by
 induction R generalizing S x with
 | nil => simp only [S6, Option.some.injEq] at h; simp; omega
 | cons r R ih =>
  obtain ⟨⟨k, hk, y, hy, rfl⟩, _⟩ := (Qk _ _).1 x h
  obtain ⟨z, h1, h2⟩ := (Qk R (S.erase k)).2 y hy
  have hl := ((Qk _ _).1 _ h).2 (r k + z) ⟨k, hk, z, ((Qk _ _).1 z h1).1, rfl⟩
  have i := ih h1 (fun r hr q hq => hc r (List.mem_cons_of_mem _ hr) q (List.mem_of_mem_erase hq))
  have := hc r List.mem_cons_self k hk
  rw [List.length_cons, Int.natCast_add, Int.mul_add]
  omega
def pk : List (Nat → Int) → List Nat → List Nat
 | [], _ => []
 | r :: rs, S => match S.find? fun k => (S6 rs (S.erase k)).map (fun y => r k + y) == S6 (r :: rs) S with
  | some k => k :: pk rs (S.erase k)
  | none => []
theorem VH {r : Nat → Int} {R : List (Nat → Int)} {S : List Nat} {x : Int} (h : S6 (r :: R) S = some x) : ∃ k ∈ S, (S.find? fun k => (S6 R (S.erase k)).map (fun y => r k + y) == S6 (r :: R) S) = some k ∧ ∃ y, S6 R (S.erase k) = some y ∧ x = r k + y := by
 obtain ⟨f1, _, _⟩ := T7 (fun k => (S6 R (S.erase k)).map fun y => r k + y) S none
 rcases f1 x h with h2 | ⟨k, hk, e⟩
 ·cases h2
 cases hf : S.find? fun k => (S6 R (S.erase k)).map (fun y => r k + y) == S6 (r :: R) S with
 | none =>
  have := List.find?_eq_none.1 hf k hk
  rw [e, h] at this
  simp at this
 | some q =>
  have hq := List.find?_some hf
  refine ⟨q, List.mem_of_find?_eq_some hf, rfl, ?_⟩
  rw [h] at hq
  cases hb : S6 R (S.erase q) with
  | none => rw [hb] at hq; simp at hq
  | some y =>
   rw [hb] at hq
   simp only [Option.map_some, beq_iff_eq, Option.some.injEq] at hq
   exact ⟨y, rfl, hq.symm⟩
theorem ZI : ∀ (R : List (Nat → Int)) (S : List Nat), S.Nodup → R.length ≤ S.length → (pk R S).length = R.length ∧ (pk R S).Nodup ∧ ∀ k ∈ pk R S, k ∈ S
 | [], S, _, _ => by simp [pk]
 | r :: R, S, hn, hl => by
  obtain ⟨x, hx⟩ := Ve (r :: R) S hn hl
  obtain ⟨k, hk, hf, _⟩ := VH hx
  have hle : (S.erase k).length = S.length - 1 := List.length_erase_of_mem hk
  obtain ⟨i1, i2, i3⟩ := ZI R (S.erase k) (hn.erase k) (by simp at hl; omega)
  have e : pk (r :: R) S = k :: pk R (S.erase k) := by simp only [pk, hf]
  rw [e]
  refine ⟨by simp [i1], List.nodup_cons.2 ⟨fun h => ?_, i2⟩, fun q hq => ?_⟩
  ·exact (hn.not_mem_erase) (i3 k h)
  ·rcases List.mem_cons.1 hq with rfl | hq
   ·exact hk
   ·exact List.mem_of_mem_erase (i3 q hq)
structure HF (C : Nat → Nat → Int) (n m : Nat) (u v : Nat → Int) : Prop where
 Wo : ∀ r j, 1 ≤ r → r ≤ n → 1 ≤ j → j ≤ m → u r + v j ≤ C r j
 bG : ∀ j, 1 ≤ j → j ≤ m → v j ≤ 0
 gX : ∀ r, 1 ≤ r → r ≤ n → 0 ≤ u r
structure HM (m i : Nat) (w : Nat → Int) : Prop where
 Uw : ∀ j, 1 ≤ j → j ≤ m → 0 ≤ w j ∧ w j < (i : Int)
 inj : ∀ j k, 1 ≤ j → j ≤ m → 1 ≤ k → k ≤ m → w j = w k → 0 < w j → j = k
 bJ : ∀ r : Nat, 1 ≤ r → r < i → ∃ j, 1 ≤ j ∧ j ≤ m ∧ w j = (r : Int)
structure HT (C : Nat → Nat → Int) (m : Nat) (u v w : Nat → Int) : Prop where
 tight : ∀ j (r : Nat), 1 ≤ j → j ≤ m → 1 ≤ r → w j = (r : Int) → u r + v j = C r j
 free : ∀ j, 1 ≤ j → j ≤ m → w j = 0 → v j = 0
theorem HM.open {m i : Nat} {w : Nat → Int} (h : HM m i w) (h1 : 1 ≤ i) (hi : i ≤ m) : ∃ j, 1 ≤ j ∧ j ≤ m ∧ w j = 0 := by
 refine Classical.byContradiction fun hno => ?_
 have hp : ∀ j, 1 ≤ j → j ≤ m → 0 < w j := fun j a b => by
  have := (h.Uw j a b).1
  have : w j ≠ 0 := fun e => hno ⟨j, a, b, e⟩
  omega
 have := Ti ((List.range m).map fun k => (w (k + 1)).toNat) (List.range' 1 (i - 1)) ?_ ?_
 ·simp at this; omega
 ·unfold List.Nodup
  rw [List.pairwise_map]
  refine List.Pairwise.imp_of_mem (fun {a b} ha hb hab e => ?_) (List.pairwise_lt_range (n := m))
  rw [List.mem_range] at ha hb
  have p1 := hp (a + 1) (by omega) (by omega)
  have p2 := hp (b + 1) (by omega) (by omega)
  have := h.inj (a + 1) (b + 1) (by omega) (by omega) (by omega) (by omega) (by omega) p1
  omega
 ·intro x hx
  obtain ⟨k, hk, rfl⟩ := List.mem_map.1 hx
  rw [List.mem_range] at hk
  have p1 := hp (k + 1) (by omega) (by omega)
  have p2 := (h.Uw (k + 1) (by omega) (by omega)).2
  rw [List.mem_range'_1]
  omega
theorem HF.Mt {C : Nat → Nat → Int} {n m i : Nat} {u v w : Nat → Int} (hf : HF C n m u v) (ht : HT C m u v w) (hm : HM m i w) (h1 : 1 ≤ i) (hi : i ≤ m) (hin : i ≤ n) {M : Int} (hC : ∀ r j, 1 ≤ r → r ≤ n → 1 ≤ j → j ≤ m → 0 ≤ C r j ∧ C r j ≤ M) :
  (∀ r, 1 ≤ r → r ≤ n → 0 ≤ u r ∧ u r ≤ M) ∧ ∀ j, 1 ≤ j → j ≤ m → -M ≤ v j ∧ v j ≤ 0 := by
 obtain ⟨f, f1, f2, f3⟩ := hm.open h1 hi
 have hu : ∀ r, 1 ≤ r → r ≤ n → 0 ≤ u r ∧ u r ≤ M := fun r a b => by
  have := hf.Wo r f a b f1 f2
  rw [ht.free f f1 f2 f3] at this
  have := (hC r f a b f1 f2).2
  exact ⟨hf.gX r a b, by omega⟩
 refine ⟨hu, fun j a b => ⟨?_, hf.bG j a b⟩⟩
 obtain ⟨q1, q2⟩ := hm.Uw j a b
 by_cases h0 : w j = 0
 ·rw [ht.free j a b h0]
  have := hC i f h1 hin f1 f2
  omega
 ·have := ht.tight j (w j).toNat a b (by omega) (by omega)
  have := hu (w j).toNat (by omega) (by omega)
  have := hC (w j).toNat j (by omega) (by omega) a b
  omega
def Ch (P : Nat → Nat → Prop) : List Nat → Prop
 | [] => True
 | a :: l => (a = 0 ∧ l = []) ∨ (1 ≤ a ∧ (∃ x ∈ l, P a x) ∧ Ch P l)
theorem Ch.mono {P Q : Nat → Nat → Prop} : ∀ {l : List Nat}, (∀ a x, a ∈ l → x ∈ l → P a x → Q a x) → Ch P l → Ch Q l
 | [], _, _ => trivial
 | a :: l, h, hc => by
  rcases hc with hc | ⟨h1, ⟨x, hx, hP⟩, h3⟩
  ·exact .inl hc
  ·exact .inr ⟨h1, ⟨x, hx, h a x List.mem_cons_self (List.mem_cons_of_mem _ hx) hP⟩, Ch.mono (fun a x ha hx => h a x (List.mem_cons_of_mem _ ha) (List.mem_cons_of_mem _ hx)) h3⟩
theorem Ch.tail {P : Nat → Nat → Prop} {a : Nat} {l : List Nat} (h : Ch P (a :: l)) : Ch P l := by
 rcases h with ⟨_, h⟩ | ⟨_, _, h⟩
 ·rw [h]; trivial
 ·exact h
theorem Ch.drop {P : Nat → Nat → Prop} {l : List Nat} : ∀ {p : List Nat}, Ch P (p ++ l) → Ch P l
 | [], h => h
 | a :: p, h => Ch.drop (p := p) (Ch.tail h)
def Fr (C : Nat → Nat → Int) (u v w fr : Nat → Int) (a x : Nat) : Prop := fr a = (x : Int) ∧ ∃ r : Nat, 1 ≤ r ∧ w x = (r : Int) ∧ u r + v a = C r a
structure HG (C : Nat → Nat → Int) (n m : Nat) (u v w ls fr : Nat → Int) (Q : List Nat) (j0 : Nat) : Prop where
 hf : HF C n m u v
 ht : HT C m u v w
 gf : j0 ≤ m
 nd : (j0 :: Q).Nodup
 qm : ∀ j ∈ Q, j ≤ m
 qp : ∀ j ∈ Q, 1 ≤ w j
 ch : Ch (Fr C u v w fr) (j0 :: Q)
 l1 : ∀ j, 1 ≤ j → j ≤ m → j ∉ Q → ∀ b ∈ Q, ∀ r : Nat, w b = (r : Int) → ls j ≤ C r j - u r - v j
 l2 : Q = [] ∨ ∀ j, 1 ≤ j → j ≤ m → j ∉ Q → ∃ b ∈ Q, fr j = (b : Int) ∧ ∃ r : Nat, 1 ≤ r ∧ w b = (r : Int) ∧ ls j = C r j - u r - v j
structure HS (C : Nat → Nat → Int) (n m : Nat) (u v w ls fr : Nat → Int) (Q : List Nat) : Prop where
 hf : HF C n m u v
 ht : HT C m u v w
 nd : Q.Nodup
 qm : ∀ j ∈ Q, j ≤ m
 qp : ∀ j ∈ Q, 1 ≤ w j
 ch : Ch (Fr C u v w fr) Q
 l1 : ∀ j, 1 ≤ j → j ≤ m → j ∉ Q → ∀ b ∈ Q, ∀ r : Nat, w b = (r : Int) → ls j ≤ C r j - u r - v j
 l2 : ∀ j, 1 ≤ j → j ≤ m → j ∉ Q → ∃ b ∈ Q, fr j = (b : Int) ∧ ∃ r : Nat, 1 ≤ r ∧ w b = (r : Int) ∧ ls j = C r j - u r - v j
theorem HG.scan {C : Nat → Nat → Int} {n m : Nat} {u v w ls fr ls' fr' : Nat → Int} {Q : List Nat} {j0 : Nat} (h : HG C n m u v w ls fr Q j0) {i0 : Nat} (hi : 1 ≤ i0) (hw : w j0 = (i0 : Int))
  (hfar : Q = [] → ∀ j, 1 ≤ j → j ≤ m → C i0 j - u i0 - v j < ls j)
  (hused : ∀ j, j ≤ m → j ∈ j0 :: Q → fr' j = fr j)
  (hnew : ∀ j, 1 ≤ j → j ≤ m → j ∉ j0 :: Q → (C i0 j - u i0 - v j < ls j ∧ ls' j = C i0 j - u i0 - v j ∧ fr' j = (j0 : Int)) ∨ (¬ C i0 j - u i0 - v j < ls j ∧ ls' j = ls j ∧ fr' j = fr j)) :
  HS C n m u v w ls' fr' (j0 :: Q) := by
 refine ⟨h.hf, h.ht, h.nd, fun j hj => ?_, fun j hj => ?_, ?_, fun j a b hj x hx r hr => ?_, fun j a b hj => ?_⟩
 ·rcases List.mem_cons.1 hj with rfl | hj
  ·exact h.gf
  ·exact h.qm j hj
 ·rcases List.mem_cons.1 hj with rfl | hj
  ·omega
  ·exact h.qp j hj
 ·refine h.ch.mono fun a x ha hx hP => ⟨?_, hP.2⟩
  rw [hused a ?_ ha]
  ·exact hP.1
  ·rcases List.mem_cons.1 ha with rfl | ha
   ·exact h.gf
   ·exact h.qm a ha
 ·have hjQ : j ∉ Q := fun e => hj (List.mem_cons_of_mem _ e)
  rcases hnew j a b hj with ⟨h1, h2, h3⟩ | ⟨h1, h2, h3⟩
  ·rcases List.mem_cons.1 hx with rfl | hx
   ·rw [h2, show r = i0 by omega]; omega
   ·have := h.l1 j a b hjQ x hx r hr
    omega
  ·rcases List.mem_cons.1 hx with rfl | hx
   ·rw [h2, show r = i0 by omega]; omega
   ·rw [h2]; exact h.l1 j a b hjQ x hx r hr
 ·have hjQ : j ∉ Q := fun e => hj (List.mem_cons_of_mem _ e)
  rcases hnew j a b hj with ⟨h1, h2, h3⟩ | ⟨h1, h2, h3⟩
  ·exact ⟨j0, List.mem_cons_self, h3, i0, hi, hw, h2⟩
  ·rcases h.l2 with e | e
   ·exact absurd (hfar e j a b) h1
   ·obtain ⟨x, hx, p1, r, p2, p3, p4⟩ := e j a b hjQ
    exact ⟨x, List.mem_cons_of_mem _ hx, by rw [h3, p1], r, p2, p3, by rw [h2, p4]⟩
theorem HS.step {C : Nat → Nat → Int} {n m i : Nat} {u v w ls fr u' v' ls' : Nat → Int} {Q : List Nat} (h : HS C n m u v w ls fr Q) (hm : HM m i w) (hw0 : w 0 = (i : Int)) (hin : i ≤ n) {d : Int} {j1 : Nat}
  (a1 : 1 ≤ j1) (a2 : j1 ≤ m) (a3 : j1 ∉ Q) (hd : ls j1 = d) (hmin : ∀ j, 1 ≤ j → j ≤ m → j ∉ Q → d ≤ ls j)
  (hu1 : ∀ r : Nat, 1 ≤ r → r ≤ n → (∃ b ∈ Q, w b = (r : Int)) → u' r = u r + d)
  (hu2 : ∀ r : Nat, 1 ≤ r → r ≤ n → ¬ (∃ b ∈ Q, w b = (r : Int)) → u' r = u r)
  (hv1 : ∀ j, 1 ≤ j → j ≤ m → j ∈ Q → v' j = v j - d) (hv2 : ∀ j, 1 ≤ j → j ≤ m → j ∉ Q → v' j = v j)
  (hl : ∀ j, 1 ≤ j → j ≤ m → j ∉ Q → ls' j = ls j - d) : 0 ≤ d ∧ HG C n m u' v' w ls' fr Q j1 := by
 have rn : ∀ b ∈ Q, ∀ r : Nat, w b = (r : Int) → 1 ≤ r ∧ r ≤ n := fun b hb r hr => by
  have h1 := h.qp b hb
  refine ⟨by omega, ?_⟩
  by_cases hb0 : b = 0
  ·subst hb0; rw [hw0] at hr; omega
  ·have := hm.Uw b (by omega) (h.qm b hb)
   omega
 have hd0 : 0 ≤ d := by
  obtain ⟨b, hb, _, r, p2, p3, p4⟩ := h.l2 j1 a1 a2 a3
  obtain ⟨r1, r2⟩ := rn b hb r p3
  have := h.hf.Wo r j1 r1 r2 a1 a2
  omega
 have inQ : ∀ j (r : Nat), 1 ≤ j → j ≤ m → j ∉ Q → 1 ≤ r → w j = (r : Int) → ¬ ∃ b ∈ Q, w b = (r : Int) := fun j r c1 c2 c3 c4 c5 => by
  rintro ⟨b, hb, e⟩
  by_cases hb0 : b = 0
  ·subst hb0
   have := hm.Uw j c1 c2
   rw [hw0] at e; omega
  ·have := hm.inj j b c1 c2 (by omega) (h.qm b hb) (by omega) (by omega)
   exact c3 (this ▸ hb)
 have tq : ∀ a x, a ∈ Q → 1 ≤ a → x ∈ Q → Fr C u v w fr a x → Fr C u' v' w fr a x := fun a x ha ha1 hx hP => by
  obtain ⟨p1, r, p2, p3, p4⟩ := hP
  obtain ⟨r1, r2⟩ := rn x hx r p3
  refine ⟨p1, r, p2, p3, ?_⟩
  rw [hu1 r r1 r2 ⟨x, hx, p3⟩, hv1 a ha1 (h.qm a ha) ha]; omega
 refine ⟨hd0, ⟨fun r j r1 r2 j1 j2 => ?_, fun j c1 c2 => ?_, fun r c1 c2 => ?_⟩, ⟨fun j r c1 c2 c3 c4 => ?_, fun j c1 c2 c3 => ?_⟩, a2, List.nodup_cons.2 ⟨a3, h.nd⟩, h.qm, h.qp, ?_, fun j c1 c2 hj b hb r hr => ?_, .inr fun j c1 c2 hj => ?_⟩
 ·have hf := h.hf.Wo r j r1 r2 j1 j2
  by_cases hr : ∃ b ∈ Q, w b = (r : Int)
  ·rw [hu1 r r1 r2 hr]
   by_cases hj : j ∈ Q
   ·rw [hv1 j j1 j2 hj]; omega
   ·obtain ⟨b, hb, e⟩ := hr
    have := h.l1 j j1 j2 hj b hb r e
    have := hmin j j1 j2 hj
    rw [hv2 j j1 j2 hj]; omega
  ·rw [hu2 r r1 r2 hr]
   by_cases hj : j ∈ Q
   ·rw [hv1 j j1 j2 hj]; omega
   ·rw [hv2 j j1 j2 hj]; omega
 ·have := h.hf.bG j c1 c2
  by_cases hj : j ∈ Q
  ·rw [hv1 j c1 c2 hj]; omega
  ·rw [hv2 j c1 c2 hj]; omega
 ·have := h.hf.gX r c1 c2
  by_cases hr : ∃ b ∈ Q, w b = (r : Int)
  ·rw [hu1 r c1 c2 hr]; omega
  ·rw [hu2 r c1 c2 hr]; omega
 ·have ht := h.ht.tight j r c1 c2 c3 c4
  have := hm.Uw j c1 c2
  have hrn : r ≤ n := by omega
  by_cases hj : j ∈ Q
  ·rw [hv1 j c1 c2 hj, hu1 r c3 hrn ⟨j, hj, c4⟩]; omega
  ·rw [hv2 j c1 c2 hj, hu2 r c3 hrn (inQ j r c1 c2 hj c3 c4)]; omega
 ·have hj : j ∉ Q := fun hj => by have := h.qp j hj; omega
  rw [hv2 j c1 c2 hj, h.ht.free j c1 c2 c3]
 ·refine .inr ⟨a1, ?_, ?_⟩
  ·obtain ⟨b, hb, p1, r, p2, p3, p4⟩ := h.l2 j1 a1 a2 a3
   obtain ⟨r1, r2⟩ := rn b hb r p3
   refine ⟨b, hb, p1, r, p2, p3, ?_⟩
   rw [hu1 r r1 r2 ⟨b, hb, p3⟩, hv2 j1 a1 a2 a3]; omega
  ·have key : ∀ (l : List Nat), (∀ a ∈ l, a ∈ Q) → Ch (Fr C u v w fr) l → Ch (Fr C u' v' w fr) l := by
    intro l
    induction l with
    | nil => intro _ _; trivial
    | cons a l ih =>
     intro hs hc
     rcases hc with hc | ⟨h1, ⟨x, hx, hP⟩, h3⟩
     ·exact .inl hc
     ·exact .inr ⟨h1, ⟨x, hx, tq a x (hs a List.mem_cons_self) h1 (hs x (List.mem_cons_of_mem _ hx)) hP⟩, ih (fun b hb => hs b (List.mem_cons_of_mem _ hb)) h3⟩
   exact key Q (fun a ha => ha) h.ch
 ·obtain ⟨r1, r2⟩ := rn b hb r hr
  have := h.l1 j c1 c2 hj b hb r hr
  rw [hl j c1 c2 hj, hu1 r r1 r2 ⟨b, hb, hr⟩, hv2 j c1 c2 hj]; omega
 ·obtain ⟨b, hb, p1, r, p2, p3, p4⟩ := h.l2 j c1 c2 hj
  obtain ⟨r1, r2⟩ := rn b hb r p3
  refine ⟨b, hb, p1, r, p2, p3, ?_⟩
  rw [hl j c1 c2 hj, hu1 r r1 r2 ⟨b, hb, p3⟩, hv2 j c1 c2 hj]; omega
structure HA (C : Nat → Nat → Int) (m i : Nat) (u v fr w : Nat → Int) (j0 : Nat) (Q : List Nat) : Prop where
 nd : (j0 :: Q).Nodup
 lm : ∀ j ∈ j0 :: Q, j ≤ m
 ch : Ch (Fr C u v w fr) (j0 :: Q)
 inj : ∀ j k, j ≤ m → k ≤ m → j ≠ j0 → k ≠ j0 → w j = w k → 0 < w j → j = k
 bJ : ∀ r : Nat, 1 ≤ r → r ≤ i → ∃ j, j ≤ m ∧ j ≠ j0 ∧ w j = (r : Int)
 Uw : ∀ j, j ≤ m → j ≠ j0 → 0 ≤ w j ∧ w j ≤ (i : Int)
 tight : ∀ j (r : Nat), 1 ≤ j → j ≤ m → j ≠ j0 → 1 ≤ r → w j = (r : Int) → u r + v j = C r j
 free : ∀ j, 1 ≤ j → j ≤ m → j ≠ j0 → w j = 0 → v j = 0
theorem HG.jZ {C : Nat → Nat → Int} {n m i : Nat} {u v w ls fr : Nat → Int} {Q : List Nat} {j0 : Nat} (h : HG C n m u v w ls fr Q j0) (hm : HM m i w) (hw0 : w 0 = (i : Int)) (h1 : 1 ≤ i) (hj : w j0 = 0) : HA C m i u v fr w j0 Q := by
 have hj0 : j0 ≠ 0 := fun e => by rw [e, hw0] at hj; omega
 refine ⟨h.nd, fun j hj => ?_, h.ch, fun j k a b c d e f => ?_, fun r a b => ?_, fun j a b => ?_, fun j r a b _ c d => h.ht.tight j r a b c d, fun j a b _ c => h.ht.free j a b c⟩
 ·rcases List.mem_cons.1 hj with rfl | hj
  ·exact h.gf
  ·exact h.qm j hj
 ·by_cases j00 : j = 0
  ·by_cases k00 : k = 0
   ·rw [j00, k00]
   ·subst j00
    have := hm.Uw k (by omega) b
    rw [hw0] at e; omega
  ·by_cases k00 : k = 0
   ·subst k00
    have := hm.Uw j (by omega) a
    rw [hw0] at e; omega
   ·exact hm.inj j k (by omega) a (by omega) b e f
 ·by_cases hr : r = i
  ·exact ⟨0, by omega, fun e => hj0 e.symm, by rw [hw0, hr]⟩
  ·obtain ⟨j, a1, a2, a3⟩ := hm.bJ r a (by omega)
   exact ⟨j, a2, fun e => by rw [e, hj] at a3; omega, a3⟩
 ·by_cases j00 : j = 0
  ·rw [j00, hw0]; omega
  ·have := hm.Uw j (by omega) a
   omega
theorem HA.next {C : Nat → Nat → Int} {m i : Nat} {u v fr w : Nat → Int} {j0 : Nat} {Q : List Nat} (h : HA C m i u v fr w j0 Q) (hj : 1 ≤ j0) : ∃ x Q', fr j0 = ((x : Nat) : Int) ∧ x ≤ m ∧ Q'.length < Q.length ∧ x ≠ j0 ∧
  ∀ w' : Nat → Int, (w' j0 = w x) → (∀ j, j ≤ m → j ≠ j0 → w' j = w j) → HA C m i u v fr w' x Q' := by
 rcases h.ch with ⟨h0, _⟩ | ⟨_, ⟨x, hx, hP⟩, hc⟩
 ·omega
 obtain ⟨p1, r, p2, p3, p4⟩ := hP
 obtain ⟨pre, Q', hQ⟩ := List.append_of_mem hx
 obtain ⟨n1, n2⟩ := List.nodup_cons.1 h.nd
 have hxj : x ≠ j0 := fun e => n1 (e ▸ hx)
 have hxm : x ≤ m := h.lm x (List.mem_cons_of_mem _ hx)
 have sub : ∀ j ∈ x :: Q', j ∈ Q := fun j hj => by rw [hQ]; exact List.mem_append_right _ hj
 refine ⟨x, Q', p1, hxm, by rw [hQ]; simp; omega, hxj, fun w' e1 e2 => ⟨?_, fun j hj => h.lm j (List.mem_cons_of_mem _ (sub j hj)), ?_, fun j k a b c d e f => ?_, fun s a b => ?_, fun j a b => ?_, fun j s a b c d e => ?_, fun j a b c d => ?_⟩⟩
 ·rw [hQ] at n2
  exact (List.nodup_append.1 n2).2.1
 ·have hc2 : Ch (Fr C u v w fr) (x :: Q') := by rw [hQ] at hc; exact Ch.drop hc
  refine hc2.mono fun a y ha hy hP => ?_
  obtain ⟨q1, s, q2, q3, q4⟩ := hP
  have hyj : y ≠ j0 := fun e => n1 (e ▸ sub y hy)
  exact ⟨q1, s, q2, by rw [e2 y (h.lm y (List.mem_cons_of_mem _ (sub y hy))) hyj, q3], q4⟩
 ·by_cases hj0 : j = j0
  ·by_cases hk0 : k = j0
   ·rw [hj0, hk0]
   ·rw [hj0, e1, e2 k b hk0] at e
    rw [hj0, e1] at f
    exact absurd (h.inj x k hxm b hxj hk0 e f).symm d
  ·by_cases hk0 : k = j0
   ·rw [hk0, e1, e2 j a hj0] at e
    rw [e2 j a hj0] at f
    exact absurd (h.inj j x a hxm hj0 hxj e f) c
   ·rw [e2 j a hj0, e2 k b hk0] at e
    rw [e2 j a hj0] at f
    exact h.inj j k a b hj0 hk0 e f
 ·obtain ⟨j, a1, a2, a3⟩ := h.bJ s a b
  by_cases hjx : j = x
  ·exact ⟨j0, h.lm j0 List.mem_cons_self, fun e => hxj e.symm, by rw [e1, ← hjx, a3]⟩
  ·exact ⟨j, a1, hjx, by rw [e2 j a1 a2, a3]⟩
 ·by_cases hj0 : j = j0
  ·rw [hj0, e1]; exact h.Uw x hxm hxj
  ·rw [e2 j a hj0]; exact h.Uw j a hj0
 ·by_cases hj0 : j = j0
  ·subst hj0
   rw [e1, p3] at e
   rw [show s = r by omega]; exact p4
  ·rw [e2 j b hj0] at e
   exact h.tight j s a b hj0 d e
 ·by_cases hj0 : j = j0
  ·rw [hj0, e1, p3] at d; omega
  ·rw [e2 j b hj0] at d
   exact h.free j a b hj0 d
theorem HA.done {C : Nat → Nat → Int} {m i : Nat} {u v fr w : Nat → Int} {Q : List Nat} (h : HA C m i u v fr w 0 Q) : HM m (i + 1) w ∧ HT C m u v w :=
 ⟨⟨fun j a b => by have := h.Uw j b (by omega); omega, fun j k a b c d e f => h.inj j k b d (by omega) (by omega) e f, fun r a b => by
   obtain ⟨j, a1, a2, a3⟩ := h.bJ r a (by omega)
   exact ⟨j, by omega, a1, a3⟩⟩, ⟨fun j r a b c d => h.tight j r a b (by omega) c d, fun j a b c => h.free j a b (by omega) c⟩⟩
def ga (l : List Int) (i : Nat) : Int := l.getD i 0
theorem Ql {l : List Int} {i : Nat} (h : i < l.length) : l[i]? = some (ga l i) := by
 unfold ga; rw [List.getD, List.getElem?_eq_getElem h]; rfl
theorem Rj {l : List Int} {i : Nat} (h : i < l.length) (x : Int) (j : Nat) : ga (l.set i x) j = if j = i then x else ga l j := by
 unfold ga
 rw [List.getD, List.getD, List.getElem?_set]
 by_cases e : i = j
 ·subst e; simp [h]
 ·rw [if_neg e, if_neg (fun q => e q.symm)]
theorem S8 (m : Nat) (x : Int) (j : Nat) (h : j < m) : ga (List.replicate m x) j = x := by
 unfold ga; rw [List.getD, List.getElem?_replicate, if_pos h]; rfl
structure CM (a0 : List (List Int)) (m : Nat) : Prop where
 row : ∀ r ∈ a0, r.length = m
 nm : a0.length ≤ m
 V7 : m ≤ 10
 Mt : ∀ r ∈ a0, ∀ x ∈ r, 0 ≤ x ∧ x ≤ 100000
def cC (a0 : List (List Int)) (r j : Nat) : Int := ga (a0.getD (r - 1) []) (j - 1)
theorem CM.at {a0 : List (List Int)} {m : Nat} (h : CM a0 m) {r j : Nat} (r1 : 1 ≤ r) (r2 : r ≤ a0.length) (j1 : 1 ≤ j) (j2 : j ≤ m) :
  ∃ l, ND a0 (PF ((r : Int) - 1)) = some l ∧ ND l (PF ((j : Int) - 1)) = some (cC a0 r j) ∧ 0 ≤ cC a0 r j ∧ cC a0 r j ≤ 100000 := by
 have hm := h.V7
 have hn := h.nm
 have hr : r - 1 < a0.length := by omega
 have e1 : PF ((r : Int) - 1) = ((r - 1 : Nat) : Int) := by rw [PL (by omega) (by omega)]; omega
 have e2 : PF ((j : Int) - 1) = ((j - 1 : Nat) : Int) := by rw [PL (by omega) (by omega)]; omega
 have hl := h.row _ (List.getElem_mem hr)
 have hj : j - 1 < a0[r - 1].length := by omega
 have e3 : cC a0 r j = a0[r - 1][j - 1] := by
  unfold cC ga
  rw [List.getD, List.getD, List.getElem?_eq_getElem hr, Option.getD_some, List.getElem?_eq_getElem hj]
  rfl
 refine ⟨a0[r - 1], by rw [e1, PH hr], by rw [e2, PH hj, e3], ?_⟩
 rw [e3]
 exact h.Mt _ (List.getElem_mem hr) _ (List.getElem_mem hj)
theorem HM.congr {m i : Nat} {w w' : Nat → Int} (h : HM m i w) (e : ∀ j, 1 ≤ j → j ≤ m → w' j = w j) : HM m i w' :=
 ⟨fun j a b => by rw [e j a b]; exact h.Uw j a b, fun j k a b c d => by rw [e j a b, e k c d]; exact h.inj j k a b c d, fun r a b => by
  obtain ⟨j, p, q, s⟩ := h.bJ r a b
  exact ⟨j, p, q, by rw [e j p q, s]⟩⟩
theorem HT.congr {C : Nat → Nat → Int} {m : Nat} {u v w w' : Nat → Int} (h : HT C m u v w) (e : ∀ j, 1 ≤ j → j ≤ m → w' j = w j) : HT C m u v w' :=
 ⟨fun j r a b c d => h.tight j r a b c (by rw [← e j a b]; exact d), fun j a b c => h.free j a b (by rw [← e j a b]; exact c)⟩
theorem Vn (m : Nat) (hm : m ≤ 10) (n : Nat) (hn : PQ ≤ n) : iter n (Qq (m : Int)) (0, List.replicate (m + 1) 0) = some (((m + 1 : Nat) : Int), List.replicate (m + 1) 1099511627776) := by
 have := PX (Qq (m : Int)) (fun i => ((i : Int), List.replicate i 1099511627776 ++ List.replicate (m + 1 - i) 0)) (m + 1) (((m + 1 : Nat) : Int), List.replicate (m + 1) 1099511627776) (fun i hi => by
  have hd : decide ((i : Int) ≤ (m : Int)) = true := by rw [decide_eq_true_eq]; omega
  have hl : i < (List.replicate i (1099511627776 : Int) ++ List.replicate (m + 1 - i) 0).length := by simp; omega
  simp only [Qq, hd, cond_true, PJ hl, Int.toNat_natCast, QN, PC hi (by omega)]
  congr 3
  rw [List.set_append_right _ _ (by simp), List.length_replicate, Nat.sub_self, show m + 1 - i = (m + 1 - (i + 1)) + 1 by omega, List.replicate_succ, List.set_cons_zero, List.replicate_succ' (n := i)]
  simp) (by
  have hd : decide (((m + 1 : Nat) : Int) ≤ (m : Int)) = false := by rw [decide_eq_false_iff_not]; omega
  simp only [Qq, hd, cond_false]
  simp) n (by unfold PQ at hn; omega)
 simpa using this
theorem VV {a0 : List (List Int)} {m i : Nat} (hc : CM a0 m) {u v ls fr w : List Int} {us : List Bool} {Q : List Nat} {j0 i0 : Nat} (hj0 : j0 ≤ m)
  (lu : u.length = a0.length + 1) (lv : v.length = m + 1) (ll : ls.length = m + 1) (lf : fr.length = m + 1)
  (hus : ∀ k, k ≤ m → (us.set j0 true)[k]? = some (decide (k ∈ j0 :: Q))) (hlu : us.length = m + 1)
  (hi1 : 1 ≤ i0) (hi2 : i0 ≤ a0.length) (hub : 0 ≤ ga u i0 ∧ ga u i0 ≤ 100000) (hvb : ∀ j, 1 ≤ j → j ≤ m → -100000 ≤ ga v j ∧ ga v j ≤ 0)
  (n : Nat) (hn : PQ ≤ n) :
  ∃ (d : Int) (j1 : Nat) (ls' fr' : List Int), iter n (Pe a0 (m : Int) ((j0 : Int), u, v, ls, fr, us) (i0 : Int)) (1099511627776, 0, 1, ls, fr) = some (d, (j1 : Int), ((m + 1 : Nat) : Int), ls', fr') ∧
   ls'.length = m + 1 ∧ fr'.length = m + 1 ∧ (∀ k, k ≤ m → k ∈ j0 :: Q → ga fr' k = ga fr k) ∧
   (∀ k, 1 ≤ k → k ≤ m → k ∉ j0 :: Q → (cC a0 i0 k - ga u i0 - ga v k < ga ls k ∧ ga ls' k = cC a0 i0 k - ga u i0 - ga v k ∧ ga fr' k = (j0 : Int)) ∨ (¬ cC a0 i0 k - ga u i0 - ga v k < ga ls k ∧ ga ls' k = ga ls k ∧ ga fr' k = ga fr k)) ∧
   (∀ k, 1 ≤ k → k ≤ m → k ∉ j0 :: Q → d ≤ ga ls' k) ∧ ((∀ k, 1 ≤ k → k ≤ m → k ∈ j0 :: Q) ∨ (1 ≤ j1 ∧ j1 ≤ m ∧ j1 ∉ j0 :: Q ∧ ga ls' j1 = d)) := by
 have hm := hc.V7
 obtain ⟨z, ⟨d, j1, ls', fr', e, h1⟩, h2⟩ := Uc (f := Pe a0 (m : Int) ((j0 : Int), u, v, ls, fr, us) (i0 : Int))
  (fun x => ∃ (d : Int) (j1 j : Nat) (ls' fr' : List Int), x = (d, (j1 : Int), (j : Int), ls', fr') ∧ 1 ≤ j ∧ j ≤ m + 1 ∧ ls'.length = m + 1 ∧ fr'.length = m + 1 ∧
   (∀ k, j ≤ k → k ≤ m → ga ls' k = ga ls k ∧ ga fr' k = ga fr k) ∧ (∀ k, k ≤ m → k ∈ j0 :: Q → ga fr' k = ga fr k) ∧
   (∀ k, 1 ≤ k → k < j → k ∉ j0 :: Q → (cC a0 i0 k - ga u i0 - ga v k < ga ls k ∧ ga ls' k = cC a0 i0 k - ga u i0 - ga v k ∧ ga fr' k = (j0 : Int)) ∨ (¬ cC a0 i0 k - ga u i0 - ga v k < ga ls k ∧ ga ls' k = ga ls k ∧ ga fr' k = ga fr k)) ∧
   (∀ k, 1 ≤ k → k < j → k ∉ j0 :: Q → d ≤ ga ls' k) ∧ ((d = 1099511627776 ∧ ∀ k, 1 ≤ k → k < j → k ∈ j0 :: Q) ∨ (1 ≤ j1 ∧ j1 < j ∧ j1 ∉ j0 :: Q ∧ ga ls' j1 = d)))
  (fun z => ∃ (d : Int) (j1 : Nat) (ls' fr' : List Int), z = (d, (j1 : Int), ((m + 1 : Nat) : Int), ls', fr') ∧ ls'.length = m + 1 ∧ fr'.length = m + 1 ∧ (∀ k, k ≤ m → k ∈ j0 :: Q → ga fr' k = ga fr k) ∧
   (∀ k, 1 ≤ k → k ≤ m → k ∉ j0 :: Q → (cC a0 i0 k - ga u i0 - ga v k < ga ls k ∧ ga ls' k = cC a0 i0 k - ga u i0 - ga v k ∧ ga fr' k = (j0 : Int)) ∨ (¬ cC a0 i0 k - ga u i0 - ga v k < ga ls k ∧ ga ls' k = ga ls k ∧ ga fr' k = ga fr k)) ∧
   (∀ k, 1 ≤ k → k ≤ m → k ∉ j0 :: Q → d ≤ ga ls' k) ∧ ((∀ k, 1 ≤ k → k ≤ m → k ∈ j0 :: Q) ∨ (1 ≤ j1 ∧ j1 ≤ m ∧ j1 ∉ j0 :: Q ∧ ga ls' j1 = d)))
  (fun x => m + 1 - x.2.2.1.toNat) (fun x hx => by
   obtain ⟨d, j1, j, ls', fr', rfl, b1, b2, l1, l2, g1, g2, g3, g4, g5⟩ := hx
   by_cases hj : j = m + 1
   ·left
    have hd : decide ((j : Int) ≤ (m : Int)) = false := by rw [decide_eq_false_iff_not]; omega
    refine ⟨(d, (j1 : Int), (j : Int), ls', fr'), by simp only [Pe, hd, cond_false], d, j1, ls', fr', by rw [hj], l1, l2, g2, fun k a b c => g3 k a (by omega) c, fun k a b c => g4 k a (by omega) c, ?_⟩
    rcases g5 with ⟨_, g5⟩ | ⟨p1, p2, p3, p4⟩
    ·exact .inl fun k a b => g5 k a (by omega)
    ·exact .inr ⟨p1, by omega, p3, p4⟩
   ·right
    have hjm : j ≤ m := by omega
    have hd : decide ((j : Int) ≤ (m : Int)) = true := by rw [decide_eq_true_eq]; omega
    have hu1 := hus j hjm
    have hul : j < (us.set j0 true).length := by simp; omega
    have hw : PF ((j : Int) + 1) = ((j + 1 : Nat) : Int) := PC (show j < m + 1 by omega) (by omega)
    have hmu : m + 1 - ((j + 1 : Nat) : Int).toNat < m + 1 - ((j : Nat) : Int).toNat := by omega
    by_cases hQ : j ∈ j0 :: Q
    ·rw [decide_eq_true hQ] at hu1
     refine ⟨(d, (j1 : Int), ((j + 1 : Nat) : Int), ls', fr'), ?_, ⟨d, j1, j + 1, ls', fr', rfl, by omega, by omega, l1, l2, fun k a b => g1 k (by omega) b, g2, fun k a b c => g3 k a ?_ c, fun k a b c => g4 k a ?_ c, ?_⟩, hmu⟩
     ·simp only [Pe, hd, cond_true, Int.toNat_natCast, QN, PJ hul, hu1, Option.bind_some, hw]
     ·by_cases e : k = j
      ·exact absurd (e ▸ hQ) c
      ·omega
     ·by_cases e : k = j
      ·exact absurd (e ▸ hQ) c
      ·omega
     ·rcases g5 with ⟨p1, p2⟩ | ⟨p1, p2, p3, p4⟩
      ·refine .inl ⟨p1, fun k a b => ?_⟩
       by_cases e : k = j
       ·rw [e]; exact hQ
       ·exact p2 k a (by omega)
      ·exact .inr ⟨p1, by omega, p3, p4⟩
    ·rw [decide_eq_false hQ] at hu1
     obtain ⟨l, c1, c2, c3, c4⟩ := hc.at hi1 hi2 b1 hjm
     have hvj := hvb j b1 hjm
     have hcur : PF (PF (cC a0 i0 j - ga u i0) - ga v j) = cC a0 i0 j - ga u i0 - ga v j := by
      rw [PL (n := cC a0 i0 j - ga u i0) (by omega) (by omega)]
      exact PL (by omega) (by omega)
     have i1 : Of u (i0 : Int) = true := PJ (by omega)
     have i2 : Of v (j : Int) = true := PJ (by omega)
     have i3 : Of ls' (j : Int) = true := PJ (by omega)
     have i4 : Of fr' (j : Int) = true := PJ (by omega)
     have e1 := Ql (l := u) (i := i0) (by omega)
     have e2 := Ql (l := v) (i := j) (by omega)
     have e3 := Ql (l := ls') (i := j) (by omega)
     obtain ⟨g1a, g1b⟩ := g1 j (Nat.le_refl _) hjm
     generalize hcv : cC a0 i0 j - ga u i0 - ga v j = cur at hcur
     have hcb : cur ≤ 200000 := by omega
     have key : ∀ (ls2 fr2 : List Int), ls2.length = m + 1 → fr2.length = m + 1 → (∀ k, k ≠ j → ga ls2 k = ga ls' k ∧ ga fr2 k = ga fr' k) →
       ((cur < ga ls j ∧ ga ls2 j = cur ∧ ga fr2 j = (j0 : Int)) ∨ (¬ cur < ga ls j ∧ ga ls2 j = ga ls j ∧ ga fr2 j = ga fr j)) → (∀ d2 j2, (ga ls2 j < d ∧ d2 = ga ls2 j ∧ j2 = j ∨ ¬ ga ls2 j < d ∧ d2 = d ∧ j2 = j1) →
       ∃ (d' : Int) (j1' j' : Nat) (ls' fr' : List Int), (d2, ((j2 : Nat) : Int), ((j + 1 : Nat) : Int), ls2, fr2) = (d', (j1' : Int), (j' : Int), ls', fr') ∧ 1 ≤ j' ∧ j' ≤ m + 1 ∧ ls'.length = m + 1 ∧ fr'.length = m + 1 ∧
   (∀ k, j' ≤ k → k ≤ m → ga ls' k = ga ls k ∧ ga fr' k = ga fr k) ∧ (∀ k, k ≤ m → k ∈ j0 :: Q → ga fr' k = ga fr k) ∧
   (∀ k, 1 ≤ k → k < j' → k ∉ j0 :: Q → (cC a0 i0 k - ga u i0 - ga v k < ga ls k ∧ ga ls' k = cC a0 i0 k - ga u i0 - ga v k ∧ ga fr' k = (j0 : Int)) ∨ (¬ cC a0 i0 k - ga u i0 - ga v k < ga ls k ∧ ga ls' k = ga ls k ∧ ga fr' k = ga fr k)) ∧
   (∀ k, 1 ≤ k → k < j' → k ∉ j0 :: Q → d' ≤ ga ls' k) ∧ ((d' = 1099511627776 ∧ ∀ k, 1 ≤ k → k < j' → k ∈ j0 :: Q) ∨ (1 ≤ j1' ∧ j1' < j' ∧ j1' ∉ j0 :: Q ∧ ga ls' j1' = d'))) := by
      intro ls2 fr2 q1 q2 q3 q4 d2 j2 q5
      refine ⟨d2, j2, j + 1, ls2, fr2, rfl, by omega, by omega, q1, q2, fun k a b => ?_, fun k a b => ?_, fun k a b c => ?_, fun k a b c => ?_, ?_⟩
      ·rw [(q3 k (by omega)).1, (q3 k (by omega)).2]; exact g1 k (by omega) b
      ·have hne : k ≠ j := fun e => hQ (e ▸ b)
       rw [(q3 k hne).2]; exact g2 k a b
      ·by_cases e : k = j
       ·subst e
        rw [hcv]; exact q4
       ·rw [(q3 k e).1, (q3 k e).2]; exact g3 k a (by omega) c
      ·by_cases e : k = j
       ·subst e
        rcases q5 with ⟨p1, p2, p3⟩ | ⟨p1, p2, p3⟩ <;> omega
       ·rw [(q3 k e).1]
        have := g4 k a (by omega) c
        rcases q5 with ⟨p1, p2, p3⟩ | ⟨p1, p2, p3⟩ <;> omega
      ·have hlt : ga ls2 j ≤ 200000 := by rcases q4 with ⟨p1, p2, _⟩ | ⟨p1, p2, _⟩ <;> omega
       rcases q5 with ⟨p1, p2, p3⟩ | ⟨p1, p2, p3⟩
       ·exact .inr ⟨by omega, by omega, by rw [p3]; exact hQ, by rw [p3, p2]⟩
       ·rcases g5 with ⟨r1, r2⟩ | ⟨r1, r2, r3, r4⟩
        ·omega
        ·exact .inr ⟨by omega, by omega, by rw [p3]; exact r3, by rw [p3, p2, (q3 j1 (by omega)).1, r4]⟩
     by_cases hcl : cur < ga ls j
     ·have hcl' : decide (cur < ga ls' j) = true := by rw [decide_eq_true_eq, g1a]; exact hcl
      have il : Of (ls'.set j cur) (j : Int) = true := PJ (by simp; omega)
      have el : (ls'.set j cur)[j]? = some cur := by rw [List.getElem?_set_self (by omega)]
      have kk := key (ls'.set j cur) (fr'.set j (j0 : Int)) (by simp [l1]) (by simp [l2]) (fun k hk => ⟨by rw [Rj (by omega), if_neg hk], by rw [Rj (by omega), if_neg hk]⟩) (.inl ⟨hcl, by rw [Rj (by omega), if_pos rfl], by rw [Rj (by omega), if_pos rfl]⟩)
      rw [Rj (by omega), if_pos rfl] at kk
      by_cases hdl : cur < d
      ·refine ⟨(cur, (j : Int), ((j + 1 : Nat) : Int), ls'.set j cur, fr'.set j (j0 : Int)), ?_, kk cur j (.inl ⟨hdl, rfl, rfl⟩), hmu⟩
       simp only [Pe, hd, cond_true, Int.toNat_natCast, QN, PJ hul, hu1, Option.bind_some, hw, cond_false, c1, c2, i1, i2, i3, i4, e1, e2, e3, hcur, hcl', il, el, decide_eq_true hdl]
      ·refine ⟨(d, (j1 : Int), ((j + 1 : Nat) : Int), ls'.set j cur, fr'.set j (j0 : Int)), ?_, kk d j1 (.inr ⟨hdl, rfl, rfl⟩), hmu⟩
       simp only [Pe, hd, cond_true, Int.toNat_natCast, QN, PJ hul, hu1, Option.bind_some, hw, cond_false, c1, c2, i1, i2, i3, i4, e1, e2, e3, hcur, hcl', il, el, decide_eq_false hdl]
     ·have hcl' : decide (cur < ga ls' j) = false := by rw [decide_eq_false_iff_not, g1a]; exact hcl
      have kk := key ls' fr' l1 l2 (fun k hk => ⟨rfl, rfl⟩) (.inr ⟨hcl, g1a, g1b⟩)
      by_cases hdl : ga ls' j < d
      ·refine ⟨(ga ls' j, (j : Int), ((j + 1 : Nat) : Int), ls', fr'), ?_, kk (ga ls' j) j (.inl ⟨hdl, rfl, rfl⟩), hmu⟩
       simp only [Pe, hd, cond_true, Int.toNat_natCast, QN, PJ hul, hu1, Option.bind_some, hw, cond_false, c1, c2, i1, i2, i3, i4, e1, e2, e3, hcur, hcl', decide_eq_true hdl]
      ·refine ⟨(d, (j1 : Int), ((j + 1 : Nat) : Int), ls', fr'), ?_, kk d j1 (.inr ⟨hdl, rfl, rfl⟩), hmu⟩
       simp only [Pe, hd, cond_true, Int.toNat_natCast, QN, PJ hul, hu1, Option.bind_some, hw, cond_false, c1, c2, i1, i2, i3, i4, e1, e2, e3, hcur, hcl', decide_eq_false hdl])
  n (1099511627776, 0, 1, ls, fr) ⟨1099511627776, 0, 1, ls, fr, rfl, Nat.le_refl _, by omega, ll, lf, fun k _ _ => ⟨rfl, rfl⟩, fun k _ _ => rfl, fun k a b => by omega, fun k a b => by omega, .inl ⟨rfl, fun k a b => by omega⟩⟩ (by show m + 1 - (1 : Int).toNat < n; unfold PQ at hn; omega)
 exact ⟨d, j1, ls', fr', by rw [h2, e], h1⟩
theorem Vp {N m i : Nat} {u v ls w : List Int} {us : List Bool} {Q : List Nat} {j0 : Nat} (hm : m ≤ 10) (fr0 : List Int) (x16 : Int × Int × Int × (List Int) × (List Int))
  (lu : u.length = N + 1) (lv : v.length = m + 1) (ll : ls.length = m + 1) (lw : w.length = m + 1)
  (hus : ∀ k, k ≤ m → (us.set j0 true)[k]? = some (decide (k ∈ j0 :: Q))) (hlu : us.length = m + 1)
  (hw : ∀ k, k ≤ m → k ∈ j0 :: Q → 1 ≤ ga w k ∧ ga w k ≤ N) (hinj : ∀ k b, k ≤ m → b ≤ m → k ∈ j0 :: Q → b ∈ j0 :: Q → ga w k = ga w b → k = b)
  (hd : 0 ≤ x16.1 ∧ x16.1 ≤ 200000) (hub : ∀ r, 1 ≤ r → r ≤ N → 0 ≤ ga u r ∧ ga u r ≤ 100000) (hvb : ∀ j, 1 ≤ j → j ≤ m → -100000 ≤ ga v j ∧ ga v j ≤ 0)
  (hlb : ∀ k, 1 ≤ k → k ≤ m → k ∉ j0 :: Q → 0 ≤ ga ls k ∧ ga ls k ≤ 200000) (ls0 : List Int) (h0 : 0 ∈ j0 :: Q)
  (n : Nat) (hn : PQ ≤ n) :
  ∃ (u' v' ls' : List Int), iter n (QL w (m : Int) ((j0 : Int), u, v, ls0, fr0, us) x16) (0, u, v, ls) = some (((m + 1 : Nat) : Int), u', v', ls') ∧
   u'.length = N + 1 ∧ v'.length = m + 1 ∧ ls'.length = m + 1 ∧
   (∀ r : Nat, 1 ≤ r → r ≤ N → (∃ b ∈ j0 :: Q, b ≤ m ∧ ga w b = (r : Int)) → ga u' r = ga u r + x16.1) ∧
   (∀ r : Nat, 1 ≤ r → r ≤ N → ¬ (∃ b ∈ j0 :: Q, b ≤ m ∧ ga w b = (r : Int)) → ga u' r = ga u r) ∧
   (∀ j, 1 ≤ j → j ≤ m → j ∈ j0 :: Q → ga v' j = ga v j - x16.1) ∧ (∀ j, 1 ≤ j → j ≤ m → j ∉ j0 :: Q → ga v' j = ga v j) ∧
   (∀ j, 1 ≤ j → j ≤ m → j ∉ j0 :: Q → ga ls' j = ga ls j - x16.1) := by
 obtain ⟨z, ⟨j, u', v', ls', e, hje, h1⟩, h2⟩ := Uc (f := QL w (m : Int) ((j0 : Int), u, v, ls0, fr0, us) x16)
  (fun x => ∃ (j : Nat) (u' v' ls' : List Int), x = ((j : Int), u', v', ls') ∧ j ≤ m + 1 ∧ u'.length = N + 1 ∧ v'.length = m + 1 ∧ ls'.length = m + 1 ∧
   (∀ r : Nat, 1 ≤ r → r ≤ N → (∃ b ∈ j0 :: Q, b < j ∧ ga w b = (r : Int)) → ga u' r = ga u r + x16.1) ∧
   (∀ r : Nat, 1 ≤ r → r ≤ N → ¬ (∃ b ∈ j0 :: Q, b < j ∧ ga w b = (r : Int)) → ga u' r = ga u r) ∧
   (∀ k, 1 ≤ k → k ≤ m → k ∈ j0 :: Q → ga v' k = if k < j then ga v k - x16.1 else ga v k) ∧ (∀ k, 1 ≤ k → k ≤ m → k ∉ j0 :: Q → ga v' k = ga v k) ∧
   (∀ k, 1 ≤ k → k ≤ m → k ∉ j0 :: Q → ga ls' k = if k < j then ga ls k - x16.1 else ga ls k))
  (fun x => ∃ (j : Nat) (u' v' ls' : List Int), x = ((j : Int), u', v', ls') ∧ j = m + 1 ∧ u'.length = N + 1 ∧ v'.length = m + 1 ∧ ls'.length = m + 1 ∧
   (∀ r : Nat, 1 ≤ r → r ≤ N → (∃ b ∈ j0 :: Q, b < j ∧ ga w b = (r : Int)) → ga u' r = ga u r + x16.1) ∧
   (∀ r : Nat, 1 ≤ r → r ≤ N → ¬ (∃ b ∈ j0 :: Q, b < j ∧ ga w b = (r : Int)) → ga u' r = ga u r) ∧
   (∀ k, 1 ≤ k → k ≤ m → k ∈ j0 :: Q → ga v' k = if k < j then ga v k - x16.1 else ga v k) ∧ (∀ k, 1 ≤ k → k ≤ m → k ∉ j0 :: Q → ga v' k = ga v k) ∧
   (∀ k, 1 ≤ k → k ≤ m → k ∉ j0 :: Q → ga ls' k = if k < j then ga ls k - x16.1 else ga ls k))
  (fun x => m + 1 - x.1.toNat) (fun x hx => by
   obtain ⟨j, u', v', ls', rfl, b, l1, l2, l3, g1, g2, g3, g4, g5⟩ := hx
   by_cases hj : j = m + 1
   ·left
    have hdd : decide ((j : Int) ≤ (m : Int)) = false := by rw [decide_eq_false_iff_not]; omega
    exact ⟨((j : Int), u', v', ls'), by simp only [QL, hdd, cond_false], j, u', v', ls', rfl, hj, l1, l2, l3, g1, g2, g3, g4, g5⟩
   ·right
    have hjm : j ≤ m := by omega
    have hdd : decide ((j : Int) ≤ (m : Int)) = true := by rw [decide_eq_true_eq]; omega
    have hu1 := hus j hjm
    have hul : j < (us.set j0 true).length := by simp; omega
    have hw1 : PF ((j : Int) + 1) = ((j + 1 : Nat) : Int) := PC (show j < m + 1 by omega) (by omega)
    have hmu : m + 1 - ((j + 1 : Nat) : Int).toNat < m + 1 - ((j : Nat) : Int).toNat := by omega
    by_cases hQ : j ∈ j0 :: Q
    ·rw [decide_eq_true hQ] at hu1
     obtain ⟨w1, w2⟩ := hw j hjm hQ
     obtain ⟨r, hr⟩ : ∃ r : Nat, ga w j = (r : Int) := ⟨(ga w j).toNat, by omega⟩
     have i1 : Of w (j : Int) = true := PJ (by omega)
     have i2 : Of u' (r : Int) = true := PJ (by omega)
     have i3 : Of v' (j : Int) = true := PJ (by omega)
     have e1 := Ql (l := w) (i := j) (by omega)
     rw [hr] at e1
     have e2 := Ql (l := u') (i := r) (by omega)
     have e3 := Ql (l := v') (i := j) (by omega)
     have hnb : ¬ ∃ b ∈ j0 :: Q, b < j ∧ ga w b = (r : Int) := by
      rintro ⟨b, hb, hlt, e⟩
      have := hinj b j (by omega) hjm hb hQ (by omega)
      omega
     have hu' := g2 r (by omega) (by omega) hnb
     have hub' := hub r (by omega) (by omega)
     refine ⟨(((j + 1 : Nat) : Int), u'.set r (PF (ga u' r + x16.1)), v'.set j (PF (ga v' j - x16.1)), ls'), ?_, ⟨j + 1, u'.set r (PF (ga u' r + x16.1)), v'.set j (PF (ga v' j - x16.1)), ls', rfl, by omega, by simp [l1], by simp [l2], l3, fun s s1 s2 hs => ?_, fun s s1 s2 hs => ?_, fun k k1 k2 hk => ?_, fun k k1 k2 hk => ?_, fun k k1 k2 hk => ?_⟩, hmu⟩
     ·simp only [QL, hdd, cond_true, Int.toNat_natCast, QN, PJ hul, hu1, Option.bind_some, hw1, i1, i2, i3, e1, e2, e3]
     ·rw [Rj (by omega)]
      by_cases e : s = r
      ·rw [if_pos e, e, PL (by omega) (by omega)]; omega
      ·rw [if_neg e]
       obtain ⟨b, hb, hlt, eb⟩ := hs
       have hbj : b ≠ j := fun e2 => by rw [e2, hr] at eb; omega
       exact g1 s s1 s2 ⟨b, hb, by omega, eb⟩
     ·have e : s ≠ r := fun e => hs ⟨j, hQ, by omega, by rw [hr, e]⟩
      rw [Rj (by omega), if_neg e]
      exact g2 s s1 s2 fun ⟨b, hb, hlt, eb⟩ => hs ⟨b, hb, by omega, eb⟩
     ·rw [Rj (by omega)]
      by_cases e : k = j
      ·have h3 := g3 k k1 k2 hk
       rw [if_neg (by omega)] at h3
       have := hvb k k1 k2
       rw [if_pos e, if_pos (by omega), ← e, h3, PL (by omega) (by omega)]
      ·rw [if_neg e, g3 k k1 k2 hk]
       by_cases e2 : k < j
       ·rw [if_pos e2, if_pos (by omega)]
       ·rw [if_neg e2, if_neg (by omega)]
     ·have e : k ≠ j := fun e => hk (e ▸ hQ)
      rw [Rj (by omega), if_neg e]; exact g4 k k1 k2 hk
     ·have e : k ≠ j := fun e => hk (e ▸ hQ)
      rw [g5 k k1 k2 hk]
      by_cases e2 : k < j
      ·rw [if_pos e2, if_pos (by omega)]
      ·rw [if_neg e2, if_neg (by omega)]
    ·rw [decide_eq_false hQ] at hu1
     have hj1 : 1 ≤ j := by
      rcases Nat.eq_zero_or_pos j with e | e
      ·exact absurd (e ▸ h0) hQ
      ·exact e
     have i3 : Of ls' (j : Int) = true := PJ (by omega)
     have e3 := Ql (l := ls') (i := j) (by omega)
     have h5 := g5 j hj1 hjm hQ
     rw [if_neg (by omega)] at h5
     have hlb' := hlb j hj1 hjm hQ
     have sm : ∀ r : Nat, (∃ b ∈ j0 :: Q, b < j + 1 ∧ ga w b = (r : Int)) ↔ ∃ b ∈ j0 :: Q, b < j ∧ ga w b = (r : Int) := fun r =>
      ⟨fun ⟨b, hb, h1, h2⟩ => ⟨b, hb, by
       have : b ≠ j := fun e => hQ (e ▸ hb)
       omega, h2⟩, fun ⟨b, hb, h1, h2⟩ => ⟨b, hb, by omega, h2⟩⟩
     refine ⟨(((j + 1 : Nat) : Int), u', v', ls'.set j (PF (ga ls' j - x16.1))), ?_, ⟨j + 1, u', v', ls'.set j (PF (ga ls' j - x16.1)), rfl, by omega, l1, l2, by simp [l3], fun s s1 s2 hs => g1 s s1 s2 ((sm s).1 hs), fun s s1 s2 hs => g2 s s1 s2 fun h => hs ((sm s).2 h), fun k k1 k2 hk => ?_, g4, fun k k1 k2 hk => ?_⟩, hmu⟩
     ·simp only [QL, hdd, cond_true, cond_false, Int.toNat_natCast, QN, PJ hul, hu1, Option.bind_some, hw1, i3, e3]
     ·have e : k ≠ j := fun e => hQ (e ▸ hk)
      rw [g3 k k1 k2 hk]
      by_cases e2 : k < j
      ·rw [if_pos e2, if_pos (by omega)]
      ·rw [if_neg e2, if_neg (by omega)]
     ·rw [Rj (by omega)]
      by_cases e : k = j
      ·rw [if_pos e, if_pos (by omega), e, h5, PL (by omega) (by omega)]
      ·rw [if_neg e, g5 k k1 k2 hk]
       by_cases e2 : k < j
       ·rw [if_pos e2, if_pos (by omega)]
       ·rw [if_neg e2, if_neg (by omega)])
  n (0, u, v, ls) ⟨0, u, v, ls, rfl, by omega, lu, lv, ll, fun r _ _ h => by obtain ⟨b, _, hb, _⟩ := h; omega, fun r _ _ _ => rfl, fun k _ _ _ => by rw [if_neg (by omega)], fun k _ _ _ => rfl, fun k _ _ _ => by rw [if_neg (by omega)]⟩ (by show m + 1 - (0 : Int).toNat < n; unfold PQ at hn; omega)
 obtain ⟨l1, l2, l3, g1, g2, g3, g4, g5⟩ := h1
 subst hje
 refine ⟨u', v', ls', by rw [h2, e], l1, l2, l3, fun r r1 r2 ⟨b, hb, hbm, eb⟩ => g1 r r1 r2 ⟨b, hb, by omega, eb⟩, fun r r1 r2 h => g2 r r1 r2 fun ⟨b, hb, hbm, eb⟩ => h ⟨b, hb, by omega, eb⟩, fun j j1 j2 hj => ?_, g4, fun j j1 j2 hj => ?_⟩
 ·rw [g3 j j1 j2 hj, if_pos (by omega)]
 ·rw [g5 j j1 j2 hj, if_pos (by omega)]
theorem Qy {α γ : Type} {f : α → Option (α ⊕ γ)} (R : Nat → α → Prop) (S : γ → Prop)
  (h : ∀ k x, R k x → (∃ z, f x = some (.inr z) ∧ S z) ∨ (∃ x' k', f x = some (.inl x') ∧ R k' x' ∧ k' < k)) :
  ∀ n k x, R k x → k < n → ∃ z, S z ∧ iter n f x = some z := by
 intro n
 induction n with
 | zero => intro k x _ hn; omega
 | succ n ih =>
  intro k x hR hn
  rcases h k x hR with ⟨z, h1, h3⟩ | ⟨x', k', h1, h3, h4⟩
  ·exact ⟨z, h3, Pd h1 n⟩
  ·obtain ⟨z, h5, h6⟩ := ih k' x' h3 (by omega)
   exact ⟨z, h5, (RQ h1 n).trans h6⟩
theorem Ch.zero {P : Nat → Nat → Prop} : ∀ {a : Nat} {l : List Nat}, Ch P (a :: l) → 0 ∈ a :: l
 | a, [], h => by
  rcases h with ⟨h, _⟩ | ⟨_, ⟨x, hx, _⟩, _⟩
  ·rw [h]; exact List.mem_cons_self
  ·cases hx
 | a, b :: l, h => by
  rcases h with ⟨_, h⟩ | ⟨_, _, h⟩
  ·cases h
  ·exact List.mem_cons_of_mem _ (Ch.zero h)
theorem VW {a0 : List (List Int)} {m i : Nat} (hc : CM a0 m) {w : List Int} (lw : w.length = m + 1) (hm : HM m i (ga w)) (hw0 : ga w 0 = (i : Int)) (h1i : 1 ≤ i) (hiN : i ≤ a0.length) (n : Nat) (hn : PQ ≤ n)
  {u v ls fr : List Int} {us : List Bool} {j0 : Nat} {Q : List Nat} (lu : u.length = a0.length + 1) (lv : v.length = m + 1) (ll : ls.length = m + 1) (lf : fr.length = m + 1) (Xj : us.length = m + 1)
  (hG : HG (cC a0) a0.length m (ga u) (ga v) (ga w) (ga ls) (ga fr) Q j0) (hu : ∀ k, k ≤ m → us[k]? = some (decide (k ∈ Q))) (eC : 1 ≤ ga w j0) (hfar : Q = [] → ∀ k, k ≤ m → ga ls k = 1099511627776) :
  ∃ (j1 : Nat) (u' v' ls' fr' : List Int), u'.length = a0.length + 1 ∧ v'.length = m + 1 ∧ ls'.length = m + 1 ∧ fr'.length = m + 1 ∧ HG (cC a0) a0.length m (ga u') (ga v') (ga w) (ga ls') (ga fr') (j0 :: Q) j1 ∧
   (∀ k, k ≤ m → (us.set j0 true)[k]? = some (decide (k ∈ j0 :: Q))) ∧ 0 ≤ ga w j1 ∧ (j0 :: Q).length ≤ m + 1 ∧
   QK n a0 w (m : Int) ((j0 : Int), u, v, ls, fr, us) = bif ga w j1 == 0 then some (.inr ((j1 : Int), u', v', ls', fr', us.set j0 true)) else some (.inl ((j1 : Int), u', v', ls', fr', us.set j0 true)) := by
 have hm10 := hc.V7
 have hnm := hc.nm
 have hj0 := hG.gf
 obtain ⟨bu, bv⟩ := hG.hf.Mt hG.ht hm h1i (by clear hn; omega) hiN (M := 100000) (fun r j r1 r2 j1 j2 => by
  obtain ⟨_, _, _, p, q⟩ := hc.at r1 r2 j1 j2
  exact ⟨p, q⟩)
 have wle : ∀ k, k ≤ m → ga w k ≤ (a0.length : Int) := fun k hk => by
  by_cases e : k = 0
  ·rw [e, hw0]; clear hn; omega
  ·have := hm.Uw k (by clear hn; omega) hk
   clear hn; omega
 obtain ⟨i0, hi0⟩ : ∃ i0 : Nat, ga w j0 = (i0 : Int) := ⟨(ga w j0).toNat, by clear hn; omega⟩
 have hi01 : 1 ≤ i0 := by clear hn; omega
 have hi02 : i0 ≤ a0.length := by have := wle j0 hj0; clear hn; omega
 have hset : ∀ k, k ≤ m → (us.set j0 true)[k]? = some (decide (k ∈ j0 :: Q)) := fun k hk => by
  rw [List.getElem?_set]
  by_cases e : j0 = k
  ·subst e; simp [Xj]; clear hn; omega
  ·rw [if_neg e, hu k hk]
   congr 1
   have : k ≠ j0 := fun q => e q.symm
   simp [this]
 obtain ⟨d, j1, ls', fr', s1, l1, l2, s2, s3, s4, s5⟩ := VV (i := i) hc (w := w) hj0 lu lv ll lf hset Xj hi01 hi02 (bu i0 hi01 hi02) bv n hn
 have hfar2 : Q = [] → ∀ j, 1 ≤ j → j ≤ m → cC a0 i0 j - ga u i0 - ga v j < ga ls j := fun e j a b => by
  rw [hfar e j b]
  obtain ⟨_, _, _, p, q⟩ := hc.at hi01 hi02 a b
  have := bu i0 hi01 hi02
  have := bv j a b
  clear hn; omega
 have hS : HS (cC a0) a0.length m (ga u) (ga v) (ga w) (ga ls') (ga fr') (j0 :: Q) := hG.scan hi01 hi0 hfar2 s2 s3
 have rN : ∀ b ∈ j0 :: Q, ∀ r : Nat, ga w b = (r : Int) → 1 ≤ r ∧ r ≤ a0.length := fun b hb r hr => by
  have := hS.qp b hb
  have := wle b (hS.qm b hb)
  clear hn; omega
 have hlb : ∀ k, 1 ≤ k → k ≤ m → k ∉ j0 :: Q → 0 ≤ ga ls' k ∧ ga ls' k ≤ 200000 := fun k a b c => by
  obtain ⟨q, hq, _, r, r1, r2, r3⟩ := hS.l2 k a b c
  obtain ⟨p1, p2⟩ := rN q hq r r2
  have := hS.hf.Wo r k p1 p2 a b
  obtain ⟨_, _, _, p, q⟩ := hc.at p1 p2 a b
  have := bu r p1 p2
  have := bv k a b
  clear hn; omega
 rcases s5 with s5 | ⟨a1, a2, a3, a4⟩
 ·obtain ⟨f, f1, f2, f3⟩ := hm.open h1i (by clear hn; omega)
  have := hS.qp f (s5 f f1 f2)
  clear hn; omega
 have hdb := hlb j1 a1 a2 a3
 rw [a4] at hdb
 have hinj : ∀ k b, k ≤ m → b ≤ m → k ∈ j0 :: Q → b ∈ j0 :: Q → ga w k = ga w b → k = b := fun k b c1 c2 c3 c4 c5 => by
  have p1 := hS.qp k c3
  by_cases k0 : k = 0
  ·by_cases b0 : b = 0
   ·clear hn; omega
   ·have := hm.Uw b (by clear hn; omega) c2
    rw [k0, hw0] at c5; clear hn; omega
  ·by_cases b0 : b = 0
   ·have := hm.Uw k (by clear hn; omega) c1
    rw [b0, hw0] at c5; clear hn; omega
   ·exact hm.inj k b (by clear hn; omega) c1 (by clear hn; omega) c2 c5 (by clear hn; omega)
 have h00 : 0 ∈ j0 :: Q := Ch.zero hG.ch
 obtain ⟨u', v', ls'', t1, t2, t3, t4, t5, t6, t7, t8, t9⟩ := Vp (m := m) (i := i) (u := u) (v := v) (ls := ls') (w := w) hm10 fr (d, (j1 : Int), ((m + 1 : Nat) : Int), ls', fr') lu lv l1 lw hset Xj (fun k a b => ⟨hS.qp k b, wle k a⟩) hinj hdb bu bv hlb ls h00 n hn
 obtain ⟨hd0, hG'⟩ := hS.step (u' := ga u') (v' := ga v') (ls' := ga ls'') hm hw0 hiN a1 a2 a3 a4 s4 (fun r r1 r2 ⟨b, hb, eb⟩ => t5 r r1 r2 ⟨b, hb, hS.qm b hb, eb⟩) (fun r r1 r2 h => t6 r r1 r2 fun ⟨b, hb, _, eb⟩ => h ⟨b, hb, eb⟩) t7 t8 t9
 have i1 : Of us (j0 : Int) = true := PJ (by clear hn; omega)
 have i2 : Of w (j0 : Int) = true := PJ (by clear hn; omega)
 have i3 : Of w (j1 : Int) = true := PJ (by clear hn; omega)
 have e2 := Ql (l := w) (i := j0) (by clear hn; omega)
 have e3 := Ql (l := w) (i := j1) (by clear hn; omega)
 rw [hi0] at e2
 have hlen : (j0 :: Q).length ≤ m + 1 := by
  have := Ti (j0 :: Q) (List.range (m + 1)) hS.nd (fun x hx => by rw [List.mem_range]; have := hS.qm x hx; clear hn; omega)
  simpa using this
 refine ⟨j1, u', v', ls'', fr', t2, t3, t4, l2, hG', hset, (hm.Uw j1 a1 a2).1, hlen, ?_⟩
 simp only [QK, i1, i2, i3, cond_true, Int.toNat_natCast, e2, e3, Option.bind_some, s1, t1, QN]
abbrev GT := Int × (List Int) × (List Int) × (List Int) × (List Int) × (List Bool)
structure GS (a0 : List (List Int)) (m : Nat) (w : List Int) (k : Nat) (x : GT) (j0 : Nat) (Q : List Nat) : Prop where
 j : x.1 = (j0 : Int)
 lu : x.2.1.length = a0.length + 1
 lv : x.2.2.1.length = m + 1
 ll : x.2.2.2.1.length = m + 1
 lf : x.2.2.2.2.1.length = m + 1
 Xj : x.2.2.2.2.2.length = m + 1
 hG : HG (cC a0) a0.length m (ga x.2.1) (ga x.2.2.1) (ga w) (ga x.2.2.2.1) (ga x.2.2.2.2.1) Q j0
 hu : ∀ k, k ≤ m → x.2.2.2.2.2[k]? = some (decide (k ∈ Q))
 eC : 1 ≤ ga w j0
 hfar : Q = [] → ∀ k, k ≤ m → ga x.2.2.2.1 k = 1099511627776
 hk : k + Q.length = m + 1
structure GE (a0 : List (List Int)) (m : Nat) (w : List Int) (x : GT) (j0 : Nat) (Q : List Nat) : Prop where
 j : x.1 = (j0 : Int)
 lu : x.2.1.length = a0.length + 1
 lv : x.2.2.1.length = m + 1
 lf : x.2.2.2.2.1.length = m + 1
 hG : HG (cC a0) a0.length m (ga x.2.1) (ga x.2.2.1) (ga w) (ga x.2.2.2.1) (ga x.2.2.2.2.1) Q j0
 hz : ga w j0 = 0
theorem Vo {a0 : List (List Int)} {m i : Nat} (hc : CM a0 m) {w : List Int} (lw : w.length = m + 1) (hm : HM m i (ga w)) (hw0 : ga w 0 = (i : Int)) (h1i : 1 ≤ i) (hiN : i ≤ a0.length) (n : Nat) (hn : PQ ≤ n) (k : Nat) (x : GT) (hx : ∃ j0 Q, GS a0 m w k x j0 Q) :
  (∃ z, QK n a0 w (m : Int) x = some (.inr z) ∧ ∃ j0 Q, GE a0 m w z j0 Q) ∨ (∃ x' k', QK n a0 w (m : Int) x = some (.inl x') ∧ (∃ j0 Q, GS a0 m w k' x' j0 Q) ∧ k' < k) := by
 obtain ⟨x1, u, v, ls, fr, us⟩ := x
 obtain ⟨j0, Q, ⟨j, lu, lv, ll, lf, Xj, hG, hu, eC, hfar, hk⟩⟩ := hx
 dsimp only at j lu lv ll lf Xj hG hu hfar
 subst j
 obtain ⟨j1, u', v', ls', fr', t2, t3, t4, l2, hG', hset, hw1, hlen, hstep⟩ := VW hc lw hm hw0 h1i hiN n hn lu lv ll lf Xj hG hu eC hfar
 clear hG hu hfar hn
 rw [List.length_cons] at hlen
 by_cases hz : ga w j1 = 0
 ·rw [show (ga w j1 == 0) = true by simpa using hz, cond_true] at hstep
  exact .inl ⟨_, hstep, j1, j0 :: Q, ⟨rfl, t2, t3, l2, hG', hz⟩⟩
 ·rw [show (ga w j1 == 0) = false by simpa using hz, cond_false] at hstep
  have h1 : 1 ≤ ga w j1 := by clear hstep hG' hset; omega
  exact .inr ⟨_, k - 1, hstep, ⟨j1, j0 :: Q, ⟨rfl, t2, t3, t4, l2, (by show (us.set j0 true).length = _; rw [List.length_set]; exact Xj), hG', hset, h1, (fun h => nomatch h), (by rw [List.length_cons]; omega)⟩⟩, (by omega)⟩
theorem VU {a0 : List (List Int)} {m i : Nat} (hc : CM a0 m) {w : List Int} (lw : w.length = m + 1) (hm : HM m i (ga w)) (hw0 : ga w 0 = (i : Int)) (h1i : 1 ≤ i) (hiN : i ≤ a0.length) (n : Nat) (hn : PQ ≤ n)
  {u v ls fr : List Int} {us : List Bool} (lu : u.length = a0.length + 1) (lv : v.length = m + 1) (ll : ls.length = m + 1) (lf : fr.length = m + 1) (Xj : us.length = m + 1)
  (hf : HF (cC a0) a0.length m (ga u) (ga v)) (ht : HT (cC a0) m (ga u) (ga v) (ga w)) (hls : ∀ k, k ≤ m → ga ls k = 1099511627776) (hus : ∀ k, k ≤ m → us[k]? = some false) :
  ∃ z, (∃ j0 Q, GE a0 m w z j0 Q) ∧ iter n (QK n a0 w (m : Int)) (0, u, v, ls, fr, us) = some z := by
 have hm10 := hc.V7
 have h0 : GS a0 m w (m + 1) (0, u, v, ls, fr, us) 0 [] :=
  ⟨rfl, lu, lv, ll, lf, Xj, ⟨hf, ht, by omega, by simp, by simp, by simp, .inl ⟨rfl, rfl⟩, fun _ _ _ _ b hb => (nomatch hb), .inl rfl⟩, fun k hk => by simpa using hus k hk, by rw [hw0]; clear hn; omega, fun _ => hls, by simp⟩
 exact Qy (fun k x => ∃ j0 Q, GS a0 m w k x j0 Q) (fun z => ∃ j0 Q, GE a0 m w z j0 Q) (Vo hc lw hm hw0 h1i hiN n hn) n (m + 1) _ ⟨0, [], h0⟩ (by unfold PQ at hn; omega)
theorem Vm {C : Nat → Nat → Int} {m i : Nat} {u v fr : List Int} (x27 : Int × (List Int) × (List Int) × (List Int) × (List Int) × (List Bool)) (hx : x27.2.2.2.2.1 = fr) (lf : fr.length = m + 1) (n : Nat) (hn : PQ ≤ n) {w : List Int} (lw : w.length = m + 1) {j0 : Nat} {Q : List Nat} (hm : m ≤ 10)
  (h : HA C m i (ga u) (ga v) (ga fr) (ga w) j0 Q) : ∃ z, (∃ w' Q', z = ((0 : Int), w') ∧ w'.length = m + 1 ∧ HA C m i (ga u) (ga v) (ga fr) (ga w') 0 Q') ∧ iter n (Rx x27) ((j0 : Int), w) = some z := by
 refine Qy (fun k x => ∃ (j0 : Nat) (Q : List Nat) (w : List Int), x = ((j0 : Int), w) ∧ w.length = m + 1 ∧ HA C m i (ga u) (ga v) (ga fr) (ga w) j0 Q ∧ k = Q.length) _ (fun k x hx' => ?_) n Q.length ((j0 : Int), w) ⟨j0, Q, w, rfl, lw, h, rfl⟩ ?_
 ·obtain ⟨j0, Q, w, rfl, lw, h, rfl⟩ := hx'
  by_cases hj : j0 = 0
  ·left
   subst hj
   exact ⟨((0 : Int), w), by simp [Rx], w, Q, rfl, lw, h⟩
  ·right
   have hjm : j0 ≤ m := h.lm j0 List.mem_cons_self
   obtain ⟨x, Q', p1, p2, p3, p4, p5⟩ := h.next (by omega)
   have hne : ((j0 : Int) != 0) = true := by simp; omega
   have i1 : Of fr (j0 : Int) = true := PJ (by omega)
   have i2 : Of w (x : Int) = true := PJ (by omega)
   have i3 : Of w (j0 : Int) = true := PJ (by omega)
   have e1 := Ql (l := fr) (i := j0) (by omega)
   have e2 := Ql (l := w) (i := x) (by omega)
   rw [p1] at e1
   refine ⟨((x : Int), w.set j0 (ga w x)), Q'.length, ?_, ⟨x, Q', w.set j0 (ga w x), rfl, by simp [lw], p5 _ ?_ (fun j a b => ?_), rfl⟩, p3⟩
   ·simp only [Rx, hne, cond_true, hx, i1, i2, i3, Int.toNat_natCast, e1, e2, Option.bind_some, QN]
   ·rw [Rj (by omega), if_pos rfl]
   ·rw [Rj (by omega), if_neg b]
 ·have := Ti Q (List.range (m + 1)) (List.nodup_cons.1 h.nd).2 (fun x hx => by rw [List.mem_range]; have := h.lm x (List.mem_cons_of_mem _ hx); omega)
  simp at this
  unfold PQ at hn; omega
theorem WL {a0 : List (List Int)} {m i : Nat} (hc : CM a0 m) {u v w : List Int} (lu : u.length = a0.length + 1) (lv : v.length = m + 1) (lw : w.length = m + 1) (h1i : 1 ≤ i) (hiN : i ≤ a0.length)
  (hf : HF (cC a0) a0.length m (ga u) (ga v)) (ht : HT (cC a0) m (ga u) (ga v) (ga w)) (hm : HM m i (ga w)) (hw0 : ga w 0 = (i : Int)) (n : Nat) (hn : PQ ≤ n) :
  ∃ u' v' w', SK n a0 u v w (m : Int) = some (u', v', w') ∧ u'.length = a0.length + 1 ∧ v'.length = m + 1 ∧ w'.length = m + 1 ∧ HF (cC a0) a0.length m (ga u') (ga v') ∧ HT (cC a0) m (ga u') (ga v') (ga w') ∧ HM m (i + 1) (ga w') := by
 have hm10 := hc.V7
 have e0 : PF ((m : Int) + 1) = ((m + 1 : Nat) : Int) := PC (show m < m + 1 by omega) (by omega)
 have g0 : (decide (0 ≤ ((m + 1 : Nat) : Int)) && decide (((m + 1 : Nat) : Int) ≤ (DZ : Int)) && decide (((m + 1 : Nat) : Int) = ((m + 1 : Nat) : Int))) = true := by
  rw [decide_eq_true (show 0 ≤ ((m + 1 : Nat) : Int) by omega), decide_eq_true (show ((m + 1 : Nat) : Int) ≤ (DZ : Int) by unfold DZ; omega)]
  simp
 obtain ⟨⟨x1, u', v', ls, fr, us⟩, ⟨j0, Q, ⟨j, lu', lv', lf', hG, hz⟩⟩, h2⟩ := VU hc lw hm hw0 h1i hiN n hn (ls := List.replicate (m + 1) 1099511627776) (fr := List.replicate (m + 1) 0) (us := List.replicate (m + 1) false) lu lv (by simp) (by simp) (by simp) hf ht (fun k hk => S8 _ _ _ (by omega)) (fun k hk => by rw [List.getElem?_replicate, if_pos (by omega)])
 dsimp only at j lu' lv' lf' hG
 subst j
 obtain ⟨z2, ⟨w', Q', rfl, lw', hA⟩, h3⟩ := Vm (fr := fr) ((j0 : Int), u', v', ls, fr, us) rfl lf' n hn lw hm10 (hG.jZ hm hw0 h1i hz)
 obtain ⟨d1, d2⟩ := hA.done
 refine ⟨u', v', w', ?_, lu', lv', lw', hG.hf, d2, d1⟩
 unfold SK
 rw [e0, g0]
 simp only [cond_true, Int.toNat_natCast, Vn m hm10 n hn, Option.bind_some, h2, h3]
def PD (a0 : List (List Int)) : List (Nat → Int) := a0.map ga
theorem U6 (a0 : List (List Int)) {r : Nat} (h : r < a0.length) (k : Nat) : ((PD a0)[r]'(by simp only [PD, List.length_map]; exact h)) k = cC a0 (r + 1) (k + 1) := by
 have e : (a0.map ga)[r]'(by simpa using h) = ga a0[r] := List.getElem_map ..
 show ((a0.map ga)[r]'(by simpa using h)) k = _
 rw [e]
 unfold cC
 rw [Nat.add_sub_cancel, Nat.add_sub_cancel, List.getD, List.getElem?_eq_getElem h, Option.getD_some]
theorem V6 {P : Nat → Nat → Prop} : ∀ N : Nat, (∀ r, r < N → ∃ k, P r k) → ∃ cs : List Nat, cs.length = N ∧ ∀ r (h : r < cs.length), P r cs[r]
 | 0, _ => ⟨[], rfl, fun r h => by simp at h⟩
 | N + 1, h => by
  obtain ⟨cs, h1, h2⟩ := V6 N (fun r hr => h r (by omega))
  obtain ⟨k, hk⟩ := h N (by omega)
  refine ⟨cs ++ [k], by simp [h1], fun r hr => ?_⟩
  by_cases e : r < cs.length
  ·rw [List.getElem_append_left e]; exact h2 r e
  ·have : r = cs.length := by simp at hr; omega
   subst this
   rw [List.getElem_append_right (Nat.le_refl _)]
   simpa [h1] using hk
theorem VX (f : Nat → Int) : ∀ (R : List (Nat → Int)) (cs : List Nat), cs.length = R.length → (∀ r (h1 : r < R.length) (h2 : r < cs.length), R[r] cs[r] = f cs[r]) → WW R cs = Pl (cs.map f)
 | [], [], _, _ => rfl
 | [], c :: cs, h, _ => by simp at h
 | r :: R, [], h, _ => by simp at h
 | r :: R, c :: cs, h, he => by
  have h0 := he 0 (by simp) (by simp)
  simp only [List.getElem_cons_zero] at h0
  simp only [WW, List.map_cons, Pl]
  rw [h0, VX f R cs (by simpa using h) (fun r h1 h2 => by
   have := he (r + 1) (by simp; omega) (by simp; omega)
   simpa only [List.getElem_cons_succ] using this)]
theorem WB (f h : Nat → Int) : ∀ (cs : List Nat) (u : List Int), u.length = cs.length → (∀ r (h1 : r < cs.length) (h2 : r < u.length), f cs[r] = u[r] + h cs[r]) → Pl (cs.map f) = Pl u + Pl (cs.map h)
 | [], [], _, _ => rfl
 | [], c :: cs, h, _ => by simp at h
 | r :: R, [], h, _ => by simp at h
 | c :: cs, x :: u, hl, he => by
  have h0 := he 0 (by simp) (by simp)
  simp only [List.getElem_cons_zero] at h0
  have := WB f h cs u (by simpa using hl) (fun r h1 h2 => by
   have := he (r + 1) (by simp; omega) (by simp; omega)
   simpa only [List.getElem_cons_succ] using this)
  simp only [List.map_cons, Pl]
  omega
theorem Ug {a0 : List (List Int)} {m : Nat} (hc : CM a0 m) (n : Nat) (hn : PQ ≤ n) : ∃ s, P8 n a0 = some s ∧ ZK (PD a0) (List.range m) s := by
 have hm10 := hc.V7
 have hnm := hc.nm
 by_cases h0 : a0.length = 0
 ·have : a0 = [] := List.eq_nil_of_length_eq_zero h0
  subst this
  exact ⟨0, by simp [P8], rfl, fun y hy => by simp only [PD, List.map_nil, AS] at hy; omega⟩
 have hg0 : ND a0 0 = some a0[0] := PH (show 0 < a0.length by omega)
 have hl0 : a0[0].length = m := hc.row _ (List.getElem_mem (show 0 < a0.length by omega))
 have hne : ((a0.length : Int) == 0) = false := by simp; intro h; exact h0 (by simp [h])
 have e0 : ∀ k : Nat, k ≤ 10 → PF ((k : Int) + 1) = ((k + 1 : Nat) : Int) ∧ (decide (0 ≤ ((k + 1 : Nat) : Int)) && decide (((k + 1 : Nat) : Int) ≤ (DZ : Int)) && decide (((k + 1 : Nat) : Int) = ((k + 1 : Nat) : Int))) = true := fun k hk => by
  refine ⟨PC (show k < k + 1 by omega) (by omega), ?_⟩
  rw [decide_eq_true (show 0 ≤ ((k + 1 : Nat) : Int) by omega), decide_eq_true (show ((k + 1 : Nat) : Int) ≤ (DZ : Int) by unfold DZ; omega)]
  simp
 obtain ⟨z, ⟨u, v, w, rfl, lu, lv, lw, hf, ht, hm⟩, hz⟩ := Qy (f := RV n a0 a0[0])
  (fun k x => ∃ (i : Nat) (u v w : List Int), x = ((i : Int), u, v, w) ∧ 1 ≤ i ∧ k + i = a0.length + 1 ∧ u.length = a0.length + 1 ∧ v.length = m + 1 ∧ w.length = m + 1 ∧ HF (cC a0) a0.length m (ga u) (ga v) ∧ HT (cC a0) m (ga u) (ga v) (ga w) ∧ HM m i (ga w))
  (fun z => ∃ (u v w : List Int), z = (((a0.length + 1 : Nat) : Int), u, v, w) ∧ u.length = a0.length + 1 ∧ v.length = m + 1 ∧ w.length = m + 1 ∧ HF (cC a0) a0.length m (ga u) (ga v) ∧ HT (cC a0) m (ga u) (ga v) (ga w) ∧ HM m (a0.length + 1) (ga w))
  (fun k x hx => by
   obtain ⟨i, u, v, w, rfl, h1, hk, lu, lv, lw, hf, ht, hm⟩ := hx
   by_cases hi : i = a0.length + 1
   ·left
    subst hi
    have hd : decide (((a0.length + 1 : Nat) : Int) ≤ (a0.length : Int)) = false := by rw [decide_eq_false_iff_not]; omega
    exact ⟨_, by simp only [RV, hd, cond_false], u, v, w, rfl, lu, lv, lw, hf, ht, hm⟩
   ·right
    have hd : decide ((i : Int) ≤ (a0.length : Int)) = true := by rw [decide_eq_true_eq]; omega
    have i0 : Of w 0 = true := PJ (show 0 < w.length by omega)
    have hs : ∀ j, 1 ≤ j → j ≤ m → ga (w.set 0 (i : Int)) j = ga w j := fun j a b => by rw [Rj (by omega), if_neg (by omega)]
    obtain ⟨u', v', w', g1, g2, g3, g4, g5, g6, g7⟩ := WL hc lu lv (w := w.set 0 (i : Int)) (by simp [lw]) h1 (by omega) hf (ht.congr hs) (hm.congr hs) (by rw [Rj (by omega), if_pos rfl]) n hn
    refine ⟨(((i + 1 : Nat) : Int), u', v', w'), k - 1, ?_, ⟨i + 1, u', v', w', rfl, by omega, by omega, g2, g3, g4, g5, g6, g7⟩, by omega⟩
    simp only [RV, hd, cond_true, i0, QN, hl0, g1, Option.bind_some, PC (show i < a0.length + 1 by omega) (by omega), Int.toNat_zero])
  n a0.length (1, List.replicate (a0.length + 1) 0, List.replicate (m + 1) 0, List.replicate (m + 1) 0) ⟨1, _, _, _, rfl, by omega, rfl, by simp, by simp, by simp, ⟨fun r j r1 r2 j1 j2 => by
   rw [S8 _ _ _ (by omega), S8 _ _ _ (by omega)]
   obtain ⟨_, _, _, p, _⟩ := hc.at r1 r2 j1 j2
   omega, fun j a b => by rw [S8 _ _ _ (by omega)]; omega, fun r a b => by rw [S8 _ _ _ (by omega)]; omega⟩, ⟨fun j r a b c d => by rw [S8 _ _ _ (by omega)] at d; omega, fun j a b c => S8 _ _ _ (by omega)⟩, ⟨fun j a b => by rw [S8 _ _ _ (by omega)]; omega, fun j k a b c d e f => by rw [S8 _ _ _ (by omega)] at f; omega, fun r a b => by omega⟩⟩ (by unfold PQ at hn; omega)
 let f : Nat → Int := fun k => if 0 < ga w (k + 1) then cC a0 (ga w (k + 1)).toNat (k + 1) else 0
 have fdef : ∀ k, f k = if 0 < ga w (k + 1) then cC a0 (ga w (k + 1)).toNat (k + 1) else 0 := fun k => rfl
 clear_value f
 have fb : ∀ k, k < m → 0 ≤ f k ∧ f k ≤ 100000 := fun k hk => by
  rw [fdef]
  by_cases h : 0 < ga w (k + 1)
  ·rw [if_pos h]
   have := hm.Uw (k + 1) (by omega) (by omega)
   obtain ⟨_, _, _, p, q⟩ := hc.at (r := (ga w (k + 1)).toNat) (j := k + 1) (by omega) (by omega) (by omega) (by omega)
   exact ⟨p, q⟩
  ·rw [if_neg h]; omega
 have sb : ∀ k : Nat, k ≤ m → 0 ≤ Pl ((List.range k).map f) ∧ Pl ((List.range k).map f) ≤ 100000 * (k : Int) := by
  intro k
  induction k with
  | zero => intro _; simp [Pl]
  | succ k ih =>
   intro hk
   obtain ⟨p, q⟩ := ih (by omega)
   have := fb k (by omega)
   rw [List.range_succ, List.map_append, Uo]
   simp only [List.map_cons, List.map_nil, Pl]
   omega
 have hsum : iter n (P2 a0 a0[0] (((a0.length + 1 : Nat) : Int), u, v, w)) (0, 1) = some (Pl ((List.range m).map f), ((m + 1 : Nat) : Int)) := by
  have := PX (P2 a0 a0[0] (((a0.length + 1 : Nat) : Int), u, v, w)) (fun k => (Pl ((List.range k).map f), ((k + 1 : Nat) : Int))) m (Pl ((List.range m).map f), ((m + 1 : Nat) : Int)) (fun k hk => by
   have hd : decide (((k + 1 : Nat) : Int) ≤ (a0[0].length : Int)) = true := by rw [decide_eq_true_eq]; omega
   have i1 : Of w ((k + 1 : Nat) : Int) = true := PJ (by omega)
   have e1 := Ql (l := w) (i := k + 1) (by omega)
   have hw1 : PF (((k + 1 : Nat) : Int) + 1) = ((k + 1 + 1 : Nat) : Int) := PC (show k + 1 < m + 1 by omega) (by omega)
   have hS : Pl ((List.range (k + 1)).map f) = Pl ((List.range k).map f) + f k := by
    rw [List.range_succ, List.map_append, Uo]; simp [Pl]
   by_cases h : 0 < ga w (k + 1)
   ·have hdw : decide (ga w (k + 1) > 0) = true := decide_eq_true h
    have hfk : f k = cC a0 (ga w (k + 1)).toNat (k + 1) := by rw [fdef, if_pos h]
    have := hm.Uw (k + 1) (by omega) (by omega)
    obtain ⟨l, c1, c2, _, _⟩ := hc.at (r := (ga w (k + 1)).toNat) (j := k + 1) (by omega) (by omega) (by omega) (by omega)
    have hcast : (((ga w (k + 1)).toNat : Nat) : Int) = ga w (k + 1) := by omega
    rw [hcast] at c1
    have b1 := sb k (by omega)
    have b2 := fb k hk
    have hw2 : PF (Pl ((List.range k).map f) + cC a0 (ga w (k + 1)).toNat (k + 1)) = Pl ((List.range (k + 1)).map f) := by
     rw [hS, hfk]; exact PL (by omega) (by omega)
    simp only [P2, hd, cond_true, i1, Int.toNat_natCast, e1, Option.bind_some, hdw, c1, c2, hw1, hw2]
   ·have hdw : decide (ga w (k + 1) > 0) = false := decide_eq_false h
    have hfk : f k = 0 := by rw [fdef, if_neg h]
    have hw2 : Pl ((List.range k).map f) = Pl ((List.range (k + 1)).map f) := by rw [hS, hfk]; omega
    simp only [P2, hd, cond_true, cond_false, i1, Int.toNat_natCast, e1, Option.bind_some, hdw, hw1]
    rw [hw2]) (by
   have hd : decide (((m + 1 : Nat) : Int) ≤ (a0[0].length : Int)) = false := by rw [decide_eq_false_iff_not]; omega
   simp only [P2, hd, cond_false]) n (by unfold PQ at hn; omega)
  simpa [Pl] using this
 obtain ⟨cs, cl, cp⟩ := V6 (P := fun r k => k < m ∧ ga w (k + 1) = ((r + 1 : Nat) : Int)) a0.length (fun r hr => by
  obtain ⟨j, j1, j2, e⟩ := hm.bJ (r + 1) (by omega) (by omega)
  exact ⟨j - 1, by omega, by rw [show j - 1 + 1 = j by omega]; exact e⟩)
 have cnd : cs.Nodup := by
  unfold List.Nodup
  rw [List.pairwise_iff_getElem]
  intro a b ha hb hab e
  have p1 := (cp a ha).2
  have p2 := (cp b hb).2
  rw [e, p2] at p1
  omega
 have cin : ∀ k ∈ cs, k ∈ List.range m := fun k hk => by
  obtain ⟨a, ha, rfl⟩ := List.mem_iff_getElem.1 hk
  rw [List.mem_range]; exact (cp a ha).1
 have coff : ∀ k ∈ List.range m, k ∉ cs → ga w (k + 1) = 0 := fun k hk hn => by
  rw [List.mem_range] at hk
  have hr := hm.Uw (k + 1) (by omega) (by omega)
  refine Classical.byContradiction fun hne => hn ?_
  have hlt : (ga w (k + 1)).toNat - 1 < cs.length := by omega
  obtain ⟨p1, p2⟩ := cp _ hlt
  have := hm.inj (cs[(ga w (k + 1)).toNat - 1] + 1) (k + 1) (by omega) (by omega) (by omega) (by omega) (by omega) (by omega)
  rw [show k = cs[(ga w (k + 1)).toNat - 1] by omega]
  exact List.getElem_mem hlt
 have hR : (PD a0).length = a0.length := by simp [PD]
 have fc : ∀ r (h : r < cs.length), f cs[r] = cC a0 (r + 1) (cs[r] + 1) := fun r h => by
  have p2 := (cp r h).2
  rw [fdef, p2, if_pos (by omega), Int.toNat_natCast]
 have hs1 : Pl ((List.range m).map f) = Pl (cs.map f) := Vz f cs (List.range m) cnd List.nodup_range cin (fun k hk hn => by
  rw [fdef, coff k hk hn, if_neg (by omega)])
 have hs2 : WW (PD a0) cs = Pl (cs.map f) := VX f (PD a0) cs (by rw [hR, cl]) (fun r h1 h2 => by
  rw [fc r h2, U6 _ (by omega)])
 have hs3 : Pl (cs.map f) = Pl ((List.range a0.length).map fun r => ga u (r + 1)) + Pl (cs.map fun k => ga v (k + 1)) := WB f (fun k => ga v (k + 1)) cs _ (by simp [cl]) (fun r h1 h2 => by
  rw [fc r h1, List.getElem_map, List.getElem_range]
  obtain ⟨p1, p2⟩ := cp r h1
  exact (ht.tight (cs[r] + 1) (r + 1) (by omega) (by omega) (by omega) p2).symm)
 have hs4 : Pl ((List.range m).map fun k => ga v (k + 1)) = Pl (cs.map fun k => ga v (k + 1)) := Vz _ cs (List.range m) cnd List.nodup_range cin (fun k hk hn => by
  have hw := coff k hk hn
  rw [List.mem_range] at hk
  exact ht.free (k + 1) (by omega) (by omega) hw)
 refine ⟨Pl ((List.range m).map f), ?_, ?_, fun y hy => ?_⟩
 ·unfold P8
  rw [hne, cond_false, hg0, Option.bind_some, hl0, (e0 a0.length (by omega)).1, (e0 m hm10).1, (e0 a0.length (by omega)).2, (e0 m hm10).2]
  simp only [cond_true, Int.toNat_natCast, hz, Option.bind_some, hsum]
 ·rw [hs1, ← hs2]
  exact AS.of (PD a0) cs (List.range m) (by rw [hR, cl]) cnd cin
 ·have := AS.ge (fun k => ga v (k + 1)) (PD a0) ((List.range a0.length).map fun r => ga u (r + 1)) (List.range m) y (by simp [PD]) (fun r hr hu k hk => by
   rw [List.mem_range] at hk
   have hra : r < a0.length := by rw [hR] at hr; exact hr
   have := hf.Wo (r + 1) (k + 1) (by omega) (by omega) (by omega) (by omega)
   rw [List.getElem_map, List.getElem_range]
   have e : (PD a0)[r] k = cC a0 (r + 1) (k + 1) := U6 _ hra k
   rw [e]; exact this) (fun k hk => by
   rw [List.mem_range] at hk
   exact hf.bG (k + 1) (by omega) (by omega)) hy
  rw [hs1, hs3, ← hs4]; exact this
theorem aU {k : Nat} (h : k ≤ 10) : OC .i64 1 (k : Int) = ((2 ^ k : Nat) : Int) := by
 have h2 : 2 ^ k ≤ 2 ^ 10 := Nat.pow_le_pow_right (by omega) h
 unfold OC
 rw [show min ((k : Int)).toNat (IntKind.bits .i64) = k by simp [IntKind.bits]; omega, Int.one_mul]
 have e : (2 : Int) ^ k = ((2 ^ k : Nat) : Int) := by rw [Int.natCast_pow]; rfl
 rw [e]
 generalize 2 ^ k = p at h2 ⊢
 exact PL (by omega) (by omega)
theorem T6 {s : Nat} (h : s < 1024) : (BitVec.ofInt (IntKind.bits .i64) (s : Int)).toNat = s := by
 have : (BitVec.ofInt (IntKind.bits .i64) (s : Int)).toNat = ((s : Int) % (2 ^ 64 : Nat)).toNat := BitVec.toNat_ofInt ..
 rw [this]
 omega
theorem jG {s t : Nat} (hs : s < 1024) (ht : t < 1024) : O2 .i64 (s : Int) (t : Int) = ((s ||| t : Nat) : Int) := by
 have h : s ||| t < 1024 := Nat.or_lt_two_pow (n := 10) hs ht
 unfold O2
 rw [BitVec.toNat_or, T6 hs, T6 ht]
 exact PL (by omega) (by omega)
theorem cF {s k : Nat} (hs : s < 1024) (hk : k ≤ 10) : (OO .i64 (OD .i64 (s : Int) (k : Int)) 1 == 1) = s.testBit k := by
 have e1 : OD .i64 (s : Int) (k : Int) = ((s >>> k : Nat) : Int) := by
  unfold OD
  rw [show min ((k : Int)).toNat (IntKind.bits .i64) = k by simp [IntKind.bits]; omega, Nat.shiftRight_eq_div_pow]
  have e : (2 : Int) ^ k = ((2 ^ k : Nat) : Int) := by rw [Int.natCast_pow]; rfl
  rw [e]
  exact (Int.ofNat_fdiv s (2 ^ k)).symm
 have h1 : s >>> k < 1024 := Nat.lt_of_le_of_lt (Nat.shiftRight_le s k) hs
 have e2 : OO .i64 ((s >>> k : Nat) : Int) 1 = ((1 &&& (s >>> k) : Nat) : Int) := by
  unfold OO
  rw [BitVec.toNat_and, T6 h1, show (BitVec.ofInt (IntKind.bits .i64) 1).toNat = 1 by decide, Nat.and_comm]
  have : 1 &&& (s >>> k) ≤ 1 := Nat.and_le_left
  exact PL (by omega) (by omega)
 rw [e1, e2, Nat.testBit]
 have : 1 &&& (s >>> k) ≤ 1 := Nat.and_le_left
 generalize 1 &&& (s >>> k) = x at this
 have : x = 0 ∨ x = 1 := by omega
 rcases this with rfl | rfl <;> rfl
def Tr (m s : Nat) : List Nat := (List.range m).filter fun k => !s.testBit k
theorem Wc (m s : Nat) : (Tr m s).Nodup := List.nodup_range.filter _
theorem VA {m s k : Nat} : k ∈ Tr m s ↔ k < m ∧ s.testBit k = false := by simp [Tr]
theorem SZ {m s k : Nat} (h : s.testBit k = false) : (Tr m s).erase k = Tr m (s ||| 2 ^ k) := by
 rw [(Wc m s).erase_eq_filter]
 unfold Tr
 rw [List.filter_filter]
 congr 1
 funext x
 rw [Nat.testBit_or, Nat.testBit_two_pow, Bool.not_or, Bool.and_comm]
 congr 1
 by_cases e : x = k
 ·subst e; simp
 ·rw [decide_eq_false (fun q => e q.symm)]; simp [e]
theorem U9 {m s k : Nat} (hs : s < 2 ^ m) (hk : k < m) : s ||| 2 ^ k < 2 ^ m := Nat.or_lt_two_pow hs (Nat.pow_lt_pow_right (by omega) hk)
theorem VI {m : Nat} (h : m ≤ 10) : 2 ^ m ≤ 1024 := Nat.pow_le_pow_right (by omega) h
def QQ : Option Int → Int
 | none => -1
 | some x => x
theorem cI {a b : Option Int} (ha : ∀ x, a = some x → 0 ≤ x) (hb : ∀ x, b = some x → 0 ≤ x) (h : QQ a = QQ b) : a = b := by
 cases a with
 | none => cases b with
  | none => rfl
  | some y => have := hb y rfl; simp only [QQ] at h; omega
 | some x => cases b with
  | none => have := ha x rfl; simp only [QQ] at h; omega
  | some y => simp only [QQ] at h; rw [h]
def OA (R : List (Nat → Int)) (m i : Nat) : List Int := (List.range (2 ^ m)).map fun s => QQ (S6 (R.drop i) (Tr m s))
theorem Si (R : List (Nat → Int)) (m i : Nat) : (OA R m i).length = 2 ^ m := by simp [OA]
theorem Sh {R : List (Nat → Int)} {m i s : Nat} (h : s < 2 ^ m) : (OA R m i)[s]? = some (QQ (S6 (R.drop i) (Tr m s))) := by
 unfold OA
 rw [List.getElem?_map, List.getElem?_range h]; rfl
structure RB (R : List (Nat → Int)) (m : Nat) : Prop where
 b : ∀ r ∈ R, ∀ k, k < m → 0 ≤ r k ∧ r k ≤ 100000
 l : R.length ≤ 10
theorem RB.val {R : List (Nat → Int)} {m i s : Nat} (h : RB R m) {x : Int} (hx : S6 (R.drop i) (Tr m s) = some x) : 0 ≤ x ∧ x ≤ 1000000 := by
 have h1 := US hx (fun r hr k hk => (h.b r (List.mem_of_mem_drop hr) k (VA.1 hk).1).1)
 have h2 := Wl hx (M := 100000) (by omega) (fun r hr k hk => (h.b r (List.mem_of_mem_drop hr) k (VA.1 hk).1).2)
 have := h.l
 rw [List.length_drop] at h2
 omega
theorem CM.rb {a0 : List (List Int)} {m : Nat} (h : CM a0 m) : RB (PD a0) m := by
 refine ⟨fun r hr k hk => ?_, ?_⟩
 ·obtain ⟨l, hl, rfl⟩ := List.mem_map.1 hr
  have := h.row l hl
  have hg : l[k]? = some (ga l k) := Ql (by omega)
  exact h.Mt l hl _ (List.mem_of_getElem? hg)
 ·have := h.nm; have := h.V7
  simp only [PD, List.length_map]; omega
theorem WS {a0 : List (List Int)} {m : Nat} (hc : CM a0 m) {i : Nat} (hi : i < a0.length) {s : Nat} (hs : s < 2 ^ m) (T0 : List (List Int)) (hT : i + 1 < T0.length) (hnext : T0[i + 1]? = some (OA (PD a0) m (i + 1))) (y : List Int) (hy : y.length = 2 ^ m) (c7 : Int × (List ((List Int)))) (hc7 : c7.1 = (s : Int)) (c3 : Int × (List ((List Int)))) (hc3 : c3.1 = (i : Int)) (n : Nat) (hn : PQ ≤ n) :
  iter n (Ph a0 (m : Int) c3 c7) (0, T0.set i (y.set s (-1))) = some ((m : Int), T0.set i (y.set s (QQ (S6 ((PD a0).drop i) (Tr m s))))) := by
 have hm10 := hc.V7
 have hnm := hc.nm
 have hp := VI hm10
 have hR : (PD a0).length = a0.length := by simp [PD]
 have hdrop : (PD a0).drop i = ga a0[i] :: (PD a0).drop (i + 1) := by
  rw [List.drop_eq_getElem_cons (by omega)]
  congr 1
  exact List.getElem_map ..
 let acc : Nat → Option Int := fun k => ((List.range k).filter fun k => !s.testBit k).foldl (fun b k => TU b ((S6 ((PD a0).drop (i + 1)) ((Tr m s).erase k)).map fun y => ga a0[i] k + y)) none
 have acc0 : acc 0 = none := rfl
 have accm : acc m = S6 ((PD a0).drop i) (Tr m s) := by rw [hdrop]; rfl
 have accS : ∀ k, acc (k + 1) = bif s.testBit k then acc k else TU (acc k) ((S6 ((PD a0).drop (i + 1)) ((Tr m s).erase k)).map fun y => ga a0[i] k + y) := fun k => by
  show ((List.range (k + 1)).filter _).foldl _ none = _
  rw [List.range_succ, List.filter_append, List.foldl_append]
  cases h : s.testBit k <;> simp [h] <;> rfl
 clear_value acc
 have accP : ∀ k, k ≤ m → ∀ z, acc k = some z → 0 ≤ z := by
  intro k
  induction k with
  | zero => intro _ z h; rw [acc0] at h; cases h
  | succ k ih =>
   intro hk z h
   rw [accS k] at h
   cases hb : s.testBit k with
   | true => rw [hb, cond_true] at h; exact ih (by omega) z h
   | false =>
    rw [hb, cond_false] at h
    rcases V8 h with h | h
    ·exact ih (by omega) z h
    ·rw [SZ hb] at h
     cases hB : S6 ((PD a0).drop (i + 1)) (Tr m (s ||| 2 ^ k)) with
     | none => rw [hB] at h; cases h
     | some x =>
      rw [hB] at h
      simp only [Option.map_some, Option.some.injEq] at h
      have := hc.rb.val hB
      have := hc.rb.b (ga a0[i]) (List.mem_map_of_mem (List.getElem_mem hi)) k (by omega)
      omega
 have hi3 : PF ((i : Int) + 1) = ((i + 1 : Nat) : Int) := PC (show i < i + 1 by omega) (by omega)
 have hrow : ND a0 (i : Int) = some a0[i] := PH hi
 have hrl : a0[i].length = m := hc.row _ (List.getElem_mem hi)
 have rb := hc.rb
 have := PX (Ph a0 (m : Int) c3 c7) (fun k => ((k : Int), T0.set i (y.set s (QQ (acc k))))) m ((m : Int), T0.set i (y.set s (QQ (acc m)))) (fun k hk => by
  have hd : decide ((k : Int) < (m : Int)) = true := by rw [decide_eq_true_eq]; omega
  have hd0 : decide (0 ≤ (k : Int)) = true := by rw [decide_eq_true_eq]; omega
  have EA := cF (s := s) (k := k) (by omega) (by omega)
  have hsh := aU (k := k) (by omega)
  have hk10 : 2 ^ k < 1024 := Nat.lt_of_lt_of_le (Nat.pow_lt_pow_right (by omega) hk) hp
  have hor := jG (s := s) (t := 2 ^ k) (by omega) hk10
  have hw : PF ((k : Int) + 1) = ((k + 1 : Nat) : Int) := PC hk (by omega)
  have hlt := U9 hs hk
  have i1 : Of (T0.set i (y.set s (QQ (acc k)))) ((i + 1 : Nat) : Int) = true := PJ (by simp; omega)
  have e1 : (T0.set i (y.set s (QQ (acc k))))[i + 1]? = some (OA (PD a0) m (i + 1)) := by rw [List.getElem?_set_ne (by omega)]; exact hnext
  have i2 : Of (OA (PD a0) m (i + 1)) ((s ||| 2 ^ k : Nat) : Int) = true := PJ (by rw [Si]; exact hlt)
  have e2 := Sh (R := PD a0) (i := i + 1) hlt
  have i3 : Of (T0.set i (y.set s (QQ (acc k)))) (i : Int) = true := PJ (by simp; omega)
  have e3 : (T0.set i (y.set s (QQ (acc k))))[i]? = some (y.set s (QQ (acc k))) := by rw [List.getElem?_set_self (by omega)]
  have i4 : Of (y.set s (QQ (acc k))) (s : Int) = true := PJ (by simp; omega)
  have e4 : (y.set s (QQ (acc k)))[s]? = some (QQ (acc k)) := by rw [List.getElem?_set_self (by omega)]
  have e5 : ND a0[i] (k : Int) = some (ga a0[i] k) := by rw [Pr]; exact Ql (by omega)
  have hb0 := rb.b (ga a0[i]) (List.mem_map_of_mem (List.getElem_mem hi)) k hk
  rw [accS k]
  cases hb : s.testBit k with
  | true =>
   rw [hb] at EA
   simp only [Ph, hd, hd0, cond_true, hc7, hc3, EA, Option.bind_some, hw]
  | false =>
   rw [hb] at EA
   rw [cond_false, SZ hb]
   have hv : ∀ x, S6 ((PD a0).drop (i + 1)) (Tr m (s ||| 2 ^ k)) = some x → 0 ≤ x ∧ x ≤ 1000000 := fun x hx => rb.val hx
   cases hB : S6 ((PD a0).drop (i + 1)) (Tr m (s ||| 2 ^ k)) with
   | none =>
    rw [hB] at e2
    have hneg : decide (QQ none < 0) = true := by simp [QQ]
    have ho : TU (acc k) (Option.map (fun y => ga a0[i] k + y) none) = acc k := by cases acc k <;> rfl
    rw [ho]
    simp only [Ph, hd, hd0, cond_true, cond_false, hc7, hc3, EA, Option.bind_some, hw, hi3, i1, e1, Int.toNat_natCast, hsh, hor, i2, e2, hneg]
   | some x =>
    rw [hB] at e2
    obtain ⟨x0, x1⟩ := hv x hB
    have hneg : decide (QQ (some x) < 0) = false := decide_eq_false (show ¬ x < 0 by omega)
    have hww : PF (ga a0[i] k + QQ (some x)) = ga a0[i] k + x := PL (n := ga a0[i] k + x) (by omega) (by omega)
    have hmod : ∀ v : Int, List.modify (T0.set i (y.set s (QQ (acc k)))) i (fun y2 => CV y2 s v) = T0.set i (y.set s v) := fun v => by
     apply List.ext_getElem?
     intro j
     rw [List.getElem?_modify, List.getElem?_set, List.getElem?_set]
     by_cases e : i = j
     ·subst e; simp [show i < T0.length by omega, QN]
     ·simp [e]
    cases hA : acc k with
    | none =>
     rw [hA] at e4 i3 i4 e3 i1 e1 hmod
     have hneg2 : decide (QQ none < 0) = true := by simp [QQ]
     simp only [Ph, hd, hd0, cond_true, cond_false, hc7, hc3, EA, Option.bind_some, hw, hi3, i1, e1, Int.toNat_natCast, hsh, hor, i2, e2, hneg, hrow, e5, i3, e3, i4, e4, hneg2, hww, hmod]
     rfl
    | some z =>
     rw [hA] at e4 i3 i4 e3 i1 e1 hmod
     have hz0 := accP k (by omega) z hA
     ·have hneg2 : decide (QQ (some z) < 0) = false := decide_eq_false (show ¬ z < 0 by omega)
      by_cases hlt2 : ga a0[i] k + x < z
      ·have hd2 : decide (ga a0[i] k + x < QQ (some z)) = true := decide_eq_true hlt2
       have ho : TU (some z) (Option.map (fun y => ga a0[i] k + y) (some x)) = some (ga a0[i] k + x) := by simp only [Option.map_some, TU, if_pos hlt2]
       rw [ho]
       simp only [Ph, hd, hd0, cond_true, cond_false, hc7, hc3, EA, Option.bind_some, hw, hi3, i1, e1, Int.toNat_natCast, hsh, hor, i2, e2, hneg, hrow, e5, i3, e3, i4, e4, hneg2, hww, hmod, hd2]
       rfl
      ·have hd2 : decide (ga a0[i] k + x < QQ (some z)) = false := decide_eq_false hlt2
       have ho : TU (some z) (Option.map (fun y => ga a0[i] k + y) (some x)) = some z := by simp only [Option.map_some, TU, if_neg hlt2]
       rw [ho]
       simp only [Ph, hd, hd0, cond_true, cond_false, hc7, hc3, EA, Option.bind_some, hw, hi3, i1, e1, Int.toNat_natCast, hsh, hor, i2, e2, hneg, hrow, e5, i3, e3, i4, e4, hneg2, hww, hmod, hd2]) (by
  have hd : decide ((m : Int) < (m : Int)) = false := by simp
  simp only [Ph, hd, cond_false]) n (by unfold PQ at hn; omega)
 rw [acc0, accm] at this
 exact this
theorem Vq {a0 : List (List Int)} {m : Nat} (hc : CM a0 m) {i : Nat} (hi : i < a0.length) (T0 : List (List Int)) (hT : i + 1 < T0.length) (hnext : T0[i + 1]? = some (OA (PD a0) m (i + 1))) (x5 : List Int) (h5 : x5.length = 2 ^ m) (c3 : Int × (List ((List Int)))) (hc3 : c3.1 = (i : Int)) (n : Nat) (hn : PQ ≤ n) :
  iter n (RC n a0 (m : Int) c3 x5) (0, T0.set i (List.replicate (2 ^ m) 0)) = some (((2 ^ m : Nat) : Int), T0.set i (OA (PD a0) m i)) := by
 have hp := VI hc.V7
 have hrl := Si (PD a0) m i
 have := PX (RC n a0 (m : Int) c3 x5) (fun s => ((s : Int), T0.set i ((OA (PD a0) m i).take s ++ List.replicate (2 ^ m - s) 0))) (2 ^ m) (((2 ^ m : Nat) : Int), T0.set i (OA (PD a0) m i)) (fun s hs => by
  have hd : decide ((s : Int) < (x5.length : Int)) = true := by rw [decide_eq_true_eq]; omega
  generalize hy : (OA (PD a0) m i).take s ++ List.replicate (2 ^ m - s) 0 = y
  have hyl : y.length = 2 ^ m := by rw [← hy]; simp [hrl]; omega
  have i3 : Of (T0.set i y) (i : Int) = true := PJ (by simp; omega)
  have e3 : (T0.set i y)[i]? = some y := by rw [List.getElem?_set_self (by omega)]
  have i4 : Of y (s : Int) = true := PJ (by omega)
  have hmod : List.modify (T0.set i y) i (fun y2 => CV y2 s (-1)) = T0.set i (y.set s (-1)) := by
   apply List.ext_getElem?
   intro j
   rw [List.getElem?_modify, List.getElem?_set, List.getElem?_set]
   by_cases e : i = j
   ·subst e; simp [show i < T0.length by omega, QN]
   ·simp [e]
  have hr := WS hc hi hs T0 hT hnext y hyl ((s : Int), T0.set i y) rfl c3 hc3 n hn
  have hw : PF ((s : Int) + 1) = ((s + 1 : Nat) : Int) := PC hs (by omega)
  simp only [RC, hd, cond_true, hc3, i3, e3, i4, Int.toNat_natCast, Option.bind_some, hmod, hr, hw]
  congr 5
  rw [← hy, List.set_append_right _ _ (by simp [hrl]; omega), List.length_take, hrl, Nat.min_eq_left (by omega), Nat.sub_self, show 2 ^ m - s = (2 ^ m - (s + 1)) + 1 by omega, List.replicate_succ, List.set_cons_zero, List.take_add_one, Sh hs]
  simp) (by
  have hd : decide (((2 ^ m : Nat) : Int) < (x5.length : Int)) = false := by rw [h5]; simp
  simp only [RC, hd, cond_false, Nat.sub_self, List.replicate_zero, List.append_nil]
  rw [List.take_of_length_le (by rw [hrl]; exact Nat.le_refl _)]) n (by unfold PQ at hn; omega)
 simpa using this
theorem Us {a0 : List (List Int)} {m : Nat} (hc : CM a0 m) (h0 : a0 = [] → m = 0) (n : Nat) (hn : PQ ≤ n) : ∃ T, Se n a0 = some T ∧ T.length = a0.length + 1 ∧ ∀ j, j ≤ a0.length → T[j]? = some (OA (PD a0) m j) := by
 have hm10 := hc.V7
 have hnm := hc.nm
 have hp := VI hm10
 have hsh := aU hm10
 have hg1 : decide (0 ≤ ((2 ^ m : Nat) : Int)) = true := by
  generalize 2 ^ m = q
  rw [decide_eq_true_eq]; omega
 have hg2 : decide (((2 ^ m : Nat) : Int) ≤ (DZ : Int)) = true := by
  generalize 2 ^ m = q at hp
  rw [decide_eq_true_eq]; unfold DZ; omega
 have e0 : PF ((a0.length : Int) + 1) = ((a0.length + 1 : Nat) : Int) := PC (show a0.length < a0.length + 1 by omega) (by omega)
 have g0 : (decide (0 ≤ ((a0.length + 1 : Nat) : Int)) && decide (((a0.length + 1 : Nat) : Int) ≤ (DZ : Int)) && decide (((a0.length + 1 : Nat) : Int) = ((a0.length + 1 : Nat) : Int))) = true := by
  rw [decide_eq_true (show 0 ≤ ((a0.length + 1 : Nat) : Int) by omega), decide_eq_true (show ((a0.length + 1 : Nat) : Int) ≤ (DZ : Int) by unfold DZ; omega)]
  simp
 have hd0 : decide (0 ≤ (m : Int)) = true := by rw [decide_eq_true_eq]; omega
 have hcol : (show Option Int from bif decide ((a0.length : Int) > 0) then (ND a0 0).bind fun x2 => some (x2.length : Int) else some 0) = some (m : Int) := by
  by_cases e : a0 = []
  ·rw [h0 e, e]; rfl
  ·have hl : 0 < a0.length := List.length_pos_iff.2 e
   rw [show decide ((a0.length : Int) > 0) = true by rw [decide_eq_true_eq]; omega, cond_true, show ND a0 0 = some a0[0] from PH hl, Option.bind_some, hc.row _ (List.getElem_mem hl)]
 have iN : Of (List.replicate (a0.length + 1) ([] : List Int)) (a0.length : Int) = true := PJ (by simp)
 obtain ⟨z, ⟨T, hz1, hz2, hz3⟩, hz⟩ := Qy (f := R9 n a0 (m : Int))
  (fun k x => ∃ T : List (List Int), x = ((k : Int) - 1, T) ∧ k ≤ a0.length ∧ T.length = a0.length + 1 ∧ ∀ j, k ≤ j → j ≤ a0.length → T[j]? = some (OA (PD a0) m j))
  (fun z => ∃ T : List (List Int), z = (((0 : Nat) : Int) - 1, T) ∧ T.length = a0.length + 1 ∧ ∀ j, j ≤ a0.length → T[j]? = some (OA (PD a0) m j))
  (fun k x hx => by
   obtain ⟨T, rfl, hk, hl, hT⟩ := hx
   cases k with
   | zero =>
    left
    exact ⟨(((0 : Nat) : Int) - 1, T), by simp [R9], T, rfl, hl, fun j hj => hT j (by omega) hj⟩
   | succ i =>
    right
    have hi1 : ((i + 1 : Nat) : Int) - 1 = (i : Int) := by omega
    have hd : decide ((i : Int) ≥ 0) = true := by rw [decide_eq_true_eq]; omega
    have i3 : Of T (i : Int) = true := PJ (by omega)
    have i4 : Of (T.set i (List.replicate (2 ^ m) 0)) (i : Int) = true := PJ (by simp; omega)
    have e4 : (T.set i (List.replicate (2 ^ m) 0))[i]? = some (List.replicate (2 ^ m) 0) := by rw [List.getElem?_set_self (by omega)]
    have hs := Vq hc (i := i) (by omega) T (by omega) (hT (i + 1) (by omega) (by omega)) (List.replicate (2 ^ m) 0) (by simp) ((i : Int), T) rfl n hn
    have hw : PF ((i : Int) - 1) = (i : Int) - 1 := PL (by omega) (by omega)
    refine ⟨((i : Int) - 1, T.set i (OA (PD a0) m i)), i, ?_, ⟨T.set i (OA (PD a0) m i), rfl, by omega, by simp [hl], fun j h1 h2 => ?_⟩, by omega⟩
    ·rw [hi1]
     simp only [R9, hd, cond_true, hd0, hsh, hg1, hg2, decide_true, Bool.and_true, Bool.and_self, i3, Int.toNat_natCast, QN, i4, e4, Option.bind_some, hs, hw]
    ·by_cases e : j = i
     ·subst e; rw [List.getElem?_set_self (by omega)]
     ·rw [List.getElem?_set_ne (by omega)]
      exact hT j (by omega) h2)
  n a0.length ((a0.length : Int) - 1, (List.replicate (a0.length + 1) ([] : List Int)).set a0.length (List.replicate (2 ^ m) 0)) ⟨_, rfl, Nat.le_refl _, by simp, fun j h1 h2 => by
   have : j = a0.length := by omega
   subst this
   rw [List.getElem?_set_self (by simp)]
   refine congrArg some (List.ext_getElem? fun s => ?_)
   by_cases hs : s < 2 ^ m
   ·rw [Sh hs, List.getElem?_replicate, if_pos hs, List.drop_of_length_le (by simp [PD])]
    rfl
   ·rw [List.getElem?_eq_none (by rw [List.length_replicate]; omega), List.getElem?_eq_none (by rw [Si]; omega)]⟩ (by unfold PQ at hn; omega)
 refine ⟨T, ?_, hz2, hz3⟩
 have hw : PF ((a0.length : Int) - 1) = (a0.length : Int) - 1 := PL (by omega) (by omega)
 unfold Se
 rw [hcol, Option.bind_some, e0, g0, hd0, hsh]
 simp only [hg1, hg2, decide_true, Bool.and_true, Bool.and_self, cond_true, Int.toNat_natCast, iN, QN, hw, hz, hz1, Option.bind_some]
theorem Tz {a0 : List (List Int)} {m : Nat} (hc : CM a0 m) (n : Nat) (hn : PQ ≤ n) : Rk n a0 = some true := by
 have hm10 := hc.V7
 have hnm := hc.nm
 have h1 := QD (RN n a0) a0 (fun _ => true) (fun i x hi hx => by
  obtain ⟨_, rfl⟩ := List.getElem?_eq_some_iff.1 hx
  have hl := hc.row _ (List.getElem_mem hi)
  have h0 : 0 < a0.length := by omega
  have hl0 := hc.row _ (List.getElem_mem h0)
  have h2 := QD (RO a0[i]) a0[i] (fun _ => true) (fun k y hk hy => by
   obtain ⟨_, rfl⟩ := List.getElem?_eq_some_iff.1 hy
   have hb := hc.Mt _ (List.getElem_mem hi) _ (List.getElem_mem hk)
   have hd : decide ((k : Int) < (a0[i].length : Int)) = true := by rw [decide_eq_true_eq]; omega
   have hin : PW a0[i][k] 0 100000 = some true := by
    unfold PW
    rw [show decide (a0[i][k] ≥ 0) = true from decide_eq_true hb.1, show decide (a0[i][k] ≤ 100000) = true from decide_eq_true hb.2]; rfl
   simp only [RO, hd, cond_true, PH hk, Option.bind_some, hin, Bool.not_true, cond_false, PC hk (by omega)]) (by
   have hd : decide ((a0[i].length : Int) < (a0[i].length : Int)) = false := by simp
   simp only [RO, hd, cond_false]) n (by unfold PQ at hn; omega)
  have hd : decide ((i : Int) < (a0.length : Int)) = true := by rw [decide_eq_true_eq]; omega
  have hall : a0[i].all (fun _ => true) = true := by simp
  rw [hall, cond_true] at h2
  have hin : PW (m : Int) (a0.length : Int) 10 = some true := by
   unfold PW
   rw [show decide ((m : Int) ≥ (a0.length : Int)) = true by rw [decide_eq_true_eq]; omega, show decide ((m : Int) ≤ 10) = true by rw [decide_eq_true_eq]; omega]; rfl
  have hg0 : ND a0 0 = some a0[0] := PH h0
  have hne : ((m : Int) != (m : Int)) = false := by simp
  simp only [RN, hd, cond_true, PH hi, hg0, Option.bind_some, hl0, hl, hne, cond_false, hin, Bool.not_true, h2, PC hi (by omega)]
  ) (by
  have hd : decide ((a0.length : Int) < (a0.length : Int)) = false := by simp
  simp only [RN, hd, cond_false]) n (by unfold PQ at hn; omega)
 have hall : a0.all (fun _ => true) = true := by simp
 rw [hall, cond_true] at h1
 unfold Rk
 rw [show decide ((a0.length : Int) > 10) = false by rw [decide_eq_false_iff_not]; omega, cond_false, h1]
 rfl
theorem UA {a0 : List (List Int)} {m : Nat} (hc : CM a0 m) (n : Nat) (hn : PQ ≤ n) : Rq n a0 = some true := by
 have hm10 := hc.V7
 have hnm := hc.nm
 have h1 := QD (RR n a0) a0 (fun _ => true) (fun i x hi hx => by
  obtain ⟨_, rfl⟩ := List.getElem?_eq_some_iff.1 hx
  have hl := hc.row _ (List.getElem_mem hi)
  have h0 : 0 < a0.length := by omega
  have hl0 := hc.row _ (List.getElem_mem h0)
  have h2 := QD (RS a0 (i : Int)) a0[i] (fun _ => true) (fun k y hk hy => by
   obtain ⟨_, rfl⟩ := List.getElem?_eq_some_iff.1 hy
   have hb := hc.Mt _ (List.getElem_mem hi) _ (List.getElem_mem hk)
   have hd : decide ((k : Int) < (a0[i].length : Int)) = true := by rw [decide_eq_true_eq]; omega
   have hin : PN a0[i][k] 0 100000 = some true := by
    rw [TE]; unfold SC
    rw [decide_eq_true hb.1, decide_eq_true hb.2]; rfl
   simp only [RS, hd, cond_true, PH hi, PH hk, Option.bind_some, hin, Bool.not_true, cond_false, PC hk (by omega)]) (by
   have hd : decide ((a0[i].length : Int) < (a0[i].length : Int)) = false := by simp
   simp only [RS, PH hi, Option.bind_some, hd, cond_false]) n (by unfold PQ at hn; omega)
  have hd : decide ((i : Int) < (a0.length : Int)) = true := by rw [decide_eq_true_eq]; omega
  have hall : a0[i].all (fun _ => true) = true := by simp
  rw [hall, cond_true] at h2
  have hg0 : ND a0 0 = some a0[0] := PH h0
  have hne : ((m : Int) != (m : Int)) = false := by simp
  have h10 : decide ((m : Int) > 10) = false := by rw [decide_eq_false_iff_not]; omega
  have hlt : decide ((m : Int) < (a0.length : Int)) = false := by rw [decide_eq_false_iff_not]; omega
  simp only [RR, hd, cond_true, PH hi, hg0, Option.bind_some, hl0, hl, hne, h10, hlt, cond_false, h2, PC hi (by omega)]
  ) (by
  have hd : decide ((a0.length : Int) < (a0.length : Int)) = false := by simp
  simp only [RR, hd, cond_false]) n (by unfold PQ at hn; omega)
 have hall : a0.all (fun _ => true) = true := by simp
 rw [hall, cond_true] at h1
 unfold Rq
 rw [show decide ((a0.length : Int) > 10) = false by rw [decide_eq_false_iff_not]; omega, cond_false, h1]
 rfl
theorem Vg {m s k : Nat} {p : Nat → Bool} (h : (Tr m s).find? p = some k) : ∀ j, j < k → s.testBit j = false → p j = false := by
 unfold Tr at h
 rw [List.find?_filter, List.find?_range_eq_some] at h
 obtain ⟨_, _, h⟩ := h
 intro j hj hb
 have := h j hj
 rw [hb] at this
 cases hp : p j with
 | false => rfl
 | true => rw [hp] at this; simp at this
def PA (l : List Nat) : List Int := l.map fun k : Nat => (k : Int)
theorem TX {a0 : List (List Int)} {m : Nat} (hc : CM a0 m) (h0 : a0 = [] → m = 0) (n : Nat) (hn : PQ ≤ n) : ∃ s, R1 n a0 = some (PA (pk (PD a0) (List.range m)), s) ∧ S6 (PD a0) (List.range m) = some s := by
 have hm10 := hc.V7
 have hnm := hc.nm
 have hp := VI hm10
 have rb := hc.rb
 have hR : (PD a0).length = a0.length := by simp [PD]
 obtain ⟨T, t1, t2, t3⟩ := Us hc h0 n hn
 have hS0 : Tr m 0 = List.range m := by unfold Tr; simp
 obtain ⟨z, ⟨s', hz1⟩, hz⟩ := Qy (f := R7 n a0 T)
  (fun k x => ∃ (i s : Nat) (out : List Int), x = (out, (s : Int), (i : Int)) ∧ i + k = a0.length ∧ s < 2 ^ m ∧ a0.length - i ≤ (Tr m s).length ∧ out ++ PA (pk ((PD a0).drop i) (Tr m s)) = PA (pk (PD a0) (List.range m)) ∧ out.length = i)
  (fun z => ∃ s : Int, z = (PA (pk (PD a0) (List.range m)), s, (a0.length : Int)))
  (fun k x hx => by
   obtain ⟨i, s, out, rfl, hk, hs, hl, hout, hol⟩ := hx
   by_cases hi : i = a0.length
   ·left
    subst hi
    have hd : decide ((a0.length : Int) < (a0.length : Int)) = false := by simp
    refine ⟨(out, (s : Int), (a0.length : Int)), by simp only [R7, hd, cond_false], (s : Int), ?_⟩
    rw [List.drop_of_length_le (by rw [hR]; exact Nat.le_refl _)] at hout
    simp only [pk, PA, List.map_nil, List.append_nil] at hout
    rw [hout]; rfl
   ·right
    have hi' : i < a0.length := by omega
    have hd : decide ((i : Int) < (a0.length : Int)) = true := by rw [decide_eq_true_eq]; omega
    have hrl := hc.row _ (List.getElem_mem hi')
    have hdrop : (PD a0).drop i = ga a0[i] :: (PD a0).drop (i + 1) := by
     rw [List.drop_eq_getElem_cons (by omega)]
     congr 1
     exact List.getElem_map ..
    obtain ⟨x, hx⟩ := Ve ((PD a0).drop i) (Tr m s) (Wc m s) (by rw [List.length_drop, hR]; exact hl)
    have hx' := hx
    rw [hdrop] at hx'
    obtain ⟨q, hq, hf, y, hy, hxy⟩ := VH hx'
    obtain ⟨qm, qb⟩ := VA.1 hq
    have hcont := Vg hf
    have hw3 : PF ((i : Int) + 1) = ((i + 1 : Nat) : Int) := PC hi' (by omega)
    have i1 : Of T ((i + 1 : Nat) : Int) = true := PJ (by omega)
    have e1 := t3 (i + 1) (by omega)
    have i2 : Of T (i : Int) = true := PJ (by omega)
    have e2 := t3 i (by omega)
    have i3 : Of (OA (PD a0) m i) (s : Int) = true := PJ (by rw [Si]; exact hs)
    have e3 := Sh (R := PD a0) (i := i) hs
    rw [hx] at e3
    have bit : ∀ k, k < m → (OO .i64 (OD .i64 (s : Int) (k : Int)) 1 == 1) = s.testBit k := fun k hk => cF (by omega) (by omega)
    have pow : ∀ k, k < m → OC .i64 1 (k : Int) = ((2 ^ k : Nat) : Int) ∧ O2 .i64 (s : Int) ((2 ^ k : Nat) : Int) = ((s ||| 2 ^ k : Nat) : Int) := fun k hk => by
     have hk10 : 2 ^ k < 1024 := Nat.lt_of_lt_of_le (Nat.pow_lt_pow_right (by omega) hk) hp
     exact ⟨aU (by omega), jG (by omega) hk10⟩
    have hin : iter n (QB T (out, (s : Int), (i : Int)) a0[i]) (out, (s : Int), 0) = some (out ++ [(q : Int)], ((s ||| 2 ^ q : Nat) : Int), (q : Int)) := by
     have common : ∀ k, k < m → s.testBit k = false → ∀ v, S6 ((PD a0).drop (i + 1)) (Tr m (s ||| 2 ^ k)) = some v → 0 ≤ ga a0[i] k + v ∧ ga a0[i] k + v ≤ 2000000 ∧ 0 ≤ v := fun k hk hb v hv => by
      have := rb.val hv
      have := rb.b (ga a0[i]) (List.mem_map_of_mem (List.getElem_mem hi')) k hk
      omega
     have := PX (QB T (out, (s : Int), (i : Int)) a0[i]) (fun k => (out, (s : Int), (k : Int))) q (out ++ [(q : Int)], ((s ||| 2 ^ q : Nat) : Int), (q : Int)) (fun k hk => by
      have hkm : k < m := by omega
      have hdk : decide ((k : Int) < (a0[i].length : Int)) = true := by rw [decide_eq_true_eq]; omega
      have hd0 : decide (0 ≤ (k : Int)) = true := by rw [decide_eq_true_eq]; omega
      have hb := bit k hkm
      obtain ⟨p1, p2⟩ := pow k hkm
      have hwk : PF ((k : Int) + 1) = ((k + 1 : Nat) : Int) := PC hkm (by omega)
      cases hbt : s.testBit k with
      | true =>
       rw [hbt] at hb
       simp only [QB, hdk, hd0, cond_true, hb, Option.bind_some, hwk]
      | false =>
       rw [hbt] at hb
       have hlt := U9 hs hkm
       have i4 : Of (OA (PD a0) m (i + 1)) ((s ||| 2 ^ k : Nat) : Int) = true := PJ (by rw [Si]; exact hlt)
       have e4 := Sh (R := PD a0) (i := i + 1) hlt
       have e5 : ND a0[i] (k : Int) = some (ga a0[i] k) := by rw [Pr]; exact Ql (by omega)
       have hpk := hcont k hk hbt
       rw [SZ hbt] at hpk
       cases hB : S6 ((PD a0).drop (i + 1)) (Tr m (s ||| 2 ^ k)) with
       | none =>
        rw [hB] at e4
        have hneg : decide (QQ none < 0) = true := by simp [QQ]
        simp only [QB, hdk, hd0, cond_true, cond_false, hb, Option.bind_some, hwk, hw3, i1, e1, p1, p2, Int.toNat_natCast, i4, e4, hneg]
       | some v =>
        rw [hB] at e4 hpk
        obtain ⟨v1, v2, v3⟩ := common k hkm hbt v hB
        have hneg : decide (QQ (some v) < 0) = false := decide_eq_false (show ¬ v < 0 by omega)
        have hww : PF (ga a0[i] k + QQ (some v)) = ga a0[i] k + v := PL (n := ga a0[i] k + v) (by omega) (by omega)
        rw [hx'] at hpk
        have hneq : (ga a0[i] k + v != QQ (some x)) = true := by
         have : ga a0[i] k + v ≠ x := fun e => by rw [Option.map_some, e] at hpk; simp at hpk
         simp only [QQ, bne_iff_ne]; exact this
        simp only [QB, hdk, hd0, cond_true, cond_false, hb, Option.bind_some, hwk, hw3, i1, e1, p1, p2, Int.toNat_natCast, i4, e4, hneg, e5, hww, i2, e2, i3, e3, hneq]) (by
      have hdk : decide ((q : Int) < (a0[i].length : Int)) = true := by rw [decide_eq_true_eq]; omega
      have hd0 : decide (0 ≤ (q : Int)) = true := by rw [decide_eq_true_eq]; omega
      have hb := bit q qm
      rw [qb] at hb
      obtain ⟨p1, p2⟩ := pow q qm
      have hlt := U9 hs qm
      have i4 : Of (OA (PD a0) m (i + 1)) ((s ||| 2 ^ q : Nat) : Int) = true := PJ (by rw [Si]; exact hlt)
      have e4 := Sh (R := PD a0) (i := i + 1) hlt
      have e5 : ND a0[i] (q : Int) = some (ga a0[i] q) := by rw [Pr]; exact Ql (by omega)
      rw [SZ qb] at hy
      rw [hy] at e4
      obtain ⟨v1, v2, v3⟩ := common q qm qb y hy
      have hneg : decide (QQ (some y) < 0) = false := decide_eq_false (show ¬ y < 0 by omega)
      have hww : PF (ga a0[i] q + QQ (some y)) = ga a0[i] q + y := PL (n := ga a0[i] q + y) (by omega) (by omega)
      have hneq : (ga a0[i] q + y != QQ (some x)) = false := by
       simp only [QQ, bne_eq_false_iff_eq]; exact hxy.symm
      have hrow : decide (out.length + [(q : Int)].length ≤ DZ) = true := Sy (by omega)
      simp only [QB, hdk, hd0, cond_true, cond_false, hb, Option.bind_some, hw3, i1, e1, p1, p2, Int.toNat_natCast, i4, e4, hneg, e5, hww, i2, e2, i3, e3, hneq, hrow]) n (by unfold PQ at hn; omega)
     simpa using this
    have hpk : pk ((PD a0).drop i) (Tr m s) = q :: pk ((PD a0).drop (i + 1)) (Tr m (s ||| 2 ^ q)) := by
     rw [hdrop]
     simp only [pk, hf]
     rw [SZ qb]
    refine ⟨(out ++ [(q : Int)], ((s ||| 2 ^ q : Nat) : Int), ((i + 1 : Nat) : Int)), k - 1, ?_, ⟨i + 1, s ||| 2 ^ q, out ++ [(q : Int)], rfl, by omega, U9 hs qm, ?_, ?_, by simp [hol]⟩, by omega⟩
    ·simp only [R7, hd, cond_true, PH hi', Option.bind_some, hin, hw3]
    ·rw [← SZ qb, List.length_erase_of_mem hq]; omega
    ·rw [← hout, hpk]; simp [PA])
  n a0.length (([] : List Int), 0, 0) ⟨0, 0, [], rfl, by omega, Nat.pow_pos (by omega), by rw [hS0]; simp; omega, by rw [hS0]; rfl, rfl⟩ (by unfold PQ at hn; omega)
 obtain ⟨x, hx⟩ := Ve (PD a0) (List.range m) List.nodup_range (by rw [hR, List.length_range]; exact hnm)
 refine ⟨x, ?_, hx⟩
 have i1 : Of T 0 = true := PJ (show 0 < T.length by omega)
 have e1 := t3 0 (by omega)
 have i2 : Of (OA (PD a0) m 0) 0 = true := PJ (show 0 < _ by rw [Si]; exact Nat.pow_pos (by omega))
 have e2 := Sh (R := PD a0) (m := m) (i := 0) (s := 0) (Nat.pow_pos (by omega))
 rw [hS0, List.drop_zero, hx] at e2
 unfold R1
 rw [Tz hc n hn]
 simp only [Option.bind_some, Bool.not_true, cond_false, t1, hz, hz1, i1, e1, cond_true, Int.toNat_zero, i2, e2, QQ]
theorem Tw {S : List Nat} (h : S.Nodup) {j : Nat} (hj : j < S.length) : S.erase S[j] = S.eraseIdx j := by
 have hs : S = S.take j ++ S[j] :: S.drop (j + 1) := by rw [← List.drop_eq_getElem_cons hj, List.take_append_drop]
 have hn : S[j] ∉ S.take j := fun hm => by
  obtain ⟨a, ha, e⟩ := List.mem_iff_getElem.1 hm
  rw [List.getElem_take] at e
  have ha2 : a < j := by simp at ha; omega
  have := List.pairwise_iff_getElem.1 h a j (by omega) hj ha2
  exact this e
 rw [List.eraseIdx_eq_take_drop_succ]
 generalize S[j] = q at hs hn
 have h2 := List.erase_append_right (l₂ := q :: S.drop (j + 1)) hn
 rw [List.erase_cons_head] at h2
 exact (congrArg (fun l => l.erase q) hs).trans h2
theorem Uh {S : List Nat} (h : S.Nodup) {i j : Nat} (hi : i < S.length) (hj : j < S.length) (e : S[i] = S[j]) : i = j := by
 rcases Nat.lt_trichotomy i j with h1 | h1 | h1
 ·exact absurd e (List.pairwise_iff_getElem.1 h i j hi hj h1)
 ·exact h1
 ·exact absurd e.symm (List.pairwise_iff_getElem.1 h j i hj hi h1)
theorem WE (g : Nat → Nat) {S : List Nat} (hn : S.Nodup) (hg : ∀ a ∈ S, ∀ b ∈ S, g a = g b → a = b) {k : Nat} (hk : k ∈ S) : (S.map g).erase (g k) = (S.erase k).map g := by
 have hm : (S.map g).Nodup := by
  unfold List.Nodup
  rw [List.pairwise_map]
  exact List.Pairwise.imp_of_mem (fun {a b} ha hb hab e => hab (hg a ha b hb e)) hn
 rw [hm.erase_eq_filter, hn.erase_eq_filter, List.filter_map]
 congr 1
 refine List.filter_congr fun x hx => ?_
 by_cases e : x = k
 ·subst e; simp
 ·have : g x ≠ g k := fun h => e (hg x hx k hk h)
  show (g x != g k) = (x != k)
  rw [bne_iff_ne.2 this, bne_iff_ne.2 e]
theorem AS.rename (g : Nat → Nat) : ∀ (R : List (Nat → Int)) (S : List Nat) (x : Int), S.Nodup → (∀ a ∈ S, ∀ b ∈ S, g a = g b → a = b) → (AS (R.map fun r k => r (g k)) S x ↔ AS R (S.map g) x)
 | [], S, x, _, _ => Iff.rfl
 | r :: R, S, x, hn, hg => by
  have ih : ∀ k ∈ S, ∀ y, AS (R.map fun r k => r (g k)) (S.erase k) y ↔ AS R ((S.map g).erase (g k)) y := fun k hk y => by
   rw [WE g hn hg hk]
   exact AS.rename g R (S.erase k) y (hn.erase k) (fun a ha b hb => hg a (List.mem_of_mem_erase ha) b (List.mem_of_mem_erase hb))
  refine ⟨fun ⟨k, hk, y, hy, e⟩ => ⟨g k, List.mem_map_of_mem hk, y, (ih k hk y).1 hy, e⟩, fun ⟨q, hq, y, hy, e⟩ => ?_⟩
  obtain ⟨k, hk, rfl⟩ := List.mem_map.1 hq
  exact ⟨k, hk, y, (ih k hk y).2 hy, e⟩
theorem AS.ZY : ∀ (R R2 : List (Nat → Int)) (S : List Nat) (x : Int), R.length = R2.length → (∀ i (h1 : i < R.length) (h2 : i < R2.length), ∀ k ∈ S, R[i] k = R2[i] k) → AS R S x → AS R2 S x
 | [], [], S, x, _, _, h => h
 | [], r :: R2, S, x, hl, _, _ => by simp at hl
 | r :: R, [], S, x, hl, _, _ => by simp at hl
 | r :: R, r2 :: R2, S, x, hl, hc, ⟨k, hk, y, hy, e⟩ => by
  have h0 := hc 0 (by simp) (by simp) k hk
  simp only [List.getElem_cons_zero] at h0
  refine ⟨k, hk, y, AS.ZY R R2 (S.erase k) y (by simpa using hl) (fun i h1 h2 q hq => ?_) hy, by rw [e, h0]⟩
  have := hc (i + 1) (by simp; omega) (by simp; omega) q (List.mem_of_mem_erase hq)
  simpa only [List.getElem_cons_succ] using this
def Pq (rows : List (List Int)) (S : List Nat) : List (List Int) := rows.map fun r => S.map (ga r)
theorem WA (rows : List (List Int)) {S : List Nat} (hn : S.Nodup) (x : Int) : AS (PD (Pq rows S)) (List.range S.length) x ↔ AS (PD rows) S x := by
 have hS : (List.range S.length).map (fun k => S.getD k 0) = S := by
  apply List.ext_getElem (by simp)
  intro i h1 h2
  simp [List.getElem?_eq_getElem h2]
 have e : AS ((PD rows).map fun (r : Nat → Int) k => r (S.getD k 0)) (List.range S.length) x ↔ AS (PD rows) S x := by
  have := AS.rename (fun k => S.getD k 0) (PD rows) (List.range S.length) x List.nodup_range (fun a ha b hb h => by
   rw [List.mem_range] at ha hb
   simp only [List.getD, List.getElem?_eq_getElem ha, List.getElem?_eq_getElem hb, Option.getD_some] at h
   exact Uh hn ha hb h)
  rw [hS] at this
  exact this
 have same : ∀ i (h1 : i < (PD (Pq rows S)).length) (h2 : i < ((PD rows).map fun (r : Nat → Int) k => r (S.getD k 0)).length), ∀ k ∈ List.range S.length, (PD (Pq rows S))[i] k = ((PD rows).map fun (r : Nat → Int) k => r (S.getD k 0))[i] k := fun i h1 h2 k hk => by
  rw [List.mem_range] at hk
  have hi : i < rows.length := by simpa [PD, Pq] using h1
  have e1 : (PD (Pq rows S))[i] = ga (S.map (ga rows[i])) := by simp [PD, Pq]
  have e2 : ((PD rows).map fun (r : Nat → Int) k => r (S.getD k 0))[i] = fun k => ga rows[i] (S.getD k 0) := by simp [PD]
  rw [e1, e2]
  show ga (S.map (ga rows[i])) k = ga rows[i] (S.getD k 0)
  rw [List.getD, List.getElem?_eq_getElem hk, Option.getD_some]
  generalize ga rows[i] = f
  unfold ga
  rw [List.getD, List.getElem?_map, List.getElem?_eq_getElem hk]
  rfl
 have hl : (PD (Pq rows S)).length = ((PD rows).map fun (r : Nat → Int) k => r (S.getD k 0)).length := by simp [PD, Pq]
 exact ⟨fun h => e.1 (AS.ZY _ _ _ x hl same h), fun h => AS.ZY _ _ _ x hl.symm (fun i h1 h2 k hk => (same i h2 h1 k hk).symm) (e.2 h)⟩
theorem YV {a0 : List (List Int)} {m : Nat} (hc : CM a0 m) (i : Nat) {S : List Nat} (hs : ∀ k ∈ S, k < m) (hl : a0.length - i ≤ S.length) (h10 : S.length ≤ 10) : CM (Pq (a0.drop i) S) S.length := by
 refine ⟨fun r hr => ?_, by simp [Pq]; omega, h10, fun r hr x hx => ?_⟩
 ·obtain ⟨q, _, rfl⟩ := List.mem_map.1 hr
  simp
 ·obtain ⟨q, hq, rfl⟩ := List.mem_map.1 hr
  obtain ⟨k, hk, rfl⟩ := List.mem_map.1 hx
  have hq2 := List.mem_of_mem_drop hq
  have := hc.row q hq2
  have hg : q[k]? = some (ga q k) := Ql (by have := hs k hk; omega)
  exact hc.Mt q hq2 _ (List.mem_of_getElem? hg)
theorem Sn {α : Type} (x : List α) (j : Nat) : sub x 0 j = x.take j := by simp [sub]
theorem TS {α : Type} (x : List α) (j : Nat) : sub x j x.length = x.drop j := by
 unfold sub
 exact List.take_of_length_le (by simp)
theorem Tn (rows : List (List Int)) {S : List Nat} (hl : rows.length ≤ 10) (h10 : S.length ≤ 10) {j : Nat} (hj : j < S.length) (n : Nat) (hn : PQ ≤ n) : Ps n (Pq rows S) (j : Int) = some (Pq (rows.drop 1) (S.eraseIdx j)) := by
 have hL : (Pq rows S).length = rows.length := by simp [Pq]
 by_cases h0 : rows.length = 0
 ·have : rows = [] := List.eq_nil_of_length_eq_zero h0
  subst this
  obtain ⟨k, rfl⟩ : ∃ k, n = k + 1 := ⟨n - 1, by unfold PQ at hn; omega⟩
  unfold Ps
  rw [Pd (z := (([] : List (List Int)), (1 : Int))) (by simp [Pj, Pq])]
  rfl
 have hw : PF ((j : Int) + 1) = ((j + 1 : Nat) : Int) := PC hj (by omega)
 have := PX (Pj (Pq rows S) (j : Int)) (fun i => ((Pq (rows.drop 1) (S.eraseIdx j)).take i, ((i + 1 : Nat) : Int))) (rows.length - 1) (Pq (rows.drop 1) (S.eraseIdx j), (rows.length : Int)) (fun i hi => by
  have hi1 : i + 1 < (Pq rows S).length := by rw [hL]; omega
  have hd : decide (((i + 1 : Nat) : Int) < ((Pq rows S).length : Int)) = true := by rw [decide_eq_true_eq]; omega
  have hg : ND (Pq rows S) ((i + 1 : Nat) : Int) = some (S.map (ga (rows[i + 1]'(by omega)))) := by
   rw [PH hi1]
   simp [Pq]
  generalize hr : rows[i + 1]'(by omega) = r at hg
  have hlen : (S.map (ga r)).length = S.length := by simp
  have c1 : decide (0 ≤ (0 : Int)) = true := rfl
  have c2 : decide ((0 : Int) ≤ (j : Int)) = true := by rw [decide_eq_true_eq]; omega
  have c3 : decide ((j : Int) ≤ ((S.map (ga r)).length : Int)) = true := by rw [decide_eq_true_eq, hlen]; omega
  have c4 : decide ((0 : Int) ≤ ((j + 1 : Nat) : Int)) = true := by rw [decide_eq_true_eq]; omega
  have c5 : decide (((j + 1 : Nat) : Int) ≤ ((S.map (ga r)).length : Int)) = true := by rw [decide_eq_true_eq, hlen]; omega
  have c6 : decide (((S.map (ga r)).length : Int) ≤ ((S.map (ga r)).length : Int)) = true := by simp
  have c7 : decide (([] : List Int).length + (sub (S.map (ga r)) 0 j).length ≤ DZ) = true := by
   rw [Sn, decide_eq_true_eq]; simp [DZ]; omega
  have c8 : decide ((([] : List Int) ++ sub (S.map (ga r)) 0 j).length + (sub (S.map (ga r)) (j + 1) (S.map (ga r)).length).length ≤ DZ) = true := by
   rw [Sn, TS, decide_eq_true_eq]; simp [DZ]; omega
  have c9 : ∀ q : List Int, decide (((Pq (rows.drop 1) (S.eraseIdx j)).take i).length + [q].length ≤ DZ) = true := fun q => by
   rw [decide_eq_true_eq]; simp [DZ, Pq]; omega
  have hw2 : PF (((i + 1 : Nat) : Int) + 1) = ((i + 1 + 1 : Nat) : Int) := PC (show i + 1 < rows.length by omega) (by omega)
  have hval : ([] : List Int) ++ sub (S.map (ga r)) 0 j ++ sub (S.map (ga r)) (j + 1) (S.map (ga r)).length = (S.eraseIdx j).map (ga r) := by
   rw [Sn, TS, List.nil_append, List.eraseIdx_eq_take_drop_succ, List.map_append, List.map_take, List.map_drop]
  simp only [Pj, hd, cond_true, hg, Option.bind_some, c1, c2, c3, hw, c4, c5, c6, Bool.and_self, Int.toNat_zero, Int.toNat_natCast, c7, c8, c9, hw2, hval]
  congr 4
  have hi2 : i < (Pq (rows.drop 1) (S.eraseIdx j)).length := by simp [Pq]; omega
  rw [List.take_succ_eq_append_getElem hi2]
  congr 2
  simp only [Pq, List.getElem_map, List.getElem_drop]
  rw [← hr]
  congr 3
  omega) (by
  have hd : decide (((rows.length - 1 + 1 : Nat) : Int) < ((Pq rows S).length : Int)) = false := by rw [decide_eq_false_iff_not, hL]; omega
  simp only [Pj, hd, cond_false]
  rw [List.take_of_length_le (by simp [Pq]), show rows.length - 1 + 1 = rows.length by omega]) n (by unfold PQ at hn; omega)
 unfold Ps
 have h2 : iter n (Pj (Pq rows S) (j : Int)) (([] : List (List Int)), 1) = some (Pq (rows.drop 1) (S.eraseIdx j), (rows.length : Int)) := by simpa using this
 rw [h2]; rfl
theorem TZ {a0 : List (List Int)} {m : Nat} (hc : CM a0 m) (h0 : a0 = [] → m = 0) (n : Nat) (hn : PQ ≤ n) : ∃ s, R6 n a0 = some (PA (pk (PD a0) (List.range m)), s) ∧ S6 (PD a0) (List.range m) = some s := by
 have hm10 := hc.V7
 have hnm := hc.nm
 have rb := hc.rb
 have hR : (PD a0).length = a0.length := by simp [PD]
 obtain ⟨s0, hs0, hL0⟩ := Ug hc n hn
 have hb0 := V4 hL0
 have hnames : iter n (RH a0) (([] : List Int), 0) = some (PA (List.range m), (m : Int)) := by
  have := PX (RH a0) (fun i => (PA (List.range i), (i : Int))) m (PA (List.range m), (m : Int)) (fun i hi => by
   have hl : 0 < a0.length := by
    rcases Nat.eq_zero_or_pos a0.length with e | e
    ·have := h0 (List.eq_nil_of_length_eq_zero e); omega
    ·exact e
   have hd : decide ((a0.length : Int) > 0) = true := by rw [decide_eq_true_eq]; omega
   have hg : ND a0 0 = some a0[0] := PH hl
   have hd2 : decide ((i : Int) < (a0[0].length : Int)) = true := by rw [decide_eq_true_eq, hc.row _ (List.getElem_mem hl)]; omega
   have hr : decide ((PA (List.range i)).length + [(i : Int)].length ≤ DZ) = true := Sy (by simp [PA]; omega)
   simp only [RH, hd, cond_true, hg, Option.bind_some, hd2, hr, PC hi (by omega)]
   congr 3
   simp [PA, List.range_succ]) (by
   by_cases e : a0 = []
   ·subst e; rw [h0 rfl]; rfl
   ·have hl : 0 < a0.length := List.length_pos_iff.2 e
    have hd : decide ((a0.length : Int) > 0) = true := by rw [decide_eq_true_eq]; omega
    have hg : ND a0 0 = some a0[0] := PH hl
    have hd2 : decide ((m : Int) < (a0[0].length : Int)) = false := by rw [decide_eq_false_iff_not, hc.row _ (List.getElem_mem hl)]; omega
    simp only [RH, hd, cond_true, hg, Option.bind_some, hd2, cond_false]) n (by unfold PQ at hn; omega)
  simpa [PA] using this
 obtain ⟨z, hz1, hz⟩ := Qy (f := SD n)
  (fun k x => ∃ (i : Nat) (S : List Nat) (out : List Int) (left : Int), x = (out, left, Pq (a0.drop i) S, PA S) ∧ i + k = a0.length ∧ S.Nodup ∧ (∀ k ∈ S, k < m) ∧ a0.length - i ≤ S.length ∧ S.length ≤ 10 ∧ S6 ((PD a0).drop i) S = some left ∧ out ++ PA (pk ((PD a0).drop i) S) = PA (pk (PD a0) (List.range m)) ∧ out.length = i)
  (fun z => z.1 = PA (pk (PD a0) (List.range m)))
  (fun k x hx => by
   obtain ⟨i, S, out, left, rfl, hk, hnd, hsm, hl, h10, hb, hout, hol⟩ := hx
   have hLen : (Pq (a0.drop i) S).length = a0.length - i := by simp [Pq]
   by_cases hi : i = a0.length
   ·left
    subst hi
    have hd : decide (((Pq (a0.drop a0.length) S).length : Int) > 0) = false := by rw [decide_eq_false_iff_not, hLen]; omega
    refine ⟨(out, left, Pq (a0.drop a0.length) S, PA S), by simp only [SD, hd, cond_false], ?_⟩
    rw [List.drop_of_length_le (by rw [hR]; exact Nat.le_refl _)] at hout
    simpa only [pk, PA, List.map_nil, List.append_nil] using hout
   ·right
    have hi' : i < a0.length := by omega
    have hd : decide (((Pq (a0.drop i) S).length : Int) > 0) = true := by rw [decide_eq_true_eq, hLen]; omega
    have hdrop : (PD a0).drop i = ga a0[i] :: (PD a0).drop (i + 1) := by
     rw [List.drop_eq_getElem_cons (by omega)]
     congr 1
     exact List.getElem_map ..
    have hb' := hb
    rw [hdrop] at hb'
    obtain ⟨q, hq, hf, y, hy, hxy⟩ := VH hb'
    obtain ⟨hpq, as, bs, hSab, hfail⟩ := List.find?_eq_some_iff_append.1 hf
    have hj : as.length < S.length := by rw [hSab]; simp
    have hSj : S[as.length] = q := by simp [hSab]
    have hg0 : ND (Pq (a0.drop i) S) 0 = some (S.map (ga a0[i])) := by
     rw [show (0 : Int) = ((0 : Nat) : Int) from rfl, PH (by rw [hLen]; omega)]
     simp [Pq]
    have hRd : ∀ i, PD (a0.drop i) = (PD a0).drop i := fun i => by simp [PD, List.map_drop]
    have lst : ∀ j (hj : j < S.length), ∃ v, P8 n (Pq (a0.drop (i + 1)) (S.eraseIdx j)) = some v ∧ S6 ((PD a0).drop (i + 1)) (S.erase S[j]) = some v ∧ 0 ≤ v ∧ v ≤ 1000000 := fun j hj => by
     have hnd2 : (S.eraseIdx j).Nodup := hnd.sublist (List.eraseIdx_sublist ..)
     have hel : (S.eraseIdx j).length = S.length - 1 := by rw [List.length_eraseIdx, if_pos hj]
     have hsm2 : ∀ k ∈ S.eraseIdx j, k < m := fun k hk => hsm k (List.mem_of_mem_eraseIdx hk)
     obtain ⟨v, v1, v2⟩ := Ug (YV hc (i + 1) hsm2 (by omega) (by omega)) n hn
     have v3 : ZK ((PD a0).drop (i + 1)) (S.erase S[j]) v := by
      rw [Tw hnd hj, ← hRd]
      exact ⟨(WA _ hnd2 v).1 v2.1, fun y hy => v2.2 y ((WA _ hnd2 y).2 hy)⟩
     have v4 := V4 v3
     refine ⟨v, v1, v4, US v4 (fun r hr k hk => (rb.b r (List.mem_of_mem_drop hr) k (hsm k (List.mem_of_mem_erase hk))).1), ?_⟩
     have := Wl v4 (M := 100000) (by omega) (fun r hr k hk => (rb.b r (List.mem_of_mem_drop hr) k (hsm k (List.mem_of_mem_erase hk))).2)
     rw [List.length_drop, hR] at this
     omega
    have wo : ∀ j, j < S.length → Ps n (Pq (a0.drop i) S) (j : Int) = some (Pq (a0.drop (i + 1)) (S.eraseIdx j)) := fun j hj => by
     rw [Tn (a0.drop i) (by simp; omega) h10 hj n hn, List.drop_drop]
    have cost : ∀ j (hj : j < S.length), ND (S.map (ga a0[i])) (j : Int) = some (ga a0[i] S[j]) ∧ 0 ≤ ga a0[i] S[j] ∧ ga a0[i] S[j] ≤ 100000 := fun j hj => by
     refine ⟨?_, rb.b (ga a0[i]) (List.mem_map_of_mem (List.getElem_mem hi')) _ (hsm _ (List.getElem_mem hj))⟩
     rw [PH (by simpa using hj)]; simp
    have hin : iter n (RI n) (out, left, Pq (a0.drop i) S, PA S, 0) = some (out ++ [(q : Int)], y, Pq (a0.drop (i + 1)) (S.erase q), PA (S.erase q), (as.length : Int)) := by
     have := PX (RI n) (fun j => (out, left, Pq (a0.drop i) S, PA S, (j : Int))) as.length (out ++ [(q : Int)], y, Pq (a0.drop (i + 1)) (S.erase q), PA (S.erase q), (as.length : Int)) (fun j hja => by
      have hjS : j < S.length := by omega
      have hdj : decide ((j : Int) < ((S.map (ga a0[i])).length : Int)) = true := by rw [decide_eq_true_eq]; simp; omega
      obtain ⟨v, v1, v2, v3, v4⟩ := lst j hjS
      obtain ⟨c1, c2, c3⟩ := cost j hjS
      have hww : PF (ga a0[i] S[j] + v) = ga a0[i] S[j] + v := PL (by omega) (by omega)
      have hne : (ga a0[i] S[j] + v == left) = false := by
       have hmem : S[j] ∈ as := by
        have : S[j] = as[j] := by simp [hSab, hja]
        rw [this]; exact List.getElem_mem hja
       have := hfail S[j] hmem
       rw [v2, hb'] at this
       simpa using this
      simp only [RI, hg0, Option.bind_some, hdj, cond_true, wo j hjS, c1, v1, hww, hne, cond_false, PC hja (by omega)]) (by
      have hdj : decide ((as.length : Int) < ((S.map (ga a0[i])).length : Int)) = true := by rw [decide_eq_true_eq]; simp; omega
      obtain ⟨v, v1, v2, v3, v4⟩ := lst as.length hj
      obtain ⟨c1, c2, c3⟩ := cost as.length hj
      rw [hSj] at v2 c1 c2 c3
      rw [hy] at v2
      injection v2 with v2
      subst v2
      have hww : PF (ga a0[i] q + y) = ga a0[i] q + y := PL (by omega) (by omega)
      have he : (ga a0[i] q + y == left) = true := by rw [← hxy]; simp
      have hcl : (PA S).length = S.length := by simp [PA]
      have i1 : Of (PA S) (as.length : Int) = true := PJ (by omega)
      have e1 : (PA S)[as.length]? = some (q : Int) := by
       unfold PA
       rw [List.getElem?_map, List.getElem?_eq_getElem hj, hSj]; rfl
      have r1 : decide (out.length + [(q : Int)].length ≤ DZ) = true := Sy (by omega)
      have eC : PF ((as.length : Int) + 1) = ((as.length + 1 : Nat) : Int) := PC hj (by omega)
      have hwl : PF (left - ga a0[i] q) = y := by rw [hxy, PL (by omega) (by omega)]; omega
      have d1 : decide (0 ≤ (0 : Int)) = true := rfl
      have d2 : decide ((0 : Int) ≤ (as.length : Int)) = true := by rw [decide_eq_true_eq]; omega
      have d3 : decide ((as.length : Int) ≤ ((PA S).length : Int)) = true := by rw [decide_eq_true_eq, hcl]; omega
      have d4 : decide ((0 : Int) ≤ ((as.length + 1 : Nat) : Int)) = true := by rw [decide_eq_true_eq]; omega
      have d5 : decide (((as.length + 1 : Nat) : Int) ≤ ((PA S).length : Int)) = true := by rw [decide_eq_true_eq, hcl]; omega
      have d6 : decide (((PA S).length : Int) ≤ ((PA S).length : Int)) = true := by simp
      have c7 : decide (([] : List Int).length + (sub (PA S) 0 as.length).length ≤ DZ) = true := by
       rw [Sn, decide_eq_true_eq]; simp [DZ, PA]; omega
      have c8 : decide ((([] : List Int) ++ sub (PA S) 0 as.length).length + (sub (PA S) (as.length + 1) (PA S).length).length ≤ DZ) = true := by
       rw [Sn, TS, decide_eq_true_eq]; simp [DZ, PA]; omega
      have hval : ([] : List Int) ++ sub (PA S) 0 as.length ++ sub (PA S) (as.length + 1) (PA S).length = PA (S.erase q) := by
       rw [Sn, TS, List.nil_append, ← hSj, Tw hnd hj, List.eraseIdx_eq_take_drop_succ]
       simp [PA]
      have hnext : S.eraseIdx as.length = S.erase q := by rw [← Tw hnd hj, hSj]
      simp only [RI, hg0, Option.bind_some, hdj, cond_true, wo as.length hj, c1, v1, hww, he, i1, e1, r1, d1, d2, d3, d4, d5, d6, eC, hwl, Bool.and_self, Int.toNat_zero, Int.toNat_natCast, c7, c8, hval]
      rw [hnext]) n (by unfold PQ at hn; omega)
     simpa using this
    have hpk : pk ((PD a0).drop i) S = q :: pk ((PD a0).drop (i + 1)) (S.erase q) := by
     rw [hdrop]
     simp only [pk, hf]
    have hel : (S.erase q).length = S.length - 1 := List.length_erase_of_mem hq
    refine ⟨(out ++ [(q : Int)], y, Pq (a0.drop (i + 1)) (S.erase q), PA (S.erase q)), k - 1, ?_, ⟨i + 1, S.erase q, out ++ [(q : Int)], y, rfl, by omega, hnd.erase q, fun k hk => hsm k (List.mem_of_mem_erase hk), by omega, by omega, hy, ?_, by simp [hol]⟩, by omega⟩
    ·simp only [SD, hd, cond_true, hin, Option.bind_some]
    ·rw [← hout, hpk]; simp [PA])
  n a0.length (([] : List Int), s0, a0, PA (List.range m)) ⟨0, List.range m, [], s0, by
   congr 3
   rw [List.drop_zero]
   unfold Pq
   apply List.ext_getElem (by simp)
   intro r h1 h2
   rw [List.getElem_map]
   have hl := hc.row _ (List.getElem_mem h1)
   apply List.ext_getElem (by simp [hl])
   intro k k1 k2
   rw [List.getElem_map, List.getElem_range]
   unfold ga
   rw [List.getD, List.getElem?_eq_getElem k1, Option.getD_some], by omega, List.nodup_range, fun k hk => List.mem_range.1 hk, by simp; omega, by simp; omega, hb0, rfl, rfl⟩ (by unfold PQ at hn; omega)
 refine ⟨s0, ?_, hb0⟩
 unfold R6
 rw [UA hc n hn]
 simp only [Option.bind_some, Bool.not_true, cond_false, hs0, hnames, hz, hz1]
theorem S7 {β : Type} (L : List β × Int → Option ((List β × Int) ⊕ (List β × Int))) (f : Nat → β) (m : Nat)
  (hL : ∀ i, i < m → L ((List.range i).map f, (i : Int)) = some (.inl ((List.range i).map f ++ [f i], ((i + 1 : Nat) : Int)))) (he : L ((List.range m).map f, (m : Int)) = some (.inr ((List.range m).map f, (m : Int)))) (n : Nat) (hn : m < n) :
  iter n L ([], 0) = some ((List.range m).map f, (m : Int)) := by
 have := PX L (fun i => ((List.range i).map f, (i : Int))) m ((List.range m).map f, (m : Int)) (fun i hi => by
  rw [hL i hi, List.range_succ, List.map_append]; rfl) he n hn
 simpa using this
def Q7 (w h : Int) (c : List Int) (a b : Int) : Int := (QT PQ w h c a b).getD (-1)
theorem To {w h : Int} {c : List Int} (hc : c.length ≤ 1048576) (hf : PR w h c = true) (a b : Int) (n : Nat) (hn : PQ ≤ n) :
  QT n w h c a b = some (Q7 w h c a b) ∧ QR n w h c a b = some (Q7 w h c a b) ∧ -1 ≤ Q7 w h c a b ∧ Q7 w h c a b < 100 := by
 have f := Vh hf
 have hN := f.le
 have hcell : ∀ (n : Nat), PQ ≤ n → ∀ i, Rd n w h c i = some (SC i 0 ((c.length : Int) - 1)) := fun n hn i => by
  unfold Rd
  rw [QY w h c hc n hn, hf, show PF ((c.length : Int) - 1) = (c.length : Int) - 1 from PL (by clear hn; omega) (by clear hn; omega)]
  simp only [Option.bind_some, cond_true, TE]
 have hic : ∀ i, Qp w h c i = some (SC i 0 ((c.length : Int) - 1)) := fun i => by
  unfold Qp
  rw [show PF ((c.length : Int) - 1) = (c.length : Int) - 1 from PL (by clear hn; omega) (by clear hn; omega)]
  simp only [Option.bind_some, UZ]; rfl
 have key : ∃ s, -1 ≤ s ∧ s < 100 ∧ ∀ n, PQ ≤ n → QT n w h c a b = some s ∧ QR n w h c a b = some s := by
  cases hb : QV c b with
  | false =>
   refine ⟨-1, by omega, by omega, fun n hn => ⟨?_, ?_⟩⟩
   ·unfold QT R5
    rw [hcell n hn b]
    cases hi : SC b 0 ((c.length : Int) - 1) with
    | false => rfl
    | true =>
     obtain ⟨m, rfl, hm⟩ := Ua hi
     unfold QV at hb
     rw [hi, Bool.true_and] at hb
     have hg : (c[m] == 0) = true := by simpa [hm] using hb
     simp only [Option.bind_some, Bool.not_true, cond_false, PH hm, hg, cond_true]
     rfl
   ·obtain ⟨k, k1, k2⟩ := Qn w h c hc hf b n hn
    rw [hb] at k2
    have k3 : (k == 0) = true := by simpa using k2
    unfold QR
    rw [k1]
    simp only [Option.bind_some, k3, cond_true]
  | true =>
   have hbr : 0 ≤ b ∧ b < (c.length : Int) := by
    unfold QV SC at hb
    simp only [Bool.and_eq_true, decide_eq_true_eq] at hb
    omega
   have hib : SC b 0 ((c.length : Int) - 1) = true := by
    unfold SC; simp only [Bool.and_eq_true, decide_eq_true_eq]; omega
   obtain ⟨m, rfl, hm⟩ := Ua hib
   have hg : (c[m] == 0) = false := by
    unfold QV at hb
    rw [hib, Bool.true_and] at hb
    simpa [hm] using hb
   obtain ⟨F, hF, hl, hbd⟩ := Wq f hbr false
   have hne : ((F.length : Int) == 0) = false := by simp; intro e; rw [e] at hl; simp at hl; omega
   have hsf : ∀ n, PQ ≤ n → R5 n w h c (m : Int) false = some F := fun n hn => by
    unfold R5
    simp only [hcell n hn, hib, Option.bind_some, Bool.not_true, cond_false, PH hm, hg, (hF n hn).1]
   have hkk : ∀ n, PQ ≤ n → ∃ k, QO n w h c (m : Int) = some k ∧ (k == 0) = false := fun n hn => by
    obtain ⟨k, k1, k2⟩ := Qn w h c hc hf (m : Int) n hn
    rw [hb] at k2
    exact ⟨k, k1, by simpa using k2⟩
   cases hia : SC a 0 ((c.length : Int) - 1) with
   | false =>
    refine ⟨-1, by omega, by omega, fun n hn => ⟨?_, ?_⟩⟩
    ·unfold QT
     simp only [hsf n hn, Option.bind_some, hne, cond_false, hcell n hn, hia, Bool.not_false, cond_true]
    ·obtain ⟨k, k1, k2⟩ := hkk n hn
     unfold QR
     simp only [k1, Option.bind_some, k2, cond_false, hic, hia, Bool.not_false, cond_true]
   | true =>
    obtain ⟨q, rfl, hq⟩ := Ua hia
    have hqF : q < F.length := by omega
    have hb2 := hbd _ (List.getElem_mem hqF)
    refine ⟨F[q], hb2.1, by omega, fun n hn => ⟨?_, ?_⟩⟩
    ·unfold QT
     simp only [hsf n hn, Option.bind_some, hne, cond_false, hcell n hn, hia, Bool.not_true, PJ hqF, Int.toNat_natCast, List.getElem?_eq_getElem hqF, cond_true]
    ·obtain ⟨k, k1, k2⟩ := hkk n hn
     unfold QR
     simp only [k1, Option.bind_some, k2, cond_false, hic, hia, Bool.not_true, (hF n hn).2, PJ hqF, Int.toNat_natCast, List.getElem?_eq_getElem hqF, cond_true]
 obtain ⟨s, s1, s2, s3⟩ := key
 have e : Q7 w h c a b = s := by unfold Q7; rw [(s3 PQ (Nat.le_refl _)).1]; rfl
 rw [e]
 exact ⟨(s3 n hn).1, (s3 n hn).2, s1, s2⟩
def P3 (w h : Int) (c : List Int) (a b : Int) : Int := if Q7 w h c a b < 0 then 100000 else Q7 w h c a b
def Ss (a : List Q6) (id : Int) : Int := (Pt PQ a id).getD (-1)
theorem SF (a : List Q6) (hl : a.length ≤ 1048576) (id : Int) (n : Nat) (hn : PQ ≤ n) : Pt n a id = some (Ss a id) ∧ (Ss a id = -1 ∧ (∀ p ∈ a, p.1 ≠ id) ∨ ∃ i, ∃ h : i < a.length, Ss a id = (i : Int) ∧ a[i].1 = id) := by
 have hs : ∀ (i : Nat) (x : Q6), i < a.length → a[i]? = some x → QC a id (i : Int) = some (bif x.1 == id then .inr (.inr (i : Int)) else .inl ((i + 1 : Nat) : Int)) := fun i x h1 h2 => by
  have hx : a[i] = x := by rw [List.getElem?_eq_getElem h1] at h2; exact Option.some.inj h2
  simp only [QC, PH h1, hx, Option.bind_some, PC h1 (show a.length ≤ 9223372036854775807 by clear hn; omega)]
  rw [show decide ((i : Int) < (a.length : Int)) = true by simpa using h1]
  cases hq : (x.1 == id) <;> rfl
 have he : QC a id (a.length : Int) = some (.inr (.inl (a.length : Int))) := by simp [QC]
 have key : ∃ v : Int, (∀ n, PQ ≤ n → Pt n a id = some v) ∧ (v = -1 ∧ (∀ p ∈ a, p.1 ≠ id) ∨ ∃ i, ∃ h : i < a.length, v = (i : Int) ∧ a[i].1 = id) := by
  cases hf : a.findIdx? fun p => p.1 == id with
  | none =>
   have hno : ∀ p ∈ a, p.1 ≠ id := fun p hp => by
    have := List.findIdx?_eq_none_iff.1 hf p hp
    simpa using this
   refine ⟨-1, fun n hn => ?_, .inl ⟨rfl, hno⟩⟩
   have := PX (QC a id) (fun i => (i : Int)) a.length (.inl (a.length : Int)) (fun i hi => by
    rw [hs i a[i] hi (List.getElem?_eq_getElem hi), show (a[i].1 == id) = false by simpa using hno _ (List.getElem_mem hi), cond_false]) he n (by unfold PQ at hn; omega)
   unfold Pt
   rw [show ((0 : Nat) : Int) = 0 from rfl] at this
   rw [this]; rfl
  | some i =>
   obtain ⟨hi, hp, hb⟩ := List.findIdx?_eq_some_iff_getElem.1 hf
   have hp' : a[i].1 = id := by simpa using hp
   refine ⟨(i : Int), fun n hn => ?_, .inr ⟨i, hi, rfl, hp'⟩⟩
   have := PX (QC a id) (fun i => (i : Int)) i (.inr (i : Int)) (fun j hj => by
    have hb' := hb j hj
    rw [hs j a[j] (by omega) (List.getElem?_eq_getElem (by omega)), show (a[j].1 == id) = false by simpa using hb', cond_false]) (by
    rw [hs i a[i] hi (List.getElem?_eq_getElem hi), show (a[i].1 == id) = true by simpa using hp', cond_true]) n (by unfold PQ at hn; omega)
   unfold Pt
   rw [show ((0 : Nat) : Int) = 0 from rfl] at this
   rw [this]; rfl
 obtain ⟨v, v1, v2⟩ := key
 have e : Ss a id = v := by unfold Ss; rw [v1 PQ (Nat.le_refl _)]; rfl
 rw [e]
 exact ⟨v1 n hn, v2⟩
theorem Tk : R4 = Pt := rfl
abbrev RM := Int × Int × Int × Bool × Int
abbrev QU := Int × Int × Int × Int
def Ub (l : List QU) (r : RM) : Bool := r.2.2.1 == -1 && !r.2.2.2.1 && l.all fun t => !(t.2.2.1 == r.1)
def Pk (crew : List RM) (l : List QU) (i : Nat) : Bool := match crew[i]? with
 | some r => Ub l r
 | none => false
def PI (crew : List RM) (l : List QU) : List Nat := ((List.range crew.length).filter (Pk crew l)).take 10
theorem S9 {crew : List RM} {l : List QU} {k : Nat} (h : k ∈ PI crew l) : ∃ hk : k < crew.length, Ub l crew[k] = true := by
 have := List.mem_of_mem_take h
 obtain ⟨h1, h2⟩ := List.mem_filter.1 this
 rw [List.mem_range] at h1
 refine ⟨h1, ?_⟩
 unfold Pk at h2
 rw [List.getElem?_eq_getElem h1] at h2
 exact h2
theorem Sd (crew : List RM) (l : List QU) : (PI crew l).length ≤ 10 := by unfold PI; rw [List.length_take]; omega
theorem WG (crew : List RM) (l : List QU) : (PI crew l).Nodup := (List.nodup_range.filter _).sublist (List.take_sublist _ _)
theorem UD (xs : List Nat) (k m : Nat) : (xs ++ [k]).take m = if xs.length < m then xs.take m ++ [k] else xs.take m := by
 by_cases h : xs.length < m
 ·rw [if_pos h, List.take_of_length_le (by simp; omega), List.take_of_length_le (by omega)]
 ·rw [if_neg h, List.take_append_of_le_length (by omega)]
theorem VL (crew : List RM) (hc : crew.length ≤ 1048576) (l : List QU) (hl : l.length ≤ 1048576) (n : Nat) (hn : PQ ≤ n) : Rt n crew l = some (PA (PI crew l)) := by
 have hin : ∀ (i : Nat) (hi : i < crew.length) (out : List Int) (b : Bool), iter n (Qa crew l (out, (i : Int))) (b, 0) = some (b || l.any fun t => t.2.2.1 == crew[i].1, (l.length : Int)) := fun i hi out b => by
  have := PX (Qa crew l (out, (i : Int))) (fun k => (b || (l.take k).any fun t => t.2.2.1 == crew[i].1, (k : Int))) l.length (b || l.any fun t => t.2.2.1 == crew[i].1, (l.length : Int)) (fun k hk => by
   rw [List.take_succ_eq_append_getElem hk, List.any_append]
   simp only [Qa, PH hk, PH hi, Option.bind_some, PC hk (show l.length ≤ 9223372036854775807 by clear hn; omega), List.any_cons, List.any_nil, Bool.or_false]
   rw [show decide ((k : Int) < (l.length : Int)) = true by simpa using hk]
   cases b <;> cases (l.take k).any (fun t => t.2.2.1 == crew[i].1) <;> rfl) (by simp [Qa]) n (by unfold PQ at hn; omega)
  simpa using this
 obtain ⟨z, hz1, hz⟩ := Qy (f := QZ n crew l)
  (fun k x => ∃ i : Nat, x = (PA (((List.range i).filter (Pk crew l)).take 10), (i : Int)) ∧ i + k = crew.length)
  (fun z => z.1 = PA (PI crew l)) (fun k x hx => by
   obtain ⟨i, rfl, hk⟩ := hx
   have hlen : (PA (((List.range i).filter (Pk crew l)).take 10)).length = min 10 ((List.range i).filter (Pk crew l)).length := by simp [PA]
   by_cases hi : i < crew.length
   ·by_cases h10 : ((List.range i).filter (Pk crew l)).length < 10
    ·right
     have hd : decide ((i : Int) < (crew.length : Int)) = true := by simpa using hi
     have hd2 : decide (((PA (((List.range i).filter (Pk crew l)).take 10)).length : Int) < 10) = true := by rw [decide_eq_true_eq, hlen]; clear hn; omega
     have hrow : decide ((PA (((List.range i).filter (Pk crew l)).take 10)).length + [(i : Int)].length ≤ DZ) = true := Sy (by rw [hlen]; clear hn; omega)
     have hidle : Pk crew l i = Ub l crew[i] := by unfold Pk; rw [List.getElem?_eq_getElem hi]
     refine ⟨(PA (((List.range (i + 1)).filter (Pk crew l)).take 10), ((i + 1 : Nat) : Int)), k - 1, ?_, ⟨i + 1, rfl, by clear hn; omega⟩, by clear hn; omega⟩
     rw [List.range_succ, List.filter_append]
     simp only [QZ, hd, cond_true, hd2, Option.bind_some, PH hi, hin i hi, hrow, PC hi (show crew.length ≤ 9223372036854775807 by clear hn; omega)]
     have hany : (l.any fun t => t.2.2.1 == crew[i].1) = !(l.all fun t => !(t.2.2.1 == crew[i].1)) := by
      rw [List.not_all_eq_any_not]; simp
     rw [hany]
     generalize hA : (l.all fun t => !(t.2.2.1 == crew[i].1)) = A
     have h2 : Pk crew l i = (crew[i].2.2.1 == -1 && !crew[i].2.2.2.1 && A) := by rw [hidle, ← hA]; rfl
     rw [show (crew[i].2.2.1 != -1) = !(crew[i].2.2.1 == -1) from rfl]
     cases q1 : (crew[i].2.2.1 == -1) <;> cases q2 : crew[i].2.2.2.1 <;> cases A <;> rw [q1, q2] at h2 <;> simp [h2, UD, h10, PA]
    ·left
     refine ⟨(PA (((List.range i).filter (Pk crew l)).take 10), (i : Int)), ?_, ?_⟩
     ·have hd : decide ((i : Int) < (crew.length : Int)) = true := by simpa using hi
      have hd2 : decide (((PA (((List.range i).filter (Pk crew l)).take 10)).length : Int) < 10) = false := by rw [decide_eq_false_iff_not, hlen]; clear hn; omega
      simp only [QZ, hd, cond_true, hd2, Option.bind_some, cond_false]
     ·show PA _ = PA _
      unfold PI
      congr 1
      have : List.range crew.length = List.range i ++ (List.range (crew.length - i)).map (i + ·) := by
       rw [← List.range_add]; congr 1; clear hn; omega
      rw [this, List.filter_append, List.take_append_of_le_length (by clear hn; omega)]
   ·left
    have hie : i = crew.length := by clear hn; omega
    refine ⟨(PA (((List.range i).filter (Pk crew l)).take 10), (i : Int)), ?_, by rw [hie]; rfl⟩
    have hd : decide ((i : Int) < (crew.length : Int)) = false := by simpa using hi
    simp only [QZ, hd, cond_false, Option.bind_some])
  n crew.length ([], 0) ⟨0, rfl, by clear hn; omega⟩ (by unfold PQ at hn; omega)
 unfold Rt
 rw [hz]
 simp only [Option.bind_some, hz1]
theorem VB (crew : List RM) (hc : crew.length ≤ 1048576) (l : List QU) (hl : l.length ≤ 1048576) (n : Nat) (hn : PQ ≤ n) : Sz n crew l = some (PA (PI crew l)) := by
 have hin : ∀ (r : RM) (b : Bool), iter n (Ro l r) (b, 0) = some (b && l.all fun t => !(t.2.2.1 == r.1), (l.length : Int)) := fun r b => by
  have := PX (Ro l r) (fun k => (b && (l.take k).all fun t => !(t.2.2.1 == r.1), (k : Int))) l.length (b && l.all fun t => !(t.2.2.1 == r.1), (l.length : Int)) (fun k hk => by
   rw [List.take_succ_eq_append_getElem hk, List.all_append]
   simp only [Ro, PH hk, Option.bind_some, PC hk (show l.length ≤ 9223372036854775807 by clear hn; omega), List.all_cons, List.all_nil, Bool.and_true]
   rw [show decide ((k : Int) < (l.length : Int)) = true by simpa using hk, show (l[k].2.2.1 != r.1) = !(l[k].2.2.1 == r.1) from rfl]
   cases b <;> cases (l.take k).all (fun t => !(t.2.2.1 == r.1)) <;> rfl) (by simp [Ro]) n (by unfold PQ at hn; omega)
  simpa using this
 have := PX (Rn n crew l) (fun i => (PA (((List.range i).filter (Pk crew l)).take 10), (i : Int))) crew.length (PA (PI crew l), (crew.length : Int)) (fun i hi => by
  have hlen : (PA (((List.range i).filter (Pk crew l)).take 10)).length = min 10 ((List.range i).filter (Pk crew l)).length := by simp [PA]
  have hd : decide ((i : Int) < (crew.length : Int)) = true := by simpa using hi
  have hrow : decide ((PA (((List.range i).filter (Pk crew l)).take 10)).length + [(i : Int)].length ≤ DZ) = true := Sy (by rw [hlen]; clear hn; omega)
  have hidle : Pk crew l i = Ub l crew[i] := by unfold Pk; rw [List.getElem?_eq_getElem hi]
  have h10 : decide (((PA (((List.range i).filter (Pk crew l)).take 10)).length : Int) < 10) = decide (((List.range i).filter (Pk crew l)).length < 10) := by
   rw [decide_eq_decide, hlen]; clear hn; omega
  rw [List.range_succ, List.filter_append]
  simp only [Rn, hd, cond_true, Option.bind_some, PH hi, hin, hrow, PC hi (show crew.length ≤ 9223372036854775807 by clear hn; omega), h10]
  generalize hA : (l.all fun t => !(t.2.2.1 == crew[i].1)) = A
  have h2 : Pk crew l i = (crew[i].2.2.1 == -1 && !crew[i].2.2.2.1 && A) := by rw [hidle, ← hA]; rfl
  by_cases hq : ((List.range i).filter (Pk crew l)).length < 10
  ·rw [decide_eq_true hq]
   cases q1 : (crew[i].2.2.1 == -1) <;> cases q2 : crew[i].2.2.2.1 <;> cases A <;> rw [q1, q2] at h2 <;> simp [h2, UD, hq, PA]
  ·rw [decide_eq_false hq]
   cases q1 : (crew[i].2.2.1 == -1) <;> cases q2 : crew[i].2.2.2.1 <;> cases A <;> rw [q1, q2] at h2 <;> simp [h2, UD, hq, PA]) (by
  have hd : decide ((crew.length : Int) < (crew.length : Int)) = false := by simp
  simp only [Rn, hd, cond_false]
  rfl) n (by unfold PQ at hn; omega)
 unfold Sz
 have h2 : iter n (Rn n crew l) ([], 0) = some (PA (PI crew l), (crew.length : Int)) := by simpa [PA] using this
 rw [h2]; rfl
theorem We {β : Type} (f : Int → Option (Int ⊕ (Int ⊕ Bool))) (xs : List β) (P : β → Bool) (hs : ∀ (i : Nat) (x : β), i < xs.length → xs[i]? = some x → f (i : Int) = some (bif P x then .inr (.inr true) else .inl ((i + 1 : Nat) : Int)))
  (he : f (xs.length : Int) = some (.inr (.inl (xs.length : Int)))) : ∀ n, xs.length < n → iter n f 0 = some (bif xs.any P then .inr true else .inl (xs.length : Int)) := by
 intro n hn
 refine Sb f xs (fun p l => bif l.any P then .inr true else .inl (xs.length : Int)) ?_ ?_ n hn
 ·rw [he]; simp
 ·intro i x l p h1 h2 h3 h4 h5
  rw [hs i x h1 h2]
  cases hp : P x with
  | true => exact .inr (by simp [hp])
  | false => exact .inl ⟨by simp, by simp [hp]⟩
theorem SU (a : List Int) (h : a.length ≤ 1048576) (c : Int) (n : Nat) (hn : PQ ≤ n) : Pn n a c = some (a.any fun x => x == c) := by
 unfold Pn
 rw [We (RW a c) a (fun x => x == c) (fun i x h1 h2 => by
  have hx : a[i] = x := by rw [List.getElem?_eq_getElem h1] at h2; exact Option.some.inj h2
  simp only [RW, PH h1, hx]
  rw [show decide ((i : Int) < (a.length : Int)) = true by simpa using h1]
  cases hq : (x == c) <;> simp [hq, PC h1 (by omega)]) (by simp [RW]) n (by unfold PQ at hn; omega)]
 cases a.any fun x => x == c <;> rfl
theorem U2 : Sq = Pn := rfl
def TY (a : List Q6) (tk : List Int) (t : QU) : Bool := t.2.2.2 == 1 && decide (Ss a t.2.1 ≥ 0) && !(tk.any fun y => y == t.2.1)
def Tl (a : List Q6) : Nat → List Int → Nat → List QU → List Nat
 | 0, _, _, _ => []
 | _ + 1, _, _, [] => []
 | m + 1, tk, i, t :: ts => bif TY a tk t then i :: Tl a m (tk ++ [t.2.1]) (i + 1) ts else Tl a (m + 1) tk (i + 1) ts
theorem Wu (a : List Q6) (m : Nat) (tk : List Int) (i : Nat) (t : QU) (ts : List QU) : Tl a (m + 1) tk i (t :: ts) = bif TY a tk t then i :: Tl a m (tk ++ [t.2.1]) (i + 1) ts else Tl a (m + 1) tk (i + 1) ts := rfl
theorem UP (a : List Q6) (m : Nat) (tk : List Int) (i : Nat) : Tl a m tk i [] = [] := by cases m <;> rfl
theorem TC (a : List Q6) : ∀ (ts : List QU) (m : Nat) (tk : List Int) (i : Nat), (Tl a m tk i ts).length ≤ m
 | [], m, tk, i => by rw [UP]; simp
 | t :: ts, 0, tk, i => by simp [Tl]
 | t :: ts, m + 1, tk, i => by
  unfold Tl
  cases TY a tk t with
  | true => have := TC a ts m (tk ++ [t.2.1]) (i + 1); simp only [cond_true, List.length_cons]; omega
  | false => simpa only [cond_false] using TC a ts (m + 1) tk (i + 1)
theorem T9 (a : List Q6) : ∀ (ts : List QU) (m : Nat) (tk : List Int) (i : Nat), ∀ x ∈ Tl a m tk i ts, i ≤ x ∧ ∃ h : x - i < ts.length, ts[x - i].2.2.2 = 1 ∧ Ss a ts[x - i].2.1 ≥ 0 ∧ ts[x - i].2.1 ∉ tk
 | [], m, tk, i => by rw [UP]; simp
 | t :: ts, 0, tk, i => by simp [Tl]
 | t :: ts, m + 1, tk, i => by
  intro x hx
  have up : ∀ (h : i + 1 ≤ x) (h2 : x - (i + 1) < ts.length), ∃ h : x - i < (t :: ts).length, (t :: ts)[x - i] = ts[x - (i + 1)] := fun h h2 => by
   refine ⟨by simp; omega, ?_⟩
   have e : x - i = (x - (i + 1)) + 1 := by omega
   simp only [e, List.getElem_cons_succ]
  unfold Tl at hx
  cases hr : TY a tk t with
  | true =>
   rw [hr, cond_true] at hx
   rcases List.mem_cons.1 hx with rfl | hx
   ·unfold TY at hr
    simp only [Bool.and_eq_true, beq_iff_eq, decide_eq_true_eq, Bool.not_eq_true', List.any_eq_false, beq_iff_eq] at hr
    refine ⟨Nat.le_refl _, by simp, ?_⟩
    have e : (t :: ts)[x - x]'(by simp) = t := by simp
    rw [e]
    exact ⟨hr.1.1, hr.1.2, fun hm => hr.2 _ hm rfl⟩
   ·obtain ⟨h1, h2, h3, h4, h5⟩ := T9 a ts m (tk ++ [t.2.1]) (i + 1) x hx
    obtain ⟨u1, u2⟩ := up h1 h2
    refine ⟨by omega, u1, ?_⟩
    rw [u2]
    exact ⟨h3, h4, fun hm => h5 (List.mem_append_left _ hm)⟩
  | false =>
   rw [hr, cond_false] at hx
   obtain ⟨h1, h2, h3, h4, h5⟩ := T9 a ts (m + 1) tk (i + 1) x hx
   obtain ⟨u1, u2⟩ := up h1 h2
   refine ⟨by omega, u1, ?_⟩
   rw [u2]
   exact ⟨h3, h4, h5⟩
theorem Uj (a : List Q6) : ∀ (ts : List QU) (m : Nat) (tk : List Int) (i : Nat), (Tl a m tk i ts).Pairwise fun x y => x < y ∧ ∀ (hx : x - i < ts.length) (hy : y - i < ts.length), ts[x - i].2.1 ≠ ts[y - i].2.1
 | [], m, tk, i => by rw [UP]; exact List.Pairwise.nil
 | t :: ts, 0, tk, i => by simp [Tl]
 | t :: ts, m + 1, tk, i => by
  have up : ∀ (m : Nat) (tk : List Int), (Tl a m tk (i + 1) ts).Pairwise fun x y => x < y ∧ ∀ (hx : x - i < (t :: ts).length) (hy : y - i < (t :: ts).length), (t :: ts)[x - i].2.1 ≠ (t :: ts)[y - i].2.1 := fun m tk => by
   refine List.Pairwise.imp_of_mem (fun {x y} hx hy hxy => ⟨hxy.1, fun h1 h2 => ?_⟩) (Uj a ts m tk (i + 1))
   obtain ⟨x1, x2, _⟩ := T9 a ts m tk (i + 1) x hx
   obtain ⟨y1, y2, _⟩ := T9 a ts m tk (i + 1) y hy
   have ex : x - i = (x - (i + 1)) + 1 := by omega
   have ey : y - i = (y - (i + 1)) + 1 := by omega
   simp only [ex, ey, List.getElem_cons_succ]
   exact hxy.2 x2 y2
  unfold Tl
  cases hr : TY a tk t with
  | true =>
   rw [cond_true]
   refine List.pairwise_cons.2 ⟨fun y hy => ?_, up m (tk ++ [t.2.1])⟩
   obtain ⟨y1, y2, y3, y4, y5⟩ := T9 a ts m (tk ++ [t.2.1]) (i + 1) y hy
   refine ⟨by omega, fun h1 h2 => ?_⟩
   have e : (t :: ts)[i - i]'h1 = t := by simp
   have ey : y - i = (y - (i + 1)) + 1 := by omega
   rw [e]
   simp only [ey, List.getElem_cons_succ]
   exact fun q => y5 (List.mem_append_right _ (by simp [q]))
  | false => rw [cond_false]; exact up (m + 1) tk
def Q5 (l : List QU) : List Int := (l.filter fun t => !(t.2.2.2 == 1)).map (·.2.1)
def PS (a : List Q6) (l : List QU) (m : Nat) : List Nat := Tl a m (Q5 l) 0 l
theorem U0 (L : List Int × Int → Option ((List Int × Int) ⊕ (List Int × Int))) (l : List QU) (hl : l.length ≤ 1048576)
  (hL : ∀ (i : Nat) (out : List Int) (hi : i < l.length), out.length ≤ i → L (out, (i : Int)) = some (.inl (bif l[i].2.2.2 == 1 then out else out ++ [l[i].2.1], ((i + 1 : Nat) : Int)))) (he : ∀ out, L (out, (l.length : Int)) = some (.inr (out, (l.length : Int)))) (n : Nat) (hn : PQ ≤ n) :
  iter n L ([], 0) = some (Q5 l, (l.length : Int)) := by
 have := PX L (fun i => (Q5 (l.take i), (i : Int))) l.length (Q5 l, (l.length : Int)) (fun i hi => by
  rw [hL i _ hi (by unfold Q5; rw [List.length_map]; exact Nat.le_trans (List.length_filter_le _ _) (by simp; omega)), List.take_succ_eq_append_getElem hi]
  unfold Q5
  rw [List.filter_append, List.map_append]
  cases hq : (l[i].2.2.2 == 1) <;> simp [hq]) (by rw [List.take_length]; exact he _) n (by unfold PQ at hn; omega)
 simpa [Q5] using this
theorem VZ (L : List Int × List Int × Int → Option ((List Int × List Int × Int) ⊕ (List Int × List Int × Int))) (a : List Q6) (l : List QU) (M : Nat) (tk0 : List Int)
  (hgo : ∀ (i : Nat) (out tk : List Int) (hi : i < l.length), out.length < M → out.length ≤ i → tk.length ≤ tk0.length + i → L (out, tk, (i : Int)) = some (.inl (bif TY a tk l[i] then (out ++ [(i : Int)], tk ++ [l[i].2.1], ((i + 1 : Nat) : Int)) else (out, tk, ((i + 1 : Nat) : Int)))))
  (hfull : ∀ (i : Nat) (out tk : List Int) (hi : i < l.length), out.length = M → tk.length ≤ tk0.length + i → L (out, tk, (i : Int)) = some (.inl (out, tk, ((i + 1 : Nat) : Int))) ∨ L (out, tk, (i : Int)) = some (.inr (out, tk, (i : Int))))
  (hend : ∀ (out tk : List Int), L (out, tk, (l.length : Int)) = some (.inr (out, tk, (l.length : Int)))) (n : Nat) (hn : l.length < n) :
  ∃ z, z.1 = PA (Tl a M tk0 0 l) ∧ iter n L ([], tk0, 0) = some z := by
 refine Qy (f := L) (fun k x => ∃ (i : Nat) (out : List Nat) (tk : List Int), x = (PA out, tk, (i : Int)) ∧ i + k = l.length ∧ out.length ≤ M ∧ out.length ≤ i ∧ tk.length ≤ tk0.length + i ∧ out ++ Tl a (M - out.length) tk i (l.drop i) = Tl a M tk0 0 l)
  (fun z => z.1 = PA (Tl a M tk0 0 l)) (fun k x hx => ?_) n l.length ([], tk0, 0) ⟨0, [], tk0, rfl, by omega, by simp, by simp, by simp, by simp⟩ hn
 obtain ⟨i, out, tk, rfl, hk, h1, h2, h3, h4⟩ := hx
 have hcl : (PA out).length = out.length := by simp [PA]
 by_cases hi : i < l.length
 ·by_cases hM : out.length = M
  ·rcases hfull i (PA out) tk hi (by rw [hcl]; exact hM) h3 with e | e
   ·refine .inr ⟨_, k - 1, e, ⟨i + 1, out, tk, rfl, by omega, h1, by omega, by omega, ?_⟩, by omega⟩
    rw [← h4, hM, Nat.sub_self]; simp [Tl]
   ·refine .inl ⟨_, e, ?_⟩
    show PA out = _
    rw [← h4, hM, Nat.sub_self]; simp [Tl]
  ·have e := hgo i (PA out) tk hi (by rw [hcl]; omega) (by rw [hcl]; exact h2) h3
   have hd : l.drop i = l[i] :: l.drop (i + 1) := List.drop_eq_getElem_cons hi
   obtain ⟨m, hm⟩ : ∃ m, M - out.length = m + 1 := ⟨M - out.length - 1, by omega⟩
   rw [hd, hm, Wu] at h4
   cases hr : TY a tk l[i] with
   | true =>
    rw [hr, cond_true] at e h4
    refine .inr ⟨_, k - 1, e, ⟨i + 1, out ++ [i], tk ++ [l[i].2.1], by simp [PA], by omega, by simp; omega, by simp; omega, by simp; omega, ?_⟩, by omega⟩
    rw [← h4, List.append_assoc]
    congr 1
    rw [show M - (out ++ [i]).length = m by simp; omega]; rfl
   | false =>
    rw [hr, cond_false] at e h4
    refine .inr ⟨_, k - 1, e, ⟨i + 1, out, tk, rfl, by omega, h1, by omega, by omega, ?_⟩, by omega⟩
    rw [← h4, hm]
 ·have hie : i = l.length := by omega
  subst hie
  refine .inl ⟨_, hend _ _, ?_⟩
  show PA out = _
  rw [← h4, List.drop_length, UP, List.append_nil]
theorem Uy (a : List Q6) (ha : a.length ≤ 1048576) (l : List QU) (hl60 : l.length ≤ 60) (M : Nat) (n : Nat) (hn : PQ ≤ n) : RJ n a l (M : Int) = some (PA (PS a l M)) := by
 have hl : l.length ≤ 1048576 := by clear hn; omega
 have h1 := U0 (Q2 l) l hl (fun i out hi ho => by
  have hd : decide ((i : Int) < (l.length : Int)) = true := by simpa using hi
  have hr : decide (out.length + [l[i].2.1].length ≤ DZ) = true := Sy (by clear hn; omega)
  simp only [Q2, hd, cond_true, PH hi, Option.bind_some, hr, PC hi (show l.length ≤ 9223372036854775807 by clear hn; omega), bne]
  cases (l[i].2.2.2 == 1) <;> rfl) (fun out => by simp [Q2]) n hn
 have hbl : (Q5 l).length ≤ 60 := by unfold Q5; rw [List.length_map]; exact Nat.le_trans (List.length_filter_le _ _) hl60
 obtain ⟨z, z1, z2⟩ := VZ (QJ n a l (M : Int)) a l M (Q5 l) (fun i out tk hi h1 h2 h3 => by
  have hd : decide ((i : Int) < (l.length : Int)) = true := by simpa using hi
  have hd2 : decide ((out.length : Int) < (M : Int)) = true := by rw [decide_eq_true_eq]; clear hn; omega
  have hr : decide (out.length + [(i : Int)].length ≤ DZ) = true := Sy (by clear hn; omega)
  have hr2 : decide (tk.length + [l[i].2.1].length ≤ DZ) = true := by
   rw [decide_eq_true_eq]; simp [DZ]; clear hn; omega
  simp only [QJ, hd, hd2, cond_true, PH hi, Option.bind_some, hr, hr2, PC hi (show l.length ≤ 9223372036854775807 by clear hn; omega), (SF a ha l[i].2.1 n hn).1]
  have ham : Pn n tk l[i].2.1 = some (tk.any fun y => y == l[i].2.1) := SU tk (by clear hn; omega) _ n hn
  simp only [ham, Option.bind_some]
  unfold TY
  cases (l[i].2.2.2 == 1) <;> cases decide (Ss a l[i].2.1 ≥ 0) <;> cases (tk.any fun y => y == l[i].2.1) <;> rfl) (fun i out tk hi h1 h3 => by
  right
  have hd : decide ((i : Int) < (l.length : Int)) = true := by simpa using hi
  have hd2 : decide ((out.length : Int) < (M : Int)) = false := by rw [decide_eq_false_iff_not]; clear hn; omega
  simp only [QJ, hd, hd2, cond_true, cond_false, Option.bind_some]) (fun out tk => by
  have hd : decide ((l.length : Int) < (l.length : Int)) = false := by simp
  simp only [QJ, hd, cond_false, Option.bind_some]) n (by unfold PQ at hn; omega)
 unfold RJ
 rw [h1]
 simp only [Option.bind_some, z2, z1]
 rfl
theorem Uv (a : List Q6) (ha : a.length ≤ 1048576) (l : List QU) (hl60 : l.length ≤ 60) (M : Nat) (n : Nat) (hn : PQ ≤ n) : Sg n a l (M : Int) = some (PA (PS a l M)) := by
 have hl : l.length ≤ 1048576 := by clear hn; omega
 have h1 := U0 (SB l) l hl (fun i out hi ho => by
  have hd : decide ((i : Int) < (l.length : Int)) = true := by simpa using hi
  have hr : decide (out.length + [l[i].2.1].length ≤ DZ) = true := Sy (by clear hn; omega)
  simp only [SB, hd, cond_true, PH hi, Option.bind_some, hr, PC hi (show l.length ≤ 9223372036854775807 by clear hn; omega), bne]
  cases (l[i].2.2.2 == 1) <;> rfl) (fun out => by simp [SB]) n hn
 have hbl : (Q5 l).length ≤ 60 := by unfold Q5; rw [List.length_map]; exact Nat.le_trans (List.length_filter_le _ _) hl60
 obtain ⟨z, z1, z2⟩ := VZ (RE n a l (M : Int)) a l M (Q5 l) (fun i out tk hi h1 h2 h3 => by
  have hd : decide ((i : Int) < (l.length : Int)) = true := by simpa using hi
  have hd2 : decide ((out.length : Int) < (M : Int)) = true := by rw [decide_eq_true_eq]; clear hn; omega
  have hr : decide (out.length + [(i : Int)].length ≤ DZ) = true := Sy (by clear hn; omega)
  have hr2 : decide (tk.length + [l[i].2.1].length ≤ DZ) = true := by
   rw [decide_eq_true_eq]; simp [DZ]; clear hn; omega
  simp only [RE, Tk, U2, hd, hd2, cond_true, PH hi, Option.bind_some, hr, hr2, PC hi (show l.length ≤ 9223372036854775807 by clear hn; omega), (SF a ha l[i].2.1 n hn).1]
  have ham : Pn n tk l[i].2.1 = some (tk.any fun y => y == l[i].2.1) := SU tk (by clear hn; omega) _ n hn
  simp only [ham, Option.bind_some]
  unfold TY
  cases (l[i].2.2.2 == 1) <;> cases decide (Ss a l[i].2.1 ≥ 0) <;> cases (tk.any fun y => y == l[i].2.1) <;> rfl) (fun i out tk hi h1 h3 => by
  left
  have hd : decide ((i : Int) < (l.length : Int)) = true := by simpa using hi
  have hd2 : decide ((out.length : Int) < (M : Int)) = false := by rw [decide_eq_false_iff_not]; clear hn; omega
  obtain ⟨b, hb⟩ : ∃ b, Pn n tk l[i].2.1 = some b := ⟨_, SU tk (by clear hn; omega) _ n hn⟩
  simp only [RE, Tk, U2, hd, hd2, cond_true, cond_false, PH hi, Option.bind_some, PC hi (show l.length ≤ 9223372036854775807 by clear hn; omega), (SF a ha l[i].2.1 n hn).1, hb]
  cases (l[i].2.2.2 == 1) <;> cases decide (Ss a l[i].2.1 ≥ 0) <;> cases b <;> rfl) (fun out tk => by
  have hd : decide ((l.length : Int) < (l.length : Int)) = false := by simp
  simp only [RE, hd, cond_false]) n (by unfold PQ at hn; omega)
 unfold Sg
 rw [h1]
 simp only [Option.bind_some, z2, z1]
 rfl
def Sx (crew : List RM) (k : Nat) : RM := crew.getD k (0, 0, 0, false, 0)
def SR (l : List QU) (i : Nat) : QU := l.getD i (0, 0, 0, 0)
theorem VJ {crew : List RM} {k : Nat} (h : k < crew.length) : crew[k]? = some (Sx crew k) := by unfold Sx; rw [List.getD, List.getElem?_eq_getElem h]; rfl
theorem UQ {l : List QU} {k : Nat} (h : k < l.length) : l[k]? = some (SR l k) := by unfold SR; rw [List.getD, List.getElem?_eq_getElem h]; rfl
def PY (a : List Q6) (id : Int) : Int := match a[(Ss a id).toNat]? with
 | some p => p.2.1
 | none => 0
def Pm (a : List Q6) (crew : List RM) (l : List QU) (p : Nat × Nat) (st : List RM × List QU) : List RM × List QU :=
 (List.modify (List.modify st.1 p.2 fun y => (y.1, y.2.1, PY a (SR l p.1).2.1, y.2.2.2.1, y.2.2.2.2)) p.2 fun y => (y.1, y.2.1, y.2.2.1, y.2.2.2.1, 0),
  List.modify (List.modify st.2 p.1 fun y => (y.1, y.2.1, (Sx crew p.2).1, y.2.2.2)) p.1 fun y => (y.1, y.2.1, y.2.2.1, 2))
def sendAll (a : List Q6) (crew : List RM) (l : List QU) (prs : List (Nat × Nat)) : List RM × List QU := prs.foldl (fun st p => Pm a crew l p st) (crew, l)
structure SI (crew : List RM) (l : List QU) (st : List RM × List QU) : Prop where
 l1 : st.1.length = crew.length
 l2 : st.2.length = l.length
 id : ∀ k, k < crew.length → ∃ r, st.1[k]? = some r ∧ r.1 = (Sx crew k).1
 jH : ∀ i, i < l.length → ∃ t, st.2[i]? = some t ∧ t.2.1 = (SR l i).2.1
theorem SI.first (crew : List RM) (l : List QU) : SI crew l (crew, l) := ⟨rfl, rfl, fun k h => ⟨_, VJ h, rfl⟩, fun i h => ⟨_, UQ h, rfl⟩⟩
theorem SI.one {a : List Q6} {crew : List RM} {l : List QU} {st : List RM × List QU} (h : SI crew l st) (p : Nat × Nat) : SI crew l (Pm a crew l p st) := by
 refine ⟨by simp [Pm, h.l1], by simp [Pm, h.l2], fun k hk => ?_, fun i hi => ?_⟩
 ·obtain ⟨r, h1, h2⟩ := h.id k hk
  simp only [Pm, List.getElem?_modify, h1]
  by_cases e : p.2 = k
  ·simp [e, h2]
  ·simp [e, h2]
 ·obtain ⟨r, h1, h2⟩ := h.jH i hi
  simp only [Pm, List.getElem?_modify, h1]
  by_cases e : p.1 = i
  ·simp [e, h2]
  ·simp [e, h2]
theorem SI.all {a : List Q6} {crew : List RM} {l : List QU} : ∀ (prs : List (Nat × Nat)) (st : List RM × List QU), SI crew l st → SI crew l (prs.foldl (fun st p => Pm a crew l p st) st)
 | [], st, h => h
 | p :: prs, st, h => SI.all prs _ (h.one p)
def Rh (w h : Int) (c : List Int) (a : List Q6) (crew : List RM) (l : List QU) : List (List Int) :=
 (PS a l (PI crew l).length).map fun t => (PI crew l).map fun k => P3 w h c (Sx crew k).2.1 (PY a (SR l t).2.1)
def Pb (w h : Int) (c : List Int) (a : List Q6) (crew : List RM) (l : List QU) : List Nat := pk (PD (Rh w h c a crew l)) (List.range (PI crew l).length)
def SV (w h : Int) (c : List Int) (a : List Q6) (crew : List RM) (l : List QU) (j : Nat) : Option (Nat × Nat) :=
 if P3 w h c (Sx crew ((PI crew l).getD ((Pb w h c a crew l).getD j 0) 0)).2.1 (PY a (SR l ((PS a l (PI crew l).length).getD j 0)).2.1) < 100000
 then some ((PS a l (PI crew l).length).getD j 0, (PI crew l).getD ((Pb w h c a crew l).getD j 0) 0) else none
def TK (w h : Int) (c : List Int) (a : List Q6) (crew : List RM) (l : List QU) : List (Nat × Nat) := (List.range (Pb w h c a crew l).length).filterMap (SV w h c a crew l)
def TJ (w h : Int) (c : List Int) (a : List Q6) (crew : List RM) (l : List QU) : Bool := RX a && Ri w h c crew && Pv l
def TW (w h : Int) (c : List Int) (a : List Q6) (crew : List RM) (l : List QU) : List RM × List QU := bif TJ w h c a crew l then sendAll a crew l (TK w h c a crew l) else (crew, l)
theorem Wm (w h : Int) (c : List Int) (a : List Q6) (crew : List RM) (l : List QU) : SI crew l (TW w h c a crew l) := by
 unfold TW
 cases TJ w h c a crew l with
 | true => exact SI.all _ _ (SI.first crew l)
 | false => exact SI.first crew l
theorem YQ {w h : Int} {c : List Int} (hc : c.length ≤ 1048576) (hf : PR w h c = true) (a b : Int) : 0 ≤ P3 w h c a b ∧ P3 w h c a b ≤ 100000 := by
 obtain ⟨_, _, h1, h2⟩ := To hc hf a b PQ (Nat.le_refl _)
 unfold P3
 split <;> omega
theorem UT {w h : Int} {c : List Int} (hc : c.length ≤ 1048576) (hf : PR w h c = true) (a : List Q6) (crew : List RM) (l : List QU) : CM (Rh w h c a crew l) (PI crew l).length := by
 refine ⟨fun r hr => ?_, ?_, Sd crew l, fun r hr x hx => ?_⟩
 ·obtain ⟨t, _, rfl⟩ := List.mem_map.1 hr
  simp
 ·unfold Rh
  rw [List.length_map]
  exact TC a l _ _ _
 ·obtain ⟨t, _, rfl⟩ := List.mem_map.1 hr
  obtain ⟨k, _, rfl⟩ := List.mem_map.1 hx
  exact YQ hc hf _ _
theorem UR {M : List (List Int)} {m : Nat} (hc : CM M m) (n : Nat) (hn : PQ ≤ n) : ∃ s, R1 n M = some (PA (pk (PD M) (List.range m)), s) ∧ R6 n M = some (PA (pk (PD M) (List.range m)), s) := by
 by_cases h0 : M = []
 ·subst h0
  have hc0 : CM [] 0 := ⟨by simp, by simp, by omega, by simp⟩
  obtain ⟨s, s1, s2⟩ := TX hc0 (fun _ => rfl) n hn
  obtain ⟨s', s3, s4⟩ := TZ hc0 (fun _ => rfl) n hn
  rw [s2] at s4
  injection s4 with s4
  subst s4
  exact ⟨s, s1, s3⟩
 ·obtain ⟨s, s1, s2⟩ := TX hc (fun e => absurd e h0) n hn
  obtain ⟨s', s3, s4⟩ := TZ hc (fun e => absurd e h0) n hn
  rw [s2] at s4
  injection s4 with s4
  subst s4
  exact ⟨s, s1, s3⟩
theorem Rp {β : Type} (F : Nat → β) (s : List Nat) : (List.range s.length).map (fun i => F (s.getD i 0)) = s.map F := by
 apply List.ext_getElem (by simp)
 intro i h1 h2
 simp at h2
 simp [h2]
theorem R0 {s : List Nat} {i : Nat} (h : i < s.length) : Of (PA s) (i : Int) = true ∧ (PA s)[i]? = some ((s.getD i 0 : Nat) : Int) := by
 refine ⟨PJ (by simpa [PA] using h), ?_⟩
 unfold PA
 rw [List.getElem?_map, List.getElem?_eq_getElem h, List.getD, List.getElem?_eq_getElem h]
 rfl
theorem QW {s : List Nat} {i : Nat} (h : i < s.length) : s.getD i 0 ∈ s := by
 rw [List.getD, List.getElem?_eq_getElem h]; exact List.getElem_mem h
theorem Su {a : List Q6} (ha : a.length ≤ 1048576) {l : List QU} {M t : Nat} (h : t ∈ PS a l M) : t < l.length ∧ (SR l t).2.2.2 = 1 ∧ (SR l t).2.1 ∉ Q5 l ∧ ∃ i, ∃ hi : i < a.length, Ss a (SR l t).2.1 = (i : Int) ∧ a[i].1 = (SR l t).2.1 ∧ PY a (SR l t).2.1 = a[i].2.1 := by
 obtain ⟨_, h2, h3, h4, h5⟩ := T9 a l M (Q5 l) 0 t h
 simp only [Nat.sub_zero] at h2 h3 h4 h5
 have e : SR l t = l[t] := by unfold SR; rw [List.getD, List.getElem?_eq_getElem h2]; rfl
 rw [e]
 refine ⟨h2, h3, h5, ?_⟩
 rcases (SF a ha l[t].2.1 PQ (Nat.le_refl _)).2 with ⟨q, _⟩ | ⟨i, hi, q, q2⟩
 ·omega
 ·refine ⟨i, hi, q, q2, ?_⟩
  unfold PY
  rw [q, Int.toNat_natCast, List.getElem?_eq_getElem hi]
theorem Vv {w h : Int} {c : List Int} (hc : c.length ≤ 1048576) (hf : PR w h c = true) {a : List Q6} (ha : a.length ≤ 1048576) {crew : List RM} (hcr : crew.length ≤ 1048576) {l : List QU} (hl : l.length ≤ 60) (n : Nat) (hn : PQ ≤ n) :
  iter n (QI n w h c a crew l (PA (PI crew l)) (PA (PS a l (PI crew l).length))) ([], 0) = some (Rh w h c a crew l, ((PS a l (PI crew l).length).length : Int)) := by
 generalize hwho : PI crew l = who
 generalize hwhat : PS a l who.length = what
 have h10 : who.length ≤ 10 := by rw [← hwho]; exact Sd crew l
 have hwl : what.length ≤ 10 := by rw [← hwhat]; exact Nat.le_trans (TC a l _ _ _) h10
 have hlw : (PA who).length = who.length := by simp [PA]
 have hlt : (PA what).length = what.length := by simp [PA]
 have := S7 (QI n w h c a crew l (PA who) (PA what)) (fun i => who.map fun k => P3 w h c (Sx crew k).2.1 (PY a (SR l (what.getD i 0)).2.1)) what.length (fun i hi => by
  have hd : decide ((i : Int) < ((PA what).length : Int)) = true := by rw [decide_eq_true_eq, hlt]; clear hn; omega
  obtain ⟨t1, t2⟩ := R0 hi
  have htm : what.getD i 0 ∈ PS a l who.length := by rw [hwhat]; exact QW hi
  obtain ⟨f1, f2, f3, p, hp, f4, f5, f6⟩ := Su ha htm
  generalize what.getD i 0 = t at t2 htm f1 f2 f3 f4 f5 f6
  generalize hout : (List.range i).map (fun i => who.map fun k => P3 w h c (Sx crew k).2.1 (PY a (SR l (what.getD i 0)).2.1)) = out
  have hol : out.length = i := by rw [← hout]; simp
  have hin := S7 (Q0 n w h c a crew l (PA who) (PA what) (out, (i : Int))) (fun k => P3 w h c (Sx crew (who.getD k 0)).2.1 (PY a (SR l t).2.1)) who.length (fun k hk => by
   have hd2 : decide ((k : Int) < ((PA who).length : Int)) = true := by rw [decide_eq_true_eq, hlw]; clear hn; omega
   obtain ⟨w1, w2⟩ := R0 hk
   have hkm : who.getD k 0 ∈ PI crew l := by rw [hwho]; exact QW hk
   obtain ⟨g1, g2⟩ := S9 hkm
   have hg : ND crew ((who.getD k 0 : Nat) : Int) = some (Sx crew (who.getD k 0)) := by rw [Pr]; exact VJ g1
   have hgt : ND l ((t : Nat) : Int) = some (SR l t) := by rw [Pr]; exact UQ f1
   have hgp : ND a ((p : Nat) : Int) = some a[p] := PH hp
   have hcost : Rs n w h c (Sx crew (who.getD k 0)).2.1 (PY a (SR l t).2.1) = some (P3 w h c (Sx crew (who.getD k 0)).2.1 (PY a (SR l t).2.1)) := by
    unfold Rs P3
    rw [(To hc hf _ _ n hn).1, Option.bind_some]
    by_cases q : Q7 w h c (Sx crew (who.getD k 0)).2.1 (PY a (SR l t).2.1) < 0
    ·rw [decide_eq_true q, if_pos q]; rfl
    ·rw [decide_eq_false q, if_neg q]; rfl
   have hrow : ∀ x : Int, decide (((List.range k).map fun k => P3 w h c (Sx crew (who.getD k 0)).2.1 (PY a (SR l t).2.1)).length + [x].length ≤ DZ) = true := fun x => Sy (by simp; clear hn; omega)
   simp only [Q0, hd2, cond_true, w1, w2, t1, t2, Int.toNat_natCast, Option.bind_some, hg, hgt, (SF a ha _ n hn).1, f4, hgp, ← f6, hcost, hrow, PC hk (show who.length ≤ 9223372036854775807 by clear hn; omega)]) (by
   have hd2 : decide ((who.length : Int) < ((PA who).length : Int)) = false := by rw [decide_eq_false_iff_not, hlw]; clear hn; omega
   simp only [Q0, hd2, cond_false]) n (by unfold PQ at hn; omega)
  rw [Rp (fun k => P3 w h c (Sx crew k).2.1 (PY a (SR l t).2.1)) who] at hin
  have hrow : ∀ x : List Int, decide (out.length + [x].length ≤ DZ) = true := fun x => Sy (by clear hn; omega)
  simp only [QI, hd, cond_true, hin, Option.bind_some, hrow, PC hi (show what.length ≤ 9223372036854775807 by clear hn; omega)]) (by
  have hd : decide ((what.length : Int) < ((PA what).length : Int)) = false := by rw [decide_eq_false_iff_not, hlt]; clear hn; omega
  simp only [QI, hd, cond_false]) n (by unfold PQ at hn; omega)
 rw [this, Rp (fun t => who.map fun k => P3 w h c (Sx crew k).2.1 (PY a (SR l t).2.1)) what, ← hwhat, ← hwho]
 rfl
theorem Vj {w h : Int} {c : List Int} (hc : c.length ≤ 1048576) (hf : PR w h c = true) {a : List Q6} (ha : a.length ≤ 1048576) {crew : List RM} (hcr : crew.length ≤ 1048576) {l : List QU} (hl : l.length ≤ 60) (n : Nat) (hn : PQ ≤ n) :
  iter n (QE n w h c a crew l (PA (PI crew l)) (PA (PS a l (PI crew l).length))) ([], 0) = some (Rh w h c a crew l, ((PS a l (PI crew l).length).length : Int)) := by
 generalize hwho : PI crew l = who
 generalize hwhat : PS a l who.length = what
 have h10 : who.length ≤ 10 := by rw [← hwho]; exact Sd crew l
 have hwl : what.length ≤ 10 := by rw [← hwhat]; exact Nat.le_trans (TC a l _ _ _) h10
 have hlw : (PA who).length = who.length := by simp [PA]
 have hlt : (PA what).length = what.length := by simp [PA]
 have := S7 (QE n w h c a crew l (PA who) (PA what)) (fun i => who.map fun k => P3 w h c (Sx crew k).2.1 (PY a (SR l (what.getD i 0)).2.1)) what.length (fun i hi => by
  have hd : decide ((i : Int) < ((PA what).length : Int)) = true := by rw [decide_eq_true_eq, hlt]; clear hn; omega
  obtain ⟨t1, t2⟩ := R0 hi
  have htm : what.getD i 0 ∈ PS a l who.length := by rw [hwhat]; exact QW hi
  obtain ⟨f1, f2, f3, p, hp, f4, f5, f6⟩ := Su ha htm
  generalize what.getD i 0 = t at t2 htm f1 f2 f3 f4 f5 f6
  generalize hout : (List.range i).map (fun i => who.map fun k => P3 w h c (Sx crew k).2.1 (PY a (SR l (what.getD i 0)).2.1)) = out
  have hol : out.length = i := by rw [← hout]; simp
  have hin := S7 (Qv n w h c a crew l (PA who) (t : Int)) (fun k => P3 w h c (Sx crew (who.getD k 0)).2.1 (PY a (SR l t).2.1)) who.length (fun k hk => by
   have hd2 : decide ((k : Int) < ((PA who).length : Int)) = true := by rw [decide_eq_true_eq, hlw]; clear hn; omega
   obtain ⟨w1, w2⟩ := R0 hk
   have hkm : who.getD k 0 ∈ PI crew l := by rw [hwho]; exact QW hk
   obtain ⟨g1, g2⟩ := S9 hkm
   have hg : ND crew ((who.getD k 0 : Nat) : Int) = some (Sx crew (who.getD k 0)) := by rw [Pr]; exact VJ g1
   have hgt : ND l ((t : Nat) : Int) = some (SR l t) := by rw [Pr]; exact UQ f1
   have hgp : ND a ((p : Nat) : Int) = some a[p] := PH hp
   have hcost : (bif decide (Q7 w h c (Sx crew (who.getD k 0)).2.1 (PY a (SR l t).2.1) < 0) then some (100000 : Int) else some (Q7 w h c (Sx crew (who.getD k 0)).2.1 (PY a (SR l t).2.1))) = some (P3 w h c (Sx crew (who.getD k 0)).2.1 (PY a (SR l t).2.1)) := by
    unfold P3
    by_cases q : Q7 w h c (Sx crew (who.getD k 0)).2.1 (PY a (SR l t).2.1) < 0
    ·rw [decide_eq_true q, if_pos q]; rfl
    ·rw [decide_eq_false q, if_neg q]; rfl
   have hrow : ∀ x : Int, decide (((List.range k).map fun k => P3 w h c (Sx crew (who.getD k 0)).2.1 (PY a (SR l t).2.1)).length + [x].length ≤ DZ) = true := fun x => Sy (by simp; clear hn; omega)
   simp only [Qv, Tk, hd2, cond_true, w1, w2, Int.toNat_natCast, Option.bind_some, hg, hgt, (SF a ha _ n hn).1, f4, hgp, ← f6, (To hc hf _ _ n hn).2.1, hcost, hrow, PC hk (show who.length ≤ 9223372036854775807 by clear hn; omega)]) (by
   have hd2 : decide ((who.length : Int) < ((PA who).length : Int)) = false := by rw [decide_eq_false_iff_not, hlw]; clear hn; omega
   simp only [Qv, hd2, cond_false]) n (by unfold PQ at hn; omega)
  rw [Rp (fun k => P3 w h c (Sx crew k).2.1 (PY a (SR l t).2.1)) who] at hin
  have hrow : ∀ x : List Int, decide (out.length + [x].length ≤ DZ) = true := fun x => Sy (by clear hn; omega)
  simp only [QE, hd, cond_true, t1, t2, Int.toNat_natCast, hin, Option.bind_some, hrow, PC hi (show what.length ≤ 9223372036854775807 by clear hn; omega)]) (by
  have hd : decide ((what.length : Int) < ((PA what).length : Int)) = false := by rw [decide_eq_false_iff_not, hlt]; clear hn; omega
  simp only [QE, hd, cond_false]) n (by unfold PQ at hn; omega)
 rw [this, Rp (fun t => who.map fun k => P3 w h c (Sx crew k).2.1 (PY a (SR l t).2.1)) what, ← hwhat, ← hwho]
 rfl
theorem Tf {w h : Int} {c : List Int} (hc : c.length ≤ 1048576) (hf : PR w h c = true) (a : List Q6) (crew : List RM) (l : List QU) : (Pb w h c a crew l).length = (PS a l (PI crew l).length).length ∧ (Pb w h c a crew l).Nodup ∧ ∀ k ∈ Pb w h c a crew l, k < (PI crew l).length := by
 have hcm := UT hc hf a crew l
 obtain ⟨p1, p2, p3⟩ := ZI (PD (Rh w h c a crew l)) (List.range (PI crew l).length) List.nodup_range (by rw [List.length_range]; simpa [PD] using hcm.nm)
 refine ⟨by unfold Pb; rw [p1]; simp [PD, Rh], p2, fun k hk => List.mem_range.1 (p3 k hk)⟩
theorem Uk {w h : Int} {c : List Int} (hc : c.length ≤ 1048576) (hf : PR w h c = true) {a : List Q6} (ha : a.length ≤ 1048576) {crew : List RM} {l : List QU} {j : Nat} (hj : j < (Pb w h c a crew l).length) :
  ∃ (q k t p : Nat) (row : List Int), (PA (Pb w h c a crew l))[j]? = some (q : Int) ∧ Of (PA (Pb w h c a crew l)) (j : Int) = true ∧ Of (PA (PI crew l)) (q : Int) = true ∧ (PA (PI crew l))[q]? = some (k : Int) ∧
   Of (Rh w h c a crew l) (j : Int) = true ∧ (Rh w h c a crew l)[j]? = some row ∧ Of row (q : Int) = true ∧ row[q]? = some (P3 w h c (Sx crew k).2.1 (PY a (SR l t).2.1)) ∧
   Of (PA (PS a l (PI crew l).length)) (j : Int) = true ∧ (PA (PS a l (PI crew l).length))[j]? = some (t : Int) ∧ k < crew.length ∧ t < l.length ∧
   Ss a (SR l t).2.1 = (p : Int) ∧ (∃ x, ND a (p : Int) = some x ∧ x.2.1 = PY a (SR l t).2.1) ∧
   SV w h c a crew l j = if P3 w h c (Sx crew k).2.1 (PY a (SR l t).2.1) < 100000 then some (t, k) else none := by
 obtain ⟨c1, c2, c3⟩ := Tf hc hf a crew l
 have hq := c3 _ (QW hj)
 have hw : j < (PS a l (PI crew l).length).length := by omega
 obtain ⟨a1, a2⟩ := R0 hj
 obtain ⟨b1, b2⟩ := R0 hq
 obtain ⟨d1, d2⟩ := R0 hw
 obtain ⟨f1, f2, f3, p, hp, f4, f5, f6⟩ := Su ha (QW hw)
 obtain ⟨g1, _⟩ := S9 (QW hq)
 have hM : j < (Rh w h c a crew l).length := by simpa [Rh] using hw
 have hrow : (Rh w h c a crew l)[j]? = some ((PI crew l).map fun k => P3 w h c (Sx crew k).2.1 (PY a (SR l ((PS a l (PI crew l).length).getD j 0)).2.1)) := by
  unfold Rh
  rw [List.getElem?_map, List.getElem?_eq_getElem hw, List.getD, List.getElem?_eq_getElem hw]
  rfl
 refine ⟨(Pb w h c a crew l).getD j 0, (PI crew l).getD ((Pb w h c a crew l).getD j 0) 0, (PS a l (PI crew l).length).getD j 0, p, _, a2, a1, b1, b2, PJ hM, hrow, PJ (by simpa using hq), ?_, d1, d2, g1, f1, f4, ⟨a[p], PH hp, f6.symm⟩, rfl⟩
 generalize (Pb w h c a crew l).getD j 0 = q at hq
 have e : (PI crew l).getD q 0 = (PI crew l)[q] := by rw [List.getD, List.getElem?_eq_getElem hq]; rfl
 rw [e, List.getElem?_map, List.getElem?_eq_getElem hq]
 rfl
theorem U7 (a : List Q6) (crew : List RM) (l : List QU) (w h : Int) (c : List Int) (j : Nat) : sendAll a crew l ((List.range (j + 1)).filterMap (SV w h c a crew l)) = match SV w h c a crew l j with
  | some p => Pm a crew l p (sendAll a crew l ((List.range j).filterMap (SV w h c a crew l)))
  | none => sendAll a crew l ((List.range j).filterMap (SV w h c a crew l)) := by
 unfold sendAll
 rw [List.range_succ, List.filterMap_append, List.foldl_append]
 cases h : SV w h c a crew l j <;> simp [h]
theorem WZ {w h : Int} {c : List Int} (hc : c.length ≤ 1048576) (hf : PR w h c = true) {a : List Q6} (ha : a.length ≤ 1048576) {crew : List RM} (hcr : crew.length ≤ 1048576) {l : List QU} (hl : l.length ≤ 60) (s x : Int) (n : Nat) (hn : PQ ≤ n) :
  iter n (Pp n a l (PA (PI crew l)) (PA (PS a l (PI crew l).length)) (Rh w h c a crew l, x) (PA (Pb w h c a crew l), s)) (0, crew, l) = some (((Pb w h c a crew l).length : Int), sendAll a crew l (TK w h c a crew l)) := by
 have h10 := Sd crew l
 obtain ⟨c1, c2, c3⟩ := Tf hc hf a crew l
 have hcl : (Pb w h c a crew l).length ≤ 10 := by rw [c1]; exact Nat.le_trans (TC a l _ _ _) h10
 have := PX (Pp n a l (PA (PI crew l)) (PA (PS a l (PI crew l).length)) (Rh w h c a crew l, x) (PA (Pb w h c a crew l), s)) (fun j => ((j : Int), sendAll a crew l ((List.range j).filterMap (SV w h c a crew l)))) (Pb w h c a crew l).length (((Pb w h c a crew l).length : Int), sendAll a crew l (TK w h c a crew l)) (fun j hj => by
  obtain ⟨q, k, t, p, row, e1, e2, e3, e4, e5, e6, e7, e8, e9, e10, e11, e12, e13, ⟨y, e14, e15⟩, e16⟩ := Uk hc hf ha hj
  have hlc : (PA (Pb w h c a crew l)).length = (Pb w h c a crew l).length := by simp [PA]
  have hd : decide ((j : Int) < ((PA (Pb w h c a crew l)).length : Int)) = true := by rw [decide_eq_true_eq, hlc]; clear hn; omega
  rw [U7, e16]
  have hsi : SI crew l (sendAll a crew l ((List.range j).filterMap (SV w h c a crew l))) := SI.all _ _ (SI.first crew l)
  generalize sendAll a crew l ((List.range j).filterMap (SV w h c a crew l)) = st at hsi
  obtain ⟨cr, tk⟩ := st
  have hgt : ND l (t : Int) = some (SR l t) := by rw [Pr]; exact UQ e12
  have hw : PF ((j : Int) + 1) = ((j + 1 : Nat) : Int) := PC hj (by clear hn; omega)
  by_cases hcost : P3 w h c (Sx crew k).2.1 (PY a (SR l t).2.1) < 100000
  ·rw [if_pos hcost]
   obtain ⟨r, r1, r2⟩ := hsi.id k e11
   have l1 := hsi.l1
   have l2 := hsi.l2
   dsimp only at r1 l1 l2
   have i1 : Of cr (k : Int) = true := PJ (by clear hn; omega)
   have i2 : ∀ f, Of (List.modify cr k f) (k : Int) = true := fun f => PJ (by rw [List.length_modify]; clear hn; omega)
   have i3 : ∀ f g, Of (List.modify (List.modify cr k f) k g) (k : Int) = true := fun f g => PJ (by rw [List.length_modify, List.length_modify]; clear hn; omega)
   have i4 : Of tk (t : Int) = true := PJ (by clear hn; omega)
   have i5 : ∀ f, Of (List.modify tk t f) (t : Int) = true := fun f => PJ (by rw [List.length_modify]; clear hn; omega)
   have g1 : ∀ f g, (List.modify (List.modify cr k f) k g)[k]? = some (g (f r)) := fun f g => by
    rw [List.getElem?_modify, List.getElem?_modify, r1]; simp
   simp only [Pp, hd, cond_true, Int.toNat_natCast, e1, e2, e3, e4, e5, e6, e7, e8, e9, e10, Option.bind_some, decide_eq_true hcost, hgt, (SF a ha _ n hn).1, e13, e14, e15, i1, i2, i3, i4, i5, g1, hw, Pm, r2]
  ·rw [if_neg hcost]
   simp only [Pp, hd, cond_true, cond_false, Int.toNat_natCast, e1, e2, e3, e4, e5, e6, e7, e8, e9, e10, Option.bind_some, decide_eq_false hcost, hw]) (by
  have hlc : (PA (Pb w h c a crew l)).length = (Pb w h c a crew l).length := by simp [PA]
  have hd : decide (((Pb w h c a crew l).length : Int) < ((PA (Pb w h c a crew l)).length : Int)) = false := by rw [decide_eq_false_iff_not, hlc]; clear hn; omega
  simp only [Pp, hd, cond_false]
  rfl) n (by unfold PQ at hn; omega)
 exact this
theorem WI {w h : Int} {c : List Int} (hc : c.length ≤ 1048576) (hf : PR w h c = true) {a : List Q6} (ha : a.length ≤ 1048576) {crew : List RM} (hcr : crew.length ≤ 1048576) {l : List QU} (hl : l.length ≤ 60) (s x : Int) (n : Nat) (hn : PQ ≤ n) :
  iter n (Po n a (PA (PI crew l)) (PA (PS a l (PI crew l).length)) (Rh w h c a crew l, x) (PA (Pb w h c a crew l), s)) (0, crew, l) = some (((Pb w h c a crew l).length : Int), sendAll a crew l (TK w h c a crew l)) := by
 have h10 := Sd crew l
 obtain ⟨c1, c2, c3⟩ := Tf hc hf a crew l
 have hcl : (Pb w h c a crew l).length ≤ 10 := by rw [c1]; exact Nat.le_trans (TC a l _ _ _) h10
 have := PX (Po n a (PA (PI crew l)) (PA (PS a l (PI crew l).length)) (Rh w h c a crew l, x) (PA (Pb w h c a crew l), s)) (fun j => ((j : Int), sendAll a crew l ((List.range j).filterMap (SV w h c a crew l)))) (Pb w h c a crew l).length (((Pb w h c a crew l).length : Int), sendAll a crew l (TK w h c a crew l)) (fun j hj => by
  obtain ⟨q, k, t, p, row, e1, e2, e3, e4, e5, e6, e7, e8, e9, e10, e11, e12, e13, ⟨y, e14, e15⟩, e16⟩ := Uk hc hf ha hj
  have hlc : (PA (Pb w h c a crew l)).length = (Pb w h c a crew l).length := by simp [PA]
  have hd : decide ((j : Int) < ((PA (Pb w h c a crew l)).length : Int)) = true := by rw [decide_eq_true_eq, hlc]; clear hn; omega
  rw [U7, e16]
  have hsi : SI crew l (sendAll a crew l ((List.range j).filterMap (SV w h c a crew l))) := SI.all _ _ (SI.first crew l)
  generalize sendAll a crew l ((List.range j).filterMap (SV w h c a crew l)) = st at hsi
  obtain ⟨cr, tk⟩ := st
  have hw : PF ((j : Int) + 1) = ((j + 1 : Nat) : Int) := PC hj (by clear hn; omega)
  by_cases hcost : P3 w h c (Sx crew k).2.1 (PY a (SR l t).2.1) < 100000
  ·rw [if_pos hcost]
   have hge : decide (P3 w h c (Sx crew k).2.1 (PY a (SR l t).2.1) ≥ 100000) = false := decide_eq_false (by clear hn; omega)
   obtain ⟨r, r1, r2⟩ := hsi.id k e11
   obtain ⟨u, u1, u2⟩ := hsi.jH t e12
   have l1 := hsi.l1
   have l2 := hsi.l2
   dsimp only at r1 u1 l1 l2
   have i1 : Of cr (k : Int) = true := PJ (by clear hn; omega)
   have i4 : Of tk (t : Int) = true := PJ (by clear hn; omega)
   have g1 : ∀ f g, (List.modify (List.modify tk t f) t g)[t]? = some (g (f u)) := fun f g => by
    rw [List.getElem?_modify, List.getElem?_modify, u1]; simp
   simp only [Po, Tk, hd, cond_true, cond_false, Int.toNat_natCast, e1, e2, e3, e4, e5, e6, e7, e8, e9, e10, Option.bind_some, hge, i1, i4, r1, g1, u2, (SF a ha _ n hn).1, e13, e14, e15, hw, Pm, r2]
  ·rw [if_neg hcost]
   have hge : decide (P3 w h c (Sx crew k).2.1 (PY a (SR l t).2.1) ≥ 100000) = true := decide_eq_true (by clear hn; omega)
   simp only [Po, hd, cond_true, Int.toNat_natCast, e1, e2, e3, e4, e5, e6, e7, e8, Option.bind_some, hge, hw]) (by
  have hlc : (PA (Pb w h c a crew l)).length = (Pb w h c a crew l).length := by simp [PA]
  have hd : decide (((Pb w h c a crew l).length : Int) < ((PA (Pb w h c a crew l)).length : Int)) = false := by rw [decide_eq_false_iff_not, hlc]; clear hn; omega
  simp only [Po, hd, cond_false]
  rfl) n (by unfold PQ at hn; omega)
 exact this
theorem UU {w h : Int} {c : List Int} {crew : List RM} (hk : Ri w h c crew = true) : PR w h c = true := by
 unfold Ri at hk
 simp only [Bool.and_eq_true] at hk
 exact hk.1.1
theorem UB {w h : Int} {c : List Int} (hc : c.length ≤ 1048576) {a : List Q6} (ha : Sv a) {crew : List RM} (hcr : crew.length ≤ 1048576) {l : List QU} (hl : l.length ≤ 1048576) (n : Nat) (hn : PQ ≤ n) : RG n w h c a crew l = some (TW w h c a crew l) := by
 have r1 : decide (([] : List RM).length + crew.length ≤ DZ) = true := by rw [decide_eq_true_eq]; simp [DZ]; clear hn; omega
 have r2 : decide (([] : List QU).length + l.length ≤ DZ) = true := by rw [decide_eq_true_eq]; simp [DZ]; clear hn; omega
 have hal : a.length ≤ 1048576 := ha.1
 unfold RG TW TJ
 simp only [r1, r2, cond_true, TF a ha n hn, TN w h c hc crew hcr n hn, SS l hl n hn, Option.bind_some, List.nil_append]
 cases hs : RX a with
 | false => rfl
 | true => cases hk : Ri w h c crew with
  | false => rfl
  | true => cases ht : Pv l with
   | false => rfl
   | true =>
    have hf := UU hk
    have h60 : l.length ≤ 60 := by
     unfold Pv at ht
     simp only [Bool.and_eq_true, decide_eq_true_eq] at ht
     exact ht.1
    have hil : (PA (PI crew l)).length = (PI crew l).length := by simp [PA]
    obtain ⟨s, _, s2⟩ := UR (UT hc hf a crew l) n hn
    simp only [Bool.not_true, cond_false, Option.bind_some, VL crew hcr l hl n hn, hil, Uy a hal l h60 _ n hn, Vv hc hf hal hcr h60 n hn, s2, Bool.and_self, cond_true]
    rw [show PA (pk (PD (Rh w h c a crew l)) (List.range (PI crew l).length)) = PA (Pb w h c a crew l) from rfl, WZ hc hf hal hcr h60 _ _ n hn]
    rfl
theorem T3 {w h : Int} {c : List Int} (hc : c.length ≤ 1048576) {a : List Q6} (ha : Sv a) {crew : List RM} (hcr : crew.length ≤ 1048576) {l : List QU} (hl : l.length ≤ 1048576) (n : Nat) (hn : PQ ≤ n) : Q8 n w h c a crew l = some (TW w h c a crew l) := by
 have r1 : decide (crew.length ≤ DZ) = true := by rw [decide_eq_true_eq]; simp [DZ]; clear hn; omega
 have r2 : decide (l.length ≤ DZ) = true := by rw [decide_eq_true_eq]; simp [DZ]; clear hn; omega
 have hal : a.length ≤ 1048576 := ha.1
 have c1 : Q9 crew = some crew := by unfold Q9; rw [r1]; rfl
 have c2 : Qo l = some l := by unfold Qo; rw [r2]; rfl
 unfold Q8 TW TJ
 rw [UW]
 simp only [c1, c2, QY w h c hc n hn, UM a ha n hn, TL w h c hc crew hcr n hn, TD l hl n hn, Option.bind_some]
 cases hk : Ri w h c crew with
 | false => cases PR w h c <;> cases RX a <;> rfl
 | true =>
  have hf := UU hk
  rw [hf]
  cases hs : RX a with
  | false => rfl
  | true => cases ht : Pv l with
   | false => rfl
   | true =>
    have h60 : l.length ≤ 60 := by
     unfold Pv at ht
     simp only [Bool.and_eq_true, decide_eq_true_eq] at ht
     exact ht.1
    have hil : (PA (PI crew l)).length = (PI crew l).length := by simp [PA]
    obtain ⟨s, s1, _⟩ := UR (UT hc hf a crew l) n hn
    simp only [Bool.not_true, cond_false, Option.bind_some, VB crew hcr l hl n hn, hil, Uv a hal l h60 _ n hn, Vj hc hf hal hcr h60 n hn, s1, Bool.and_self, cond_true]
    rw [show PA (pk (PD (Rh w h c a crew l)) (List.range (PI crew l).length)) = PA (Pb w h c a crew l) from rfl, WI hc hf hal hcr h60 _ _ n hn]
    rfl
structure TP (l : List QU) : Prop where
 len : l.length ≤ 60
 eB : ∀ i (h : i < l.length), P9 l[i] = true
 apart : ∀ i j (hi : i < l.length) (hj : j < i), PV l[i] l[j] = false
theorem UH : ∀ (l p : List QU), QA p l = true ↔ (∀ x ∈ l, P9 x = true) ∧ (∀ x ∈ l, ∀ u ∈ p, PV x u = false) ∧ l.Pairwise fun u x => PV x u = false
 | [], p => by simp [QA]
 | x :: l, p => by
  simp only [QA, Bool.and_eq_true, UH l (p ++ [x]), List.all_eq_true, Bool.not_eq_true', List.pairwise_cons]
  constructor
  ·rintro ⟨⟨h1, h2⟩, h3, h4, h5⟩
   refine ⟨fun y hy => ?_, fun y hy u hu => ?_, fun y hy => h4 y hy x (by simp), h5⟩
   ·rcases List.mem_cons.1 hy with rfl | hy
    ·exact h1
    ·exact h3 y hy
   ·rcases List.mem_cons.1 hy with rfl | hy
    ·exact h2 u hu
    ·exact h4 y hy u (List.mem_append_left _ hu)
  ·rintro ⟨h1, h2, h3, h4⟩
   refine ⟨⟨h1 x (by simp), fun u hu => h2 x (by simp) u hu⟩, fun y hy => h1 y (List.mem_cons_of_mem _ hy), fun y hy u hu => ?_, h4⟩
   rcases List.mem_append.1 hu with hu | hu
   ·exact h2 y (List.mem_cons_of_mem _ hy) u hu
   ·rw [List.mem_singleton.1 hu]; exact h3 y hy
theorem UI {l : List QU} : Pv l = true ↔ TP l := by
 unfold Pv
 rw [Bool.and_eq_true, decide_eq_true_eq, UH]
 constructor
 ·rintro ⟨h1, h2, _, h3⟩
  exact ⟨h1, fun i h => h2 _ (List.getElem_mem h), fun i j hi hj => List.pairwise_iff_getElem.1 h3 j i (by omega) hi hj⟩
 ·rintro ⟨h1, h2, h3⟩
  refine ⟨h1, fun x hx => ?_, fun _ _ _ h => by simp at h, List.pairwise_iff_getElem.2 fun a b ha hb hab => h3 b a hb hab⟩
  obtain ⟨i, hi, rfl⟩ := List.mem_iff_getElem.1 hx
  exact h2 i hi
theorem V9 (a : List Q6) (crew : List RM) (l : List QU) : ∀ (prs : List (Nat × Nat)) (st : List RM × List QU), (prs.map (·.1)).Nodup → (prs.map (·.2)).Nodup →
  (∀ k, ((prs.foldl (fun st p => Pm a crew l p st) st).1)[k]? = match prs.find? (fun p => p.2 == k) with
   | some p => (st.1[k]?).map fun y => (y.1, y.2.1, PY a (SR l p.1).2.1, y.2.2.2.1, 0)
   | none => st.1[k]?) ∧
  (∀ i, ((prs.foldl (fun st p => Pm a crew l p st) st).2)[i]? = match prs.find? (fun p => p.1 == i) with
   | some p => (st.2[i]?).map fun y => (y.1, y.2.1, (Sx crew p.2).1, 2)
   | none => st.2[i]?)
 | [], st, _, _ => ⟨fun k => rfl, fun i => rfl⟩
 | p :: prs, st, h1, h2 => by
  obtain ⟨a1, a2⟩ := List.nodup_cons.1 h1
  obtain ⟨b1, b2⟩ := List.nodup_cons.1 h2
  obtain ⟨q1, q2⟩ := V9 a crew l prs (Pm a crew l p st) a2 b2
  refine ⟨fun k => ?_, fun i => ?_⟩
  ·rw [List.foldl_cons, q1 k, List.find?_cons]
   by_cases e : p.2 = k
   ·have hn : prs.find? (fun p => p.2 == k) = none := List.find?_eq_none.2 fun x hx hb => b1 (List.mem_map.2 ⟨x, hx, (by simpa using hb : x.2 = k).trans e.symm⟩)
    rw [hn, show (p.2 == k) = true by simpa using e]
    simp only [Pm, List.getElem?_modify, e, if_true]
    cases st.1[k]? <;> rfl
   ·rw [show (p.2 == k) = false by simpa using e]
    have he : (Pm a crew l p st).1[k]? = st.1[k]? := by
     simp only [Pm, List.getElem?_modify, e, if_false]
     cases st.1[k]? <;> rfl
    rw [he]
  ·rw [List.foldl_cons, q2 i, List.find?_cons]
   by_cases e : p.1 = i
   ·have hn : prs.find? (fun p => p.1 == i) = none := List.find?_eq_none.2 fun x hx hb => a1 (List.mem_map.2 ⟨x, hx, (by simpa using hb : x.1 = i).trans e.symm⟩)
    rw [hn, show (p.1 == i) = true by simpa using e]
    simp only [Pm, List.getElem?_modify, e, if_true]
    cases st.2[i]? <;> rfl
   ·rw [show (p.1 == i) = false by simpa using e]
    have he : (Pm a crew l p st).2[i]? = st.2[i]? := by
     simp only [Pm, List.getElem?_modify, e, if_false]
     cases st.2[i]? <;> rfl
    rw [he]
structure Xl (w h : Int) (c : List Int) (a : List Q6) (crew : List RM) (l : List QU) (prs : List (Nat × Nat)) : Prop where
 n1 : (prs.map (·.1)).Nodup
 n2 : (prs.map (·.2)).Nodup
 Tl : ∀ p ∈ prs, p.1 ∈ PS a l (PI crew l).length
 jf : ∀ p ∈ prs, p.2 ∈ PI crew l
 ji : ∀ p ∈ prs, 0 ≤ Q7 w h c (Sx crew p.2).2.1 (PY a (SR l p.1).2.1)
theorem Wn {w h : Int} {c : List Int} (hc : c.length ≤ 1048576) (hf : PR w h c = true) (a : List Q6) (crew : List RM) (l : List QU) : Xl w h c a crew l (TK w h c a crew l) := by
 obtain ⟨c1, c2, c3⟩ := Tf hc hf a crew l
 have hready : (PS a l (PI crew l).length).Nodup := List.Pairwise.imp (fun {x y} h => by have := h.1; omega) (Uj a l _ (Q5 l) 0)
 have hpd : ∀ j p, SV w h c a crew l j = some p → p.1 = (PS a l (PI crew l).length).getD j 0 ∧ p.2 = (PI crew l).getD ((Pb w h c a crew l).getD j 0) 0 ∧ 0 ≤ Q7 w h c (Sx crew p.2).2.1 (PY a (SR l p.1).2.1) := fun j p hp => by
  unfold SV at hp
  split at hp
  ·rename_i hlt
   injection hp with hp
   subst hp
   refine ⟨rfl, rfl, ?_⟩
   dsimp only
   unfold P3 at hlt
   by_cases q : Q7 w h c (Sx crew ((PI crew l).getD ((Pb w h c a crew l).getD j 0) 0)).2.1 (PY a (SR l ((PS a l (PI crew l).length).getD j 0)).2.1) < 0
   ·rw [if_pos q] at hlt; omega
   ·omega
  ·cases hp
 have hmem : ∀ p ∈ TK w h c a crew l, ∃ j, j < (Pb w h c a crew l).length ∧ SV w h c a crew l j = some p := fun p hp => by
  obtain ⟨j, hj, e⟩ := List.mem_filterMap.1 hp
  exact ⟨j, List.mem_range.1 hj, e⟩
 have at_ne : ∀ (s : List Nat), s.Nodup → ∀ i j, i < s.length → j < s.length → i ≠ j → s.getD i 0 ≠ s.getD j 0 := fun s hs i j hi hj hne e => by
  rw [List.getD, List.getD, List.getElem?_eq_getElem hi, List.getElem?_eq_getElem hj] at e
  exact hne (Uh hs hi hj e)
 have pw : (TK w h c a crew l).Pairwise fun p q => p.1 ≠ q.1 ∧ p.2 ≠ q.2 := by
  unfold TK
  rw [List.pairwise_filterMap]
  refine List.Pairwise.imp_of_mem (fun {i j} hi hj hij p hp q hq => ?_) (List.pairwise_lt_range (n := (Pb w h c a crew l).length))
  rw [List.mem_range] at hi hj
  obtain ⟨p1, p2, _⟩ := hpd i p hp
  obtain ⟨q1, q2, _⟩ := hpd j q hq
  rw [p1, p2, q1, q2]
  refine ⟨at_ne _ hready i j (by omega) (by omega) (by omega), at_ne _ (WG crew l) _ _ (c3 _ (QW hi)) (c3 _ (QW hj)) (at_ne _ c2 i j hi hj (by omega))⟩
 refine ⟨?_, ?_, fun p hp => ?_, fun p hp => ?_, fun p hp => ?_⟩
 ·unfold List.Nodup; rw [List.pairwise_map]; exact pw.imp fun h => h.1
 ·unfold List.Nodup; rw [List.pairwise_map]; exact pw.imp fun h => h.2
 ·obtain ⟨j, hj, e⟩ := hmem p hp
  rw [(hpd j p e).1]; exact QW (by omega)
 ·obtain ⟨j, hj, e⟩ := hmem p hp
  rw [(hpd j p e).2.1]; exact QW (c3 _ (QW hj))
 ·obtain ⟨j, hj, e⟩ := hmem p hp
  exact (hpd j p e).2.2
theorem Vy {w h : Int} {c : List Int} (hc : c.length ≤ 1048576) (hf : PR w h c = true) {a b : Int} (hs : 0 ≤ Q7 w h c a b) : QV c b = true := by
 cases hb : QV c b with
 | true => rfl
 | false =>
  exfalso
  obtain ⟨_, e, _, _⟩ := To hc hf a b PQ (Nat.le_refl _)
  obtain ⟨k, k1, k2⟩ := Qn w h c hc hf b PQ (Nat.le_refl _)
  rw [hb] at k2
  have k3 : (k == 0) = true := by simpa using k2
  unfold QR at e
  rw [k1] at e
  simp only [Option.bind_some, k3, cond_true] at e
  injection e with e
  omega
structure Wb (a : List Q6) (crew : List RM) (l : List QU) (prs : List (Nat × Nat)) (crew' : List RM) (l' : List QU) : Prop where
 l1 : crew'.length = crew.length
 l2 : l'.length = l.length
 rb : ∀ k (h : k < crew.length) (h' : k < crew'.length), (∃ p ∈ prs, p.2 = k ∧ crew'[k] = (crew[k].1, crew[k].2.1, PY a (SR l p.1).2.1, crew[k].2.2.2.1, 0)) ∨ ((∀ p ∈ prs, p.2 ≠ k) ∧ crew'[k] = crew[k])
 tk : ∀ i (h : i < l.length) (h' : i < l'.length), (∃ p ∈ prs, p.1 = i ∧ l'[i] = (l[i].1, l[i].2.1, (Sx crew p.2).1, 2)) ∨ ((∀ p ∈ prs, p.1 ≠ i) ∧ l'[i] = l[i])
theorem VK {a : List Q6} {crew : List RM} {l : List QU} {prs : List (Nat × Nat)} (h1 : (prs.map (·.1)).Nodup) (h2 : (prs.map (·.2)).Nodup) : Wb a crew l prs (sendAll a crew l prs).1 (sendAll a crew l prs).2 := by
 obtain ⟨q1, q2⟩ := V9 a crew l prs (crew, l) h1 h2
 have hsi := SI.all (a := a) prs _ (SI.first crew l)
 have hfind : ∀ (P : Nat × Nat → Bool), prs.find? P = none → ∀ p ∈ prs, P p = false := fun P h p hp => by simpa using List.find?_eq_none.1 h p hp
 refine ⟨hsi.l1, hsi.l2, fun k hk hk' => ?_, fun i hi hi' => ?_⟩
 ·have := q1 k
  change (sendAll a crew l prs).1[k]? = _ at this
  rw [List.getElem?_eq_getElem hk'] at this
  cases hf : prs.find? (fun p => p.2 == k) with
  | some p =>
   rw [hf, List.getElem?_eq_getElem hk] at this
   injection this with this
   exact .inl ⟨p, List.mem_of_find?_eq_some hf, by simpa using List.find?_some hf, this⟩
  | none =>
   rw [hf, List.getElem?_eq_getElem hk] at this
   injection this with this
   exact .inr ⟨fun p hp e => by have := hfind _ hf p hp; simp [e] at this, this⟩
 ·have := q2 i
  change (sendAll a crew l prs).2[i]? = _ at this
  rw [List.getElem?_eq_getElem hi'] at this
  cases hf : prs.find? (fun p => p.1 == i) with
  | some p =>
   rw [hf, List.getElem?_eq_getElem hi] at this
   injection this with this
   exact .inl ⟨p, List.mem_of_find?_eq_some hf, by simpa using List.find?_some hf, this⟩
  | none =>
   rw [hf, List.getElem?_eq_getElem hi] at this
   injection this with this
   exact .inr ⟨fun p hp e => by have := hfind _ hf p hp; simp [e] at this, this⟩
end Go.Ev.N
