/- FnExactCalm, as a plain law over native forms: what the program's function answers is what the reference's answers. Conditions: none but the lengths' and numbers' bounds. -/
import Derived.Test.YtjbfgbgibmebfaaFnExactCalmNat
namespace Go.Ev.N
open Go Go.Ev
set_option linter.unusedVariables false
set_option linter.unusedSimpArgs false

theorem w64_eq {n : Int} (h1 : -9223372036854775808 ≤ n) (h2 : n ≤ 9223372036854775807) : w64 n = n := by
  unfold w64 IntKind.wrap
  simp only [IntKind.bits, IntKind.signed]
  simp
  split <;> omega
theorem w64_up {i : Int} {m : Nat} (h0 : 0 ≤ i) (h : i < (m : Int)) (hm : m ≤ 9223372036854775807) : w64 (i + 1) = i + 1 := w64_eq (by omega) (by omega)
theorem w64_nat {i m : Nat} (h : i < m) (hm : m ≤ 9223372036854775807) : w64 ((i : Int) + 1) = ((i + 1 : Nat) : Int) := by rw [w64_eq (by omega) (by omega)]; omega

theorem getI_nat {α : Type} (xs : List α) (i : Nat) : getI xs (i : Int) = xs[i]? := by
  unfold getI
  rw [if_pos (by omega)]
  simp
theorem getI_lt {α : Type} {xs : List α} {i : Nat} (h : i < xs.length) : getI xs (i : Int) = some xs[i] := by rw [getI_nat]; exact List.getElem?_eq_getElem h
theorem inb_nat {α : Type} (xs : List α) (i : Nat) : inb xs (i : Int) = decide (i < xs.length) := by
  unfold inb
  have : decide (0 ≤ (i : Int)) = true := by simp
  rw [this, Bool.true_and]
  simp
theorem inb_lt {α : Type} {xs : List α} {i : Nat} (h : i < xs.length) : inb xs (i : Int) = true := by rw [inb_nat]; simpa using h
theorem upd_is {α : Type} (l : List α) (n : Nat) (y : α) : upd l n y = l.set n y := upd_set l n y

/-! ### what comes in -/
def fI (x : Int) : Prop := IntKind.min .i64 ≤ x ∧ x ≤ IntKind.max .i64
def fB (_ : Bool) : Prop := True
def fStr (x : List UInt8) : Prop := List.length x ≤ maxLen
def fSl {α : Type} (p : α → Prop) (x : List α) : Prop := List.length x ≤ maxLen ∧ ∀ y, List.Mem y x → p y
def fP {α β : Type} (p : α → Prop) (q : β → Prop) (x : α × β) : Prop := p x.1 ∧ q x.2
theorem fI_b {x : Int} (h : fI x) : -9223372036854775808 ≤ x ∧ x ≤ 9223372036854775807 := by
  unfold fI IntKind.min IntKind.max at h
  simpa [IntKind.bits, IntKind.signed] using h
theorem fSl_len {α : Type} {p : α → Prop} {x : List α} (h : fSl p x) : x.length ≤ 9223372036854775807 := h.1
theorem fSl_mem {α : Type} {p : α → Prop} {x : List α} (h : fSl p x) {y : α} (hy : y ∈ x) : p y := h.2 y hy

/-! ### loops -/

section
variable {α γ σ β : Type}
theorem iter_go {f : α → Option (α ⊕ γ)} {x y : α} (h : f x = some (.inl y)) (n : Nat) : iter (n + 1) f x = iter n f y := by simp [iter, h]
theorem iter_end {f : α → Option (α ⊕ γ)} {x : α} {z : γ} (h : f x = some (.inr z)) (n : Nat) : iter (n + 1) f x = some z := by simp [iter, h]

/-- A loop that goes so many rounds. -/
theorem iter_steps (f : α → Option (α ⊕ γ)) (st : Nat → α) (m : Nat) (r : γ) (hs : ∀ i, i < m → f (st i) = some (.inl (st (i + 1)))) (he : f (st m) = some (.inr r)) : ∀ n, m < n → iter n f (st 0) = some r := by
  have key : ∀ d i n, i + d = m → d < n → iter n f (st i) = some r := by
    intro d
    induction d with
    | zero =>
      intro i n hi hn
      obtain ⟨n, rfl⟩ : ∃ k, n = k + 1 := ⟨n - 1, by omega⟩
      have : i = m := by omega
      subst this
      exact iter_end he n
    | succ d ih =>
      intro i n hi hn
      obtain ⟨n, rfl⟩ : ∃ k, n = k + 1 := ⟨n - 1, by omega⟩
      rw [iter_go (hs i (by omega)) n]
      exact ih (i + 1) n (by omega) (by omega)
  exact fun n hn => key m 0 n (by omega) hn

/-- A loop over a list, with a state: what it answers is told by recursion on what is left. -/
theorem iter_rec (f : α → Option (α ⊕ γ)) (st : Nat → σ → α) (xs : List β) (G : List β → σ → γ) (Inv : Nat → σ → Prop)
    (hend : ∀ s, Inv xs.length s → f (st xs.length s) = some (.inr (G [] s)))
    (hstep : ∀ i x l s, i < xs.length → xs[i]? = some x → xs.drop i = x :: l → xs.drop (i + 1) = l → Inv i s → (∃ s', f (st i s) = some (.inl (st (i + 1) s')) ∧ Inv (i + 1) s' ∧ G (x :: l) s = G l s') ∨ f (st i s) = some (.inr (G (x :: l) s))) :
    ∀ n, xs.length < n → ∀ s, Inv 0 s → iter n f (st 0 s) = some (G xs s) := by
  have key : ∀ d i n s, i + d = xs.length → d < n → Inv i s → iter n f (st i s) = some (G (xs.drop i) s) := by
    intro d
    induction d with
    | zero =>
      intro i n s hi hn hI
      obtain ⟨n, rfl⟩ : ∃ k, n = k + 1 := ⟨n - 1, by omega⟩
      have : i = xs.length := by omega
      subst this
      rw [iter_end (hend s hI) n, List.drop_length]
    | succ d ih =>
      intro i n s hi hn hI
      obtain ⟨n, rfl⟩ : ∃ k, n = k + 1 := ⟨n - 1, by omega⟩
      have hlt : i < xs.length := by omega
      have hd : xs.drop i = xs[i] :: xs.drop (i + 1) := List.drop_eq_getElem_cons hlt
      rcases hstep i xs[i] (xs.drop (i + 1)) s hlt (List.getElem?_eq_getElem hlt) hd rfl hI with ⟨s', h1, h2, h3⟩ | h1
      · rw [iter_go h1 n, ih (i + 1) n s' (by omega) (by omega) h2, hd, h3]
      · rw [iter_end h1 n, hd]
  intro n hn s hI
  have := key xs.length 0 n s (by omega) hn hI
  simpa using this
/-- The same where the state is the number of the round alone. -/
theorem iter_list (f : Int → Option (Int ⊕ γ)) (xs : List β) (G : List β → List β → γ) (hend : f (xs.length : Int) = some (.inr (G xs [])))
    (hstep : ∀ i x l p, i < xs.length → xs[i]? = some x → xs = p ++ x :: l → p.length = i → p = xs.take i → (f (i : Int) = some (.inl ((i + 1 : Nat) : Int)) ∧ G p (x :: l) = G (p ++ [x]) l) ∨ f (i : Int) = some (.inr (G p (x :: l)))) :
    ∀ n, xs.length < n → iter n f 0 = some (G [] xs) := by
  intro n hn
  refine iter_rec (σ := List β) f (fun i _ => (i : Int)) xs (fun l p => G p l) (fun i p => p = xs.take i) (fun s hs => ?_) (fun i x l s h1 h2 h3 h4 h5 => ?_) n hn [] (by simp)
  · have : s = xs := by rw [hs]; simp
    rw [this]; exact hend
  · have hlen : s.length = i := by rw [h5]; simp; omega
    have hx : xs = s ++ x :: l := by rw [← h3, h5, List.take_append_drop]
    rcases hstep i x l s h1 h2 hx hlen h5 with ⟨q1, q2⟩ | q1
    · refine .inl ⟨s ++ [x], q1, ?_, q2⟩
      have hxi : x = xs[i] := by rw [List.getElem?_eq_getElem h1] at h2; exact (Option.some.inj h2).symm
      rw [h5, List.take_succ_eq_append_getElem h1, hxi]
    · exact .inr q1
end

/-- A loop that asks the same of each element. -/
theorem all_loop {β : Type} (f : Int → Option (Int ⊕ (Int ⊕ Bool))) (xs : List β) (P : β → Bool) (hs : ∀ (i : Nat) (x : β), i < xs.length → xs[i]? = some x → f (i : Int) = some (bif P x then .inl ((i + 1 : Nat) : Int) else .inr (.inr false)))
    (he : f (xs.length : Int) = some (.inr (.inl (xs.length : Int)))) : ∀ n, xs.length < n → iter n f 0 = some (bif xs.all P then .inl (xs.length : Int) else .inr false) := by
  intro n hn
  refine iter_list f xs (fun p l => bif l.all P then .inl (xs.length : Int) else .inr false) ?_ ?_ n hn
  · rw [he]; simp
  · intro i x l p h1 h2 h3 h4 h5
    rw [hs i x h1 h2]
    cases hp : P x with
    | true => exact .inl ⟨by simp, by simp [hp]⟩
    | false => exact .inr (by simp [hp])

/-! ### conditions that stand as ways -/
theorem or1 (b c : Bool) : (bif b then some true else some c) = some (b || c) := by cases b <;> rfl
theorem and1 (b c : Bool) : (bif b then some c else some false) = some (b && c) := by cases b <;> rfl
theorem andn (b c : Bool) : (bif b then some false else some c) = some (!b && c) := by cases b <;> rfl
theorem orn (b c : Bool) : (bif b then some c else some true) = some (!b || c) := by cases b <;> rfl
theorem cond_some {α : Type} (b : Bool) (x y : α) : (bif b then some x else some y) = some (bif b then x else y) := by cases b <;> rfl

/-! ### copies -/

/-- A loop that copies. -/
theorem copy_ok {β : Type} (L : Int × List β → Option ((Int × List β) ⊕ (Int × List β))) (xs : List β) (z : β)
    (hL : ∀ (i : Nat) (h : i < xs.length) (out : List β), out.length = xs.length → L ((i : Int), out) = some (.inl (((i + 1 : Nat) : Int), out.set i xs[i]))) (hend : ∀ out, L ((xs.length : Int), out) = some (.inr ((xs.length : Int), out))) :
    ∀ n, xs.length < n → iter n L (0, List.replicate xs.length z) = some ((xs.length : Int), xs) := by
  intro n hn
  have := iter_rec (σ := List β) L (fun i s => ((i : Int), s)) xs (fun l s => ((xs.length : Int), s.take (xs.length - l.length) ++ l)) (fun i s => s.length = xs.length ∧ s.take i = xs.take i)
    (fun s hs => by
      rw [hend s, show s.take (xs.length - ([] : List β).length) ++ [] = s by simp [← hs.1]])
    (fun i x l s h1 h2 h3 h4 h5 => by
      left
      have hx : xs[i] = x := by rw [List.getElem?_eq_getElem h1] at h2; exact Option.some.inj h2
      refine ⟨s.set i xs[i], hL i h1 s h5.1, ⟨by simp [h5.1], ?_⟩, ?_⟩
      · rw [List.take_succ_eq_append_getElem h1, List.take_succ_eq_append_getElem (by simp [h5.1]; exact h1)]
        congr 1
        · rw [List.take_set_of_le (Nat.le_refl i), h5.2]
        · simp
      · have hl : l.length = xs.length - (i + 1) := by rw [← h4]; simp
        congr 1
        rw [List.length_cons, hl, show xs.length - (xs.length - (i + 1) + 1) = i by omega, show xs.length - (xs.length - (i + 1)) = i + 1 by omega]
        rw [List.take_succ_eq_append_getElem (by simp [h5.1]; exact h1), List.take_set_of_le (Nat.le_refl i)]
        simp [hx])
    n hn (List.replicate xs.length z) ⟨by simp, by simp⟩
  simpa using this

/-! ### the largest number of rounds -/
def BIG : Nat := 18446744073709551616
theorem maxLen_eq : maxLen = 9223372036854775807 := rfl

section
variable {β : Type}
open Classical in
/-- What one element becomes ('E': what is known of it). -/
noncomputable def mkOne (E : Int → β → Int → β → Prop) (k : Int) (x : β) : Int × β := if h : ∃ p : Int × β, E k x p.1 p.2 then h.choose else (k, x)
theorem mkOne_ok {E : Int → β → Int → β → Prop} {k : Int} {x : β} (h : ∃ k' x', E k x k' x') : E k x (mkOne E k x).1 (mkOne E k x).2 := by
  have h' : ∃ p : Int × β, E k x p.1 p.2 := let ⟨a, b, c⟩ := h; ⟨(a, b), c⟩
  unfold mkOne
  rw [dif_pos h']
  exact h'.choose_spec
noncomputable def mkAll (E : Int → β → Int → β → Prop) : Int → List β → Int × List β
  | k, [] => (k, [])
  | k, x :: l => ((mkAll E (mkOne E k x).1 l).1, (mkOne E k x).2 :: (mkAll E (mkOne E k x).1 l).2)
theorem mkAll_len (E : Int → β → Int → β → Prop) : ∀ (l : List β) (k : Int), (mkAll E k l).2.length = l.length
  | [], k => rfl
  | x :: l, k => by simp [mkAll, mkAll_len E l]

/-- A loop that marks a row. -/
theorem mark_only (L : Int × Int × List β → Option ((Int × Int × List β) ⊕ (Int × Int × List β))) (sm sm' : β → Prop) (c : Nat) (xs : List β) (hx : ∀ x ∈ xs, sm x) (hlen : xs.length ≤ 1048576)
    (k0 : Int) (h0 : 0 ≤ k0) (hb : k0 + (c : Int) * (xs.length : Int) ≤ 4611686018427387904)
    (hstep : ∀ (k : Int) (x : β), 0 ≤ k → k + (c : Int) ≤ 4611686018427387904 → sm x → ∃ k' x', k ≤ k' ∧ k' ≤ k + c ∧ sm' x' ∧
      (∀ (i : Nat) (ys : List β), i < ys.length → ys.length ≤ 1048576 → ys[i]? = some x → L (k, (i : Int), ys) = some (.inl (k', ((i + 1 : Nat) : Int), ys.set i x'))))
    (hL : ∀ (k : Int) (ys : List β), L (k, (ys.length : Int), ys) = some (.inr (k, (ys.length : Int), ys))) :
    ∀ n, xs.length < n → ∃ k' xs', iter n L (k0, 0, xs) = some (k', (xs.length : Int), xs') ∧ xs'.length = xs.length ∧ k0 ≤ k' ∧ k' ≤ k0 + (c : Int) * (xs.length : Int) ∧ (∀ x ∈ xs', sm' x) := by
  intro n hn
  let E : Int → β → Int → β → Prop := fun k x k' x' => k ≤ k' ∧ k' ≤ k + c ∧ sm' x' ∧
      (∀ (i : Nat) (ys : List β), i < ys.length → ys.length ≤ 1048576 → ys[i]? = some x → L (k, (i : Int), ys) = some (.inl (k', ((i + 1 : Nat) : Int), ys.set i x')))
  have hone : ∀ k x, 0 ≤ k → k + (c : Int) ≤ 4611686018427387904 → sm x → E k x (mkOne E k x).1 (mkOne E k x).2 := fun k x h1 h2 h3 => mkOne_ok (hstep k x h1 h2 h3)
  have bnd : ∀ (l : List β) (k : Int), (∀ x ∈ l, sm x) → 0 ≤ k → k + (c : Int) * (l.length : Int) ≤ 4611686018427387904 → k ≤ (mkAll E k l).1 ∧ (mkAll E k l).1 ≤ k + (c : Int) * (l.length : Int) ∧ ∀ y ∈ (mkAll E k l).2, sm' y := by
    intro l
    induction l with
    | nil => intro k _ h1 h2; simp [mkAll]
    | cons x l ih =>
      intro k hs h1 h2
      have hc : (c : Int) * ((x :: l).length : Int) = c + (c : Int) * (l.length : Int) := by simp [Int.mul_add]; omega
      rw [hc] at h2
      have hcl : 0 ≤ (c : Int) * (l.length : Int) := Int.mul_nonneg (by omega) (by omega)
      obtain ⟨e1, e2, e3, _⟩ := hone k x h1 (by omega) (hs x (by simp))
      obtain ⟨i1, i2, i3⟩ := ih (mkOne E k x).1 (fun y hy => hs y (by simp [hy])) (by omega) (by omega)
      refine ⟨?_, ?_, ?_⟩
      · show k ≤ (mkAll E (mkOne E k x).1 l).1; omega
      · show (mkAll E (mkOne E k x).1 l).1 ≤ _
        rw [hc]; omega
      · intro y hy
        rcases List.mem_cons.1 (show y ∈ (mkOne E k x).2 :: (mkAll E (mkOne E k x).1 l).2 from hy) with rfl | hy
        · exact e3
        · exact i3 y hy
  obtain ⟨b1, b2, b3⟩ := bnd xs k0 hx h0 hb
  have hdrop : ∀ i x l, xs.drop i = x :: l → sm x ∧ ∀ y ∈ l, sm y := by
    intro i x l hd
    have : ∀ y ∈ x :: l, sm y := fun y hy => hx y (List.mem_of_mem_drop (hd ▸ hy))
    exact ⟨this x (by simp), fun y hy => this y (by simp [hy])⟩
  refine ⟨(mkAll E k0 xs).1, (mkAll E k0 xs).2, ?_, mkAll_len E xs k0, b1, b2, b3⟩
  have := iter_rec (σ := Int × List β) L (fun i s => (s.1, (i : Int), s.2)) xs (fun l s => ((mkAll E s.1 l).1, (xs.length : Int), s.2.take (xs.length - l.length) ++ (mkAll E s.1 l).2))
      (fun i s => s.2.length = xs.length ∧ s.2.drop i = xs.drop i ∧ 0 ≤ s.1 ∧ s.1 + (c : Int) * ((xs.length - i : Nat) : Int) ≤ 4611686018427387904)
      (fun s hs => by
        have := hL s.1 s.2
        rw [hs.1] at this
        rw [this]
        simp [mkAll, ← hs.1])
      (fun i x l s h1 h2 h3 h4 h5 => by
        left
        obtain ⟨q1, q2, q3, q4⟩ := h5
        have hll : l.length = xs.length - (i + 1) := by rw [← h4]; simp
        have hsub : xs.length - i = (xs.length - (i + 1)) + 1 := by omega
        have hc : (c : Int) * ((xs.length - i : Nat) : Int) = c + (c : Int) * ((xs.length - (i + 1) : Nat) : Int) := by rw [hsub]; simp [Int.mul_add]; omega
        rw [hc] at q4
        have hcl : 0 ≤ (c : Int) * ((xs.length - (i + 1) : Nat) : Int) := Int.mul_nonneg (by omega) (by omega)
        obtain ⟨e1, e2, e3, e4⟩ := hone s.1 x q3 (by omega) (hdrop i x l h3).1
        have hsi : s.2[i]? = some x := by
          have := congrArg (fun l => l[0]?) (q2.trans h3)
          simpa using this
        refine ⟨((mkOne E s.1 x).1, s.2.set i (mkOne E s.1 x).2), e4 i s.2 (by omega) (by omega) hsi, ⟨by simp [q1], ?_, by omega, by omega⟩, ?_⟩
        · show (s.2.set i (mkOne E s.1 x).2).drop (i + 1) = _
          rw [List.drop_set_of_lt (by omega)]
          have := congrArg (List.drop 1) q2
          simpa using this
        · show (((mkAll E (mkOne E s.1 x).1 l).1, (xs.length : Int), s.2.take (xs.length - (l.length + 1)) ++ (mkOne E s.1 x).2 :: (mkAll E (mkOne E s.1 x).1 l).2) : Int × Int × List β) = ((mkAll E (mkOne E s.1 x).1 l).1, (xs.length : Int), (s.2.set i (mkOne E s.1 x).2).take (xs.length - l.length) ++ (mkAll E (mkOne E s.1 x).1 l).2)
          rw [hll, show xs.length - (xs.length - (i + 1) + 1) = i by omega, show xs.length - (xs.length - (i + 1)) = i + 1 by omega]
          rw [List.take_succ_eq_append_getElem (by simp [q1]; exact h1), List.take_set_of_le (Nat.le_refl i)]
          simp)
      n hn (k0, xs) ⟨rfl, rfl, h0, by simpa using hb⟩
  simpa using this

/-- A loop that marks a row, and one that reads the marks. 'c': how much an element counts at most. -/
theorem mark_loop {γ : Type} (L : Int × Int × List β → Option ((Int × Int × List β) ⊕ (Int × Int × List β))) (H : List β → Int × Int → Option ((Int × Int) ⊕ ((Int × Int) ⊕ γ))) (sm sm' : β → Prop) (c : Nat) (xs : List β) (hx : ∀ x ∈ xs, sm x) (hlen : xs.length ≤ 1048576)
    (k0 : Int) (h0 : 0 ≤ k0) (hb : k0 + (c : Int) * (xs.length : Int) ≤ 4611686018427387904)
    (hstep : ∀ (k : Int) (x : β), 0 ≤ k → k + (c : Int) ≤ 4611686018427387904 → sm x → ∃ k' x', k ≤ k' ∧ k' ≤ k + c ∧ sm' x' ∧
      (∀ (i : Nat) (ys : List β), i < ys.length → ys.length ≤ 1048576 → ys[i]? = some x → L (k, (i : Int), ys) = some (.inl (k', ((i + 1 : Nat) : Int), ys.set i x'))) ∧
      (∀ (i : Nat) (ys : List β), i < ys.length → ys.length ≤ 1048576 → ys[i]? = some x' → H ys (k, (i : Int)) = some (.inl (k', ((i + 1 : Nat) : Int)))))
    (hL : ∀ (k : Int) (ys : List β), L (k, (ys.length : Int), ys) = some (.inr (k, (ys.length : Int), ys))) (hH : ∀ (k : Int) (ys : List β), H ys (k, (ys.length : Int)) = some (.inr (.inl (k, (ys.length : Int))))) :
    ∀ n, xs.length < n → ∃ k' xs', iter n L (k0, 0, xs) = some (k', (xs.length : Int), xs') ∧ xs'.length = xs.length ∧ k0 ≤ k' ∧ k' ≤ k0 + (c : Int) * (xs.length : Int) ∧ (∀ x ∈ xs', sm' x) ∧ iter n (H xs') (k0, 0) = some (.inl (k', (xs.length : Int))) := by
  intro n hn
  let E : Int → β → Int → β → Prop := fun k x k' x' => k ≤ k' ∧ k' ≤ k + c ∧ sm' x' ∧
      (∀ (i : Nat) (ys : List β), i < ys.length → ys.length ≤ 1048576 → ys[i]? = some x → L (k, (i : Int), ys) = some (.inl (k', ((i + 1 : Nat) : Int), ys.set i x'))) ∧
      (∀ (i : Nat) (ys : List β), i < ys.length → ys.length ≤ 1048576 → ys[i]? = some x' → H ys (k, (i : Int)) = some (.inl (k', ((i + 1 : Nat) : Int))))
  have hone : ∀ k x, 0 ≤ k → k + (c : Int) ≤ 4611686018427387904 → sm x → E k x (mkOne E k x).1 (mkOne E k x).2 := fun k x h1 h2 h3 => mkOne_ok (hstep k x h1 h2 h3)
  have bnd : ∀ (l : List β) (k : Int), (∀ x ∈ l, sm x) → 0 ≤ k → k + (c : Int) * (l.length : Int) ≤ 4611686018427387904 → k ≤ (mkAll E k l).1 ∧ (mkAll E k l).1 ≤ k + (c : Int) * (l.length : Int) ∧ ∀ y ∈ (mkAll E k l).2, sm' y := by
    intro l
    induction l with
    | nil => intro k _ h1 h2; simp [mkAll]
    | cons x l ih =>
      intro k hs h1 h2
      have hc : (c : Int) * ((x :: l).length : Int) = c + (c : Int) * (l.length : Int) := by simp [Int.mul_add]; omega
      rw [hc] at h2
      have hcl : 0 ≤ (c : Int) * (l.length : Int) := Int.mul_nonneg (by omega) (by omega)
      obtain ⟨e1, e2, e3, _, _⟩ := hone k x h1 (by omega) (hs x (by simp))
      obtain ⟨i1, i2, i3⟩ := ih (mkOne E k x).1 (fun y hy => hs y (by simp [hy])) (by omega) (by omega)
      refine ⟨?_, ?_, ?_⟩
      · show k ≤ (mkAll E (mkOne E k x).1 l).1; omega
      · show (mkAll E (mkOne E k x).1 l).1 ≤ _
        rw [hc]; omega
      · intro y hy
        rcases List.mem_cons.1 (show y ∈ (mkOne E k x).2 :: (mkAll E (mkOne E k x).1 l).2 from hy) with rfl | hy
        · exact e3
        · exact i3 y hy
  obtain ⟨b1, b2, b3⟩ := bnd xs k0 hx h0 hb
  have hdrop : ∀ i x l, xs.drop i = x :: l → sm x ∧ ∀ y ∈ l, sm y := by
    intro i x l hd
    have : ∀ y ∈ x :: l, sm y := fun y hy => hx y (List.mem_of_mem_drop (hd ▸ hy))
    exact ⟨this x (by simp), fun y hy => this y (by simp [hy])⟩
  refine ⟨(mkAll E k0 xs).1, (mkAll E k0 xs).2, ?_, mkAll_len E xs k0, b1, b2, b3, ?_⟩
  · have := iter_rec (σ := Int × List β) L (fun i s => (s.1, (i : Int), s.2)) xs (fun l s => ((mkAll E s.1 l).1, (xs.length : Int), s.2.take (xs.length - l.length) ++ (mkAll E s.1 l).2))
      (fun i s => s.2.length = xs.length ∧ s.2.drop i = xs.drop i ∧ 0 ≤ s.1 ∧ s.1 + (c : Int) * ((xs.length - i : Nat) : Int) ≤ 4611686018427387904)
      (fun s hs => by
        have := hL s.1 s.2
        rw [hs.1] at this
        rw [this]
        simp [mkAll, ← hs.1])
      (fun i x l s h1 h2 h3 h4 h5 => by
        left
        obtain ⟨q1, q2, q3, q4⟩ := h5
        have hll : l.length = xs.length - (i + 1) := by rw [← h4]; simp
        have hsub : xs.length - i = (xs.length - (i + 1)) + 1 := by omega
        have hc : (c : Int) * ((xs.length - i : Nat) : Int) = c + (c : Int) * ((xs.length - (i + 1) : Nat) : Int) := by rw [hsub]; simp [Int.mul_add]; omega
        rw [hc] at q4
        have hcl : 0 ≤ (c : Int) * ((xs.length - (i + 1) : Nat) : Int) := Int.mul_nonneg (by omega) (by omega)
        obtain ⟨e1, e2, e3, e4, e5⟩ := hone s.1 x q3 (by omega) (hdrop i x l h3).1
        have hsi : s.2[i]? = some x := by
          have := congrArg (fun l => l[0]?) (q2.trans h3)
          simpa using this
        refine ⟨((mkOne E s.1 x).1, s.2.set i (mkOne E s.1 x).2), e4 i s.2 (by omega) (by omega) hsi, ⟨by simp [q1], ?_, by omega, by omega⟩, ?_⟩
        · show (s.2.set i (mkOne E s.1 x).2).drop (i + 1) = _
          rw [List.drop_set_of_lt (by omega)]
          have := congrArg (List.drop 1) q2
          simpa using this
        · show (((mkAll E (mkOne E s.1 x).1 l).1, (xs.length : Int), s.2.take (xs.length - (l.length + 1)) ++ (mkOne E s.1 x).2 :: (mkAll E (mkOne E s.1 x).1 l).2) : Int × Int × List β) = ((mkAll E (mkOne E s.1 x).1 l).1, (xs.length : Int), (s.2.set i (mkOne E s.1 x).2).take (xs.length - l.length) ++ (mkAll E (mkOne E s.1 x).1 l).2)
          rw [hll, show xs.length - (xs.length - (i + 1) + 1) = i by omega, show xs.length - (xs.length - (i + 1)) = i + 1 by omega]
          rw [List.take_succ_eq_append_getElem (by simp [q1]; exact h1), List.take_set_of_le (Nat.le_refl i)]
          simp)
      n hn (k0, xs) ⟨rfl, rfl, h0, by simpa using hb⟩
    simpa using this
  · have hxl : (mkAll E k0 xs).2.length = xs.length := mkAll_len E xs k0
    have := iter_rec (σ := Int) (H (mkAll E k0 xs).2) (fun i k => (k, (i : Int))) xs (fun l k => (.inl ((mkAll E k l).1, (xs.length : Int)) : (Int × Int) ⊕ γ))
      (fun i k => (mkAll E k0 xs).2.drop i = (mkAll E k (xs.drop i)).2 ∧ 0 ≤ k ∧ k + (c : Int) * ((xs.length - i : Nat) : Int) ≤ 4611686018427387904)
      (fun k hk => by
        have := hH k (mkAll E k0 xs).2
        rw [hxl] at this
        rw [this]; simp [mkAll])
      (fun i x l k h1 h2 h3 h4 h5 => by
        left
        obtain ⟨q2, q3, q4⟩ := h5
        have hsub : xs.length - i = (xs.length - (i + 1)) + 1 := by omega
        have hc : (c : Int) * ((xs.length - i : Nat) : Int) = c + (c : Int) * ((xs.length - (i + 1) : Nat) : Int) := by rw [hsub]; simp [Int.mul_add]; omega
        rw [hc] at q4
        have hcl : 0 ≤ (c : Int) * ((xs.length - (i + 1) : Nat) : Int) := Int.mul_nonneg (by omega) (by omega)
        obtain ⟨e1, e2, e3, e4, e5⟩ := hone k x q3 (by omega) (hdrop i x l h3).1
        rw [h3] at q2
        have q2 : (mkAll E k0 xs).2.drop i = (mkOne E k x).2 :: (mkAll E (mkOne E k x).1 l).2 := q2
        have hsi : (mkAll E k0 xs).2[i]? = some (mkOne E k x).2 := by
          have := congrArg (fun l => l[0]?) q2
          simpa using this
        refine ⟨(mkOne E k x).1, e5 i _ (by omega) (by omega) hsi, ⟨?_, by omega, by omega⟩, rfl⟩
        have := congrArg (List.drop 1) q2
        rw [h4]
        simpa using this)
      n hn k0 ⟨rfl, h0, by simpa using hb⟩
    simpa using this

/-- A loop that counts how much is left. -/
theorem sz_loop (L : Int × Int → Option ((Int × Int) ⊕ ((Int × Int) ⊕ Int))) (xs : List β) (sm : β → Prop)
    (hstep : ∀ (i : Nat) (x : β) (left : Int), i < xs.length → xs[i]? = some x → 0 ≤ left → left ≤ 1048576 → (∃ r, L (left, (i : Int)) = some (.inl (r, ((i + 1 : Nat) : Int))) ∧ 0 ≤ r ∧ r ≤ left ∧ sm x) ∨ ∃ r, L (left, (i : Int)) = some (.inr (.inr r)) ∧ r < 0)
    (hend : ∀ left, L (left, (xs.length : Int)) = some (.inr (.inl (left, (xs.length : Int))))) : ∀ n, xs.length < n → ∀ left : Int, 0 ≤ left → left ≤ 1048576 →
    (∃ r, iter n L (left, 0) = some (.inr r) ∧ r < 0) ∨ ∃ r, iter n L (left, 0) = some (.inl (r, (xs.length : Int))) ∧ 0 ≤ r ∧ r ≤ left ∧ ∀ x ∈ xs, sm x := by
  have key : ∀ d i n (left : Int), i + d = xs.length → d < n → 0 ≤ left → left ≤ 1048576 → (∃ r, iter n L (left, (i : Int)) = some (.inr r) ∧ r < 0) ∨ ∃ r, iter n L (left, (i : Int)) = some (.inl (r, (xs.length : Int))) ∧ 0 ≤ r ∧ r ≤ left ∧ ∀ x ∈ xs.drop i, sm x := by
    intro d
    induction d with
    | zero =>
      intro i n left hi hn h0 h1
      obtain ⟨n, rfl⟩ : ∃ k, n = k + 1 := ⟨n - 1, by omega⟩
      have : i = xs.length := by omega
      subst this
      exact .inr ⟨left, iter_end (hend left) n, h0, Int.le_refl _, by simp⟩
    | succ d ih =>
      intro i n left hi hn h0 h1
      obtain ⟨n, rfl⟩ : ∃ k, n = k + 1 := ⟨n - 1, by omega⟩
      have hlt : i < xs.length := by omega
      rcases hstep i xs[i] left hlt (List.getElem?_eq_getElem hlt) h0 h1 with ⟨r, e, r0, r1, hs⟩ | ⟨r, e, r0⟩
      · rw [iter_go e n]
        rcases ih (i + 1) n r (by omega) (by omega) r0 (by omega) with ⟨q, e2, q0⟩ | ⟨q, e2, q0, q1, q2⟩
        · exact .inl ⟨q, e2, q0⟩
        · refine .inr ⟨q, e2, q0, by omega, ?_⟩
          rw [List.drop_eq_getElem_cons hlt]
          intro x hx
          rcases List.mem_cons.1 hx with rfl | hx
          · exact hs
          · exact q2 x hx
      · exact .inl ⟨r, iter_end e n, r0⟩
  intro n hn left h0 h1
  have := key xs.length 0 n left (by omega) hn h0 h1
  simpa using this
end

theorem make_ok (m : Nat) (h : m ≤ 1048576) : (decide (0 ≤ (m : Int)) && decide ((m : Int) ≤ (maxRow : Int)) && decide ((m : Int) = (m : Int))) = true := by
  have hm : maxRow = 68719476736 := rfl
  have h2 : decide ((m : Int) ≤ (maxRow : Int)) = true := by rw [hm]; simp; omega
  rw [h2]; simp
theorem modify_set {α : Type} (xs : List α) (i : Nat) (f : α → α) (h : i < xs.length) : List.modify xs i f = xs.set i (f xs[i]) := by
  apply List.ext_getElem
  · simp
  · intro j h1 h2
    rw [List.getElem_modify, List.getElem_set]
    by_cases e : i = j
    · subst e; simp
    · simp [e]


def sm_ItemS (a : List (Int × Int)) : Prop := a.length ≤ 1048576

def sm_PickS (a : List (Int × Int × Int)) : Prop := a.length ≤ 1048576

def sm_Order (a : Int × Int × (List (Int × Int)) × (List (Int × Int × Int)) × Int) : Prop := sm_ItemS a.2.2.1 ∧ sm_PickS a.2.2.2.1

def sm_OrderS (a : List (Int × Int × (List (Int × Int)) × (List (Int × Int × Int)) × Int)) : Prop := a.length ≤ 1048576 ∧ ∀ y ∈ a, sm_Order y

def sm_Book (a : Int × (List (Int × Int × (List (Int × Int)) × (List (Int × Int × Int)) × Int))) : Prop := sm_OrderS a.2

def sm_IntS (a : List Int) : Prop := a.length ≤ 1048576

def sm_Floor (a : Int × Int × (List Int)) : Prop := sm_IntS a.2.2

def sm_StackS (a : List (Int × Int × Int)) : Prop := a.length ≤ 1048576

def sm_Pod (a : Int × Int × (List (Int × Int × Int))) : Prop := sm_StackS a.2.2

def sm_PodS (a : List (Int × Int × (List (Int × Int × Int)))) : Prop := a.length ≤ 1048576 ∧ ∀ y ∈ a, sm_Pod y

def sm_Stock (a : (List (Int × Int × (List (Int × Int × Int))))) : Prop := sm_PodS a

def sm_RobotS (a : List (Int × Int × Int × Bool × Int)) : Prop := a.length ≤ 1048576

def sm_TaskS (a : List (Int × Int × Int × Int)) : Prop := a.length ≤ 1048576

def sm_Depot (a : Int × Int × (List Int) × (List (Int × Int × (List (Int × Int × Int)))) × Int × (List (Int × Int × (List (Int × Int)) × (List (Int × Int × Int)) × Int)) × (List (Int × Int × Int × Bool × Int)) × (List (Int × Int × Int × Int)) × (List Int) × (List Int) × Int) : Prop := sm_Floor (a.1, a.2.1, a.2.2.1) ∧ sm_Stock a.2.2.2.1 ∧ sm_Book (a.2.2.2.2.1, a.2.2.2.2.2.1) ∧ sm_RobotS a.2.2.2.2.2.2.1 ∧ sm_TaskS a.2.2.2.2.2.2.2.1 ∧ sm_IntS a.2.2.2.2.2.2.2.2.1 ∧ sm_IntS a.2.2.2.2.2.2.2.2.2.1

theorem laws_toIntS_ok (a : List Int) (h : sm_IntS a) (n : Nat) (hn : BIG ≤ n) : laws_toIntS n a = some a := by
  have hl : a.length ≤ 1048576 := h
  have hc := copy_ok (laws_toIntS_L1 a) a (0 : Int) (fun i hi out ho => by
    simp [laws_toIntS_L1, hi, getI_lt hi, inb_lt (xs := out) (by omega : i < out.length), w64_nat hi (by omega), upd_is]) (fun out => by
    simp [laws_toIntS_L1]) n (by unfold BIG at hn; omega)
  unfold laws_toIntS
  rw [make_ok a.length hl, cond_true, show Int.toNat (a.length : Int) = a.length by simp, hc]
  rfl


theorem laws_eqIntS_ok (a : List Int) (h : sm_IntS a) (n : Nat) (hn : BIG ≤ n) : laws_eqIntS n a a = some true := by
  have hl : a.length ≤ 1048576 := h
  have hc := iter_steps (laws_eqIntS_L1 a a) (fun i => (i : Int)) a.length (.inl (a.length : Int)) (fun i hi => by
    simp [laws_eqIntS_L1, hi, getI_lt hi, w64_nat hi (by omega)]) (by simp [laws_eqIntS_L1]) n (by unfold BIG at hn; omega)
  unfold laws_eqIntS
  rw [show ((a.length : Int) != (a.length : Int)) = false by simp, cond_false]
  rw [show ((0 : Nat) : Int) = 0 from rfl] at hc
  rw [hc]; rfl


theorem laws_szIntS_ok (a : List Int) (hf : (fSl fI) a) (left : Int) (h0 : 0 ≤ left) (h1 : left ≤ 1048576) : ∃ r, laws_szIntS a left = some r ∧ (r < 0 ∨ (0 ≤ r ∧ r ≤ left ∧ sm_IntS a)) := by
  have hm := fSl_len hf
  unfold laws_szIntS sm_IntS
  rw [w64_eq (n := left - (a.length : Int)) (by omega) (by omega)]
  by_cases hl : left - (a.length : Int) < 0
  · rw [show decide (left - (a.length : Int) < 0) = true by simpa using hl]; exact ⟨_, rfl, .inl (by omega)⟩
  · rw [show decide (left - (a.length : Int) < 0) = false by simpa using hl]; exact ⟨_, rfl, .inr ⟨by omega, by omega, by omega⟩⟩


theorem laws_markIntS_ok (a : List Int) (h : sm_IntS a) (k : Int) (h0 : 0 ≤ k) (h1 : k + 1048576 ≤ 4611686018427387904) (n : Nat) (hn : BIG ≤ n) : ∃ k' a', laws_markIntS n a k = some (k', a') ∧ k ≤ k' ∧ k' ≤ k + 1048576 ∧ sm_IntS a' ∧ laws_heldIntS n a' k = some k' := by
  have hl : a.length ≤ 1048576 := h
  have st : ∀ (k : Int) (x : Int), 0 ≤ k → k + ((1 : Nat) : Int) ≤ 4611686018427387904 → True → ∃ k' x', k ≤ k' ∧ k' ≤ k + ((1 : Nat) : Int) ∧ True ∧ (∀ (i : Nat) (ys : List Int), i < ys.length → ys.length ≤ 1048576 → ys[i]? = some x → laws_markIntS_L1 (k, (i : Int), ys) = some (.inl (k', ((i + 1 : Nat) : Int), ys.set i x'))) ∧ (∀ (i : Nat) (ys : List Int), i < ys.length → ys.length ≤ 1048576 → ys[i]? = some x' → laws_heldIntS_L1 ys (k, (i : Int)) = some (.inl (k', ((i + 1 : Nat) : Int)))) := by
    intro k x h0 h1 _
    refine ⟨k + 1, k, by omega, by omega, trivial, fun i ys hi hy hx => ?_, fun i ys hi hy hx => ?_⟩
    · have hx' : ys[i] = x := by rw [List.getElem?_eq_getElem hi] at hx; exact Option.some.inj hx
      have a0 : k + 1 + 1 = k + 2 := by omega
      have a1 : k + 2 + 1 = k + 3 := by omega
      have a2 : k + 3 + 1 = k + 4 := by omega
      have a3 : k + 4 + 1 = k + 5 := by omega
      simp [laws_markIntS_L1, hi, inb_nat, upd_is, modify_set, w64_nat hi (by omega), w64_eq (n := k + 1) (by omega) (by omega), a0, a1, a2, a3]
    · have hx' : ys[i] = k := by rw [List.getElem?_eq_getElem hi] at hx; exact Option.some.inj hx
      have a0 : k + 1 + 1 = k + 2 := by omega
      have a1 : k + 2 + 1 = k + 3 := by omega
      have a2 : k + 3 + 1 = k + 4 := by omega
      have a3 : k + 4 + 1 = k + 5 := by omega
      simp [laws_heldIntS_L1, hi, getI_lt hi, hx', w64_nat hi (by omega), w64_eq (n := k + 1) (by omega) (by omega), a0, a1, a2, a3]
  obtain ⟨k', a', e1, e2, e3, e4, _, e5⟩ := mark_loop (γ := Int) laws_markIntS_L1 laws_heldIntS_L1 (fun _ => True) (fun _ => True) 1 a (fun _ _ => trivial) hl k h0 (by omega) st (fun k ys => by simp [laws_markIntS_L1]) (fun k ys => by simp [laws_heldIntS_L1]) n (by unfold BIG at hn; omega)
  refine ⟨k', a', ?_, e3, by omega, by unfold sm_IntS; omega, ?_⟩
  · unfold laws_markIntS; rw [e1]; rfl
  · unfold laws_heldIntS; rw [e5]; rfl


theorem laws_markIntS_only (a : List Int) (h : sm_IntS a) (k : Int) (h0 : 0 ≤ k) (h1 : k + 1048576 ≤ 4611686018427387904) (n : Nat) (hn : BIG ≤ n) : ∃ k' a', laws_markIntS n a k = some (k', a') ∧ k ≤ k' ∧ k' ≤ k + 1048576 ∧ sm_IntS a' := by
  have hl : a.length ≤ 1048576 := h
  have st : ∀ (k : Int) (x : Int), 0 ≤ k → k + ((1 : Nat) : Int) ≤ 4611686018427387904 → True → ∃ k' x', k ≤ k' ∧ k' ≤ k + ((1 : Nat) : Int) ∧ True ∧ (∀ (i : Nat) (ys : List Int), i < ys.length → ys.length ≤ 1048576 → ys[i]? = some x → laws_markIntS_L1 (k, (i : Int), ys) = some (.inl (k', ((i + 1 : Nat) : Int), ys.set i x'))) := by
    intro k x h0 h1 _
    refine ⟨k + 1, k, by omega, by omega, trivial, fun i ys hi hy hx => ?_⟩
    have hx' : ys[i] = x := by rw [List.getElem?_eq_getElem hi] at hx; exact Option.some.inj hx
    have a0 : k + 1 + 1 = k + 2 := by omega
    have a1 : k + 2 + 1 = k + 3 := by omega
    have a2 : k + 3 + 1 = k + 4 := by omega
    have a3 : k + 4 + 1 = k + 5 := by omega
    simp [laws_markIntS_L1, hi, inb_nat, upd_is, modify_set, w64_nat hi (by omega), w64_eq (n := k + 1) (by omega) (by omega), a0, a1, a2, a3]
  obtain ⟨k', a', e1, e2, e3, e4, _⟩ := mark_only laws_markIntS_L1 (fun _ => True) (fun _ => True) 1 a (fun _ _ => trivial) hl k h0 (by omega) st (fun k ys => by simp [laws_markIntS_L1]) n (by unfold BIG at hn; omega)
  refine ⟨k', a', ?_, e3, by omega, by unfold sm_IntS; omega⟩
  unfold laws_markIntS; rw [e1]; rfl


def sm_WordS (a : List (Bool × Int × Int)) : Prop := a.length ≤ 1048576

def sm_Link (a : (List Int) × Int × Bool × Int × Int × Int × (List Int) × (List (Bool × Int × Int))) : Prop := sm_IntS a.1 ∧ sm_IntS a.2.2.2.2.2.2.1 ∧ sm_WordS a.2.2.2.2.2.2.2

theorem laws_toWordS_ok (a : List (Bool × Int × Int)) (h : sm_WordS a) (n : Nat) (hn : BIG ≤ n) : laws_toWordS n a = some a := by
  have hl : a.length ≤ 1048576 := h
  have hc := copy_ok (laws_toWordS_L1 a) a ((false, 0, 0) : Bool × Int × Int) (fun i hi out ho => by
    simp [laws_toWordS_L1, hi, getI_lt hi, laws_toWord, inb_lt (xs := out) (by omega : i < out.length), w64_nat hi (by omega), upd_is]) (fun out => by
    simp [laws_toWordS_L1]) n (by unfold BIG at hn; omega)
  unfold laws_toWordS
  rw [make_ok a.length hl, cond_true, show Int.toNat (a.length : Int) = a.length by simp, hc]
  rfl


theorem laws_toLink_ok (a : (List Int) × Int × Bool × Int × Int × Int × (List Int) × (List (Bool × Int × Int))) (h : sm_Link a) (n : Nat) (hn : BIG ≤ n) : laws_toLink n a.1 a.2.1 a.2.2.1 a.2.2.2.1 a.2.2.2.2.1 a.2.2.2.2.2.1 a.2.2.2.2.2.2.1 a.2.2.2.2.2.2.2 = some a := by
  unfold laws_toLink
  unfold sm_Link at h
  simp [laws_toIntS_ok a.1 h.1 n hn, laws_toIntS_ok a.2.2.2.2.2.2.1 h.2.1 n hn, laws_toWordS_ok a.2.2.2.2.2.2.2 h.2.2 n hn]


theorem laws_eqWordS_ok (a : List (Bool × Int × Int)) (h : sm_WordS a) (n : Nat) (hn : BIG ≤ n) : laws_eqWordS n a a = some true := by
  have hl : a.length ≤ 1048576 := h
  have hc := iter_steps (laws_eqWordS_L1 a a) (fun i => (i : Int)) a.length (.inl (a.length : Int)) (fun i hi => by
    simp [laws_eqWordS_L1, hi, getI_lt hi, laws_eqWord, w64_nat hi (by omega)]) (by simp [laws_eqWordS_L1]) n (by unfold BIG at hn; omega)
  unfold laws_eqWordS
  rw [show ((a.length : Int) != (a.length : Int)) = false by simp, cond_false]
  rw [show ((0 : Nat) : Int) = 0 from rfl] at hc
  rw [hc]; rfl


theorem laws_eqLink_ok (a : (List Int) × Int × Bool × Int × Int × Int × (List Int) × (List (Bool × Int × Int))) (h : sm_Link a) (n : Nat) (hn : BIG ≤ n) : laws_eqLink n a.1 a.2.1 a.2.2.1 a.2.2.2.1 a.2.2.2.2.1 a.2.2.2.2.2.1 a.2.2.2.2.2.2.1 a.2.2.2.2.2.2.2 a.1 a.2.1 a.2.2.1 a.2.2.2.1 a.2.2.2.2.1 a.2.2.2.2.2.1 a.2.2.2.2.2.2.1 a.2.2.2.2.2.2.2 = some true := by
  unfold laws_eqLink
  unfold sm_Link at h
  simp [laws_eqIntS_ok a.1 h.1 n hn, laws_eqIntS_ok a.2.2.2.2.2.2.1 h.2.1 n hn, laws_eqWordS_ok a.2.2.2.2.2.2.2 h.2.2 n hn]


theorem laws_szWordS_ok (a : List (Bool × Int × Int)) (hf : (fSl (fP fB (fP fI fI))) a) (left : Int) (h0 : 0 ≤ left) (h1 : left ≤ 1048576) : ∃ r, laws_szWordS a left = some r ∧ (r < 0 ∨ (0 ≤ r ∧ r ≤ left ∧ sm_WordS a)) := by
  have hm := fSl_len hf
  unfold laws_szWordS sm_WordS
  rw [w64_eq (n := left - (a.length : Int)) (by omega) (by omega)]
  by_cases hl : left - (a.length : Int) < 0
  · rw [show decide (left - (a.length : Int) < 0) = true by simpa using hl]; exact ⟨_, rfl, .inl (by omega)⟩
  · rw [show decide (left - (a.length : Int) < 0) = false by simpa using hl]; exact ⟨_, rfl, .inr ⟨by omega, by omega, by omega⟩⟩


theorem laws_szLink_ok (a : (List Int) × Int × Bool × Int × Int × Int × (List Int) × (List (Bool × Int × Int))) (hf : (fP (fSl fI) (fP fI (fP fB (fP fI (fP fI (fP fI (fP (fSl fI) (fSl (fP fB (fP fI fI)))))))))) a) (left : Int) (h0 : 0 ≤ left) (h1 : left ≤ 1048576) : ∃ r, laws_szLink a.1 a.2.1 a.2.2.1 a.2.2.2.1 a.2.2.2.2.1 a.2.2.2.2.2.1 a.2.2.2.2.2.2.1 a.2.2.2.2.2.2.2 left = some r ∧ (r < 0 ∨ (0 ≤ r ∧ r ≤ left ∧ sm_Link a)) := by
  unfold laws_szLink sm_Link
  obtain ⟨r0, e0, q0⟩ := laws_szIntS_ok a.1 hf.1 left h0 h1
  rw [e0]; simp only [Option.bind_some]
  rcases q0 with q0 | ⟨p0, s0, t0⟩
  · rw [show decide (r0 < 0) = true by simpa using q0]; exact ⟨_, rfl, .inl (by omega)⟩
  rw [show decide (r0 < 0) = false by simp; omega]; simp only [cond_false]
  obtain ⟨r1, e1, q1⟩ := laws_szIntS_ok a.2.2.2.2.2.2.1 hf.2.2.2.2.2.2.1 r0 p0 (by omega)
  rw [e1]; simp only [Option.bind_some]
  rcases q1 with q1 | ⟨p1, s1, t1⟩
  · rw [show decide (r1 < 0) = true by simpa using q1]; exact ⟨_, rfl, .inl (by omega)⟩
  rw [show decide (r1 < 0) = false by simp; omega]; simp only [cond_false]
  obtain ⟨r2, e2, q2⟩ := laws_szWordS_ok a.2.2.2.2.2.2.2 hf.2.2.2.2.2.2.2 r1 p1 (by omega)
  rw [e2]; simp only [Option.bind_some]
  rcases q2 with q2 | ⟨p2, s2, t2⟩
  · rw [show decide (r2 < 0) = true by simpa using q2]; exact ⟨_, rfl, .inl (by omega)⟩
  rw [show decide (r2 < 0) = false by simp; omega]; simp only [cond_false]
  exact ⟨_, rfl, .inr ⟨by omega, by omega, ⟨t0, t1, t2⟩⟩⟩


theorem laws_markWordS_ok (a : List (Bool × Int × Int)) (h : sm_WordS a) (k : Int) (h0 : 0 ≤ k) (h1 : k + 3145728 ≤ 4611686018427387904) (n : Nat) (hn : BIG ≤ n) : ∃ k' a', laws_markWordS n a k = some (k', a') ∧ k ≤ k' ∧ k' ≤ k + 3145728 ∧ sm_WordS a' ∧ laws_heldWordS n a' k = some k' := by
  have hl : a.length ≤ 1048576 := h
  have st : ∀ (k : Int) (x : Bool × Int × Int), 0 ≤ k → k + ((3 : Nat) : Int) ≤ 4611686018427387904 → True → ∃ k' x', k ≤ k' ∧ k' ≤ k + ((3 : Nat) : Int) ∧ True ∧ (∀ (i : Nat) (ys : List (Bool × Int × Int)), i < ys.length → ys.length ≤ 1048576 → ys[i]? = some x → laws_markWordS_L1 (k, (i : Int), ys) = some (.inl (k', ((i + 1 : Nat) : Int), ys.set i x'))) ∧ (∀ (i : Nat) (ys : List (Bool × Int × Int)), i < ys.length → ys.length ≤ 1048576 → ys[i]? = some x' → laws_heldWordS_L1 ys (k, (i : Int)) = some (.inl (k', ((i + 1 : Nat) : Int)))) := by
    intro k x h0 h1 _
    refine ⟨k + 3, ((Int.tmod k 3 == 0), (k + 1), (k + 2)), by omega, by omega, trivial, fun i ys hi hy hx => ?_, fun i ys hi hy hx => ?_⟩
    · have hx' : ys[i] = x := by rw [List.getElem?_eq_getElem hi] at hx; exact Option.some.inj hx
      have a0 : k + 1 + 1 = k + 2 := by omega
      have a1 : k + 2 + 1 = k + 3 := by omega
      have a2 : k + 3 + 1 = k + 4 := by omega
      have a3 : k + 4 + 1 = k + 5 := by omega
      simp [laws_markWordS_L1, hi, inb_nat, upd_is, modify_set, w64_nat hi (by omega), w64_eq (n := k + 1) (by omega) (by omega), w64_eq (n := k + 2) (by omega) (by omega), w64_eq (n := k + 3) (by omega) (by omega), a0, a1, a2, a3]
    · have hx' : ys[i] = ((Int.tmod k 3 == 0), (k + 1), (k + 2)) := by rw [List.getElem?_eq_getElem hi] at hx; exact Option.some.inj hx
      have a0 : k + 1 + 1 = k + 2 := by omega
      have a1 : k + 2 + 1 = k + 3 := by omega
      have a2 : k + 3 + 1 = k + 4 := by omega
      have a3 : k + 4 + 1 = k + 5 := by omega
      simp [laws_heldWordS_L1, hi, getI_lt hi, hx', w64_nat hi (by omega), w64_eq (n := k + 1) (by omega) (by omega), w64_eq (n := k + 2) (by omega) (by omega), w64_eq (n := k + 3) (by omega) (by omega), a0, a1, a2, a3]
  obtain ⟨k', a', e1, e2, e3, e4, _, e5⟩ := mark_loop (γ := Int) laws_markWordS_L1 laws_heldWordS_L1 (fun _ => True) (fun _ => True) 3 a (fun _ _ => trivial) hl k h0 (by omega) st (fun k ys => by simp [laws_markWordS_L1]) (fun k ys => by simp [laws_heldWordS_L1]) n (by unfold BIG at hn; omega)
  refine ⟨k', a', ?_, e3, by omega, by unfold sm_WordS; omega, ?_⟩
  · unfold laws_markWordS; rw [e1]; rfl
  · unfold laws_heldWordS; rw [e5]; rfl


theorem laws_markWordS_only (a : List (Bool × Int × Int)) (h : sm_WordS a) (k : Int) (h0 : 0 ≤ k) (h1 : k + 3145728 ≤ 4611686018427387904) (n : Nat) (hn : BIG ≤ n) : ∃ k' a', laws_markWordS n a k = some (k', a') ∧ k ≤ k' ∧ k' ≤ k + 3145728 ∧ sm_WordS a' := by
  have hl : a.length ≤ 1048576 := h
  have st : ∀ (k : Int) (x : Bool × Int × Int), 0 ≤ k → k + ((3 : Nat) : Int) ≤ 4611686018427387904 → True → ∃ k' x', k ≤ k' ∧ k' ≤ k + ((3 : Nat) : Int) ∧ True ∧ (∀ (i : Nat) (ys : List (Bool × Int × Int)), i < ys.length → ys.length ≤ 1048576 → ys[i]? = some x → laws_markWordS_L1 (k, (i : Int), ys) = some (.inl (k', ((i + 1 : Nat) : Int), ys.set i x'))) := by
    intro k x h0 h1 _
    refine ⟨k + 3, ((Int.tmod k 3 == 0), (k + 1), (k + 2)), by omega, by omega, trivial, fun i ys hi hy hx => ?_⟩
    have hx' : ys[i] = x := by rw [List.getElem?_eq_getElem hi] at hx; exact Option.some.inj hx
    have a0 : k + 1 + 1 = k + 2 := by omega
    have a1 : k + 2 + 1 = k + 3 := by omega
    have a2 : k + 3 + 1 = k + 4 := by omega
    have a3 : k + 4 + 1 = k + 5 := by omega
    simp [laws_markWordS_L1, hi, inb_nat, upd_is, modify_set, w64_nat hi (by omega), w64_eq (n := k + 1) (by omega) (by omega), w64_eq (n := k + 2) (by omega) (by omega), w64_eq (n := k + 3) (by omega) (by omega), a0, a1, a2, a3]
  obtain ⟨k', a', e1, e2, e3, e4, _⟩ := mark_only laws_markWordS_L1 (fun _ => True) (fun _ => True) 3 a (fun _ _ => trivial) hl k h0 (by omega) st (fun k ys => by simp [laws_markWordS_L1]) n (by unfold BIG at hn; omega)
  refine ⟨k', a', ?_, e3, by omega, by unfold sm_WordS; omega⟩
  unfold laws_markWordS; rw [e1]; rfl


theorem laws_markLink_ok (a : (List Int) × Int × Bool × Int × Int × Int × (List Int) × (List (Bool × Int × Int))) (h : sm_Link a) (k : Int) (h0 : 0 ≤ k) (h1 : k + 5242880 ≤ 4611686018427387904) (n : Nat) (hn : BIG ≤ n) : ∃ k' b0 b6 b7, laws_markLink n a.1 a.2.1 a.2.2.1 a.2.2.2.1 a.2.2.2.2.1 a.2.2.2.2.2.1 a.2.2.2.2.2.2.1 a.2.2.2.2.2.2.2 k = some (k', (b0, a.2.1, a.2.2.1, a.2.2.2.1, a.2.2.2.2.1, a.2.2.2.2.2.1, b6, b7)) ∧ k ≤ k' ∧ k' ≤ k + 5242880 ∧ sm_Link (b0, a.2.1, a.2.2.1, a.2.2.2.1, a.2.2.2.2.1, a.2.2.2.2.2.1, b6, b7) ∧ laws_heldLink n b0 a.2.1 a.2.2.1 a.2.2.2.1 a.2.2.2.2.1 a.2.2.2.2.2.1 b6 b7 k = some k' := by
  unfold sm_Link at h
  obtain ⟨k0, b0, e0, l0, u0, s0, d0⟩ := laws_markIntS_ok a.1 h.1 k (by omega) (by omega) n hn
  obtain ⟨k1, b6, e1, l1, u1, s1, d1⟩ := laws_markIntS_ok a.2.2.2.2.2.2.1 h.2.1 k0 (by omega) (by omega) n hn
  obtain ⟨k2, b7, e2, l2, u2, s2, d2⟩ := laws_markWordS_ok a.2.2.2.2.2.2.2 h.2.2 k1 (by omega) (by omega) n hn
  refine ⟨k2, b0, b6, b7, ?_, by omega, by omega, ⟨s0, s1, s2⟩, ?_⟩
  · unfold laws_markLink
    simp only [e0, e1, e2, Option.bind_some]
  · unfold laws_heldLink
    rw [d0, Option.bind_some, show decide (k0 < 0) = false by simp; omega]; simp only [cond_false]
    rw [d1, Option.bind_some, show decide (k1 < 0) = false by simp; omega]; simp only [cond_false]
    rw [d2, Option.bind_some, show decide (k2 < 0) = false by simp; omega]; simp only [cond_false]


theorem laws_markLink_only (a : (List Int) × Int × Bool × Int × Int × Int × (List Int) × (List (Bool × Int × Int))) (h : sm_Link a) (k : Int) (h0 : 0 ≤ k) (h1 : k + 5242880 ≤ 4611686018427387904) (n : Nat) (hn : BIG ≤ n) : ∃ k' b0 b6 b7, laws_markLink n a.1 a.2.1 a.2.2.1 a.2.2.2.1 a.2.2.2.2.1 a.2.2.2.2.2.1 a.2.2.2.2.2.2.1 a.2.2.2.2.2.2.2 k = some (k', (b0, a.2.1, a.2.2.1, a.2.2.2.1, a.2.2.2.2.1, a.2.2.2.2.2.1, b6, b7)) ∧ k ≤ k' ∧ k' ≤ k + 5242880 ∧ sm_Link (b0, a.2.1, a.2.2.1, a.2.2.2.1, a.2.2.2.2.1, a.2.2.2.2.2.1, b6, b7) := by
  unfold sm_Link at h
  obtain ⟨k0, b0, e0, l0, u0, s0⟩ := laws_markIntS_only a.1 h.1 k (by omega) (by omega) n hn
  obtain ⟨k1, b6, e1, l1, u1, s1⟩ := laws_markIntS_only a.2.2.2.2.2.2.1 h.2.1 k0 (by omega) (by omega) n hn
  obtain ⟨k2, b7, e2, l2, u2, s2⟩ := laws_markWordS_only a.2.2.2.2.2.2.2 h.2.2 k1 (by omega) (by omega) n hn
  refine ⟨k2, b0, b6, b7, ?_, by omega, by omega, ⟨s0, s1, s2⟩⟩
  unfold laws_markLink
  simp only [e0, e1, e2, Option.bind_some]


def sm_Act (a : Int × Int × (List (Int × Int)) × Int × Int × Int × Int) : Prop := sm_ItemS a.2.2.1

def sm_BoolS (a : List Bool) : Prop := a.length ≤ 1048576

theorem in_eq : impl_in = spec_l1In := rfl
theorem l1In_ok (a b c : Int) : spec_l1In a b c = some (decide (b ≤ a) && decide (a ≤ c)) := by
  unfold spec_l1In
  by_cases h : a ≥ b <;> simp [h]


theorem whats_eq : impl_whatsOk = spec_l10Whats := rfl
def whatOk (x : Int) : Bool := decide (0 ≤ x) && decide (x ≤ 9999)
theorem l10Whats_ok (a : List Int) (h : a.length ≤ 1048576) (n : Nat) (hn : BIG ≤ n) : spec_l10Whats n a = some (a.all whatOk) := by
  unfold spec_l10Whats
  rw [all_loop (spec_l10Whats_L1 a) a whatOk (fun i x hi hx => by
    unfold spec_l10Whats_L1
    rw [show decide ((i : Int) < (a.length : Int)) = true by simp only [decide_eq_true_eq]; omega, cond_true, getI_nat, hx, w64_nat hi (by omega)]
    simp only [Option.bind_some, l1In_ok, whatOk]
    cases decide (0 ≤ x) <;> cases decide (x ≤ 9999) <;> rfl) (by unfold spec_l10Whats_L1; simp) n (by unfold BIG at hn; omega)]
  cases a.all whatOk <;> rfl


def wordOk (w : Bool × Int × Int) : Bool := decide (1 ≤ w.2.1) && decide (w.2.1 ≤ 1000001) && (decide (0 ≤ w.2.2) && decide (w.2.2 ≤ 9999)) && (!w.1 || w.2.2 == 0)
theorem air_eq : impl_airOk_L1 = spec_LinkOk_L1 := rfl
theorem air_loop (a : List (Bool × Int × Int)) (h : a.length ≤ 1048576) (n : Nat) (hn : BIG ≤ n) : iter n (spec_LinkOk_L1 a) 0 = some (bif a.all wordOk then .inl (a.length : Int) else .inr false) :=
  all_loop (spec_LinkOk_L1 a) a wordOk (fun i x hi hx => by
    unfold spec_LinkOk_L1
    rw [show decide ((i : Int) < (a.length : Int)) = true by simp only [decide_eq_true_eq]; omega, cond_true, getI_nat, hx, w64_nat hi (by omega)]
    simp only [Option.bind_some, l1In_ok, wordOk, bne]
    cases decide (1 ≤ x.2.1) <;> cases decide (x.2.1 ≤ 1000001) <;> cases decide (0 ≤ x.2.2) <;> cases decide (x.2.2 ≤ 9999) <;> cases x.1 <;> cases (x.2.2 == 0) <;> rfl) (by unfold spec_LinkOk_L1; simp) n (by unfold BIG at hn; omega)


abbrev Lk := List Int × Int × Bool × Int × Int × Int × List Int × List (Bool × Int × Int)
def linkOk (a : Lk) : Bool :=
  decide (a.1.length ≤ 40) && decide (a.2.2.2.2.2.2.1.length ≤ 10000) && decide (a.2.2.2.2.2.2.2.length ≤ 30) && a.1.all whatOk && a.2.2.2.2.2.2.1.all whatOk && a.2.2.2.2.2.2.2.all wordOk &&
  (decide (0 ≤ a.2.1) && decide (a.2.1 ≤ 1000000)) && (decide (0 ≤ a.2.2.2.2.1) && decide (a.2.2.2.2.1 ≤ 10000000)) && (decide (0 ≤ a.2.2.2.1) && decide (a.2.2.2.1 ≤ 10000000)) &&
  (a.2.2.2.2.2.1 == a.2.1 || a.2.2.2.2.2.1 == a.2.1 + 1) && ((a.2.2.2.2.2.2.1.length : Int) == a.2.2.2.2.2.1 - 1) && (!a.2.2.1 || decide (0 < a.1.length))
theorem spec_LinkOk_ok (a : Lk) (h1 : a.1.length ≤ 1048576) (h2 : a.2.2.2.2.2.2.1.length ≤ 1048576) (h3 : a.2.2.2.2.2.2.2.length ≤ 1048576) (n : Nat) (hn : BIG ≤ n) :
    spec_LinkOk n a.1 a.2.1 a.2.2.1 a.2.2.2.1 a.2.2.2.2.1 a.2.2.2.2.2.1 a.2.2.2.2.2.2.1 a.2.2.2.2.2.2.2 = some (linkOk a) := by
  obtain ⟨q, sq, b, du, nw, wt, hd, air⟩ := a
  dsimp only at h1 h2 h3 ⊢
  unfold spec_LinkOk linkOk
  rw [air_loop air h3 n hn]
  simp only [l1In_ok, l10Whats_ok q h1 n hn, l10Whats_ok hd h2 n hn, Option.bind_some, or1, and1, andn, orn]
  by_cases c1 : q.length ≤ 40
  case neg => rw [show decide ((q.length : Int) > 40) = true by simp; omega]; simp [c1]
  rw [show decide ((q.length : Int) > 40) = false by simp; omega]
  by_cases c2 : hd.length ≤ 10000
  case neg => rw [show decide ((hd.length : Int) > 10000) = true by simp; omega]; simp [c2]
  rw [show decide ((hd.length : Int) > 10000) = false by simp; omega]
  by_cases c3 : air.length ≤ 30
  case neg => rw [show decide ((air.length : Int) > 30) = true by simp; omega]; simp [c3]
  rw [show decide ((air.length : Int) > 30) = false by simp; omega]
  by_cases c4 : 0 ≤ sq ∧ sq ≤ 1000000
  case neg =>
    have : (decide (0 ≤ sq) && decide (sq ≤ 1000000)) = false := by rw [← Bool.not_eq_true]; simpa using c4
    simp [this]
  have e1 : w64 (sq + 1) = sq + 1 := w64_eq (by omega) (by omega)
  rw [e1]
  have e2 : ((bif (wt == sq) then bif ((hd.length : Int) == w64 (wt - 1)) then bif (!b) then some true else some (decide ((q.length : Int) > 0)) else some false else
      bif (wt == sq + 1) then bif ((hd.length : Int) == w64 (wt - 1)) then bif (!b) then some true else some (decide ((q.length : Int) > 0)) else some false else some false) : Option Bool) =
      some ((wt == sq || wt == sq + 1) && ((hd.length : Int) == wt - 1) && (!b || decide (0 < q.length))) := by
    rw [show decide ((q.length : Int) > 0) = decide (0 < q.length) by rw [Bool.eq_iff_iff]; simp]
    by_cases hw : wt = sq ∨ wt = sq + 1
    · have e3 : w64 (wt - 1) = wt - 1 := w64_eq (by omega) (by omega)
      rw [e3]
      cases (wt == sq) <;> cases (wt == sq + 1) <;> cases ((hd.length : Int) == wt - 1) <;> cases b <;> rfl
    · have f1 : (wt == sq) = false := by rw [← Bool.not_eq_true]; simp; omega
      have f2 : (wt == sq + 1) = false := by rw [← Bool.not_eq_true]; simp; omega
      rw [f1, f2]; rfl
  simp only [or1, and1] at e2
  simp only [c1, c2, c3, decide_true, Bool.true_and]
  have c4' : (decide (0 ≤ sq) && decide (sq ≤ 1000000)) = true := by simpa using c4
  rw [c4']
  generalize (decide (0 ≤ nw) && decide (nw ≤ 10000000)) = b1
  generalize (decide (0 ≤ du) && decide (du ≤ 10000000)) = b2
  generalize q.all whatOk = b3
  generalize hd.all whatOk = b4
  generalize air.all wordOk = b5
  rw [show decide ((q.length : Int) > 0) = decide (0 < q.length) by rw [Bool.eq_iff_iff]; simp] at e2 ⊢
  cases b1 <;> cases b2 <;> cases b3 <;> cases b4 <;> cases b5 <;> first | (simp; done) | (simp; exact e2)


theorem impl_LinkOk_ok (a : Lk) (h1 : a.1.length ≤ 1048576) (h2 : a.2.2.2.2.2.2.1.length ≤ 1048576) (h3 : a.2.2.2.2.2.2.2.length ≤ 1048576) (hw : fI a.2.2.2.2.2.1) (n : Nat) (hn : BIG ≤ n) :
    impl_LinkOk n a.1 a.2.1 a.2.2.1 a.2.2.2.1 a.2.2.2.2.1 a.2.2.2.2.2.1 a.2.2.2.2.2.2.1 a.2.2.2.2.2.2.2 = some (linkOk a) := by
  obtain ⟨q, sq, b, du, nw, wt, hd, air⟩ := a
  dsimp only at h1 h2 h3 hw ⊢
  have hb := fI_b hw
  have ha : impl_airOk n air = some (air.all wordOk && decide (air.length ≤ 30)) := by
    unfold impl_airOk
    rw [air_eq, air_loop air h3 n hn]
    rw [show decide ((air.length : Int) ≤ 30) = decide (air.length ≤ 30) by rw [Bool.eq_iff_iff]; simp; omega]
    cases air.all wordOk <;> rfl
  unfold impl_LinkOk linkOk
  simp only [in_eq, whats_eq, l1In_ok, l10Whats_ok q h1 n hn, l10Whats_ok hd h2 n hn, ha, Option.bind_some, or1, and1, andn, orn]
  by_cases c1 : q.length ≤ 40
  case neg => rw [show decide ((q.length : Int) > 40) = true by simp; omega]; simp [c1]
  rw [show decide ((q.length : Int) > 40) = false by simp; omega]
  by_cases c2 : hd.length ≤ 10000
  case neg => rw [show decide ((hd.length : Int) > 10000) = true by simp; omega]; simp [c2]
  rw [show decide ((hd.length : Int) > 10000) = false by simp; omega]
  by_cases c4 : 0 ≤ sq ∧ sq ≤ 1000000
  case neg =>
    have : (decide (0 ≤ sq) && decide (sq ≤ 1000000)) = false := by rw [← Bool.not_eq_true]; simpa using c4
    simp [this]
  have c4' : (decide (0 ≤ sq) && decide (sq ≤ 1000000)) = true := by simpa using c4
  have e2 : ((decide (0 ≤ wt) && decide (wt ≤ 1000000)) && (decide (0 ≤ w64 (wt - sq)) && decide (w64 (wt - sq) ≤ 1) && (((hd.length : Int) == w64 (wt - 1)) && (!b || decide ((q.length : Int) > 0))))) =
      ((wt == sq || wt == sq + 1) && ((hd.length : Int) == wt - 1) && (!b || decide (0 < q.length))) := by
    rw [show decide ((q.length : Int) > 0) = decide (0 < q.length) by rw [Bool.eq_iff_iff]; simp]
    by_cases hr : 0 ≤ wt ∧ wt ≤ 1000000
    · have e3 : w64 (wt - 1) = wt - 1 := w64_eq (by omega) (by omega)
      have e4 : w64 (wt - sq) = wt - sq := w64_eq (by omega) (by omega)
      rw [e3, e4, show (decide (0 ≤ wt) && decide (wt ≤ 1000000)) = true by simpa using hr]
      have e5 : (decide (0 ≤ wt - sq) && decide (wt - sq ≤ 1)) = (wt == sq || wt == sq + 1) := by
        rw [Bool.eq_iff_iff]; simp; omega
      rw [e5]
      cases (wt == sq || wt == sq + 1) <;> cases ((hd.length : Int) == wt - 1) <;> rfl
    · rw [show (decide (0 ≤ wt) && decide (wt ≤ 1000000)) = false by rw [← Bool.not_eq_true]; simpa using hr]
      have e6 : ((wt == sq || wt == sq + 1) && ((hd.length : Int) == wt - 1)) = false := by
        rw [← Bool.not_eq_true]; simp; omega
      rw [e6]; rfl
  simp only [c1, c2, decide_true, Bool.true_and]
  rw [c4']
  generalize (decide (0 ≤ nw) && decide (nw ≤ 10000000)) = b1 at e2 ⊢
  generalize (decide (0 ≤ du) && decide (du ≤ 10000000)) = b2 at e2 ⊢
  generalize q.all whatOk = b3
  generalize hd.all whatOk = b4
  generalize air.all wordOk = b5
  generalize decide (air.length ≤ 30) = b6
  rw [Option.some.injEq]
  cases b1 <;> cases b2 <;> cases b3 <;> cases b4 <;> cases b5 <;> cases b6 <;> first | (simp; done) | (simp; simpa using e2)


theorem row1 {m : Nat} (h : m ≤ 1048576) : decide (m + 1 ≤ maxRow) = true := by
  have hm : maxRow = 68719476736 := rfl
  rw [hm]; simp; omega

theorem row0 {m : Nat} (h : m ≤ 1048576) : decide (m ≤ maxRow) = true := by
  have hm : maxRow = 68719476736 := rfl
  rw [hm]; simp; omega


theorem spec_l10Copy_ok (a : Lk) (h : sm_Link a) : spec_l10Copy a.1 a.2.1 a.2.2.1 a.2.2.2.1 a.2.2.2.2.1 a.2.2.2.2.2.1 a.2.2.2.2.2.2.1 a.2.2.2.2.2.2.2 = some a := by
  obtain ⟨h1, h2, h3⟩ := h
  unfold spec_l10Copy
  simp [row0 h1, row0 h2, row0 h3]


theorem impl_copyLink_ok (a : Lk) (h : sm_Link a) : impl_copyLink a.1 a.2.1 a.2.2.1 a.2.2.2.1 a.2.2.2.2.1 a.2.2.2.2.2.1 a.2.2.2.2.2.2.1 a.2.2.2.2.2.2.2 = some a := by
  obtain ⟨h1, h2, h3⟩ := h
  unfold impl_copyLink impl_copyInts
  simp [row0 h1, row0 h2, row0 h3]


/-- What Tell answers: the link, and whether it was taken. -/
def tellOf (a : Lk) (c : Int) : Lk × Bool := bif linkOk a && decide (0 ≤ c) && decide (c ≤ 9999) && decide (a.1.length < 40) then ((a.1 ++ [c], a.2), true) else (a, false)
def tup9 (x : Lk × Bool) : (List Int) × Int × Bool × Int × Int × Int × (List Int) × (List SBII) × Bool := (x.1.1, x.1.2.1, x.1.2.2.1, x.1.2.2.2.1, x.1.2.2.2.2.1, x.1.2.2.2.2.2.1, x.1.2.2.2.2.2.2.1, x.1.2.2.2.2.2.2.2, x.2)
theorem tellOf_sm (a : Lk) (h : sm_Link a) (c : Int) : sm_Link (tellOf a c).1 := by
  obtain ⟨h1, h2, h3⟩ := h
  unfold tellOf
  by_cases hl : a.1.length < 40
  · cases linkOk a && decide (0 ≤ c) && decide (c ≤ 9999) && decide (a.1.length < 40)
    · exact ⟨h1, h2, h3⟩
    · exact ⟨by show (a.1 ++ [c]).length ≤ _; simp; omega, h2, h3⟩
  · rw [show decide (a.1.length < 40) = false by simpa using hl]
    simp
    exact ⟨h1, h2, h3⟩
theorem linkOk_len {a : Lk} (h : linkOk a = true) : a.1.length ≤ 40 := by
  unfold linkOk at h
  simp only [Bool.and_eq_true, decide_eq_true_eq] at h
  omega


theorem sub_le {α : Type} (xs : List α) (lo hi : Nat) : (sub xs lo hi).length ≤ xs.length := by
  unfold sub; simp; omega


theorem spec_l10Says_ok (q : List Int) (sq : Int) (b : Bool) (du nw wt : Int) (hd : List Int) (air : List SBII) (w0 : Bool) (w1 w2 : Int) :
    spec_l10Says q sq b du nw wt hd air w0 w1 w2 = some (q, sq, b, du, nw, wt, hd, bif decide (air.length < 30) then air ++ [(w0, w1, w2)] else air) := by
  unfold spec_l10Says
  by_cases h : air.length < 30
  · rw [show decide ((air.length : Int) < 30) = true by simp; omega, show decide (air.length < 30) = true by simpa using h]
    have := row1 (m := air.length) (by omega)
    simp [this]
  · rw [show decide ((air.length : Int) < 30) = false by simp; omega, show decide (air.length < 30) = false by simpa using h]
    rfl
theorem airs_len (air : List SBII) (w : SBII) : (bif decide (air.length < 30) then air ++ [w] else air).length ≤ air.length + 1 := by
  cases decide (air.length < 30) <;> simp


theorem say_eq : impl_Link_say = spec_l10Says := rfl


theorem spec_l10Tick_ok (q : List Int) (sq : Int) (b : Bool) (du nw wt : Int) (hd : List Int) (air : List SBII) (hb : b = true → 0 < q.length) :
    ∃ sq' b' du' nw' air', spec_l10Tick q sq b du nw wt hd air = some (q, sq', b', du', nw', wt, hd, air') ∧ air'.length ≤ air.length + 1 := by
  unfold spec_l10Tick
  simp only [spec_l10Says_ok]
  have h1 : ∀ nw', ∃ sq' b' du' nw2 air', ((bif !b then bif decide ((q.length : Int) > 0) then some (decide (sq < 1000000)) else some false else some false).bind fun x2 =>
      bif x2 then bif inb q 0 then (q[Int.toNat 0]?).bind fun x3 => some (q, w64 (sq + 1), true, w64 (nw' + 3), nw', wt, hd, bif decide (air.length < 30) then air ++ [(false, w64 (sq + 1), x3)] else air) else none
      else (bif b then some (decide (nw' ≥ du)) else some false).bind fun x5 =>
        bif x5 then bif inb q 0 then (q[Int.toNat 0]?).bind fun x6 => some (q, sq, b, w64 (nw' + 3), nw', wt, hd, bif decide (air.length < 30) then air ++ [(false, sq, x6)] else air) else none
        else some (q, sq, b, du, nw', wt, hd, air)) = (some (q, sq', b', du', nw2, wt, hd, air') : Option Lk) ∧ air'.length ≤ air.length + 1 := by
    intro nw'
    cases q with
    | nil =>
      have hbf : b = false := by cases b with | false => rfl | true => simp at hb
      subst hbf
      exact ⟨sq, false, du, nw', air, by simp, by omega⟩
    | cons x q =>
      have hin : inb (x :: q) 0 = true := by rw [show (0 : Int) = ((0 : Nat) : Int) from rfl, inb_nat]; simp
      simp only [hin]
      cases b with
      | false =>
        cases hs : decide (sq < 1000000) with
        | true => exact ⟨w64 (sq + 1), true, w64 (nw' + 3), nw', _, by first | (simp; done) | (simp; rfl), airs_len air (false, w64 (sq + 1), x)⟩
        | false => exact ⟨sq, false, du, nw', air, by simp, by omega⟩
      | true =>
        cases hs : decide (nw' ≥ du) with
        | true => exact ⟨sq, true, w64 (nw' + 3), nw', _, by first | (simp; done) | (simp; rfl), airs_len air (false, sq, x)⟩
        | false => exact ⟨sq, true, du, nw', air, by simp, by omega⟩
  cases decide (nw < 9999997) with
  | true => exact h1 _
  | false => exact h1 _


theorem tick_eq (q : List Int) (sq : Int) (b : Bool) (du nw wt : Int) (hd : List Int) (air : List SBII) : impl_Link_tick q sq b du nw wt hd air = spec_l10Tick q sq b du nw wt hd air := by
  unfold impl_Link_tick spec_l10Tick
  simp only [say_eq, spec_l10Says_ok]
  cases decide (nw < 9999997) <;> cases b <;> simp only [cond_true, cond_false, Option.bind_some, Bool.not_true, Bool.not_false]
  · cases decide ((q.length : Int) > 0) <;> cases decide (sq < 1000000) <;> rfl
  · cases decide (nw ≥ du) <;> rfl
  · cases decide ((q.length : Int) > 0) <;> cases decide (sq < 1000000) <;> rfl
  · cases decide (w64 (nw + 1) ≥ du) <;> rfl


theorem spec_l10Hear_ok (q : List Int) (sq : Int) (b : Bool) (du nw wt : Int) (hd : List Int) (air : List SBII) (w0 : Bool) (w1 w2 : Int) (hb : b = true → 0 < q.length) (h1 : q.length ≤ 1048576) (h2 : hd.length ≤ 1048570) :
    ∃ q' b' wt' hd' air', spec_l10Hear q sq b du nw wt hd air w0 w1 w2 = some (q', sq, b', du, nw, wt', hd', air') ∧ q'.length ≤ q.length ∧ hd'.length ≤ hd.length + 1 ∧ air'.length ≤ air.length + 1 := by
  unfold spec_l10Hear
  simp only [spec_l10Says_ok]
  cases w0 with
  | true =>
    cases b with
    | false => exact ⟨q, false, wt, hd, air, by simp, by omega, by omega, by omega⟩
    | true =>
      cases hq : (w1 == sq) with
      | false => exact ⟨q, true, wt, hd, air, by simp [hq], by omega, by omega, by omega⟩
      | true =>
        have hpos := hb rfl
        have hr := row0 (m := (sub q (Int.toNat 1) (Int.toNat (q.length : Int))).length) (Nat.le_trans (sub_le _ _ _) h1)
        have hc : (decide (0 ≤ 1) && decide ((1 : Int) ≤ (q.length : Int)) && decide ((q.length : Int) ≤ (q.length : Int))) = true := by simp; omega
        refine ⟨sub q (Int.toNat 1) (Int.toNat (q.length : Int)), false, wt, hd, air, ?_, sub_le _ _ _, by omega, by omega⟩
        simp only [cond_true, Option.bind_some, hq, hc, List.length_nil, Nat.zero_add, hr, List.nil_append]
  | false =>
    have hr := row1 (m := hd.length) (by omega)
    have fin : ∀ (wt' : Int) (hd' : List Int), hd'.length ≤ hd.length + 1 → ∃ q' b' wt2 hd2 air', (bif decide (w1 < wt') then some (q, sq, b, du, nw, wt', hd', bif decide (air.length < 30) then air ++ [(true, w1, 0)] else air) else some (q, sq, b, du, nw, wt', hd', air)) = (some (q', sq, b', du, nw, wt2, hd2, air') : Option Lk) ∧ q'.length ≤ q.length ∧ hd2.length ≤ hd.length + 1 ∧ air'.length ≤ air.length + 1 := by
      intro wt' hd' hl
      cases decide (w1 < wt') with
      | true => exact ⟨q, b, wt', hd', _, rfl, Nat.le_refl _, hl, airs_len air (true, w1, 0)⟩
      | false => exact ⟨q, b, wt', hd', air, rfl, Nat.le_refl _, hl, by omega⟩
    cases hq : (w1 == wt) with
    | false =>
      simp only [cond_false, Option.bind_some]
      exact fin wt hd (by omega)
    | true =>
      cases hl : decide ((hd.length : Int) < 10000) with
      | false =>
        simp only [cond_false, cond_true, Option.bind_some]
        exact fin wt hd (by omega)
      | true =>
        simp only [cond_false, cond_true, Option.bind_some, List.length_singleton, hr]
        exact fin (w64 (wt + 1)) (hd ++ [w2]) (by simp)


/-- The air without one word. -/
def cut (air : List SBII) (i : Int) : List SBII := sub air (Int.toNat (0 : Int)) (Int.toNat i) ++ sub air (Int.toNat (w64 (i + 1))) (Int.toNat (air.length : Int))
theorem cut_len (air : List SBII) (h : air.length ≤ 1048576) (i : Nat) (hi : i < air.length) : (cut air (i : Int)).length ≤ air.length := by
  unfold cut
  rw [w64_nat hi (by omega)]
  unfold sub
  simp; omega
theorem cut_ok (air : List SBII) (h : air.length ≤ 1048576) (i : Nat) (hi : i < air.length) :
    (decide (0 ≤ (0 : Int)) && decide ((0 : Int) ≤ (i : Int)) && decide ((i : Int) ≤ (air.length : Int))) = true ∧ decide ((sub air (Int.toNat (0 : Int)) (Int.toNat (i : Int))).length ≤ maxRow) = true ∧
    (decide (0 ≤ w64 ((i : Int) + 1)) && decide (w64 ((i : Int) + 1) ≤ (air.length : Int)) && decide ((air.length : Int) ≤ (air.length : Int))) = true ∧
    decide ((sub air (Int.toNat (0 : Int)) (Int.toNat (i : Int))).length + (sub air (Int.toNat (w64 ((i : Int) + 1))) (Int.toNat (air.length : Int))).length ≤ maxRow) = true := by
  refine ⟨by simp; omega, row0 (Nat.le_trans (sub_le _ _ _) h), by rw [w64_nat hi (by omega)]; simp; omega, ?_⟩
  have := cut_len air h i hi
  unfold cut at this
  rw [List.length_append] at this
  exact row0 (by omega)


theorem impl_Link_drop_ok (q : List Int) (sq : Int) (b : Bool) (du nw wt : Int) (hd : List Int) (air : List SBII) (h : air.length ≤ 1048576) (i : Nat) (hi : i < air.length) :
    impl_Link_drop q sq b du nw wt hd air (i : Int) = some (air[i].1, air[i].2.1, air[i].2.2, q, sq, b, du, nw, wt, hd, cut air (i : Int)) := by
  obtain ⟨c1, c2, c3, c4⟩ := cut_ok air h i hi
  unfold impl_Link_drop
  simp only [inb_lt hi, c1, c2, c3, c4, cond_true]
  simp [hi, cut]


theorem impl_Link_hear_ok (q : List Int) (sq : Int) (b : Bool) (du nw wt : Int) (hd : List Int) (air : List SBII) (h : air.length ≤ 1048576) (i : Nat) (hi : i < air.length) :
    impl_Link_hear q sq b du nw wt hd air (i : Int) = spec_l10Hear q sq b du nw wt hd (cut air (i : Int)) air[i].1 air[i].2.1 air[i].2.2 := by
  unfold impl_Link_hear
  rw [impl_Link_drop_ok q sq b du nw wt hd air h i hi]
  unfold spec_l10Hear impl_copyInts
  simp only [Option.bind_some, say_eq, spec_l10Says_ok, List.length_nil, Nat.zero_add, List.nil_append]
  generalize cut air (i : Int) = air'
  generalize air[i] = w
  obtain ⟨w0, w1, w2⟩ := w
  dsimp only
  cases w0
  · cases b <;> cases (w1 == wt) <;> cases decide ((hd.length : Int) < 10000) <;> first | rfl | (cases decide (hd.length + [w2].length ≤ maxRow) <;> rfl)
  · cases b
    · rfl
    · cases (w1 == sq)
      · rfl
      · cases (decide (0 ≤ 1) && decide ((1 : Int) ≤ (q.length : Int)) && decide ((q.length : Int) ≤ (q.length : Int)))
        · rfl
        · simp only [cond_true, Option.bind_some]
          cases decide ((sub q (Int.toNat 1) (Int.toNat (q.length : Int))).length ≤ maxRow) <;> rfl


theorem linkOk_more {a : Lk} (h : linkOk a = true) : a.2.2.2.2.2.2.1.length ≤ 10000 ∧ a.2.2.2.2.2.2.2.length ≤ 30 ∧ (a.2.2.1 = true → 0 < a.1.length) := by
  unfold linkOk at h
  simp only [Bool.and_eq_true, decide_eq_true_eq, Bool.or_eq_true, Bool.not_eq_true'] at h
  obtain ⟨q, sq, b, du, nw, wt, hd, air⟩ := a
  dsimp only at h ⊢
  refine ⟨by omega, by omega, fun hb => ?_⟩
  subst hb
  simp at h
  omega
theorem spec_l10Do_ok (a : Lk) (hk : linkOk a = true) (c i : Int) : ∃ (x : Lk) (t : Bool), spec_l10Do a.1 a.2.1 a.2.2.1 a.2.2.2.1 a.2.2.2.2.1 a.2.2.2.2.2.1 a.2.2.2.2.2.2.1 a.2.2.2.2.2.2.2 c i = some (t, x) ∧ sm_Link x := by
  have h1 := linkOk_len hk
  obtain ⟨h2, h3, hb⟩ := linkOk_more hk
  obtain ⟨q, sq, b, du, nw, wt, hd, air⟩ := a
  dsimp only at h1 h2 h3 hb ⊢
  have same : sm_Link (q, sq, b, du, nw, wt, hd, air) := ⟨by show q.length ≤ _; omega, by show hd.length ≤ _; omega, by show air.length ≤ _; omega⟩
  unfold spec_l10Do
  cases c1 : (c == 1) with
  | true =>
    obtain ⟨sq', b', du', nw', air', e, hl⟩ := spec_l10Tick_ok q sq b du nw wt hd air hb
    exact ⟨_, true, by simp only [cond_true, e, Option.bind_some]; rfl, by show q.length ≤ _; omega, by show hd.length ≤ _; omega, by show air'.length ≤ _; omega⟩
  | false =>
    simp only [cond_false, l1In_ok, Option.bind_some]
    have hw : w64 ((air.length : Int) - 1) = (air.length : Int) - 1 := w64_eq (by omega) (by omega)
    rw [hw]
    cases c2 : (decide (2 ≤ c) && decide (c ≤ 4)) with
    | false => exact ⟨_, false, by first | rfl | (simp only [Bool.not_false, cond_true, Option.bind_some]; done) | (simp only [Bool.not_false, cond_true, Option.bind_some]; rfl), same⟩
    | true =>
      cases c3 : (decide (0 ≤ i) && decide (i ≤ (air.length : Int) - 1)) with
      | false => exact ⟨_, false, by first | rfl | (simp only [Bool.not_false, Bool.not_true, cond_true, cond_false, Option.bind_some]; done) | (simp only [Bool.not_false, Bool.not_true, cond_true, cond_false, Option.bind_some]; rfl), same⟩
      | true =>
        have c3' : 0 ≤ i ∧ i ≤ (air.length : Int) - 1 := by simpa using c3
        obtain ⟨m, rfl⟩ : ∃ m : Nat, i = (m : Int) := ⟨i.toNat, by omega⟩
        have hm : m < air.length := by omega
        obtain ⟨d1, d2, d3, d4⟩ := cut_ok air (by omega) m hm
        have hcl := cut_len air (by omega) m hm
        cases c4 : (c == 4) with
        | true =>
          cases c5 : ((air.length : Int) == 30) with
          | true => exact ⟨_, false, by first | rfl | (simp only [Bool.not_true, cond_true, cond_false, Option.bind_some, c5]; done) | (simp only [Bool.not_true, cond_true, cond_false, Option.bind_some, c5]; rfl), same⟩
          | false =>
            have hr := row1 (m := air.length) (by omega)
            refine ⟨(q, sq, b, du, nw, wt, hd, air ++ [(air[m].1, air[m].2.1, air[m].2.2)]), true, ?_, ⟨by show q.length ≤ _; omega, by show hd.length ≤ _; omega, by show (air ++ [_]).length ≤ _; simp; omega⟩⟩
            have hgo : air[(m : Int).toNat]? = some air[m] := by simp [hm]
            simp only [Bool.not_true, cond_true, cond_false, Option.bind_some, inb_lt hm, c5, List.length_singleton, hr, hgo]
        | false =>
          have hgo : air[(m : Int).toNat]? = some air[m] := by simp [hm]
          simp only [Bool.not_true, cond_true, cond_false, Option.bind_some, inb_lt hm, hgo, d1, d2, d3, d4, List.length_nil, Nat.zero_add, List.nil_append]
          have hcut : sub air (Int.toNat (0 : Int)) (Int.toNat (m : Int)) ++ sub air (Int.toNat (w64 ((m : Int) + 1))) (Int.toNat (air.length : Int)) = cut air (m : Int) := rfl
          rw [hcut]
          cases c6 : (c == 2) with
          | false => exact ⟨_, true, by simp only [cond_false, Option.bind_some]; rfl, by show q.length ≤ _; omega, by show hd.length ≤ _; omega, by show (cut air (m : Int)).length ≤ _; omega⟩
          | true =>
            obtain ⟨q', b', wt', hd', air', e, l1, l2, l3⟩ := spec_l10Hear_ok q sq b du nw wt hd (cut air (m : Int)) air[m].1 air[m].2.1 air[m].2.2 hb (by omega) (by omega)
            exact ⟨_, true, by simp only [cond_true, e, Option.bind_some]; rfl, by show q'.length ≤ _; omega, by show hd'.length ≤ _; omega, by show air'.length ≤ _; omega⟩


/-- Two loops that go alike, and end. -/
theorem iter_two {α γ : Type} (f g : α → Option (α ⊕ γ)) (I : Nat → α → Prop) (Q : γ → Prop) (m : Nat)
    (h : ∀ i x, i ≤ m → I i x → g x = f x ∧ ((∃ y, f x = some (.inl y) ∧ I (i + 1) y ∧ i < m) ∨ ∃ r, f x = some (.inr r) ∧ Q r)) :
    ∀ n, m < n → ∀ x, I 0 x → iter n g x = iter n f x ∧ ∃ r, iter n f x = some r ∧ Q r := by
  have key : ∀ d i n x, i + d = m → d < n → I i x → iter n g x = iter n f x ∧ ∃ r, iter n f x = some r ∧ Q r := by
    intro d
    induction d with
    | zero =>
      intro i n x hi hn hI
      obtain ⟨n, rfl⟩ : ∃ k, n = k + 1 := ⟨n - 1, by omega⟩
      obtain ⟨e, h1 | ⟨r, h1, h2⟩⟩ := h i x (by omega) hI
      · obtain ⟨y, _, _, hlt⟩ := h1; omega
      · exact ⟨by rw [iter_end h1 n, iter_end (e.trans h1) n], r, iter_end h1 n, h2⟩
    | succ d ih =>
      intro i n x hi hn hI
      obtain ⟨n, rfl⟩ : ∃ k, n = k + 1 := ⟨n - 1, by omega⟩
      obtain ⟨e, ⟨y, h1, h2, _⟩ | ⟨r, h1, h2⟩⟩ := h i x (by omega) hI
      · obtain ⟨j1, j2⟩ := ih (i + 1) n y (by omega) (by omega) h2
        rw [iter_go h1 n, iter_go (e.trans h1) n]
        exact ⟨j1, j2⟩
      · exact ⟨by rw [iter_end h1 n, iter_end (e.trans h1) n], r, iter_end h1 n, h2⟩
  exact fun n hn x hx => key m 0 n x (by omega) hn hx


def CInv (a : Lk) : Prop := (a.2.2.1 = true → 0 < a.1.length) ∧ a.1.length ≤ 40 ∧ a.2.2.2.2.2.2.1.length ≤ 10000 ∧ a.2.2.2.2.2.2.2.length ≤ 30
theorem airs_30 {air : List SBII} (h : air.length ≤ 30) (w : SBII) : (bif decide (air.length < 30) then air ++ [w] else air).length ≤ 30 := by
  by_cases q : air.length < 30
  · rw [show decide (air.length < 30) = true by simpa using q]; simp; omega
  · rw [show decide (air.length < 30) = false by simpa using q]; exact h


theorem spec_l10Tick_inv (a : Lk) (h : CInv a) : ∃ b : Lk, spec_l10Tick a.1 a.2.1 a.2.2.1 a.2.2.2.1 a.2.2.2.2.1 a.2.2.2.2.2.1 a.2.2.2.2.2.2.1 a.2.2.2.2.2.2.2 = some b ∧ CInv b := by
  obtain ⟨q, sq, b, du, nw, wt, hd, air⟩ := a
  obtain ⟨hb, h1, h2, h3⟩ := h
  dsimp only at hb h1 h2 h3 ⊢
  unfold spec_l10Tick
  simp only [spec_l10Says_ok]
  have h1' : ∀ nw', ∃ b2 : Lk, ((bif !b then bif decide ((q.length : Int) > 0) then some (decide (sq < 1000000)) else some false else some false).bind fun x2 =>
      bif x2 then bif inb q 0 then (q[Int.toNat 0]?).bind fun x3 => some (q, w64 (sq + 1), true, w64 (nw' + 3), nw', wt, hd, bif decide (air.length < 30) then air ++ [(false, w64 (sq + 1), x3)] else air) else none
      else (bif b then some (decide (nw' ≥ du)) else some false).bind fun x5 =>
        bif x5 then bif inb q 0 then (q[Int.toNat 0]?).bind fun x6 => some (q, sq, b, w64 (nw' + 3), nw', wt, hd, bif decide (air.length < 30) then air ++ [(false, sq, x6)] else air) else none
        else some (q, sq, b, du, nw', wt, hd, air)) = (some b2 : Option Lk) ∧ CInv b2 := by
    intro nw'
    cases q with
    | nil =>
      have hbf : b = false := by cases b with | false => rfl | true => simp at hb
      subst hbf
      exact ⟨_, by simp; rfl, by simp, by simp, h2, h3⟩
    | cons x q =>
      have hin : inb (x :: q) 0 = true := by rw [show (0 : Int) = ((0 : Nat) : Int) from rfl, inb_nat]; simp
      simp only [hin]
      cases b with
      | false =>
        cases hs : decide (sq < 1000000) with
        | true => exact ⟨_, by simp; rfl, fun _ => by simp, h1, h2, airs_30 h3 _⟩
        | false => exact ⟨_, by simp; rfl, fun hh => (by cases hh), h1, h2, h3⟩
      | true =>
        cases hs : decide (nw' ≥ du) with
        | true => exact ⟨_, by simp; rfl, fun _ => by simp, h1, h2, airs_30 h3 _⟩
        | false => exact ⟨_, by simp; rfl, fun _ => by simp, h1, h2, h3⟩
  cases decide (nw < 9999997) with
  | true => exact h1' _
  | false => exact h1' _


theorem spec_l10Hear_inv (a : Lk) (h : CInv a) (w : SBII) : ∃ b : Lk, spec_l10Hear a.1 a.2.1 a.2.2.1 a.2.2.2.1 a.2.2.2.2.1 a.2.2.2.2.2.1 a.2.2.2.2.2.2.1 a.2.2.2.2.2.2.2 w.1 w.2.1 w.2.2 = some b ∧ CInv b := by
  obtain ⟨q, sq, b, du, nw, wt, hd, air⟩ := a
  obtain ⟨w0, w1, w2⟩ := w
  obtain ⟨hb, h1, h2, h3⟩ := h
  dsimp only at hb h1 h2 h3 ⊢
  unfold spec_l10Hear
  simp only [spec_l10Says_ok]
  cases w0 with
  | true =>
    cases b with
    | false => exact ⟨_, rfl, fun hh => (by cases hh), h1, h2, h3⟩
    | true =>
      cases hq : (w1 == sq) with
      | false => exact ⟨_, by simp; rfl, hb, h1, h2, h3⟩
      | true =>
        have hpos := hb rfl
        have hr := row0 (m := (sub q (Int.toNat 1) (Int.toNat (q.length : Int))).length) (Nat.le_trans (sub_le _ _ _) (by omega))
        have hc : (decide (0 ≤ 1) && decide ((1 : Int) ≤ (q.length : Int)) && decide ((q.length : Int) ≤ (q.length : Int))) = true := by simp; omega
        refine ⟨(sub q (Int.toNat 1) (Int.toNat (q.length : Int)), sq, false, du, nw, wt, hd, air), ?_, fun hh => (by cases hh), Nat.le_trans (sub_le _ _ _) h1, h2, h3⟩
        simp only [cond_true, Option.bind_some, hc, List.length_nil, Nat.zero_add, hr, List.nil_append]
  | false =>
    have hr := row1 (m := hd.length) (by omega)
    have fin : ∀ (wt' : Int) (hd' : List Int), hd'.length ≤ 10000 → ∃ b2 : Lk, (bif decide (w1 < wt') then some (q, sq, b, du, nw, wt', hd', bif decide (air.length < 30) then air ++ [(true, w1, 0)] else air) else some (q, sq, b, du, nw, wt', hd', air)) = (some b2 : Option Lk) ∧ CInv b2 := by
      intro wt' hd' hl
      cases decide (w1 < wt') with
      | true => exact ⟨_, rfl, hb, h1, hl, airs_30 h3 _⟩
      | false => exact ⟨_, rfl, hb, h1, hl, h3⟩
    cases hq : (w1 == wt) with
    | false =>
      simp only [cond_false, Option.bind_some]
      exact fin wt hd h2
    | true =>
      cases hl : decide ((hd.length : Int) < 10000) with
      | false =>
        simp only [cond_false, cond_true, Option.bind_some]
        exact fin wt hd h2
      | true =>
        have hl' : (hd.length : Int) < 10000 := of_decide_eq_true hl
        simp only [cond_false, cond_true, Option.bind_some, List.length_singleton, hr]
        exact fin (w64 (wt + 1)) (hd ++ [w2]) (by simp; omega)


theorem cut_len0 (air : List SBII) (h : air.length ≤ 30) (hp : 0 < air.length) : (cut air 0).length ≤ 30 := Nat.le_trans (cut_len air (by omega) 0 hp) h
theorem spec_l10Do_hear (a : Lk) (h : CInv a) (hp : 0 < a.2.2.2.2.2.2.2.length) : ∃ b : Lk, spec_l10Do a.1 a.2.1 a.2.2.1 a.2.2.2.1 a.2.2.2.2.1 a.2.2.2.2.2.1 a.2.2.2.2.2.2.1 a.2.2.2.2.2.2.2 2 0 = some (true, b) ∧
    spec_l10Hear a.1 a.2.1 a.2.2.1 a.2.2.2.1 a.2.2.2.2.1 a.2.2.2.2.2.1 a.2.2.2.2.2.2.1 (cut a.2.2.2.2.2.2.2 0) a.2.2.2.2.2.2.2[0].1 a.2.2.2.2.2.2.2[0].2.1 a.2.2.2.2.2.2.2[0].2.2 = some b ∧ CInv b := by
  obtain ⟨q, sq, b, du, nw, wt, hd, air⟩ := a
  have h0 := h
  obtain ⟨hb, h1, h2, h3⟩ := h
  dsimp only at hb h1 h2 h3 hp ⊢
  obtain ⟨b2, e, hi⟩ := spec_l10Hear_inv (q, sq, b, du, nw, wt, hd, cut air 0) ⟨hb, h1, h2, cut_len0 air h3 hp⟩ air[0]
  dsimp only at e
  refine ⟨b2, ?_, e, hi⟩
  unfold spec_l10Do
  have hw : w64 ((air.length : Int) - 1) = (air.length : Int) - 1 := w64_eq (by omega) (by omega)
  obtain ⟨d1, d2, d3, d4⟩ := cut_ok air (by omega) 0 hp
  have hcut : sub air (Int.toNat (0 : Int)) (Int.toNat ((0 : Nat) : Int)) ++ sub air (Int.toNat (w64 (((0 : Nat) : Int) + 1))) (Int.toNat (air.length : Int)) = cut air 0 := rfl
  have hin := inb_lt (xs := air) hp
  have hgo : air[Int.toNat ((0 : Nat) : Int)]? = some air[0] := by simp [hp]
  rw [show ((0 : Nat) : Int) = 0 from rfl] at d1 d2 d3 d4 hcut hin hgo
  have c1 : (decide (2 ≤ (2 : Int)) && decide ((2 : Int) ≤ 4)) = true := rfl
  have c2 : (decide (0 ≤ (0 : Int)) && decide ((0 : Int) ≤ (air.length : Int) - 1)) = true := by simp; omega
  rw [show ((2 : Int) == 1) = false from rfl]
  simp only [cond_false, l1In_ok, Option.bind_some, hw, c1, c2, Bool.not_true, show ((2 : Int) == 4) = false from rfl, hin, cond_true, hgo, d1, d2, d3, d4, List.length_nil, Nat.zero_add, List.nil_append, hcut, show ((2 : Int) == 2) = true from rfl, e]


theorem calm_in (n : Nat) (hn : BIG ≤ n) (a : Lk) (h : CInv a) : iter n impl_Calm_L2 (0, a) = iter n spec_Calm_L2 (0, a) ∧ ∃ r : Int × Lk, iter n spec_Calm_L2 (0, a) = some r ∧ CInv r.2 := by
  refine iter_two (α := Int × Lk) (γ := Int × Lk) spec_Calm_L2 impl_Calm_L2 (fun i x => x.1 = (i : Int) ∧ CInv x.2) (fun r => CInv r.2) 60 (fun i x hi hI => ?_) n (by unfold BIG at hn; omega) (0, a) ⟨rfl, h⟩
  obtain ⟨k, c⟩ := x
  obtain ⟨hk, hc⟩ := hI
  dsimp only at hk hc
  subst hk
  unfold spec_Calm_L2 impl_Calm_L2
  dsimp only
  by_cases h60 : i < 60
  case neg =>
    rw [show decide ((i : Int) < 60) = false by simp; omega]
    exact ⟨rfl, .inr ⟨_, rfl, hc⟩⟩
  rw [show decide ((i : Int) < 60) = true by simp; omega]
  by_cases hp : 0 < c.2.2.2.2.2.2.2.length
  case neg =>
    rw [show decide ((c.2.2.2.2.2.2.2.length : Int) > 0) = false by rw [decide_eq_false_iff_not]; omega]
    exact ⟨rfl, .inr ⟨_, rfl, hc⟩⟩
  rw [show decide ((c.2.2.2.2.2.2.2.length : Int) > 0) = true by rw [decide_eq_true_eq]; omega]
  obtain ⟨b, e1, e2, hb⟩ := spec_l10Do_hear c hc hp
  have e3 := impl_Link_hear_ok c.1 c.2.1 c.2.2.1 c.2.2.2.1 c.2.2.2.2.1 c.2.2.2.2.2.1 c.2.2.2.2.2.2.1 c.2.2.2.2.2.2.2 (by have := hc.2.2.2; omega) 0 hp
  rw [show ((0 : Nat) : Int) = 0 from rfl, e2] at e3
  simp only [cond_true, Option.bind_some, e1, e3]
  refine ⟨by trivial, .inl ⟨_, rfl, ⟨?_, hb⟩, h60⟩⟩
  exact w64_nat (m := 60) h60 (by omega)
theorem calm_out (n : Nat) (hn : BIG ≤ n) (a : Lk) (hs : sm_Link a) (hk : linkOk a = true) (c : Lk) (h : CInv c) : iter n (impl_Calm_L1 n) (0, c) = iter n (spec_Calm_L1 n a.1 a.2.1 a.2.2.1 a.2.2.2.1 a.2.2.2.2.1 a.2.2.2.2.2.1 a.2.2.2.2.2.2.1 a.2.2.2.2.2.2.2) (0, c) ∧
    ∃ r : Int × Lk, iter n (spec_Calm_L1 n a.1 a.2.1 a.2.2.1 a.2.2.2.1 a.2.2.2.2.1 a.2.2.2.2.2.1 a.2.2.2.2.2.2.1 a.2.2.2.2.2.2.2) (0, c) = some r ∧ CInv r.2 := by
  refine iter_two (α := Int × Lk) (γ := Int × Lk) (spec_Calm_L1 n a.1 a.2.1 a.2.2.1 a.2.2.2.1 a.2.2.2.2.1 a.2.2.2.2.2.1 a.2.2.2.2.2.2.1 a.2.2.2.2.2.2.2) (impl_Calm_L1 n) (fun i x => x.1 = (i : Int) ∧ CInv x.2) (fun r => CInv r.2) 200 (fun i x hi hI => ?_) n (by unfold BIG at hn; omega) (0, c) ⟨rfl, h⟩
  obtain ⟨k, c⟩ := x
  obtain ⟨hk', hc⟩ := hI
  dsimp only at hk' hc
  subst hk'
  unfold spec_Calm_L1 impl_Calm_L1
  rw [spec_LinkOk_ok a hs.1 hs.2.1 hs.2.2 n hn, hk]
  dsimp only
  by_cases h200 : i < 200
  case neg =>
    rw [show decide ((i : Int) < 200) = false by simp; omega]
    exact ⟨rfl, .inr ⟨_, rfl, hc⟩⟩
  rw [show decide ((i : Int) < 200) = true by simp; omega]
  obtain ⟨b, e1, hb⟩ := spec_l10Tick_inv c hc
  obtain ⟨f1, r, f2, hr⟩ := calm_in n hn b hb
  have go : ((spec_l10Tick c.1 c.2.1 c.2.2.1 c.2.2.2.1 c.2.2.2.2.1 c.2.2.2.2.2.1 c.2.2.2.2.2.2.1 c.2.2.2.2.2.2.2).bind fun x5 => (iter n spec_Calm_L2 (0, x5.1, x5.2.1, x5.2.2.1, x5.2.2.2.1, x5.2.2.2.2.1, x5.2.2.2.2.2.1, x5.2.2.2.2.2.2.1, x5.2.2.2.2.2.2.2)).bind fun x9 =>
      (some (.inl (w64 ((i : Int) + 1), x9.2.1, x9.2.2.1, x9.2.2.2.1, x9.2.2.2.2.1, x9.2.2.2.2.2.1, x9.2.2.2.2.2.2.1, x9.2.2.2.2.2.2.2.1, x9.2.2.2.2.2.2.2.2)) : Option ((Int × Lk) ⊕ (Int × Lk)))) = some (.inl (((i + 1 : Nat) : Int), r.2)) := by
    rw [e1, Option.bind_some]
    rw [show ((0 : Int), b.1, b.2.1, b.2.2.1, b.2.2.2.1, b.2.2.2.2.1, b.2.2.2.2.2.1, b.2.2.2.2.2.2.1, b.2.2.2.2.2.2.2) = ((0 : Int), b) from rfl, f2, Option.bind_some, w64_nat (m := 200) h200 (by omega)]
  have go2 : ((spec_l10Tick c.1 c.2.1 c.2.2.1 c.2.2.2.1 c.2.2.2.2.1 c.2.2.2.2.2.1 c.2.2.2.2.2.2.1 c.2.2.2.2.2.2.2).bind fun x5 => (iter n impl_Calm_L2 (0, x5.1, x5.2.1, x5.2.2.1, x5.2.2.2.1, x5.2.2.2.2.1, x5.2.2.2.2.2.1, x5.2.2.2.2.2.2.1, x5.2.2.2.2.2.2.2)).bind fun x9 =>
      (some (.inl (w64 ((i : Int) + 1), x9.2.1, x9.2.2.1, x9.2.2.2.1, x9.2.2.2.2.1, x9.2.2.2.2.2.1, x9.2.2.2.2.2.2.1, x9.2.2.2.2.2.2.2.1, x9.2.2.2.2.2.2.2.2)) : Option ((Int × Lk) ⊕ (Int × Lk)))) = some (.inl (((i + 1 : Nat) : Int), r.2)) := by
    rw [e1, Option.bind_some]
    rw [show ((0 : Int), b.1, b.2.1, b.2.2.1, b.2.2.2.1, b.2.2.2.2.1, b.2.2.2.2.2.1, b.2.2.2.2.2.2.1, b.2.2.2.2.2.2.2) = ((0 : Int), b) from rfl, f1, f2, Option.bind_some, w64_nat (m := 200) h200 (by omega)]
  simp only [tick_eq]
  cases decide ((c.1.length : Int) > 0) <;> cases decide ((c.2.2.2.2.2.2.2.length : Int) > 0)
  · exact ⟨rfl, .inr ⟨_, rfl, hc⟩⟩
  all_goals
    simp only [cond_true, cond_false, Option.bind_some]
    exact ⟨go2.trans go.symm, .inl ⟨_, go, ⟨rfl, hr⟩, h200⟩⟩
theorem linkOk_inv {a : Lk} (h : linkOk a = true) : CInv a := by
  obtain ⟨h2, h3, hb⟩ := linkOk_more h
  exact ⟨hb, linkOk_len h, h2, h3⟩
theorem CInv.sm {a : Lk} (h : CInv a) : sm_Link a := ⟨by show a.1.length ≤ _; have := h.2.1; omega, by show a.2.2.2.2.2.2.1.length ≤ _; have := h.2.2.1; omega, by show a.2.2.2.2.2.2.2.length ≤ _; have := h.2.2.2; omega⟩


theorem Calm_ok (a : Lk) (h : sm_Link a) (hw : fI a.2.2.2.2.2.1) (n : Nat) (hn : BIG ≤ n) : ∃ x : Lk, spec_Calm n a.1 a.2.1 a.2.2.1 a.2.2.2.1 a.2.2.2.2.1 a.2.2.2.2.2.1 a.2.2.2.2.2.2.1 a.2.2.2.2.2.2.2 = some x ∧
    impl_Calm n a.1 a.2.1 a.2.2.1 a.2.2.2.1 a.2.2.2.2.1 a.2.2.2.2.2.1 a.2.2.2.2.2.2.1 a.2.2.2.2.2.2.2 = some x ∧ sm_Link x := by
  unfold spec_Calm impl_Calm
  rw [spec_l10Copy_ok a h, impl_copyLink_ok a h, impl_LinkOk_ok a h.1 h.2.1 h.2.2 hw n hn]
  simp only [Option.bind_some]
  rw [show ((0 : Int), a.1, a.2.1, a.2.2.1, a.2.2.2.1, a.2.2.2.2.1, a.2.2.2.2.2.1, a.2.2.2.2.2.2.1, a.2.2.2.2.2.2.2) = ((0 : Int), a) from rfl]
  cases hk : linkOk a with
  | false =>
    obtain ⟨m, rfl⟩ : ∃ m, n = m + 1 := ⟨n - 1, by unfold BIG at hn; omega⟩
    have : spec_Calm_L1 (m + 1) a.1 a.2.1 a.2.2.1 a.2.2.2.1 a.2.2.2.2.1 a.2.2.2.2.2.1 a.2.2.2.2.2.2.1 a.2.2.2.2.2.2.2 ((0 : Int), a) = some (.inr ((0 : Int), a)) := by
      unfold spec_Calm_L1
      rw [spec_LinkOk_ok a h.1 h.2.1 h.2.2 (m + 1) hn, hk]
      rfl
    rw [iter_end this m]
    exact ⟨a, rfl, rfl, h⟩
  | true =>
    obtain ⟨f1, r, f2, hr⟩ := calm_out n hn a h hk a (linkOk_inv hk)
    refine ⟨r.2, ?_, ?_, hr.sm⟩
    · rw [f2]; rfl
    · simp only [Bool.not_true, cond_false]
      rw [f1, f2]; rfl


theorem laws_FnExactCalm_pure (a0_0 : List Int) (a0_1 : Int) (a0_2 : Bool) (a0_3 : Int) (a0_4 : Int) (a0_5 : Int) (a0_6 : List Int) (a0_7 : List SBII) (h : fP (fSl fI) (fP fI (fP fB (fP fI (fP fI (fP fI (fP (fSl fI) (fSl (fP fB (fP fI fI))))))))) (a0_0, a0_1, a0_2, a0_3, a0_4, a0_5, a0_6, a0_7)) :
    ∃ n, laws_FnExactCalm n a0_0 a0_1 a0_2 a0_3 a0_4 a0_5 a0_6 a0_7 = some true := by
  refine ⟨BIG, ?_⟩
  let a : Lk := (a0_0, a0_1, a0_2, a0_3, a0_4, a0_5, a0_6, a0_7)
  obtain ⟨r, e0, q0⟩ := laws_szLink_ok a h 1048576 (by omega) (by omega)
  unfold laws_FnExactCalm
  simp only [a] at e0
  rw [e0, Option.bind_some]
  rcases q0 with q0 | ⟨q0, q1, q2⟩
  · rw [show decide (r < 0) = true by simpa using q0]; rfl
  rw [show decide (r < 0) = false by simp; omega, cond_false]
  have t := laws_toLink_ok a q2 BIG (Nat.le_refl _)
  obtain ⟨x, s, i, hr⟩ := Calm_ok a q2 h.2.2.2.2.2.1 BIG (Nat.le_refl _)
  have eo := laws_eqLink_ok a q2 BIG (Nat.le_refl _)
  obtain ⟨k', b0, b6, b7, m1, m2, m3, m4⟩ := laws_markLink_only a q2 1 (by omega) (by omega) BIG (Nat.le_refl _)
  have er := laws_eqLink_ok _ hr BIG (Nat.le_refl _)
  obtain ⟨k2, c0, c6, c7, n1, n2, n3, n4, n5⟩ := laws_markLink_ok _ hr 1 (by omega) (by omega) BIG (Nat.le_refl _)
  have hk : decide (k' < 0) = false := by simp; omega
  have hk2 : decide (k2 < 0) = false := by simp; omega
  simp only [a] at t s i eo m1
  simp only [Option.bind_some, t, s, i, eo, m1]
  simp only [er, n1, n5, hk, hk2, Option.bind_some, Bool.not_true, cond_false, bne_self_eq_false]

end Go.Ev.N
