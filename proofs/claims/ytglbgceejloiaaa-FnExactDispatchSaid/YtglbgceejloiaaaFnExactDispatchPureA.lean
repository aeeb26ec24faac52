/- FnExactDispatch, as a plain law over native forms: what the program's function answers is what the reference's answers. Conditions: none but the lengths' and numbers' bounds. -/
import Derived.Test.YtglbgceejloiaaaFnExactDispatchNat
namespace Go.Ev.N
open Go Go.Ev
set_option linter.unusedVariables false
set_option linter.unusedSimpArgs false

theorem w64_eq {n : Int} (h1 : -9223372036854775808 ≤ n) (h2 : n ≤ 9223372036854775807) : w64 n = n := by
  unfold w64 IntKind.wrap
  simp only [IntKind.bits, IntKind.signed]
  simp
  split <;> omega
theorem w64_up {i : Int} {m : Nat} (h0 : 0 ≤ i) (h : i < (m : Int)) (hm : m ≤ 9223372036854775807) : w64 (i + 1) = i + 1 := w64_eq (by omega) (by omega)
theorem w64_nat {i m : Nat} (h : i < m) (hm : m ≤ 9223372036854775807) : w64 ((i : Int) + 1) = ((i + 1 : Nat) : Int) := by rw [w64_eq (by omega) (by omega)]; omega

theorem getI_nat {α : Type} (xs : List α) (i : Nat) : getI xs (i : Int) = xs[i]? := by
  unfold getI
  rw [if_pos (by omega)]
  simp
theorem getI_lt {α : Type} {xs : List α} {i : Nat} (h : i < xs.length) : getI xs (i : Int) = some xs[i] := by rw [getI_nat]; exact List.getElem?_eq_getElem h
theorem inb_nat {α : Type} (xs : List α) (i : Nat) : inb xs (i : Int) = decide (i < xs.length) := by
  unfold inb
  have : decide (0 ≤ (i : Int)) = true := by simp
  rw [this, Bool.true_and]
  simp
theorem inb_lt {α : Type} {xs : List α} {i : Nat} (h : i < xs.length) : inb xs (i : Int) = true := by rw [inb_nat]; simpa using h
theorem upd_is {α : Type} (l : List α) (n : Nat) (y : α) : upd l n y = l.set n y := upd_set l n y

/-! ### what comes in -/
def fI (x : Int) : Prop := IntKind.min .i64 ≤ x ∧ x ≤ IntKind.max .i64
def fB (_ : Bool) : Prop := True
def fStr (x : List UInt8) : Prop := List.length x ≤ maxLen
def fSl {α : Type} (p : α → Prop) (x : List α) : Prop := List.length x ≤ maxLen ∧ ∀ y, List.Mem y x → p y
def fP {α β : Type} (p : α → Prop) (q : β → Prop) (x : α × β) : Prop := p x.1 ∧ q x.2
theorem fI_b {x : Int} (h : fI x) : -9223372036854775808 ≤ x ∧ x ≤ 9223372036854775807 := by
  unfold fI IntKind.min IntKind.max at h
  simpa [IntKind.bits, IntKind.signed] using h
theorem fSl_len {α : Type} {p : α → Prop} {x : List α} (h : fSl p x) : x.length ≤ 9223372036854775807 := h.1
theorem fSl_mem {α : Type} {p : α → Prop} {x : List α} (h : fSl p x) {y : α} (hy : y ∈ x) : p y := h.2 y hy

/-! ### loops -/

section
variable {α γ σ β : Type}
theorem iter_go {f : α → Option (α ⊕ γ)} {x y : α} (h : f x = some (.inl y)) (n : Nat) : iter (n + 1) f x = iter n f y := by simp [iter, h]
theorem iter_end {f : α → Option (α ⊕ γ)} {x : α} {z : γ} (h : f x = some (.inr z)) (n : Nat) : iter (n + 1) f x = some z := by simp [iter, h]

/-- A loop that goes so many rounds. -/
theorem iter_steps (f : α → Option (α ⊕ γ)) (st : Nat → α) (m : Nat) (r : γ) (hs : ∀ i, i < m → f (st i) = some (.inl (st (i + 1)))) (he : f (st m) = some (.inr r)) : ∀ n, m < n → iter n f (st 0) = some r := by
  have key : ∀ d i n, i + d = m → d < n → iter n f (st i) = some r := by
    intro d
    induction d with
    | zero =>
      intro i n hi hn
      obtain ⟨n, rfl⟩ : ∃ k, n = k + 1 := ⟨n - 1, by omega⟩
      have : i = m := by omega
      subst this
      exact iter_end he n
    | succ d ih =>
      intro i n hi hn
      obtain ⟨n, rfl⟩ : ∃ k, n = k + 1 := ⟨n - 1, by omega⟩
      rw [iter_go (hs i (by omega)) n]
      exact ih (i + 1) n (by omega) (by omega)
  exact fun n hn => key m 0 n (by omega) hn

/-- A loop over a list, with a state: what it answers is told by recursion on what is left. -/
theorem iter_rec (f : α → Option (α ⊕ γ)) (st : Nat → σ → α) (xs : List β) (G : List β → σ → γ) (Inv : Nat → σ → Prop)
    (hend : ∀ s, Inv xs.length s → f (st xs.length s) = some (.inr (G [] s)))
    (hstep : ∀ i x l s, i < xs.length → xs[i]? = some x → xs.drop i = x :: l → xs.drop (i + 1) = l → Inv i s → (∃ s', f (st i s) = some (.inl (st (i + 1) s')) ∧ Inv (i + 1) s' ∧ G (x :: l) s = G l s') ∨ f (st i s) = some (.inr (G (x :: l) s))) :
    ∀ n, xs.length < n → ∀ s, Inv 0 s → iter n f (st 0 s) = some (G xs s) := by
  have key : ∀ d i n s, i + d = xs.length → d < n → Inv i s → iter n f (st i s) = some (G (xs.drop i) s) := by
    intro d
    induction d with
    | zero =>
      intro i n s hi hn hI
      obtain ⟨n, rfl⟩ : ∃ k, n = k + 1 := ⟨n - 1, by omega⟩
      have : i = xs.length := by omega
      subst this
      rw [iter_end (hend s hI) n, List.drop_length]
    | succ d ih =>
      intro i n s hi hn hI
      obtain ⟨n, rfl⟩ : ∃ k, n = k + 1 := ⟨n - 1, by omega⟩
      have hlt : i < xs.length := by omega
      have hd : xs.drop i = xs[i] :: xs.drop (i + 1) := List.drop_eq_getElem_cons hlt
      rcases hstep i xs[i] (xs.drop (i + 1)) s hlt (List.getElem?_eq_getElem hlt) hd rfl hI with ⟨s', h1, h2, h3⟩ | h1
      · rw [iter_go h1 n, ih (i + 1) n s' (by omega) (by omega) h2, hd, h3]
      · rw [iter_end h1 n, hd]
  intro n hn s hI
  have := key xs.length 0 n s (by omega) hn hI
  simpa using this
/-- The same where the state is the number of the round alone. -/
theorem iter_list (f : Int → Option (Int ⊕ γ)) (xs : List β) (G : List β → List β → γ) (hend : f (xs.length : Int) = some (.inr (G xs [])))
    (hstep : ∀ i x l p, i < xs.length → xs[i]? = some x → xs = p ++ x :: l → p.length = i → p = xs.take i → (f (i : Int) = some (.inl ((i + 1 : Nat) : Int)) ∧ G p (x :: l) = G (p ++ [x]) l) ∨ f (i : Int) = some (.inr (G p (x :: l)))) :
    ∀ n, xs.length < n → iter n f 0 = some (G [] xs) := by
  intro n hn
  refine iter_rec (σ := List β) f (fun i _ => (i : Int)) xs (fun l p => G p l) (fun i p => p = xs.take i) (fun s hs => ?_) (fun i x l s h1 h2 h3 h4 h5 => ?_) n hn [] (by simp)
  · have : s = xs := by rw [hs]; simp
    rw [this]; exact hend
  · have hlen : s.length = i := by rw [h5]; simp; omega
    have hx : xs = s ++ x :: l := by rw [← h3, h5, List.take_append_drop]
    rcases hstep i x l s h1 h2 hx hlen h5 with ⟨q1, q2⟩ | q1
    · refine .inl ⟨s ++ [x], q1, ?_, q2⟩
      have hxi : x = xs[i] := by rw [List.getElem?_eq_getElem h1] at h2; exact (Option.some.inj h2).symm
      rw [h5, List.take_succ_eq_append_getElem h1, hxi]
    · exact .inr q1
end

/-- A loop that asks the same of each element. -/
theorem all_loop {β : Type} (f : Int → Option (Int ⊕ (Int ⊕ Bool))) (xs : List β) (P : β → Bool) (hs : ∀ (i : Nat) (x : β), i < xs.length → xs[i]? = some x → f (i : Int) = some (bif P x then .inl ((i + 1 : Nat) : Int) else .inr (.inr false)))
    (he : f (xs.length : Int) = some (.inr (.inl (xs.length : Int)))) : ∀ n, xs.length < n → iter n f 0 = some (bif xs.all P then .inl (xs.length : Int) else .inr false) := by
  intro n hn
  refine iter_list f xs (fun p l => bif l.all P then .inl (xs.length : Int) else .inr false) ?_ ?_ n hn
  · rw [he]; simp
  · intro i x l p h1 h2 h3 h4 h5
    rw [hs i x h1 h2]
    cases hp : P x with
    | true => exact .inl ⟨by simp, by simp [hp]⟩
    | false => exact .inr (by simp [hp])

/-! ### conditions that stand as ways -/
theorem or1 (b c : Bool) : (bif b then some true else some c) = some (b || c) := by cases b <;> rfl
theorem and1 (b c : Bool) : (bif b then some c else some false) = some (b && c) := by cases b <;> rfl
theorem andn (b c : Bool) : (bif b then some false else some c) = some (!b && c) := by cases b <;> rfl
theorem orn (b c : Bool) : (bif b then some c else some true) = some (!b || c) := by cases b <;> rfl
theorem cond_some {α : Type} (b : Bool) (x y : α) : (bif b then some x else some y) = some (bif b then x else y) := by cases b <;> rfl

/-! ### copies -/

/-- A loop that copies. -/
theorem copy_ok {β : Type} (L : Int × List β → Option ((Int × List β) ⊕ (Int × List β))) (xs : List β) (z : β)
    (hL : ∀ (i : Nat) (h : i < xs.length) (out : List β), out.length = xs.length → L ((i : Int), out) = some (.inl (((i + 1 : Nat) : Int), out.set i xs[i]))) (hend : ∀ out, L ((xs.length : Int), out) = some (.inr ((xs.length : Int), out))) :
    ∀ n, xs.length < n → iter n L (0, List.replicate xs.length z) = some ((xs.length : Int), xs) := by
  intro n hn
  have := iter_rec (σ := List β) L (fun i s => ((i : Int), s)) xs (fun l s => ((xs.length : Int), s.take (xs.length - l.length) ++ l)) (fun i s => s.length = xs.length ∧ s.take i = xs.take i)
    (fun s hs => by
      rw [hend s, show s.take (xs.length - ([] : List β).length) ++ [] = s by simp [← hs.1]])
    (fun i x l s h1 h2 h3 h4 h5 => by
      left
      have hx : xs[i] = x := by rw [List.getElem?_eq_getElem h1] at h2; exact Option.some.inj h2
      refine ⟨s.set i xs[i], hL i h1 s h5.1, ⟨by simp [h5.1], ?_⟩, ?_⟩
      · rw [List.take_succ_eq_append_getElem h1, List.take_succ_eq_append_getElem (by simp [h5.1]; exact h1)]
        congr 1
        · rw [List.take_set_of_le (Nat.le_refl i), h5.2]
        · simp
      · have hl : l.length = xs.length - (i + 1) := by rw [← h4]; simp
        congr 1
        rw [List.length_cons, hl, show xs.length - (xs.length - (i + 1) + 1) = i by omega, show xs.length - (xs.length - (i + 1)) = i + 1 by omega]
        rw [List.take_succ_eq_append_getElem (by simp [h5.1]; exact h1), List.take_set_of_le (Nat.le_refl i)]
        simp [hx])
    n hn (List.replicate xs.length z) ⟨by simp, by simp⟩
  simpa using this

/-! ### the largest number of rounds -/
def BIG : Nat := 18446744073709551616
theorem maxLen_eq : maxLen = 9223372036854775807 := rfl

section
variable {β : Type}
open Classical in
/-- What one element becomes ('E': what is known of it). -/
noncomputable def mkOne (E : Int → β → Int → β → Prop) (k : Int) (x : β) : Int × β := if h : ∃ p : Int × β, E k x p.1 p.2 then h.choose else (k, x)
theorem mkOne_ok {E : Int → β → Int → β → Prop} {k : Int} {x : β} (h : ∃ k' x', E k x k' x') : E k x (mkOne E k x).1 (mkOne E k x).2 := by
  have h' : ∃ p : Int × β, E k x p.1 p.2 := let ⟨a, b, c⟩ := h; ⟨(a, b), c⟩
  unfold mkOne
  rw [dif_pos h']
  exact h'.choose_spec
noncomputable def mkAll (E : Int → β → Int → β → Prop) : Int → List β → Int × List β
  | k, [] => (k, [])
  | k, x :: l => ((mkAll E (mkOne E k x).1 l).1, (mkOne E k x).2 :: (mkAll E (mkOne E k x).1 l).2)
theorem mkAll_len (E : Int → β → Int → β → Prop) : ∀ (l : List β) (k : Int), (mkAll E k l).2.length = l.length
  | [], k => rfl
  | x :: l, k => by simp [mkAll, mkAll_len E l]

/-- A loop that marks a row. -/
theorem mark_only (L : Int × Int × List β → Option ((Int × Int × List β) ⊕ (Int × Int × List β))) (sm sm' : β → Prop) (c : Nat) (xs : List β) (hx : ∀ x ∈ xs, sm x) (hlen : xs.length ≤ 1048576)
    (k0 : Int) (h0 : 0 ≤ k0) (hb : k0 + (c : Int) * (xs.length : Int) ≤ 4611686018427387904)
    (hstep : ∀ (k : Int) (x : β), 0 ≤ k → k + (c : Int) ≤ 4611686018427387904 → sm x → ∃ k' x', k ≤ k' ∧ k' ≤ k + c ∧ sm' x' ∧
      (∀ (i : Nat) (ys : List β), i < ys.length → ys.length ≤ 1048576 → ys[i]? = some x → L (k, (i : Int), ys) = some (.inl (k', ((i + 1 : Nat) : Int), ys.set i x'))))
    (hL : ∀ (k : Int) (ys : List β), L (k, (ys.length : Int), ys) = some (.inr (k, (ys.length : Int), ys))) :
    ∀ n, xs.length < n → ∃ k' xs', iter n L (k0, 0, xs) = some (k', (xs.length : Int), xs') ∧ xs'.length = xs.length ∧ k0 ≤ k' ∧ k' ≤ k0 + (c : Int) * (xs.length : Int) ∧ (∀ x ∈ xs', sm' x) := by
  intro n hn
  let E : Int → β → Int → β → Prop := fun k x k' x' => k ≤ k' ∧ k' ≤ k + c ∧ sm' x' ∧
      (∀ (i : Nat) (ys : List β), i < ys.length → ys.length ≤ 1048576 → ys[i]? = some x → L (k, (i : Int), ys) = some (.inl (k', ((i + 1 : Nat) : Int), ys.set i x')))
  have hone : ∀ k x, 0 ≤ k → k + (c : Int) ≤ 4611686018427387904 → sm x → E k x (mkOne E k x).1 (mkOne E k x).2 := fun k x h1 h2 h3 => mkOne_ok (hstep k x h1 h2 h3)
  have bnd : ∀ (l : List β) (k : Int), (∀ x ∈ l, sm x) → 0 ≤ k → k + (c : Int) * (l.length : Int) ≤ 4611686018427387904 → k ≤ (mkAll E k l).1 ∧ (mkAll E k l).1 ≤ k + (c : Int) * (l.length : Int) ∧ ∀ y ∈ (mkAll E k l).2, sm' y := by
    intro l
    induction l with
    | nil => intro k _ h1 h2; simp [mkAll]
    | cons x l ih =>
      intro k hs h1 h2
      have hc : (c : Int) * ((x :: l).length : Int) = c + (c : Int) * (l.length : Int) := by simp [Int.mul_add]; omega
      rw [hc] at h2
      have hcl : 0 ≤ (c : Int) * (l.length : Int) := Int.mul_nonneg (by omega) (by omega)
      obtain ⟨e1, e2, e3, _⟩ := hone k x h1 (by omega) (hs x (by simp))
      obtain ⟨i1, i2, i3⟩ := ih (mkOne E k x).1 (fun y hy => hs y (by simp [hy])) (by omega) (by omega)
      refine ⟨?_, ?_, ?_⟩
      · show k ≤ (mkAll E (mkOne E k x).1 l).1; omega
      · show (mkAll E (mkOne E k x).1 l).1 ≤ _
        rw [hc]; omega
      · intro y hy
        rcases List.mem_cons.1 (show y ∈ (mkOne E k x).2 :: (mkAll E (mkOne E k x).1 l).2 from hy) with rfl | hy
        · exact e3
        · exact i3 y hy
  obtain ⟨b1, b2, b3⟩ := bnd xs k0 hx h0 hb
  have hdrop : ∀ i x l, xs.drop i = x :: l → sm x ∧ ∀ y ∈ l, sm y := by
    intro i x l hd
    have : ∀ y ∈ x :: l, sm y := fun y hy => hx y (List.mem_of_mem_drop (hd ▸ hy))
    exact ⟨this x (by simp), fun y hy => this y (by simp [hy])⟩
  refine ⟨(mkAll E k0 xs).1, (mkAll E k0 xs).2, ?_, mkAll_len E xs k0, b1, b2, b3⟩
  have := iter_rec (σ := Int × List β) L (fun i s => (s.1, (i : Int), s.2)) xs (fun l s => ((mkAll E s.1 l).1, (xs.length : Int), s.2.take (xs.length - l.length) ++ (mkAll E s.1 l).2))
      (fun i s => s.2.length = xs.length ∧ s.2.drop i = xs.drop i ∧ 0 ≤ s.1 ∧ s.1 + (c : Int) * ((xs.length - i : Nat) : Int) ≤ 4611686018427387904)
      (fun s hs => by
        have := hL s.1 s.2
        rw [hs.1] at this
        rw [this]
        simp [mkAll, ← hs.1])
      (fun i x l s h1 h2 h3 h4 h5 => by
        left
        obtain ⟨q1, q2, q3, q4⟩ := h5
        have hll : l.length = xs.length - (i + 1) := by rw [← h4]; simp
        have hsub : xs.length - i = (xs.length - (i + 1)) + 1 := by omega
        have hc : (c : Int) * ((xs.length - i : Nat) : Int) = c + (c : Int) * ((xs.length - (i + 1) : Nat) : Int) := by rw [hsub]; simp [Int.mul_add]; omega
        rw [hc] at q4
        have hcl : 0 ≤ (c : Int) * ((xs.length - (i + 1) : Nat) : Int) := Int.mul_nonneg (by omega) (by omega)
        obtain ⟨e1, e2, e3, e4⟩ := hone s.1 x q3 (by omega) (hdrop i x l h3).1
        have hsi : s.2[i]? = some x := by
          have := congrArg (fun l => l[0]?) (q2.trans h3)
          simpa using this
        refine ⟨((mkOne E s.1 x).1, s.2.set i (mkOne E s.1 x).2), e4 i s.2 (by omega) (by omega) hsi, ⟨by simp [q1], ?_, by omega, by omega⟩, ?_⟩
        · show (s.2.set i (mkOne E s.1 x).2).drop (i + 1) = _
          rw [List.drop_set_of_lt (by omega)]
          have := congrArg (List.drop 1) q2
          simpa using this
        · show (((mkAll E (mkOne E s.1 x).1 l).1, (xs.length : Int), s.2.take (xs.length - (l.length + 1)) ++ (mkOne E s.1 x).2 :: (mkAll E (mkOne E s.1 x).1 l).2) : Int × Int × List β) = ((mkAll E (mkOne E s.1 x).1 l).1, (xs.length : Int), (s.2.set i (mkOne E s.1 x).2).take (xs.length - l.length) ++ (mkAll E (mkOne E s.1 x).1 l).2)
          rw [hll, show xs.length - (xs.length - (i + 1) + 1) = i by omega, show xs.length - (xs.length - (i + 1)) = i + 1 by omega]
          rw [List.take_succ_eq_append_getElem (by simp [q1]; exact h1), List.take_set_of_le (Nat.le_refl i)]
          simp)
      n hn (k0, xs) ⟨rfl, rfl, h0, by simpa using hb⟩
  simpa using this

/-- A loop that marks a row, and one that reads the marks. 'c': how much an element counts at most. -/
theorem mark_loop {γ : Type} (L : Int × Int × List β → Option ((Int × Int × List β) ⊕ (Int × Int × List β))) (H : List β → Int × Int → Option ((Int × Int) ⊕ ((Int × Int) ⊕ γ))) (sm sm' : β → Prop) (c : Nat) (xs : List β) (hx : ∀ x ∈ xs, sm x) (hlen : xs.length ≤ 1048576)
    (k0 : Int) (h0 : 0 ≤ k0) (hb : k0 + (c : Int) * (xs.length : Int) ≤ 4611686018427387904)
    (hstep : ∀ (k : Int) (x : β), 0 ≤ k → k + (c : Int) ≤ 4611686018427387904 → sm x → ∃ k' x', k ≤ k' ∧ k' ≤ k + c ∧ sm' x' ∧
      (∀ (i : Nat) (ys : List β), i < ys.length → ys.length ≤ 1048576 → ys[i]? = some x → L (k, (i : Int), ys) = some (.inl (k', ((i + 1 : Nat) : Int), ys.set i x'))) ∧
      (∀ (i : Nat) (ys : List β), i < ys.length → ys.length ≤ 1048576 → ys[i]? = some x' → H ys (k, (i : Int)) = some (.inl (k', ((i + 1 : Nat) : Int)))))
    (hL : ∀ (k : Int) (ys : List β), L (k, (ys.length : Int), ys) = some (.inr (k, (ys.length : Int), ys))) (hH : ∀ (k : Int) (ys : List β), H ys (k, (ys.length : Int)) = some (.inr (.inl (k, (ys.length : Int))))) :
    ∀ n, xs.length < n → ∃ k' xs', iter n L (k0, 0, xs) = some (k', (xs.length : Int), xs') ∧ xs'.length = xs.length ∧ k0 ≤ k' ∧ k' ≤ k0 + (c : Int) * (xs.length : Int) ∧ (∀ x ∈ xs', sm' x) ∧ iter n (H xs') (k0, 0) = some (.inl (k', (xs.length : Int))) := by
  intro n hn
  let E : Int → β → Int → β → Prop := fun k x k' x' => k ≤ k' ∧ k' ≤ k + c ∧ sm' x' ∧
      (∀ (i : Nat) (ys : List β), i < ys.length → ys.length ≤ 1048576 → ys[i]? = some x → L (k, (i : Int), ys) = some (.inl (k', ((i + 1 : Nat) : Int), ys.set i x'))) ∧
      (∀ (i : Nat) (ys : List β), i < ys.length → ys.length ≤ 1048576 → ys[i]? = some x' → H ys (k, (i : Int)) = some (.inl (k', ((i + 1 : Nat) : Int))))
  have hone : ∀ k x, 0 ≤ k → k + (c : Int) ≤ 4611686018427387904 → sm x → E k x (mkOne E k x).1 (mkOne E k x).2 := fun k x h1 h2 h3 => mkOne_ok (hstep k x h1 h2 h3)
  have bnd : ∀ (l : List β) (k : Int), (∀ x ∈ l, sm x) → 0 ≤ k → k + (c : Int) * (l.length : Int) ≤ 4611686018427387904 → k ≤ (mkAll E k l).1 ∧ (mkAll E k l).1 ≤ k + (c : Int) * (l.length : Int) ∧ ∀ y ∈ (mkAll E k l).2, sm' y := by
    intro l
    induction l with
    | nil => intro k _ h1 h2; simp [mkAll]
    | cons x l ih =>
      intro k hs h1 h2
      have hc : (c : Int) * ((x :: l).length : Int) = c + (c : Int) * (l.length : Int) := by simp [Int.mul_add]; omega
      rw [hc] at h2
      have hcl : 0 ≤ (c : Int) * (l.length : Int) := Int.mul_nonneg (by omega) (by omega)
      obtain ⟨e1, e2, e3, _, _⟩ := hone k x h1 (by omega) (hs x (by simp))
      obtain ⟨i1, i2, i3⟩ := ih (mkOne E k x).1 (fun y hy => hs y (by simp [hy])) (by omega) (by omega)
      refine ⟨?_, ?_, ?_⟩
      · show k ≤ (mkAll E (mkOne E k x).1 l).1; omega
      · show (mkAll E (mkOne E k x).1 l).1 ≤ _
        rw [hc]; omega
      · intro y hy
        rcases List.mem_cons.1 (show y ∈ (mkOne E k x).2 :: (mkAll E (mkOne E k x).1 l).2 from hy) with rfl | hy
        · exact e3
        · exact i3 y hy
  obtain ⟨b1, b2, b3⟩ := bnd xs k0 hx h0 hb
  have hdrop : ∀ i x l, xs.drop i = x :: l → sm x ∧ ∀ y ∈ l, sm y := by
    intro i x l hd
    have : ∀ y ∈ x :: l, sm y := fun y hy => hx y (List.mem_of_mem_drop (hd ▸ hy))
    exact ⟨this x (by simp), fun y hy => this y (by simp [hy])⟩
  refine ⟨(mkAll E k0 xs).1, (mkAll E k0 xs).2, ?_, mkAll_len E xs k0, b1, b2, b3, ?_⟩
  · have := iter_rec (σ := Int × List β) L (fun i s => (s.1, (i : Int), s.2)) xs (fun l s => ((mkAll E s.1 l).1, (xs.length : Int), s.2.take (xs.length - l.length) ++ (mkAll E s.1 l).2))
      (fun i s => s.2.length = xs.length ∧ s.2.drop i = xs.drop i ∧ 0 ≤ s.1 ∧ s.1 + (c : Int) * ((xs.length - i : Nat) : Int) ≤ 4611686018427387904)
      (fun s hs => by
        have := hL s.1 s.2
        rw [hs.1] at this
        rw [this]
        simp [mkAll, ← hs.1])
      (fun i x l s h1 h2 h3 h4 h5 => by
        left
        obtain ⟨q1, q2, q3, q4⟩ := h5
        have hll : l.length = xs.length - (i + 1) := by rw [← h4]; simp
        have hsub : xs.length - i = (xs.length - (i + 1)) + 1 := by omega
        have hc : (c : Int) * ((xs.length - i : Nat) : Int) = c + (c : Int) * ((xs.length - (i + 1) : Nat) : Int) := by rw [hsub]; simp [Int.mul_add]; omega
        rw [hc] at q4
        have hcl : 0 ≤ (c : Int) * ((xs.length - (i + 1) : Nat) : Int) := Int.mul_nonneg (by omega) (by omega)
        obtain ⟨e1, e2, e3, e4, e5⟩ := hone s.1 x q3 (by omega) (hdrop i x l h3).1
        have hsi : s.2[i]? = some x := by
          have := congrArg (fun l => l[0]?) (q2.trans h3)
          simpa using this
        refine ⟨((mkOne E s.1 x).1, s.2.set i (mkOne E s.1 x).2), e4 i s.2 (by omega) (by omega) hsi, ⟨by simp [q1], ?_, by omega, by omega⟩, ?_⟩
        · show (s.2.set i (mkOne E s.1 x).2).drop (i + 1) = _
          rw [List.drop_set_of_lt (by omega)]
          have := congrArg (List.drop 1) q2
          simpa using this
        · show (((mkAll E (mkOne E s.1 x).1 l).1, (xs.length : Int), s.2.take (xs.length - (l.length + 1)) ++ (mkOne E s.1 x).2 :: (mkAll E (mkOne E s.1 x).1 l).2) : Int × Int × List β) = ((mkAll E (mkOne E s.1 x).1 l).1, (xs.length : Int), (s.2.set i (mkOne E s.1 x).2).take (xs.length - l.length) ++ (mkAll E (mkOne E s.1 x).1 l).2)
          rw [hll, show xs.length - (xs.length - (i + 1) + 1) = i by omega, show xs.length - (xs.length - (i + 1)) = i + 1 by omega]
          rw [List.take_succ_eq_append_getElem (by simp [q1]; exact h1), List.take_set_of_le (Nat.le_refl i)]
          simp)
      n hn (k0, xs) ⟨rfl, rfl, h0, by simpa using hb⟩
    simpa using this
  · have hxl : (mkAll E k0 xs).2.length = xs.length := mkAll_len E xs k0
    have := iter_rec (σ := Int) (H (mkAll E k0 xs).2) (fun i k => (k, (i : Int))) xs (fun l k => (.inl ((mkAll E k l).1, (xs.length : Int)) : (Int × Int) ⊕ γ))
      (fun i k => (mkAll E k0 xs).2.drop i = (mkAll E k (xs.drop i)).2 ∧ 0 ≤ k ∧ k + (c : Int) * ((xs.length - i : Nat) : Int) ≤ 4611686018427387904)
      (fun k hk => by
        have := hH k (mkAll E k0 xs).2
        rw [hxl] at this
        rw [this]; simp [mkAll])
      (fun i x l k h1 h2 h3 h4 h5 => by
        left
        obtain ⟨q2, q3, q4⟩ := h5
        have hsub : xs.length - i = (xs.length - (i + 1)) + 1 := by omega
        have hc : (c : Int) * ((xs.length - i : Nat) : Int) = c + (c : Int) * ((xs.length - (i + 1) : Nat) : Int) := by rw [hsub]; simp [Int.mul_add]; omega
        rw [hc] at q4
        have hcl : 0 ≤ (c : Int) * ((xs.length - (i + 1) : Nat) : Int) := Int.mul_nonneg (by omega) (by omega)
        obtain ⟨e1, e2, e3, e4, e5⟩ := hone k x q3 (by omega) (hdrop i x l h3).1
        rw [h3] at q2
        have q2 : (mkAll E k0 xs).2.drop i = (mkOne E k x).2 :: (mkAll E (mkOne E k x).1 l).2 := q2
        have hsi : (mkAll E k0 xs).2[i]? = some (mkOne E k x).2 := by
          have := congrArg (fun l => l[0]?) q2
          simpa using this
        refine ⟨(mkOne E k x).1, e5 i _ (by omega) (by omega) hsi, ⟨?_, by omega, by omega⟩, rfl⟩
        have := congrArg (List.drop 1) q2
        rw [h4]
        simpa using this)
      n hn k0 ⟨rfl, h0, by simpa using hb⟩
    simpa using this

/-- A loop that counts how much is left. -/
theorem sz_loop (L : Int × Int → Option ((Int × Int) ⊕ ((Int × Int) ⊕ Int))) (xs : List β) (sm : β → Prop)
    (hstep : ∀ (i : Nat) (x : β) (left : Int), i < xs.length → xs[i]? = some x → 0 ≤ left → left ≤ 1048576 → (∃ r, L (left, (i : Int)) = some (.inl (r, ((i + 1 : Nat) : Int))) ∧ 0 ≤ r ∧ r ≤ left ∧ sm x) ∨ ∃ r, L (left, (i : Int)) = some (.inr (.inr r)) ∧ r < 0)
    (hend : ∀ left, L (left, (xs.length : Int)) = some (.inr (.inl (left, (xs.length : Int))))) : ∀ n, xs.length < n → ∀ left : Int, 0 ≤ left → left ≤ 1048576 →
    (∃ r, iter n L (left, 0) = some (.inr r) ∧ r < 0) ∨ ∃ r, iter n L (left, 0) = some (.inl (r, (xs.length : Int))) ∧ 0 ≤ r ∧ r ≤ left ∧ ∀ x ∈ xs, sm x := by
  have key : ∀ d i n (left : Int), i + d = xs.length → d < n → 0 ≤ left → left ≤ 1048576 → (∃ r, iter n L (left, (i : Int)) = some (.inr r) ∧ r < 0) ∨ ∃ r, iter n L (left, (i : Int)) = some (.inl (r, (xs.length : Int))) ∧ 0 ≤ r ∧ r ≤ left ∧ ∀ x ∈ xs.drop i, sm x := by
    intro d
    induction d with
    | zero =>
      intro i n left hi hn h0 h1
      obtain ⟨n, rfl⟩ : ∃ k, n = k + 1 := ⟨n - 1, by omega⟩
      have : i = xs.length := by omega
      subst this
      exact .inr ⟨left, iter_end (hend left) n, h0, Int.le_refl _, by simp⟩
    | succ d ih =>
      intro i n left hi hn h0 h1
      obtain ⟨n, rfl⟩ : ∃ k, n = k + 1 := ⟨n - 1, by omega⟩
      have hlt : i < xs.length := by omega
      rcases hstep i xs[i] left hlt (List.getElem?_eq_getElem hlt) h0 h1 with ⟨r, e, r0, r1, hs⟩ | ⟨r, e, r0⟩
      · rw [iter_go e n]
        rcases ih (i + 1) n r (by omega) (by omega) r0 (by omega) with ⟨q, e2, q0⟩ | ⟨q, e2, q0, q1, q2⟩
        · exact .inl ⟨q, e2, q0⟩
        · refine .inr ⟨q, e2, q0, by omega, ?_⟩
          rw [List.drop_eq_getElem_cons hlt]
          intro x hx
          rcases List.mem_cons.1 hx with rfl | hx
          · exact hs
          · exact q2 x hx
      · exact .inl ⟨r, iter_end e n, r0⟩
  intro n hn left h0 h1
  have := key xs.length 0 n left (by omega) hn h0 h1
  simpa using this
end

theorem make_ok (m : Nat) (h : m ≤ 1048576) : (decide (0 ≤ (m : Int)) && decide ((m : Int) ≤ (maxRow : Int)) && decide ((m : Int) = (m : Int))) = true := by
  have hm : maxRow = 68719476736 := rfl
  have h2 : decide ((m : Int) ≤ (maxRow : Int)) = true := by rw [hm]; simp; omega
  rw [h2]; simp
theorem modify_set {α : Type} (xs : List α) (i : Nat) (f : α → α) (h : i < xs.length) : List.modify xs i f = xs.set i (f xs[i]) := by
  apply List.ext_getElem
  · simp
  · intro j h1 h2
    rw [List.getElem_modify, List.getElem_set]
    by_cases e : i = j
    · subst e; simp
    · simp [e]


def sm_IntS (a : List Int) : Prop := a.length ≤ 1048576

def sm_Floor (a : Int × Int × (List Int)) : Prop := sm_IntS a.2.2

def sm_StackS (a : List (Int × Int × Int)) : Prop := a.length ≤ 1048576

def sm_Pod (a : Int × Int × (List (Int × Int × Int))) : Prop := sm_StackS a.2.2

def sm_PodS (a : List (Int × Int × (List (Int × Int × Int)))) : Prop := a.length ≤ 1048576 ∧ ∀ y ∈ a, sm_Pod y

def sm_Stock (a : (List (Int × Int × (List (Int × Int × Int))))) : Prop := sm_PodS a

def sm_RobotS (a : List (Int × Int × Int × Bool × Int)) : Prop := a.length ≤ 1048576

def sm_TaskS (a : List (Int × Int × Int × Int)) : Prop := a.length ≤ 1048576

theorem laws_toIntS_ok (a : List Int) (h : sm_IntS a) (n : Nat) (hn : BIG ≤ n) : laws_toIntS n a = some a := by
  have hl : a.length ≤ 1048576 := h
  have hc := copy_ok (laws_toIntS_L1 a) a (0 : Int) (fun i hi out ho => by
    simp [laws_toIntS_L1, hi, getI_lt hi, inb_lt (xs := out) (by omega : i < out.length), w64_nat hi (by omega), upd_is]) (fun out => by
    simp [laws_toIntS_L1]) n (by unfold BIG at hn; omega)
  unfold laws_toIntS
  rw [make_ok a.length hl, cond_true, show Int.toNat (a.length : Int) = a.length by simp, hc]
  rfl


theorem laws_toFloor_ok (a : Int × Int × (List Int)) (h : sm_Floor a) (n : Nat) (hn : BIG ≤ n) : laws_toFloor n a.1 a.2.1 a.2.2 = some a := by
  unfold laws_toFloor
  unfold sm_Floor at h
  simp [laws_toIntS_ok a.2.2 h n hn]


theorem laws_toStackS_ok (a : List (Int × Int × Int)) (h : sm_StackS a) (n : Nat) (hn : BIG ≤ n) : laws_toStackS n a = some a := by
  have hl : a.length ≤ 1048576 := h
  have hc := copy_ok (laws_toStackS_L1 a) a ((0, 0, 0) : Int × Int × Int) (fun i hi out ho => by
    simp [laws_toStackS_L1, hi, getI_lt hi, laws_toStack, inb_lt (xs := out) (by omega : i < out.length), w64_nat hi (by omega), upd_is]) (fun out => by
    simp [laws_toStackS_L1]) n (by unfold BIG at hn; omega)
  unfold laws_toStackS
  rw [make_ok a.length hl, cond_true, show Int.toNat (a.length : Int) = a.length by simp, hc]
  rfl


theorem laws_toPod_ok (a : Int × Int × (List (Int × Int × Int))) (h : sm_Pod a) (n : Nat) (hn : BIG ≤ n) : laws_toPod n a.1 a.2.1 a.2.2 = some a := by
  unfold laws_toPod
  unfold sm_Pod at h
  simp [laws_toStackS_ok a.2.2 h n hn]


theorem laws_toPodS_ok (a : List (Int × Int × (List (Int × Int × Int)))) (h : sm_PodS a) (n : Nat) (hn : BIG ≤ n) : laws_toPodS n a = some a := by
  have hl : a.length ≤ 1048576 := h.1
  have hc := copy_ok (laws_toPodS_L1 n a) a ((0, 0, ([] : List (Int × Int × Int))) : Int × Int × (List (Int × Int × Int))) (fun i hi out ho => by
    have he := laws_toPod_ok a[i] (h.2 _ (List.getElem_mem hi)) n hn
    simp [laws_toPodS_L1, hi, getI_lt hi, he, inb_lt (xs := out) (by omega : i < out.length), w64_nat hi (by omega), upd_is]) (fun out => by
    simp [laws_toPodS_L1]) n (by unfold BIG at hn; omega)
  unfold laws_toPodS
  rw [make_ok a.length hl, cond_true, show Int.toNat (a.length : Int) = a.length by simp, hc]
  rfl


theorem laws_toStock_ok (a : (List (Int × Int × (List (Int × Int × Int))))) (h : sm_Stock a) (n : Nat) (hn : BIG ≤ n) : laws_toStock n a = some a := by
  unfold laws_toStock
  unfold sm_Stock at h
  simp [laws_toPodS_ok a h n hn]


theorem laws_toRobotS_ok (a : List (Int × Int × Int × Bool × Int)) (h : sm_RobotS a) (n : Nat) (hn : BIG ≤ n) : laws_toRobotS n a = some a := by
  have hl : a.length ≤ 1048576 := h
  have hc := copy_ok (laws_toRobotS_L1 a) a ((0, 0, 0, false, 0) : Int × Int × Int × Bool × Int) (fun i hi out ho => by
    simp [laws_toRobotS_L1, hi, getI_lt hi, laws_toRobot, inb_lt (xs := out) (by omega : i < out.length), w64_nat hi (by omega), upd_is]) (fun out => by
    simp [laws_toRobotS_L1]) n (by unfold BIG at hn; omega)
  unfold laws_toRobotS
  rw [make_ok a.length hl, cond_true, show Int.toNat (a.length : Int) = a.length by simp, hc]
  rfl


theorem laws_toTaskS_ok (a : List (Int × Int × Int × Int)) (h : sm_TaskS a) (n : Nat) (hn : BIG ≤ n) : laws_toTaskS n a = some a := by
  have hl : a.length ≤ 1048576 := h
  have hc := copy_ok (laws_toTaskS_L1 a) a ((0, 0, 0, 0) : Int × Int × Int × Int) (fun i hi out ho => by
    simp [laws_toTaskS_L1, hi, getI_lt hi, laws_toTask, inb_lt (xs := out) (by omega : i < out.length), w64_nat hi (by omega), upd_is]) (fun out => by
    simp [laws_toTaskS_L1]) n (by unfold BIG at hn; omega)
  unfold laws_toTaskS
  rw [make_ok a.length hl, cond_true, show Int.toNat (a.length : Int) = a.length by simp, hc]
  rfl


theorem laws_eqIntS_ok (a : List Int) (h : sm_IntS a) (n : Nat) (hn : BIG ≤ n) : laws_eqIntS n a a = some true := by
  have hl : a.length ≤ 1048576 := h
  have hc := iter_steps (laws_eqIntS_L1 a a) (fun i => (i : Int)) a.length (.inl (a.length : Int)) (fun i hi => by
    simp [laws_eqIntS_L1, hi, getI_lt hi, w64_nat hi (by omega)]) (by simp [laws_eqIntS_L1]) n (by unfold BIG at hn; omega)
  unfold laws_eqIntS
  rw [show ((a.length : Int) != (a.length : Int)) = false by simp, cond_false]
  rw [show ((0 : Nat) : Int) = 0 from rfl] at hc
  rw [hc]; rfl


theorem laws_eqFloor_ok (a : Int × Int × (List Int)) (h : sm_Floor a) (n : Nat) (hn : BIG ≤ n) : laws_eqFloor n a.1 a.2.1 a.2.2 a.1 a.2.1 a.2.2 = some true := by
  unfold laws_eqFloor
  unfold sm_Floor at h
  simp [laws_eqIntS_ok a.2.2 h n hn]


theorem laws_eqStackS_ok (a : List (Int × Int × Int)) (h : sm_StackS a) (n : Nat) (hn : BIG ≤ n) : laws_eqStackS n a a = some true := by
  have hl : a.length ≤ 1048576 := h
  have hc := iter_steps (laws_eqStackS_L1 a a) (fun i => (i : Int)) a.length (.inl (a.length : Int)) (fun i hi => by
    simp [laws_eqStackS_L1, hi, getI_lt hi, laws_eqStack, w64_nat hi (by omega)]) (by simp [laws_eqStackS_L1]) n (by unfold BIG at hn; omega)
  unfold laws_eqStackS
  rw [show ((a.length : Int) != (a.length : Int)) = false by simp, cond_false]
  rw [show ((0 : Nat) : Int) = 0 from rfl] at hc
  rw [hc]; rfl


theorem laws_eqPod_ok (a : Int × Int × (List (Int × Int × Int))) (h : sm_Pod a) (n : Nat) (hn : BIG ≤ n) : laws_eqPod n a.1 a.2.1 a.2.2 a.1 a.2.1 a.2.2 = some true := by
  unfold laws_eqPod
  unfold sm_Pod at h
  simp [laws_eqStackS_ok a.2.2 h n hn]


theorem laws_eqPodS_ok (a : List (Int × Int × (List (Int × Int × Int)))) (h : sm_PodS a) (n : Nat) (hn : BIG ≤ n) : laws_eqPodS n a a = some true := by
  have hl : a.length ≤ 1048576 := h.1
  have hc := iter_steps (laws_eqPodS_L1 n a a) (fun i => (i : Int)) a.length (.inl (a.length : Int)) (fun i hi => by
    have he := laws_eqPod_ok a[i] (h.2 _ (List.getElem_mem hi)) n hn
    simp [laws_eqPodS_L1, hi, getI_lt hi, he, w64_nat hi (by omega)]) (by simp [laws_eqPodS_L1]) n (by unfold BIG at hn; omega)
  unfold laws_eqPodS
  rw [show ((a.length : Int) != (a.length : Int)) = false by simp, cond_false]
  rw [show ((0 : Nat) : Int) = 0 from rfl] at hc
  rw [hc]; rfl


theorem laws_eqStock_ok (a : (List (Int × Int × (List (Int × Int × Int))))) (h : sm_Stock a) (n : Nat) (hn : BIG ≤ n) : laws_eqStock n a a = some true := by
  unfold laws_eqStock
  unfold sm_Stock at h
  simp [laws_eqPodS_ok a h n hn]


theorem laws_eqRobotS_ok (a : List (Int × Int × Int × Bool × Int)) (h : sm_RobotS a) (n : Nat) (hn : BIG ≤ n) : laws_eqRobotS n a a = some true := by
  have hl : a.length ≤ 1048576 := h
  have hc := iter_steps (laws_eqRobotS_L1 a a) (fun i => (i : Int)) a.length (.inl (a.length : Int)) (fun i hi => by
    simp [laws_eqRobotS_L1, hi, getI_lt hi, laws_eqRobot, w64_nat hi (by omega)]) (by simp [laws_eqRobotS_L1]) n (by unfold BIG at hn; omega)
  unfold laws_eqRobotS
  rw [show ((a.length : Int) != (a.length : Int)) = false by simp, cond_false]
  rw [show ((0 : Nat) : Int) = 0 from rfl] at hc
  rw [hc]; rfl


theorem laws_eqTaskS_ok (a : List (Int × Int × Int × Int)) (h : sm_TaskS a) (n : Nat) (hn : BIG ≤ n) : laws_eqTaskS n a a = some true := by
  have hl : a.length ≤ 1048576 := h
  have hc := iter_steps (laws_eqTaskS_L1 a a) (fun i => (i : Int)) a.length (.inl (a.length : Int)) (fun i hi => by
    simp [laws_eqTaskS_L1, hi, getI_lt hi, laws_eqTask, w64_nat hi (by omega)]) (by simp [laws_eqTaskS_L1]) n (by unfold BIG at hn; omega)
  unfold laws_eqTaskS
  rw [show ((a.length : Int) != (a.length : Int)) = false by simp, cond_false]
  rw [show ((0 : Nat) : Int) = 0 from rfl] at hc
  rw [hc]; rfl


theorem laws_szIntS_ok (a : List Int) (hf : (fSl fI) a) (left : Int) (h0 : 0 ≤ left) (h1 : left ≤ 1048576) : ∃ r, laws_szIntS a left = some r ∧ (r < 0 ∨ (0 ≤ r ∧ r ≤ left ∧ sm_IntS a)) := by
  have hm := fSl_len hf
  unfold laws_szIntS sm_IntS
  rw [w64_eq (n := left - (a.length : Int)) (by omega) (by omega)]
  by_cases hl : left - (a.length : Int) < 0
  · rw [show decide (left - (a.length : Int) < 0) = true by simpa using hl]; exact ⟨_, rfl, .inl (by omega)⟩
  · rw [show decide (left - (a.length : Int) < 0) = false by simpa using hl]; exact ⟨_, rfl, .inr ⟨by omega, by omega, by omega⟩⟩


theorem laws_szFloor_ok (a : Int × Int × (List Int)) (hf : (fP fI (fP fI (fSl fI))) a) (left : Int) (h0 : 0 ≤ left) (h1 : left ≤ 1048576) : ∃ r, laws_szFloor a.1 a.2.1 a.2.2 left = some r ∧ (r < 0 ∨ (0 ≤ r ∧ r ≤ left ∧ sm_Floor a)) := by
  unfold laws_szFloor sm_Floor
  obtain ⟨r0, e0, q0⟩ := laws_szIntS_ok a.2.2 hf.2.2 left h0 h1
  rw [e0]; simp only [Option.bind_some]
  rcases q0 with q0 | ⟨p0, s0, t0⟩
  · rw [show decide (r0 < 0) = true by simpa using q0]; exact ⟨_, rfl, .inl (by omega)⟩
  rw [show decide (r0 < 0) = false by simp; omega]; simp only [cond_false]
  exact ⟨_, rfl, .inr ⟨by omega, by omega, t0⟩⟩


theorem laws_szStackS_ok (a : List (Int × Int × Int)) (hf : (fSl (fP fI (fP fI fI))) a) (left : Int) (h0 : 0 ≤ left) (h1 : left ≤ 1048576) : ∃ r, laws_szStackS a left = some r ∧ (r < 0 ∨ (0 ≤ r ∧ r ≤ left ∧ sm_StackS a)) := by
  have hm := fSl_len hf
  unfold laws_szStackS sm_StackS
  rw [w64_eq (n := left - (a.length : Int)) (by omega) (by omega)]
  by_cases hl : left - (a.length : Int) < 0
  · rw [show decide (left - (a.length : Int) < 0) = true by simpa using hl]; exact ⟨_, rfl, .inl (by omega)⟩
  · rw [show decide (left - (a.length : Int) < 0) = false by simpa using hl]; exact ⟨_, rfl, .inr ⟨by omega, by omega, by omega⟩⟩


theorem laws_szPod_ok (a : Int × Int × (List (Int × Int × Int))) (hf : (fP fI (fP fI (fSl (fP fI (fP fI fI))))) a) (left : Int) (h0 : 0 ≤ left) (h1 : left ≤ 1048576) : ∃ r, laws_szPod a.1 a.2.1 a.2.2 left = some r ∧ (r < 0 ∨ (0 ≤ r ∧ r ≤ left ∧ sm_Pod a)) := by
  unfold laws_szPod sm_Pod
  obtain ⟨r0, e0, q0⟩ := laws_szStackS_ok a.2.2 hf.2.2 left h0 h1
  rw [e0]; simp only [Option.bind_some]
  rcases q0 with q0 | ⟨p0, s0, t0⟩
  · rw [show decide (r0 < 0) = true by simpa using q0]; exact ⟨_, rfl, .inl (by omega)⟩
  rw [show decide (r0 < 0) = false by simp; omega]; simp only [cond_false]
  exact ⟨_, rfl, .inr ⟨by omega, by omega, t0⟩⟩


theorem laws_szPodS_ok (a : List (Int × Int × (List (Int × Int × Int)))) (hf : (fSl (fP fI (fP fI (fSl (fP fI (fP fI fI)))))) a) (left : Int) (h0 : 0 ≤ left) (h1 : left ≤ 1048576) (n : Nat) (hn : BIG ≤ n) : ∃ r, laws_szPodS n a left = some r ∧ (r < 0 ∨ (0 ≤ r ∧ r ≤ left ∧ sm_PodS a)) := by
  have hm := fSl_len hf
  unfold laws_szPodS sm_PodS
  rw [w64_eq (n := left - (a.length : Int)) (by omega) (by omega)]
  by_cases hl : left - (a.length : Int) < 0
  · rw [show decide (left - (a.length : Int) < 0) = true by simpa using hl]; exact ⟨_, rfl, .inl (by omega)⟩
  rw [show decide (left - (a.length : Int) < 0) = false by simpa using hl, cond_false]
  have hs := sz_loop (laws_szPodS_L1 a) a (sm_Pod) (fun i x left hi hx l0 l1 => by
    have hx' : a[i] = x := by rw [List.getElem?_eq_getElem hi] at hx; exact Option.some.inj hx
    obtain ⟨r, e, q⟩ := laws_szPod_ok x (fSl_mem hf (hx' ▸ List.getElem_mem hi)) left l0 l1
    have hw : w64 ((i : Int) + 1) = ((i + 1 : Nat) : Int) := w64_nat hi (by omega)
    unfold laws_szPodS_L1
    rw [show decide ((i : Int) < (a.length : Int)) = true by simpa using hi, cond_true, getI_lt hi, Option.bind_some, hx', e, Option.bind_some, hw]
    rcases q with q | ⟨q0, q1, q2⟩
    · rw [show decide (r < 0) = true by simpa using q]; exact .inr ⟨-1, rfl, by omega⟩
    · rw [show decide (r < 0) = false by simp; omega]; exact .inl ⟨r, rfl, q0, q1, q2⟩) (fun left => by simp [laws_szPodS_L1]) n (by unfold BIG at hn; omega) (left - (a.length : Int)) (by omega) (by omega)
  rcases hs with ⟨r, e, q⟩ | ⟨r, e, q0, q1, q2⟩
  · rw [e]; exact ⟨r, rfl, .inl q⟩
  · rw [e]; exact ⟨r, rfl, .inr ⟨q0, by omega, by omega, q2⟩⟩


theorem laws_szStock_ok (a : (List (Int × Int × (List (Int × Int × Int))))) (hf : (fSl (fP fI (fP fI (fSl (fP fI (fP fI fI)))))) a) (left : Int) (h0 : 0 ≤ left) (h1 : left ≤ 1048576) (n : Nat) (hn : BIG ≤ n) : ∃ r, laws_szStock n a left = some r ∧ (r < 0 ∨ (0 ≤ r ∧ r ≤ left ∧ sm_Stock a)) := by
  unfold laws_szStock sm_Stock
  obtain ⟨r0, e0, q0⟩ := laws_szPodS_ok a hf left h0 h1 n hn
  rw [e0]; simp only [Option.bind_some]
  rcases q0 with q0 | ⟨p0, s0, t0⟩
  · rw [show decide (r0 < 0) = true by simpa using q0]; exact ⟨_, rfl, .inl (by omega)⟩
  rw [show decide (r0 < 0) = false by simp; omega]; simp only [cond_false]
  exact ⟨_, rfl, .inr ⟨by omega, by omega, t0⟩⟩


theorem laws_szRobotS_ok (a : List (Int × Int × Int × Bool × Int)) (hf : (fSl (fP fI (fP fI (fP fI (fP fB fI))))) a) (left : Int) (h0 : 0 ≤ left) (h1 : left ≤ 1048576) : ∃ r, laws_szRobotS a left = some r ∧ (r < 0 ∨ (0 ≤ r ∧ r ≤ left ∧ sm_RobotS a)) := by
  have hm := fSl_len hf
  unfold laws_szRobotS sm_RobotS
  rw [w64_eq (n := left - (a.length : Int)) (by omega) (by omega)]
  by_cases hl : left - (a.length : Int) < 0
  · rw [show decide (left - (a.length : Int) < 0) = true by simpa using hl]; exact ⟨_, rfl, .inl (by omega)⟩
  · rw [show decide (left - (a.length : Int) < 0) = false by simpa using hl]; exact ⟨_, rfl, .inr ⟨by omega, by omega, by omega⟩⟩


theorem laws_szTaskS_ok (a : List (Int × Int × Int × Int)) (hf : (fSl (fP fI (fP fI (fP fI fI)))) a) (left : Int) (h0 : 0 ≤ left) (h1 : left ≤ 1048576) : ∃ r, laws_szTaskS a left = some r ∧ (r < 0 ∨ (0 ≤ r ∧ r ≤ left ∧ sm_TaskS a)) := by
  have hm := fSl_len hf
  unfold laws_szTaskS sm_TaskS
  rw [w64_eq (n := left - (a.length : Int)) (by omega) (by omega)]
  by_cases hl : left - (a.length : Int) < 0
  · rw [show decide (left - (a.length : Int) < 0) = true by simpa using hl]; exact ⟨_, rfl, .inl (by omega)⟩
  · rw [show decide (left - (a.length : Int) < 0) = false by simpa using hl]; exact ⟨_, rfl, .inr ⟨by omega, by omega, by omega⟩⟩


theorem laws_markIntS_only (a : List Int) (h : sm_IntS a) (k : Int) (h0 : 0 ≤ k) (h1 : k + 1048576 ≤ 4611686018427387904) (n : Nat) (hn : BIG ≤ n) : ∃ k' a', laws_markIntS n a k = some (k', a') ∧ k ≤ k' ∧ k' ≤ k + 1048576 ∧ sm_IntS a' := by
  have hl : a.length ≤ 1048576 := h
  have st : ∀ (k : Int) (x : Int), 0 ≤ k → k + ((1 : Nat) : Int) ≤ 4611686018427387904 → True → ∃ k' x', k ≤ k' ∧ k' ≤ k + ((1 : Nat) : Int) ∧ True ∧ (∀ (i : Nat) (ys : List Int), i < ys.length → ys.length ≤ 1048576 → ys[i]? = some x → laws_markIntS_L1 (k, (i : Int), ys) = some (.inl (k', ((i + 1 : Nat) : Int), ys.set i x'))) := by
    intro k x h0 h1 _
    refine ⟨k + 1, k, by omega, by omega, trivial, fun i ys hi hy hx => ?_⟩
    have hx' : ys[i] = x := by rw [List.getElem?_eq_getElem hi] at hx; exact Option.some.inj hx
    have a0 : k + 1 + 1 = k + 2 := by omega
    have a1 : k + 2 + 1 = k + 3 := by omega
    have a2 : k + 3 + 1 = k + 4 := by omega
    have a3 : k + 4 + 1 = k + 5 := by omega
    simp [laws_markIntS_L1, hi, inb_nat, upd_is, modify_set, w64_nat hi (by omega), w64_eq (n := k + 1) (by omega) (by omega), a0, a1, a2, a3]
  obtain ⟨k', a', e1, e2, e3, e4, _⟩ := mark_only laws_markIntS_L1 (fun _ => True) (fun _ => True) 1 a (fun _ _ => trivial) hl k h0 (by omega) st (fun k ys => by simp [laws_markIntS_L1]) n (by unfold BIG at hn; omega)
  refine ⟨k', a', ?_, e3, by omega, by unfold sm_IntS; omega⟩
  unfold laws_markIntS; rw [e1]; rfl


theorem laws_markTaskS_ok (a : List (Int × Int × Int × Int)) (h : sm_TaskS a) (k : Int) (h0 : 0 ≤ k) (h1 : k + 4194304 ≤ 4611686018427387904) (n : Nat) (hn : BIG ≤ n) : ∃ k' a', laws_markTaskS n a k = some (k', a') ∧ k ≤ k' ∧ k' ≤ k + 4194304 ∧ sm_TaskS a' ∧ laws_heldTaskS n a' k = some k' := by
  have hl : a.length ≤ 1048576 := h
  have st : ∀ (k : Int) (x : Int × Int × Int × Int), 0 ≤ k → k + ((4 : Nat) : Int) ≤ 4611686018427387904 → True → ∃ k' x', k ≤ k' ∧ k' ≤ k + ((4 : Nat) : Int) ∧ True ∧ (∀ (i : Nat) (ys : List (Int × Int × Int × Int)), i < ys.length → ys.length ≤ 1048576 → ys[i]? = some x → laws_markTaskS_L1 (k, (i : Int), ys) = some (.inl (k', ((i + 1 : Nat) : Int), ys.set i x'))) ∧ (∀ (i : Nat) (ys : List (Int × Int × Int × Int)), i < ys.length → ys.length ≤ 1048576 → ys[i]? = some x' → laws_heldTaskS_L1 ys (k, (i : Int)) = some (.inl (k', ((i + 1 : Nat) : Int)))) := by
    intro k x h0 h1 _
    refine ⟨k + 4, (k, (k + 1), (k + 2), (k + 3)), by omega, by omega, trivial, fun i ys hi hy hx => ?_, fun i ys hi hy hx => ?_⟩
    · have hx' : ys[i] = x := by rw [List.getElem?_eq_getElem hi] at hx; exact Option.some.inj hx
      have a0 : k + 1 + 1 = k + 2 := by omega
      have a1 : k + 2 + 1 = k + 3 := by omega
      have a2 : k + 3 + 1 = k + 4 := by omega
      have a3 : k + 4 + 1 = k + 5 := by omega
      simp [laws_markTaskS_L1, hi, inb_nat, upd_is, modify_set, w64_nat hi (by omega), w64_eq (n := k + 1) (by omega) (by omega), w64_eq (n := k + 2) (by omega) (by omega), w64_eq (n := k + 3) (by omega) (by omega), w64_eq (n := k + 4) (by omega) (by omega), a0, a1, a2, a3]
    · have hx' : ys[i] = (k, (k + 1), (k + 2), (k + 3)) := by rw [List.getElem?_eq_getElem hi] at hx; exact Option.some.inj hx
      have a0 : k + 1 + 1 = k + 2 := by omega
      have a1 : k + 2 + 1 = k + 3 := by omega
      have a2 : k + 3 + 1 = k + 4 := by omega
      have a3 : k + 4 + 1 = k + 5 := by omega
      simp [laws_heldTaskS_L1, hi, getI_lt hi, hx', w64_nat hi (by omega), w64_eq (n := k + 1) (by omega) (by omega), w64_eq (n := k + 2) (by omega) (by omega), w64_eq (n := k + 3) (by omega) (by omega), w64_eq (n := k + 4) (by omega) (by omega), a0, a1, a2, a3]
  obtain ⟨k', a', e1, e2, e3, e4, _, e5⟩ := mark_loop (γ := Int) laws_markTaskS_L1 laws_heldTaskS_L1 (fun _ => True) (fun _ => True) 4 a (fun _ _ => trivial) hl k h0 (by omega) st (fun k ys => by simp [laws_markTaskS_L1]) (fun k ys => by simp [laws_heldTaskS_L1]) n (by unfold BIG at hn; omega)
  refine ⟨k', a', ?_, e3, by omega, by unfold sm_TaskS; omega, ?_⟩
  · unfold laws_markTaskS; rw [e1]; rfl
  · unfold laws_heldTaskS; rw [e5]; rfl


theorem laws_markTaskS_only (a : List (Int × Int × Int × Int)) (h : sm_TaskS a) (k : Int) (h0 : 0 ≤ k) (h1 : k + 4194304 ≤ 4611686018427387904) (n : Nat) (hn : BIG ≤ n) : ∃ k' a', laws_markTaskS n a k = some (k', a') ∧ k ≤ k' ∧ k' ≤ k + 4194304 ∧ sm_TaskS a' := by
  have hl : a.length ≤ 1048576 := h
  have st : ∀ (k : Int) (x : Int × Int × Int × Int), 0 ≤ k → k + ((4 : Nat) : Int) ≤ 4611686018427387904 → True → ∃ k' x', k ≤ k' ∧ k' ≤ k + ((4 : Nat) : Int) ∧ True ∧ (∀ (i : Nat) (ys : List (Int × Int × Int × Int)), i < ys.length → ys.length ≤ 1048576 → ys[i]? = some x → laws_markTaskS_L1 (k, (i : Int), ys) = some (.inl (k', ((i + 1 : Nat) : Int), ys.set i x'))) := by
    intro k x h0 h1 _
    refine ⟨k + 4, (k, (k + 1), (k + 2), (k + 3)), by omega, by omega, trivial, fun i ys hi hy hx => ?_⟩
    have hx' : ys[i] = x := by rw [List.getElem?_eq_getElem hi] at hx; exact Option.some.inj hx
    have a0 : k + 1 + 1 = k + 2 := by omega
    have a1 : k + 2 + 1 = k + 3 := by omega
    have a2 : k + 3 + 1 = k + 4 := by omega
    have a3 : k + 4 + 1 = k + 5 := by omega
    simp [laws_markTaskS_L1, hi, inb_nat, upd_is, modify_set, w64_nat hi (by omega), w64_eq (n := k + 1) (by omega) (by omega), w64_eq (n := k + 2) (by omega) (by omega), w64_eq (n := k + 3) (by omega) (by omega), w64_eq (n := k + 4) (by omega) (by omega), a0, a1, a2, a3]
  obtain ⟨k', a', e1, e2, e3, e4, _⟩ := mark_only laws_markTaskS_L1 (fun _ => True) (fun _ => True) 4 a (fun _ _ => trivial) hl k h0 (by omega) st (fun k ys => by simp [laws_markTaskS_L1]) n (by unfold BIG at hn; omega)
  refine ⟨k', a', ?_, e3, by omega, by unfold sm_TaskS; omega⟩
  unfold laws_markTaskS; rw [e1]; rfl


theorem laws_markFloor_only (a : Int × Int × (List Int)) (h : sm_Floor a) (k : Int) (h0 : 0 ≤ k) (h1 : k + 1048576 ≤ 4611686018427387904) (n : Nat) (hn : BIG ≤ n) : ∃ k' b2, laws_markFloor n a.1 a.2.1 a.2.2 k = some (k', (a.1, a.2.1, b2)) ∧ k ≤ k' ∧ k' ≤ k + 1048576 ∧ sm_Floor (a.1, a.2.1, b2) := by
  unfold sm_Floor at h
  obtain ⟨k0, b2, e0, l0, u0, s0⟩ := laws_markIntS_only a.2.2 h k (by omega) (by omega) n hn
  refine ⟨k0, b2, ?_, by omega, by omega, s0⟩
  unfold laws_markFloor
  simp only [e0, Option.bind_some]


theorem laws_markStackS_only (a : List (Int × Int × Int)) (h : sm_StackS a) (k : Int) (h0 : 0 ≤ k) (h1 : k + 3145728 ≤ 4611686018427387904) (n : Nat) (hn : BIG ≤ n) : ∃ k' a', laws_markStackS n a k = some (k', a') ∧ k ≤ k' ∧ k' ≤ k + 3145728 ∧ sm_StackS a' := by
  have hl : a.length ≤ 1048576 := h
  have st : ∀ (k : Int) (x : Int × Int × Int), 0 ≤ k → k + ((3 : Nat) : Int) ≤ 4611686018427387904 → True → ∃ k' x', k ≤ k' ∧ k' ≤ k + ((3 : Nat) : Int) ∧ True ∧ (∀ (i : Nat) (ys : List (Int × Int × Int)), i < ys.length → ys.length ≤ 1048576 → ys[i]? = some x → laws_markStackS_L1 (k, (i : Int), ys) = some (.inl (k', ((i + 1 : Nat) : Int), ys.set i x'))) := by
    intro k x h0 h1 _
    refine ⟨k + 3, (k, (k + 1), (k + 2)), by omega, by omega, trivial, fun i ys hi hy hx => ?_⟩
    have hx' : ys[i] = x := by rw [List.getElem?_eq_getElem hi] at hx; exact Option.some.inj hx
    have a0 : k + 1 + 1 = k + 2 := by omega
    have a1 : k + 2 + 1 = k + 3 := by omega
    have a2 : k + 3 + 1 = k + 4 := by omega
    have a3 : k + 4 + 1 = k + 5 := by omega
    simp [laws_markStackS_L1, hi, inb_nat, upd_is, modify_set, w64_nat hi (by omega), w64_eq (n := k + 1) (by omega) (by omega), w64_eq (n := k + 2) (by omega) (by omega), w64_eq (n := k + 3) (by omega) (by omega), a0, a1, a2, a3]
  obtain ⟨k', a', e1, e2, e3, e4, _⟩ := mark_only laws_markStackS_L1 (fun _ => True) (fun _ => True) 3 a (fun _ _ => trivial) hl k h0 (by omega) st (fun k ys => by simp [laws_markStackS_L1]) n (by unfold BIG at hn; omega)
  refine ⟨k', a', ?_, e3, by omega, by unfold sm_StackS; omega⟩
  unfold laws_markStackS; rw [e1]; rfl


theorem laws_markPodS_only (a : List (Int × Int × (List (Int × Int × Int)))) (h : sm_PodS a) (k : Int) (h0 : 0 ≤ k) (h1 : k + 3298536980480 ≤ 4611686018427387904) (n : Nat) (hn : BIG ≤ n) : ∃ k' a', laws_markPodS n a k = some (k', a') ∧ k ≤ k' ∧ k' ≤ k + 3298536980480 ∧ sm_PodS a' := by
  have hl : a.length ≤ 1048576 := h.1
  have st : ∀ (k : Int) (x : Int × Int × (List (Int × Int × Int))), 0 ≤ k → k + ((3145730 : Nat) : Int) ≤ 4611686018427387904 → sm_Pod x → ∃ k' x', k ≤ k' ∧ k' ≤ k + ((3145730 : Nat) : Int) ∧ sm_Pod x' ∧ (∀ (i : Nat) (ys : List (Int × Int × (List (Int × Int × Int)))), i < ys.length → ys.length ≤ 1048576 → ys[i]? = some x → laws_markPodS_L1 n (k, (i : Int), ys) = some (.inl (k', ((i + 1 : Nat) : Int), ys.set i x'))) := by
    intro k x h0 h1 hx
    unfold sm_Pod at hx
    obtain ⟨k0, b2, e0, l0, u0, s0⟩ := laws_markStackS_only x.2.2 hx (k + 2) (by omega) (by omega) n hn
    refine ⟨k0, (k, (k + 1), b2), by omega, by omega, s0, fun i ys hi hy hx => ?_⟩
    · have hx' : ys[i] = x := by rw [List.getElem?_eq_getElem hi] at hx; exact Option.some.inj hx
      simp [laws_markPodS_L1, hi, hx', inb_nat, upd_is, modify_set, w64_nat hi (by omega), w64_eq (n := k + 1) (by omega) (by omega), w64_eq (n := k + 2) (by omega) (by omega), (show k + 1 + 1 = k + 2 by omega), e0]
  obtain ⟨k', a', e1, e2, e3, e4, e6⟩ := mark_only (laws_markPodS_L1 n) sm_Pod sm_Pod 3145730 a h.2 hl k h0 (by omega) st (fun k ys => by simp [laws_markPodS_L1]) n (by unfold BIG at hn; omega)
  refine ⟨k', a', ?_, e3, by omega, ⟨by omega, e6⟩⟩
  · unfold laws_markPodS; rw [e1]; rfl


theorem laws_markStock_only (a : (List (Int × Int × (List (Int × Int × Int))))) (h : sm_Stock a) (k : Int) (h0 : 0 ≤ k) (h1 : k + 3298536980480 ≤ 4611686018427387904) (n : Nat) (hn : BIG ≤ n) : ∃ k' b0, laws_markStock n a k = some (k', b0) ∧ k ≤ k' ∧ k' ≤ k + 3298536980480 ∧ sm_Stock b0 := by
  unfold sm_Stock at h
  obtain ⟨k0, b0, e0, l0, u0, s0⟩ := laws_markPodS_only a h k (by omega) (by omega) n hn
  refine ⟨k0, b0, ?_, by omega, by omega, s0⟩
  unfold laws_markStock
  simp only [e0, Option.bind_some]


theorem laws_markRobotS_ok (a : List (Int × Int × Int × Bool × Int)) (h : sm_RobotS a) (k : Int) (h0 : 0 ≤ k) (h1 : k + 5242880 ≤ 4611686018427387904) (n : Nat) (hn : BIG ≤ n) : ∃ k' a', laws_markRobotS n a k = some (k', a') ∧ k ≤ k' ∧ k' ≤ k + 5242880 ∧ sm_RobotS a' ∧ laws_heldRobotS n a' k = some k' := by
  have hl : a.length ≤ 1048576 := h
  have st : ∀ (k : Int) (x : Int × Int × Int × Bool × Int), 0 ≤ k → k + ((5 : Nat) : Int) ≤ 4611686018427387904 → True → ∃ k' x', k ≤ k' ∧ k' ≤ k + ((5 : Nat) : Int) ∧ True ∧ (∀ (i : Nat) (ys : List (Int × Int × Int × Bool × Int)), i < ys.length → ys.length ≤ 1048576 → ys[i]? = some x → laws_markRobotS_L1 (k, (i : Int), ys) = some (.inl (k', ((i + 1 : Nat) : Int), ys.set i x'))) ∧ (∀ (i : Nat) (ys : List (Int × Int × Int × Bool × Int)), i < ys.length → ys.length ≤ 1048576 → ys[i]? = some x' → laws_heldRobotS_L1 ys (k, (i : Int)) = some (.inl (k', ((i + 1 : Nat) : Int)))) := by
    intro k x h0 h1 _
    refine ⟨k + 5, (k, (k + 1), (k + 2), (Int.tmod (k + 3) 3 == 0), (k + 4)), by omega, by omega, trivial, fun i ys hi hy hx => ?_, fun i ys hi hy hx => ?_⟩
    · have hx' : ys[i] = x := by rw [List.getElem?_eq_getElem hi] at hx; exact Option.some.inj hx
      have a0 : k + 1 + 1 = k + 2 := by omega
      have a1 : k + 2 + 1 = k + 3 := by omega
      have a2 : k + 3 + 1 = k + 4 := by omega
      have a3 : k + 4 + 1 = k + 5 := by omega
      have a4 : k + 5 + 1 = k + 6 := by omega
      simp [laws_markRobotS_L1, hi, inb_nat, upd_is, modify_set, w64_nat hi (by omega), w64_eq (n := k + 1) (by omega) (by omega), w64_eq (n := k + 2) (by omega) (by omega), w64_eq (n := k + 3) (by omega) (by omega), w64_eq (n := k + 4) (by omega) (by omega), w64_eq (n := k + 5) (by omega) (by omega), a0, a1, a2, a3, a4]
    · have hx' : ys[i] = (k, (k + 1), (k + 2), (Int.tmod (k + 3) 3 == 0), (k + 4)) := by rw [List.getElem?_eq_getElem hi] at hx; exact Option.some.inj hx
      have a0 : k + 1 + 1 = k + 2 := by omega
      have a1 : k + 2 + 1 = k + 3 := by omega
      have a2 : k + 3 + 1 = k + 4 := by omega
      have a3 : k + 4 + 1 = k + 5 := by omega
      have a4 : k + 5 + 1 = k + 6 := by omega
      simp [laws_heldRobotS_L1, hi, getI_lt hi, hx', w64_nat hi (by omega), w64_eq (n := k + 1) (by omega) (by omega), w64_eq (n := k + 2) (by omega) (by omega), w64_eq (n := k + 3) (by omega) (by omega), w64_eq (n := k + 4) (by omega) (by omega), w64_eq (n := k + 5) (by omega) (by omega), a0, a1, a2, a3, a4]
  obtain ⟨k', a', e1, e2, e3, e4, _, e5⟩ := mark_loop (γ := Int) laws_markRobotS_L1 laws_heldRobotS_L1 (fun _ => True) (fun _ => True) 5 a (fun _ _ => trivial) hl k h0 (by omega) st (fun k ys => by simp [laws_markRobotS_L1]) (fun k ys => by simp [laws_heldRobotS_L1]) n (by unfold BIG at hn; omega)
  refine ⟨k', a', ?_, e3, by omega, by unfold sm_RobotS; omega, ?_⟩
  · unfold laws_markRobotS; rw [e1]; rfl
  · unfold laws_heldRobotS; rw [e5]; rfl


theorem laws_markRobotS_only (a : List (Int × Int × Int × Bool × Int)) (h : sm_RobotS a) (k : Int) (h0 : 0 ≤ k) (h1 : k + 5242880 ≤ 4611686018427387904) (n : Nat) (hn : BIG ≤ n) : ∃ k' a', laws_markRobotS n a k = some (k', a') ∧ k ≤ k' ∧ k' ≤ k + 5242880 ∧ sm_RobotS a' := by
  have hl : a.length ≤ 1048576 := h
  have st : ∀ (k : Int) (x : Int × Int × Int × Bool × Int), 0 ≤ k → k + ((5 : Nat) : Int) ≤ 4611686018427387904 → True → ∃ k' x', k ≤ k' ∧ k' ≤ k + ((5 : Nat) : Int) ∧ True ∧ (∀ (i : Nat) (ys : List (Int × Int × Int × Bool × Int)), i < ys.length → ys.length ≤ 1048576 → ys[i]? = some x → laws_markRobotS_L1 (k, (i : Int), ys) = some (.inl (k', ((i + 1 : Nat) : Int), ys.set i x'))) := by
    intro k x h0 h1 _
    refine ⟨k + 5, (k, (k + 1), (k + 2), (Int.tmod (k + 3) 3 == 0), (k + 4)), by omega, by omega, trivial, fun i ys hi hy hx => ?_⟩
    have hx' : ys[i] = x := by rw [List.getElem?_eq_getElem hi] at hx; exact Option.some.inj hx
    have a0 : k + 1 + 1 = k + 2 := by omega
    have a1 : k + 2 + 1 = k + 3 := by omega
    have a2 : k + 3 + 1 = k + 4 := by omega
    have a3 : k + 4 + 1 = k + 5 := by omega
    have a4 : k + 5 + 1 = k + 6 := by omega
    simp [laws_markRobotS_L1, hi, inb_nat, upd_is, modify_set, w64_nat hi (by omega), w64_eq (n := k + 1) (by omega) (by omega), w64_eq (n := k + 2) (by omega) (by omega), w64_eq (n := k + 3) (by omega) (by omega), w64_eq (n := k + 4) (by omega) (by omega), w64_eq (n := k + 5) (by omega) (by omega), a0, a1, a2, a3, a4]
  obtain ⟨k', a', e1, e2, e3, e4, _⟩ := mark_only laws_markRobotS_L1 (fun _ => True) (fun _ => True) 5 a (fun _ _ => trivial) hl k h0 (by omega) st (fun k ys => by simp [laws_markRobotS_L1]) n (by unfold BIG at hn; omega)
  refine ⟨k', a', ?_, e3, by omega, by unfold sm_RobotS; omega⟩
  unfold laws_markRobotS; rw [e1]; rfl


theorem row1 {m : Nat} (h : m ≤ 1048576) : decide (m + 1 ≤ maxRow) = true := by
  have hm : maxRow = 68719476736 := rfl
  rw [hm]; simp; omega

theorem row0 {m : Nat} (h : m ≤ 1048576) : decide (m ≤ maxRow) = true := by
  have hm : maxRow = 68719476736 := rfl
  rw [hm]; simp; omega


theorem in_eq : impl_in = spec_l1In := rfl

theorem l1In_ok (a b c : Int) : spec_l1In a b c = some (decide (b ≤ a) && decide (a ≤ c)) := by
  unfold spec_l1In
  by_cases h : a ≥ b <;> simp [h]


/-- A loop that asks the same of each number. -/
theorem all_loopF {α : Type} (f : α → Option (α ⊕ (α ⊕ Bool))) (st : Nat → α) (m : Nat) (P : Nat → Bool) (hs : ∀ i, i < m → f (st i) = some (bif P i then .inl (st (i + 1)) else .inr (.inr false))) (he : f (st m) = some (.inr (.inl (st m)))) :
    ∀ n, m < n → iter n f (st 0) = some (bif (List.range m).all P then .inl (st m) else .inr false) := by
  have key : ∀ d i n, i + d = m → d < n → iter n f (st i) = some (bif (List.range' i d).all P then .inl (st m) else .inr false) := by
    intro d
    induction d with
    | zero =>
      intro i n hi hn
      obtain ⟨n, rfl⟩ : ∃ k, n = k + 1 := ⟨n - 1, by omega⟩
      have : i = m := by omega
      subst this
      rw [iter_end he n]; rfl
    | succ d ih =>
      intro i n hi hn
      obtain ⟨n, rfl⟩ : ∃ k, n = k + 1 := ⟨n - 1, by omega⟩
      have hf := hs i (by omega)
      rw [List.range'_succ, List.all_cons]
      cases hp : P i with
      | true => rw [hp, cond_true] at hf; rw [iter_go hf n, ih (i + 1) n (by omega) (by omega)]; rfl
      | false => rw [hp, cond_false] at hf; rw [iter_end hf n]; rfl
  intro n hn
  rw [List.range_eq_range']
  exact key m 0 n (by omega) hn
/-- A loop that goes on as long as something holds. -/
theorem while_loop (f : Int → Option (Int ⊕ Int)) (m : Nat) (P : Nat → Bool) (hs : ∀ i, i < m → f (i : Int) = some (bif P i then .inl ((i + 1 : Nat) : Int) else .inr (i : Int))) (he : f (m : Int) = some (.inr (m : Int))) :
    ∀ n, m < n → ∃ j, j ≤ m ∧ iter n f 0 = some (j : Int) ∧ (∀ i, i < j → P i = true) ∧ (j < m → P j = false) := by
  have key : ∀ d i n, i + d = m → d < n → ∃ j, i ≤ j ∧ j ≤ m ∧ iter n f (i : Int) = some (j : Int) ∧ (∀ q, i ≤ q → q < j → P q = true) ∧ (j < m → P j = false) := by
    intro d
    induction d with
    | zero =>
      intro i n hi hn
      obtain ⟨n, rfl⟩ : ∃ k, n = k + 1 := ⟨n - 1, by omega⟩
      have : i = m := by omega
      subst this
      exact ⟨i, Nat.le_refl _, Nat.le_refl _, iter_end he n, fun q h1 h2 => by omega, fun h => by omega⟩
    | succ d ih =>
      intro i n hi hn
      obtain ⟨n, rfl⟩ : ∃ k, n = k + 1 := ⟨n - 1, by omega⟩
      have hf := hs i (by omega)
      cases hp : P i with
      | true =>
        rw [hp, cond_true] at hf
        obtain ⟨j, h1, h2, h3, h4, h5⟩ := ih (i + 1) n (by omega) (by omega)
        refine ⟨j, by omega, h2, by rw [iter_go hf n]; exact h3, fun q q1 q2 => ?_, h5⟩
        by_cases e : q = i
        · subst e; exact hp
        · exact h4 q (by omega) q2
      | false => rw [hp, cond_false] at hf; exact ⟨i, Nat.le_refl _, by omega, iter_end hf n, fun q h1 h2 => by omega, fun _ => hp⟩
  intro n hn
  obtain ⟨j, _, h2, h3, h4, h5⟩ := key m 0 n (by omega) hn
  exact ⟨j, h2, h3, fun i hi => h4 i (by omega) hi, h5⟩

theorem take_get {β : Type} {a : List β} {i j : Nat} {y : β} (h : j < (a.take i).length) (hy : (a.take i)[j]? = some y) : j < i ∧ ∃ h : j < a.length, a[j] = y := by
  rw [List.length_take] at h
  rw [List.getElem?_take, if_pos (by omega), List.getElem?_eq_getElem (by omega)] at hy
  exact ⟨by omega, by omega, Option.some.inj hy⟩


/-- Is what stands ahead smaller? -/
def prevL {β : Type} (key : β → Int) (a : List β) (i : Nat) (x : β) : Bool := match i with
  | 0 => true
  | j + 1 => match a[j]? with
    | some y => !decide (key y ≥ key x)
    | none => true
theorem prev_F {β γ : Type} (key : β → Int) (a : List β) (x : β) (i : Nat) (hi : i < a.length) (hl : a.length ≤ 1048576) (F : Bool → Option γ) :
    (bif decide ((i : Int) > 0) then (getI a (w64 ((i : Int) - 1))).bind (fun y => F (decide (key y ≥ key x))) else F false) = F (!prevL key a i x) := by
  cases i with
  | zero => rfl
  | succ j =>
    have hw : w64 (((j + 1 : Nat) : Int) - 1) = (j : Int) := by rw [w64_eq (by omega) (by omega)]; omega
    rw [show decide (((j + 1 : Nat) : Int) > 0) = true by rw [decide_eq_true_eq]; omega, cond_true, hw, getI_lt (by omega), Option.bind_some]
    simp only [prevL, List.getElem?_eq_getElem (show j < a.length by omega), Bool.not_not]
def inB (a b c : Int) : Bool := decide (b ≤ a) && decide (a ≤ c)


theorem in_ok (a b c : Int) : spec_l1In a b c = some (inB a b c) := l1In_ok a b c


def floorOk (w h : Int) (c : List Int) : Bool := inB w 1 10 && inB h 1 10 && ((c.length : Int) == w64 (w * h)) && c.all fun k => inB k 0 4
theorem spec_FloorOk_ok (w h : Int) (c : List Int) (hl : c.length ≤ 1048576) (n : Nat) (hn : BIG ≤ n) : spec_FloorOk n w h c = some (floorOk w h c) := by
  have := all_loop (spec_FloorOk_L1 c) c (fun k => inB k 0 4) (fun i x h1 h2 => by
    have hx : c[i] = x := by rw [List.getElem?_eq_getElem h1] at h2; exact Option.some.inj h2
    simp only [spec_FloorOk_L1, getI_lt h1, hx, Option.bind_some, w64_nat h1 (by omega), in_ok]
    rw [show decide ((i : Int) < (c.length : Int)) = true by simpa using h1]
    cases inB x 0 4 <;> rfl) (by simp [spec_FloorOk_L1]) n (by unfold BIG at hn; omega)
  unfold spec_FloorOk floorOk
  rw [this]
  simp only [in_ok, Option.bind_some, bne]
  cases inB w 1 10 <;> cases inB h 1 10 <;> cases ((c.length : Int) == w64 (w * h)) <;> cases (c.all fun k => inB k 0 4) <;> rfl


theorem floor_eq : impl_FloorOk = spec_FloorOk := rfl


def freeC (c : List Int) (i : Int) : Bool := inB i 0 ((c.length : Int) - 1) && (c.getD i.toNat 0 != 0)
theorem in_nat {c : List Int} {i : Int} (h : inB i 0 ((c.length : Int) - 1) = true) : ∃ m : Nat, i = (m : Int) ∧ m < c.length := by
  unfold inB at h
  simp only [Bool.and_eq_true, decide_eq_true_eq] at h
  exact ⟨i.toNat, by omega, by omega⟩


theorem spec_l7Free_ok (w h : Int) (c : List Int) (hl : c.length ≤ 1048576) (i : Int) : spec_l7Free w h c i = some (freeC c i) := by
  unfold spec_l7Free freeC
  rw [show w64 ((c.length : Int) - 1) = (c.length : Int) - 1 from w64_eq (by omega) (by omega)]
  simp only [in_ok, Option.bind_some]
  cases hb : inB i 0 ((c.length : Int) - 1) with
  | false => rfl
  | true =>
    obtain ⟨m, rfl, hm⟩ := in_nat hb
    simp [getI_lt hm, hm]


theorem impl_KindAt_ok (w h : Int) (c : List Int) (hl : c.length ≤ 1048576) (hf : floorOk w h c = true) (i : Int) (n : Nat) (hn : BIG ≤ n) : ∃ k, impl_KindAt n w h c i = some k ∧ (k != 0) = freeC c i := by
  unfold impl_KindAt impl_isCell freeC
  rw [floor_eq, spec_FloorOk_ok w h c hl n hn, hf, show w64 ((c.length : Int) - 1) = (c.length : Int) - 1 from w64_eq (by omega) (by omega)]
  simp only [in_eq, in_ok, Option.bind_some]
  cases hb : inB i 0 ((c.length : Int) - 1) with
  | false => exact ⟨0, rfl, rfl⟩
  | true =>
    obtain ⟨m, rfl, hm⟩ := in_nat hb
    exact ⟨c[m], by simp [getI_lt hm], by simp [hm]⟩


theorem impl_standsOk_ok (w h : Int) (c : List Int) (hl : c.length ≤ 1048576) (hf : floorOk w h c = true) (x : SIIIBI) (n : Nat) (hn : BIG ≤ n) : impl_standsOk n w h c x.1 x.2.1 x.2.2.1 x.2.2.2.1 x.2.2.2.2 = some (freeC c x.2.1 && (x.2.2.1 == -1 || freeC c x.2.2.1)) := by
  unfold impl_standsOk
  obtain ⟨k1, e1, q1⟩ := impl_KindAt_ok w h c hl hf x.2.1 n hn
  obtain ⟨k2, e2, q2⟩ := impl_KindAt_ok w h c hl hf x.2.2.1 n hn
  simp only [e1, e2, Option.bind_some, q1, q2]
  cases freeC c x.2.1 <;> cases (x.2.2.1 == -1) <;> cases freeC c x.2.2.1 <;> rfl


def rOk (c : List Int) (crew : List (Int × Int × Int × Bool × Int)) (i : Nat) : Bool := match crew[i]? with
  | none => false
  | some x => inB x.1 1 99 && freeC c x.2.1 && (x.2.2.1 == -1 || freeC c x.2.2.1) && inB x.2.2.2.2 0 1000000 && prevL (·.1) crew i x && (crew.take i).all fun y => !(y.2.1 == x.2.1)
def crewOk (w h : Int) (c : List Int) (crew : List (Int × Int × Int × Bool × Int)) : Bool := floorOk w h c && decide (crew.length ≤ 20) && (List.range crew.length).all (rOk c crew)

theorem spec_CrewOk_in (crew : List (Int × Int × Int × Bool × Int)) (hl : crew.length ≤ 1048576) (i : Nat) (hi : i < crew.length) (x : Int × Int × Int × Bool × Int) (n : Nat) (hn : BIG ≤ n) :
    iter n (spec_CrewOk_L2 crew (i : Int) x) 0 = some (bif (crew.take i).all fun y => !(y.2.1 == x.2.1) then .inl (i : Int) else .inr false) := by
  have hlen : (crew.take i).length = i := by simp; omega
  have := all_loop (spec_CrewOk_L2 crew (i : Int) x) (crew.take i) (fun y => !(y.2.1 == x.2.1)) (fun j y h1 h2 => by
    obtain ⟨hj, hj2, hy⟩ := take_get h1 h2
    simp only [spec_CrewOk_L2, getI_lt hj2, hy, Option.bind_some, w64_nat hj2 (by omega)]
    rw [show decide ((j : Int) < (i : Int)) = true by rw [decide_eq_true_eq]; omega]
    cases (y.2.1 == x.2.1) <;> rfl) (by first | (simp [spec_CrewOk_L2, hlen]; done) | (simp [spec_CrewOk_L2, hlen]; omega)) n (by unfold BIG at hn; omega)
  rw [hlen] at this
  exact this
theorem spec_CrewOk_ok (w h : Int) (c : List Int) (hc : c.length ≤ 1048576) (crew : List (Int × Int × Int × Bool × Int)) (hl : crew.length ≤ 1048576) (n : Nat) (hn : BIG ≤ n) : spec_CrewOk n w h c crew = some (crewOk w h c crew) := by
  have := all_loopF (spec_CrewOk_L1 n w h c crew) (fun i => (i : Int)) crew.length (rOk c crew) (fun i hi => by
    have hp : (bif decide ((i : Int) > 0) then (getI crew (w64 ((i : Int) - 1))).bind (fun y => some (decide (y.1 ≥ crew[i].1))) else some false) = some (!prevL (·.1) crew i crew[i]) := prev_F (·.1) crew crew[i] i hi hl some
    simp only [spec_CrewOk_L1, rOk, getI_lt hi, List.getElem?_eq_getElem hi, Option.bind_some, in_ok, spec_l7Free_ok w h c hc, w64_nat hi (by omega), hp, spec_CrewOk_in crew hl i hi crew[i] n hn, bne]
    rw [show decide ((i : Int) < (crew.length : Int)) = true by simpa using hi]
    generalize crew[i] = x
    generalize ((crew.take i).all fun y => !(y.2.1 == x.2.1)) = b6
    generalize prevL (·.1) crew i x = b5
    generalize inB x.2.2.2.2 0 1000000 = b4
    generalize (x.2.2.1 == -1) = b3
    generalize freeC c x.2.2.1 = b7
    generalize freeC c x.2.1 = b2
    generalize inB x.1 1 99 = b1
    cases b1 <;> cases b2 <;> cases b3 <;> cases b4 <;> cases b5 <;> cases b6 <;> cases b7 <;> rfl) (by simp [spec_CrewOk_L1]) n (by unfold BIG at hn; omega)
  unfold spec_CrewOk crewOk
  rw [show ((0 : Nat) : Int) = 0 from rfl] at this
  rw [this, spec_FloorOk_ok w h c hc n hn]
  rw [show decide ((crew.length : Int) > 20) = !decide (crew.length ≤ 20) by by_cases q : crew.length ≤ 20 <;> simp [q] <;> omega]
  cases floorOk w h c <;> cases decide (crew.length ≤ 20) <;> cases (List.range crew.length).all (rOk c crew) <;> rfl


theorem impl_CrewOk_in (crew : List (Int × Int × Int × Bool × Int)) (hl : crew.length ≤ 1048576) (i : Nat) (hi : i < crew.length) (x : Int × Int × Int × Bool × Int) (n : Nat) (hn : BIG ≤ n) :
    iter n (impl_CrewOk_L2 crew (i : Int) x) 0 = some (bif (crew.take i).all fun y => !(y.2.1 == x.2.1) then .inl (i : Int) else .inr false) := by
  have hsub : sub crew (Int.toNat (0 : Int)) (Int.toNat (i : Int)) = crew.take i := by simp [sub]
  have hlen : (crew.take i).length = i := by simp; omega
  have := all_loop (impl_CrewOk_L2 crew (i : Int) x) (crew.take i) (fun y => !(y.2.1 == x.2.1)) (fun j y h1 h2 => by
    obtain ⟨hj, hj2, hy⟩ := take_get h1 h2
    simp only [impl_CrewOk_L2, hsub, getI_nat, h2, Option.bind_some, w64_nat hj2 (by omega), hlen]
    rw [show decide ((j : Int) < (i : Int)) = true by rw [decide_eq_true_eq]; omega]
    cases (y.2.1 == x.2.1) <;> rfl) (by simp only [impl_CrewOk_L2, hsub, hlen]; simp) n (by unfold BIG at hn; omega)
  rw [hlen] at this
  exact this
theorem impl_CrewOk_ok (w h : Int) (c : List Int) (hc : c.length ≤ 1048576) (crew : List (Int × Int × Int × Bool × Int)) (hl : crew.length ≤ 1048576) (n : Nat) (hn : BIG ≤ n) : impl_CrewOk n w h c crew = some (crewOk w h c crew) := by
  unfold impl_CrewOk crewOk
  rw [floor_eq, spec_FloorOk_ok w h c hc n hn]
  rw [show decide ((crew.length : Int) > 20) = !decide (crew.length ≤ 20) by by_cases q : crew.length ≤ 20 <;> simp [q] <;> omega]
  cases hf : floorOk w h c with
  | false => rfl
  | true =>
    have := all_loopF (impl_CrewOk_L1 n w h c crew) (fun i => (i : Int)) crew.length (rOk c crew) (fun i hi => by
      have hp : ∀ C : Option Bool, (bif decide ((i : Int) > 0) then (getI crew (w64 ((i : Int) - 1))).bind (fun y => bif decide (y.1 ≥ crew[i].1) then some true else C) else C) = bif !prevL (·.1) crew i crew[i] then some true else C := fun C => prev_F (·.1) crew crew[i] i hi hl fun b => bif b then some true else C
      have hr : (decide (0 ≤ (0 : Int)) && decide ((0 : Int) ≤ (i : Int)) && decide ((i : Int) ≤ (crew.length : Int))) = true := by simp; omega
      simp only [impl_CrewOk_L1, rOk, getI_lt hi, List.getElem?_eq_getElem hi, Option.bind_some, in_eq, in_ok, impl_standsOk_ok w h c hc hf _ n hn, w64_nat hi (by omega), hp, impl_CrewOk_in crew hl i hi crew[i] n hn, hr]
      rw [show decide ((i : Int) < (crew.length : Int)) = true by simpa using hi]
      generalize crew[i] = x
      generalize ((crew.take i).all fun y => !(y.2.1 == x.2.1)) = b6
      generalize prevL (·.1) crew i x = b5
      generalize inB x.2.2.2.2 0 1000000 = b4
      generalize (x.2.2.1 == -1) = b3
      generalize freeC c x.2.2.1 = b7
      generalize freeC c x.2.1 = b2
      generalize inB x.1 1 99 = b1
      cases b1 <;> cases b2 <;> cases b3 <;> cases b4 <;> cases b5 <;> cases b6 <;> cases b7 <;> rfl) (by simp [impl_CrewOk_L1]) n (by unfold BIG at hn; omega)
    rw [show ((0 : Nat) : Int) = 0 from rfl] at this
    rw [this]
    cases decide (crew.length ≤ 20) <;> cases (List.range crew.length).all (rOk c crew) <;> rfl


section
variable {α β γ δ : Type}
/-- Two loops that go together. -/
theorem iter_sim {f : α → Option (α ⊕ γ)} {g : β → Option (β ⊕ δ)} (R : α → β → Prop) (S : γ → δ → Prop) (μ : α → Nat)
    (h : ∀ x y, R x y → (∃ z w, f x = some (.inr z) ∧ g y = some (.inr w) ∧ S z w) ∨ (∃ x' y', f x = some (.inl x') ∧ g y = some (.inl y') ∧ R x' y' ∧ μ x' < μ x)) :
    ∀ n x y, R x y → μ x < n → ∃ z w, S z w ∧ iter n f x = some z ∧ iter n g y = some w := by
  intro n
  induction n with
  | zero => intro x y _ hn; omega
  | succ n ih =>
    intro x y hR hn
    rcases h x y hR with ⟨z, w, h1, h2, h3⟩ | ⟨x', y', h1, h2, h3, h4⟩
    · exact ⟨z, w, h3, iter_end h1 n, iter_end h2 n⟩
    · obtain ⟨z, w, h5, h6, h7⟩ := ih x' y' h3 (by omega)
      exact ⟨z, w, h5, (iter_go h1 n).trans h6, (iter_go h2 n).trans h7⟩
/-- The same, each with a number of rounds of its own. -/
theorem iter_sim2 {f : α → Option (α ⊕ γ)} {g : β → Option (β ⊕ δ)} (R : α → β → Prop) (S : γ → δ → Prop) (μ : α → Nat)
    (h : ∀ x y, R x y → (∃ z w, f x = some (.inr z) ∧ g y = some (.inr w) ∧ S z w) ∨ (∃ x' y', f x = some (.inl x') ∧ g y = some (.inl y') ∧ R x' y' ∧ μ x' < μ x)) :
    ∀ n n' x y, R x y → μ x < n → μ x < n' → ∃ z w, S z w ∧ iter n f x = some z ∧ iter n' g y = some w := by
  intro n
  induction n with
  | zero => intro n' x y _ hn; omega
  | succ n ih =>
    intro n' x y hR hn hn'
    obtain ⟨n', rfl⟩ : ∃ k, n' = k + 1 := ⟨n' - 1, by omega⟩
    rcases h x y hR with ⟨z, w, h1, h2, h3⟩ | ⟨x', y', h1, h2, h3, h4⟩
    · exact ⟨z, w, h3, iter_end h1 n, iter_end h2 n'⟩
    · obtain ⟨z, w, h5, h6, h7⟩ := ih n' x' y' h3 (by omega) (by omega)
      exact ⟨z, w, h5, (iter_go h1 n).trans h6, (iter_go h2 n').trans h7⟩
/-- One loop, by what holds of its states. -/
theorem iter_inv {f : α → Option (α ⊕ γ)} (R : α → Prop) (S : γ → Prop) (μ : α → Nat)
    (h : ∀ x, R x → (∃ z, f x = some (.inr z) ∧ S z) ∨ (∃ x', f x = some (.inl x') ∧ R x' ∧ μ x' < μ x)) :
    ∀ n x, R x → μ x < n → ∃ z, S z ∧ iter n f x = some z := by
  intro n
  induction n with
  | zero => intro x _ hn; omega
  | succ n ih =>
    intro x hR hn
    rcases h x hR with ⟨z, h1, h3⟩ | ⟨x', h1, h3, h4⟩
    · exact ⟨z, h3, iter_end h1 n⟩
    · obtain ⟨z, h5, h6⟩ := ih x' h3 (by omega)
      exact ⟨z, h5, (iter_go h1 n).trans h6⟩
end

theorem filter_loop (L : List Int × Int → Option ((List Int × Int) ⊕ (List Int × Int))) (xs : List Int) (P : Int → Bool)
    (hstep : ∀ (i : Nat) (x : Int) (out : List Int), xs[i]? = some x → i < xs.length → out.length ≤ i → L (out, (i : Int)) = some (.inl ((bif P x then out ++ [x] else out), ((i + 1 : Nat) : Int))))
    (hend : ∀ out, L (out, (xs.length : Int)) = some (.inr (out, (xs.length : Int)))) (n : Nat) (hn : xs.length < n) : iter n L ([], 0) = some (xs.filter P, (xs.length : Int)) := by
  obtain ⟨z, h1, h2⟩ := iter_inv (f := L) (fun s => ∃ i ≤ xs.length, s = ((xs.take i).filter P, (i : Int))) (fun s => s = (xs.filter P, (xs.length : Int))) (fun s => xs.length - s.2.toNat) (fun s hs => by
    obtain ⟨i, hi, rfl⟩ := hs
    by_cases hi2 : i = xs.length
    · subst hi2
      exact .inl ⟨_, hend _, by rw [List.take_length]⟩
    · have hi' : i < xs.length := by omega
      have hx : xs[i]? = some xs[i] := List.getElem?_eq_getElem hi'
      have hlen : ((xs.take i).filter P).length ≤ i := Nat.le_trans (List.length_filter_le _ _) (by simp; omega)
      refine .inr ⟨_, hstep i _ _ hx hi' hlen, ⟨i + 1, by omega, ?_⟩, by show xs.length - ((i + 1 : Nat) : Int).toNat < xs.length - (i : Int).toNat; omega⟩
      rw [List.take_succ_eq_append_getElem hi', List.filter_append]
      cases hp : P xs[i] <;> simp [hp]) n ([], 0) ⟨0, by omega, by simp⟩ (by simpa using hn)
  rw [h2, h1]

def besideL (w h i : Int) : List Int := (bif decide (i.tdiv w > 0) then [i - w] else []) ++ (bif decide (i.tmod w > 0) then [i - 1] else []) ++ (bif decide (i.tmod w < w - 1) then [i + 1] else []) ++ (bif decide (i.tdiv w < h - 1) then [i + w] else [])
structure Cell (w h i : Int) : Prop where
  w1 : 1 ≤ w
  w2 : w ≤ 10
  h1 : 1 ≤ h
  h2 : h ≤ 10
  i1 : 0 ≤ i
  i2 : i < w * h
theorem wh_le {w h : Int} (h1 : 1 ≤ w) (h2 : w ≤ 10) (h3 : 1 ≤ h) (h4 : h ≤ 10) : w * h ≤ 100 := by
  have := Int.mul_le_mul h2 h4 (by omega) (by omega : (0 : Int) ≤ 10)
  omega
theorem cell_div {w h i : Int} (c : Cell w h i) : ∃ q r, i = w * q + r ∧ 0 ≤ r ∧ r < w ∧ 0 ≤ q ∧ q ≤ h - 1 ∧ i.tdiv w = q ∧ i.tmod w = r ∧ 0 ≤ w * q ∧ w * q + w ≤ w * h := by
  obtain ⟨w1, w2, h1, h2, i1, i2⟩ := c
  have e1 : i.tdiv w = i / w := Int.tdiv_eq_ediv_of_nonneg i1
  have e2 : i.tmod w = i % w := Int.tmod_eq_emod_of_nonneg i1
  have e3 := Int.mul_ediv_add_emod i w
  have r1 := Int.emod_nonneg i (show w ≠ 0 by omega)
  have r2 := Int.emod_lt_of_pos i (show 0 < w by omega)
  have q1 : 0 ≤ i / w := Int.ediv_nonneg i1 (by omega)
  have q2 : i / w < h := Int.ediv_lt_of_lt_mul (by omega) (by rw [Int.mul_comm]; exact i2)
  refine ⟨i / w, i % w, e3.symm, r1, r2, q1, by omega, e1, e2, Int.mul_nonneg (by omega) q1, ?_⟩
  have := Int.mul_le_mul_of_nonneg_left (show i / w + 1 ≤ h by omega) (show (0 : Int) ≤ w by omega)
  rw [Int.mul_add, Int.mul_one] at this
  exact this
theorem beside_in {w h i : Int} (c : Cell w h i) : (∀ y ∈ besideL w h i, 0 ≤ y ∧ y < w * h ∧ y ≠ i) ∧ (besideL w h i).Nodup ∧ (besideL w h i).length ≤ 4 := by
  obtain ⟨q, r, e, r1, r2, q1, q2, e1, e2, m1, m2⟩ := cell_div c
  obtain ⟨w1, w2, h1, h2, i1, i2⟩ := c
  unfold besideL
  rw [e1, e2]
  have g1 : 0 < q → w ≤ w * q := fun h => by
    have := Int.mul_le_mul_of_nonneg_left (show (1 : Int) ≤ q by omega) (show (0 : Int) ≤ w by omega)
    omega
  have g2 : q < h - 1 → w * q + w + w ≤ w * h := fun hq => by
    have := Int.mul_le_mul_of_nonneg_left (show q + 1 + 1 ≤ h by omega) (show (0 : Int) ≤ w by omega)
    rw [Int.mul_add, Int.mul_add, Int.mul_one] at this
    omega
  have G1 : q ≤ 0 ∨ w ≤ w * q := by
    by_cases hq : 0 < q
    · exact .inr (g1 hq)
    · exact .inl (by omega)
  have G2 : h - 1 ≤ q ∨ w * q + w + w ≤ w * h := by
    by_cases hq : q < h - 1
    · exact .inr (g2 hq)
    · exact .inl (by omega)
  clear g1 g2
  generalize w * q = m at *
  generalize w * h = t at *
  subst e
  by_cases a1 : q > 0 <;> by_cases a2 : r > 0 <;> by_cases a3 : r < w - 1 <;> by_cases a4 : q < h - 1 <;> simp [a1, a2, a3, a4] <;> omega
theorem beside_ok {w h i : Int} (c : Cell w h i) (cs : List Int) : spec_l1Beside w h cs i = some (besideL w h i) := by
  obtain ⟨q, r, e, r1, r2, q1, q2, e1, e2, m1, m2⟩ := cell_div c
  obtain ⟨w1, w2, h1, h2, i1, i2⟩ := c
  have hb := wh_le w1 w2 h1 h2
  unfold spec_l1Beside besideL
  rw [e1, e2]
  rw [show (w == 0) = false by rw [beq_eq_false_iff_ne]; omega]
  simp only [cond_false, w64_eq (show -9223372036854775808 ≤ q by omega) (by omega), w64_eq (show -9223372036854775808 ≤ i - w by omega) (by omega), w64_eq (show -9223372036854775808 ≤ i - 1 by omega) (by omega), w64_eq (show -9223372036854775808 ≤ i + 1 by omega) (by omega), w64_eq (show -9223372036854775808 ≤ i + w by omega) (by omega), w64_eq (show -9223372036854775808 ≤ w - 1 by omega) (by omega), w64_eq (show -9223372036854775808 ≤ h - 1 by omega) (by omega)]
  generalize decide (q > 0) = b1
  generalize decide (r > 0) = b2
  generalize decide (r < w - 1) = b3
  generalize decide (q < h - 1) = b4
  cases b1 <;> cases b2 <;> cases b3 <;> cases b4 <;> rfl

theorem beside_eq : impl_beside = spec_l1Beside := rfl

/-- What a cell is. -/
def kindC (c : List Int) (i : Int) : Int := c.getD i.toNat 0
theorem kindC_at {c : List Int} {i : Int} (h : 0 ≤ i ∧ i < (c.length : Int)) : getI c i = some (kindC c i) := by
  obtain ⟨m, rfl⟩ : ∃ m : Nat, i = m := ⟨i.toNat, by omega⟩
  rw [getI_lt (by omega)]
  simp [kindC, List.getD, List.getElem?_eq_getElem (show m < c.length by omega)]
structure Flr (w h : Int) (c : List Int) : Prop where
  w1 : 1 ≤ w
  w2 : w ≤ 10
  h1 : 1 ≤ h
  h2 : h ≤ 10
  len : (c.length : Int) = w * h
theorem Flr.cell {w h : Int} {c : List Int} (f : Flr w h c) {i : Int} (hi : 0 ≤ i ∧ i < (c.length : Int)) : Cell w h i := ⟨f.w1, f.w2, f.h1, f.h2, hi.1, f.len ▸ hi.2⟩
theorem Flr.le {w h : Int} {c : List Int} (f : Flr w h c) : c.length ≤ 100 := by
  have := wh_le f.w1 f.w2 f.h1 f.h2
  have := f.len
  omega
theorem flr_of {w h : Int} {c : List Int} (hf : floorOk w h c = true) : Flr w h c := by
  unfold floorOk inB at hf
  simp only [Bool.and_eq_true, decide_eq_true_eq, beq_iff_eq] at hf
  obtain ⟨⟨⟨⟨a, b⟩, ⟨d, e⟩⟩, g⟩, _⟩ := hf
  have h1 := wh_le a b d e
  have h2 : 0 ≤ w * h := Int.mul_nonneg (by omega) (by omega)
  rw [w64_eq (by omega) (by omega)] at g
  exact ⟨a, b, d, e, g⟩
/-- Cells beside a cell that are no walls. -/
def nearL (w h : Int) (c : List Int) (i : Int) (a : Bool) : List Int := (besideL w h i).filter fun k => kindC c k != 0 && !(a && kindC c k == 2)
theorem near_in {w h : Int} {c : List Int} (f : Flr w h c) {i : Int} (hi : 0 ≤ i ∧ i < (c.length : Int)) (a : Bool) : (∀ y ∈ nearL w h c i a, (0 ≤ y ∧ y < (c.length : Int)) ∧ y ≠ i) ∧ (nearL w h c i a).Nodup ∧ (nearL w h c i a).length ≤ 4 := by
  obtain ⟨h1, h2, h3⟩ := beside_in (f.cell hi)
  refine ⟨fun y hy => ?_, h2.filter _, Nat.le_trans (List.length_filter_le _ _) h3⟩
  have := h1 y (List.mem_filter.1 hy).1
  rw [f.len]
  exact ⟨⟨this.1, this.2.1⟩, this.2.2⟩
theorem spec_near_ok {w h : Int} {c : List Int} (f : Flr w h c) {i : Int} (hi : 0 ≤ i ∧ i < (c.length : Int)) (a : Bool) (n : Nat) (hn : BIG ≤ n) : spec_l1Near n w h c i a = some (nearL w h c i a) := by
  obtain ⟨h1, h2, h3⟩ := beside_in (f.cell hi)
  have := filter_loop (spec_l1Near_L1 c a (besideL w h i)) (besideL w h i) (fun k => kindC c k != 0 && !(a && kindC c k == 2)) (fun j x out hx hj ho => by
    have hxm := h1 x (List.mem_of_getElem? hx)
    have hm : decide (out.length + [x].length ≤ maxRow) = true := by rw [decide_eq_true_eq]; simp [maxRow]; omega
    simp only [spec_l1Near_L1, inb_lt hj, Int.toNat_natCast, hx, Option.bind_some, kindC_at (c := c) (i := x) (by rw [f.len]; exact ⟨hxm.1, hxm.2.1⟩), w64_nat hj (by omega), cond_true, hm]
    rw [show decide ((j : Int) < ((besideL w h i).length : Int)) = true by simpa using hj]
    simp only [bne]
    generalize (kindC c x == 0) = b1
    generalize (kindC c x == 2) = b2
    cases a <;> cases b1 <;> cases b2 <;> rfl) (fun out => by simp [spec_l1Near_L1]) n (by unfold BIG at hn; omega)
  unfold spec_l1Near
  rw [beside_ok (f.cell hi), Option.bind_some, this]
  rfl

theorem impl_near_ok {w h : Int} {c : List Int} (f : Flr w h c) {i : Int} (hi : 0 ≤ i ∧ i < (c.length : Int)) (a : Bool) (n : Nat) (hn : BIG ≤ n) : impl_near n w h c i a = some (nearL w h c i a) := by
  obtain ⟨h1, h2, h3⟩ := beside_in (f.cell hi)
  have := filter_loop (impl_near_L1 c a (besideL w h i)) (besideL w h i) (fun k => kindC c k != 0 && !(a && kindC c k == 2)) (fun j x out hx hj ho => by
    have hxm := h1 x (List.mem_of_getElem? hx)
    have hm : decide (out.length + [x].length ≤ maxRow) = true := by rw [decide_eq_true_eq]; simp [maxRow]; omega
    simp only [impl_near_L1, inb_lt hj, Int.toNat_natCast, hx, Option.bind_some, kindC_at (c := c) (i := x) (by rw [f.len]; exact ⟨hxm.1, hxm.2.1⟩), w64_nat hj (by omega), cond_true, hm]
    rw [show decide ((j : Int) < ((besideL w h i).length : Int)) = true by simpa using hj]
    simp only [bne]
    generalize (kindC c x == 0) = b1
    generalize (kindC c x == 2) = b2
    cases a <;> cases b1 <;> cases b2 <;> rfl) (fun out => by simp [impl_near_L1]) n (by unfold BIG at hn; omega)
  unfold impl_near
  rw [beside_eq, beside_ok (f.cell hi), Option.bind_some, this]
  rfl

structure FJ (N : Nat) (q out : List Int) : Prop where
  len : out.length = N
  qin : ∀ y ∈ q, 0 ≤ y ∧ y < (N : Int)
  bnd : ∀ x ∈ out, -1 ≤ x ∧ x < (q.length : Int)
  cnt : q.length + out.countP (fun x => decide (x < 0)) = N
theorem at_in {out : List Int} {v : Int} (h : 0 ≤ v ∧ v < (out.length : Int)) : inb out v = true ∧ out[v.toNat]? = some (kindC out v) ∧ kindC out v ∈ out := by
  obtain ⟨m, rfl⟩ : ∃ m : Nat, v = m := ⟨v.toNat, by omega⟩
  have hm : m < out.length := by omega
  have e : kindC out (m : Int) = out[m] := by simp [kindC, List.getD, List.getElem?_eq_getElem hm]
  refine ⟨inb_lt hm, ?_, ?_⟩
  · rw [e, Int.toNat_natCast]; exact List.getElem?_eq_getElem hm
  · rw [e]; exact List.getElem_mem hm
theorem FJ.relax {N : Nat} {q out : List Int} (h : FJ N q out) {v a : Int} (hv : 0 ≤ v ∧ v < (N : Int)) (ha : 0 ≤ a ∧ a < (N : Int)) (hneg : kindC out v < 0) : FJ N (q ++ [v]) (out.set v.toNat (kindC out a + 1)) := by
  obtain ⟨_, e1, _⟩ := at_in (out := out) (v := v) (by rw [h.len]; exact hv)
  obtain ⟨_, _, m2⟩ := at_in (out := out) (v := a) (by rw [h.len]; exact ha)
  have hb := h.bnd _ m2
  obtain ⟨hvl, e2⟩ := List.getElem?_eq_some_iff.1 e1
  refine ⟨by simp [h.len], fun y hy => ?_, fun x hx => ?_, ?_⟩
  · rcases List.mem_append.1 hy with hy | hy
    · exact h.qin y hy
    · rw [List.mem_singleton.1 hy]; exact hv
  · rcases List.mem_or_eq_of_mem_set hx with hx | rfl
    · have := h.bnd x hx
      simp; omega
    · simp; omega
  · have hc := h.cnt
    rw [List.countP_set hvl, e2]
    have hp : 0 < out.countP (fun x => decide (x < 0)) := List.countP_pos_iff.2 ⟨kindC out v, by rw [← e2]; exact List.getElem_mem hvl, by simpa using hneg⟩
    simp only [hneg, decide_true, if_true, List.length_append, List.length_singleton]
    rw [if_neg (by simp; omega)]
    omega

theorem field_in (w h : Int) (c : List Int) (N : Nat) (hN : N ≤ 100) (a : Int) (ha : 0 ≤ a ∧ a < (N : Int)) (nl : List Int) (hnl : ∀ y ∈ nl, 0 ≤ y ∧ y < (N : Int)) (hl4 : nl.length ≤ 4) (k : Nat) (n n' : Nat) (hn : BIG ≤ n) (hn' : BIG ≤ n') (q out : List Int) (hk : k ≤ q.length) (hJ : FJ N q out) :
    ∃ q' out', iter n (spec_l2Field_L3 a nl) (q, 0, out) = some (q', (nl.length : Int), out') ∧ iter n' (impl_field_L3 a nl) (q.drop k, 0, out) = some (q'.drop k, (nl.length : Int), out') ∧ k ≤ q'.length ∧ FJ N q' out' := by
  obtain ⟨z, w', ⟨q', out', rfl, rfl, h1, h2⟩, h3, h4⟩ := iter_sim2 (f := spec_l2Field_L3 a nl) (g := impl_field_L3 a nl)
    (fun x y => ∃ (i : Nat) (q out : List Int), x = (q, (i : Int), out) ∧ y = (q.drop k, (i : Int), out) ∧ i ≤ nl.length ∧ k ≤ q.length ∧ FJ N q out)
    (fun z w => ∃ (q out : List Int), z = (q, (nl.length : Int), out) ∧ w = (q.drop k, (nl.length : Int), out) ∧ k ≤ q.length ∧ FJ N q out)
    (fun x => nl.length - x.2.1.toNat) (fun x y hR => by
      obtain ⟨i, q, out, rfl, rfl, hi, hk, hJ⟩ := hR
      by_cases hi2 : i = nl.length
      · subst hi2
        exact .inl ⟨(q, (nl.length : Int), out), (q.drop k, (nl.length : Int), out), by simp [spec_l2Field_L3], by simp [impl_field_L3], q, out, rfl, rfl, hk, hJ⟩
      · right
        have hi' : i < nl.length := by omega
        have hv := hnl nl[i] (List.getElem_mem hi')
        have hx : nl[i]? = some nl[i] := List.getElem?_eq_getElem hi'
        generalize nl[i] = v at hv hx
        obtain ⟨v1, v2, v3⟩ := at_in (out := out) (v := v) (by rw [hJ.len]; exact hv)
        obtain ⟨a1, a2, a3⟩ := at_in (out := out) (v := a) (by rw [hJ.len]; exact ha)
        have hd : decide ((i : Int) < (nl.length : Int)) = true := by simpa using hi'
        have hq : q.length ≤ 100 := by have := hJ.cnt; omega
        have hw : w64 (kindC out a + 1) = kindC out a + 1 := by
          have := hJ.bnd _ a3
          exact w64_eq (by omega) (by omega)
        by_cases hneg : kindC out v < 0
        · refine ⟨(q ++ [v], ((i + 1 : Nat) : Int), out.set v.toNat (kindC out a + 1)), ((q ++ [v]).drop k, ((i + 1 : Nat) : Int), out.set v.toNat (kindC out a + 1)), ?_, ?_, ⟨i + 1, _, _, rfl, rfl, by omega, by simp; omega, hJ.relax hv ha hneg⟩, by show nl.length - ((i + 1 : Nat) : Int).toNat < nl.length - (i : Int).toNat; omega⟩
          · have hm : decide (q.length + [v].length ≤ maxRow) = true := by rw [decide_eq_true_eq]; simp [maxRow]; omega
            simp only [spec_l2Field_L3, hd, inb_lt hi', Int.toNat_natCast, hx, Option.bind_some, v1, v2, a1, a2, decide_eq_true hneg, cond_true, hm, hw, w64_nat hi' (by omega), upd_is]
          · have hm : decide ((q.drop k).length + [v].length ≤ maxRow) = true := by rw [decide_eq_true_eq]; simp [maxRow]; omega
            simp only [impl_field_L3, hd, inb_lt hi', Int.toNat_natCast, hx, Option.bind_some, v1, v2, a1, a2, decide_eq_true hneg, cond_true, hm, hw, w64_nat hi' (by omega), upd_is]
            rw [List.drop_append_of_le_length hk]
        · refine ⟨(q, ((i + 1 : Nat) : Int), out), (q.drop k, ((i + 1 : Nat) : Int), out), ?_, ?_, ⟨i + 1, _, _, rfl, rfl, by omega, hk, hJ⟩, by show nl.length - ((i + 1 : Nat) : Int).toNat < nl.length - (i : Int).toNat; omega⟩
          · simp only [spec_l2Field_L3, hd, inb_lt hi', Int.toNat_natCast, hx, Option.bind_some, v1, v2, decide_eq_false hneg, cond_true, cond_false, w64_nat hi' (by omega)]
          · simp only [impl_field_L3, hd, inb_lt hi', Int.toNat_natCast, hx, Option.bind_some, v1, v2, decide_eq_false hneg, cond_true, cond_false, w64_nat hi' (by omega)]) n n' (q, 0, out) (q.drop k, 0, out) ⟨0, q, out, rfl, rfl, by omega, hk, hJ⟩ (by show nl.length - (0 : Int).toNat < n; unfold BIG at hn; omega) (by show nl.length - (0 : Int).toNat < n'; unfold BIG at hn'; omega)
  exact ⟨q', out', h3, h4, h1, h2⟩

theorem field_init (c : List Int) (hl : c.length ≤ 100) (n : Nat) (hn : BIG ≤ n) : iter n (spec_l2Field_L1 c) ([], 0) = some (List.replicate c.length (-1), (c.length : Int)) := by
  have := iter_steps (spec_l2Field_L1 c) (fun i => (List.replicate i (-1), (i : Int))) c.length (List.replicate c.length (-1), (c.length : Int)) (fun i hi => by
    have hm : decide ((List.replicate i (-1 : Int)).length + [(-1 : Int)].length ≤ maxRow) = true := by rw [decide_eq_true_eq]; simp [maxRow]; omega
    simp only [spec_l2Field_L1, hm, w64_nat hi (by omega)]
    rw [show decide ((i : Int) < (c.length : Int)) = true by simpa using hi]
    simp [List.replicate_succ']) (by simp [spec_l2Field_L1]) n (by unfold BIG at hn; omega)
  simpa using this

theorem set_init (L : Int × List Int → Option ((Int × List Int) ⊕ (Int × List Int))) (N : Nat) (x : Int) (hL : ∀ (i : Nat) (out : List Int), i < N → out.length = N → L ((i : Int), out) = some (.inl (((i + 1 : Nat) : Int), out.set i x))) (he : ∀ out, out.length = N → L ((N : Int), out) = some (.inr ((N : Int), out))) (n : Nat) (hn : N < n) :
    iter n L (0, List.replicate N 0) = some ((N : Int), List.replicate N x) := by
  have := iter_steps L (fun i => ((i : Int), List.replicate i x ++ List.replicate (N - i) 0)) N ((N : Int), List.replicate N x) (fun i hi => by
    rw [hL i _ hi (by simp; omega)]
    congr 3
    rw [List.set_append_right _ _ (by simp), List.length_replicate, Nat.sub_self, List.replicate_succ']
    rw [show N - i = (N - (i + 1)) + 1 by omega, List.replicate_succ, List.set_cons_zero, List.append_assoc]
    rfl) (by rw [he _ (by simp)]; simp) n hn
  simpa using this
theorem impl_field_init (c : List Int) (hl : c.length ≤ 100) (n : Nat) (hn : BIG ≤ n) : iter n (impl_field_L1 c) (0, List.replicate (Int.toNat (c.length : Int)) 0) = some ((c.length : Int), List.replicate c.length (-1)) := by
  rw [Int.toNat_natCast]
  refine set_init _ c.length (-1) (fun i out hi ho => ?_) (fun out ho => by simp [impl_field_L1]) n (by unfold BIG at hn; omega)
  simp only [impl_field_L1, inb_lt (ho ▸ hi), w64_nat hi (by omega), upd_is, Int.toNat_natCast, cond_true, List.length_replicate]
  rw [show decide ((i : Int) < (c.length : Int)) = true by simpa using hi]
  rfl
theorem field_two {w h : Int} {c : List Int} (f : Flr w h c) {t : Int} (ht : 0 ≤ t ∧ t < (c.length : Int)) (b : Bool) (n n' : Nat) (hn : BIG ≤ n) (hn' : BIG ≤ n') :
    ∃ F, spec_l2Field n w h c t b = some F ∧ impl_field n' w h c t b = some F ∧ F.length = c.length ∧ ∀ x ∈ F, -1 ≤ x ∧ x < (c.length : Int) := by
  have hN := f.le
  have hB : 1048576 ≤ n := Nat.le_trans (by decide) hn
  have hB' : 1048576 ≤ n' := Nat.le_trans (by decide) hn'
  have hJ0 : FJ c.length [t] ((List.replicate c.length (-1)).set t.toNat 0) := by
    have hr : ∀ x ∈ List.replicate c.length (-1 : Int), x = -1 := fun x hx => (List.mem_replicate.1 hx).2
    have htl : t.toNat < (List.replicate c.length (-1 : Int)).length := by simp; omega
    refine ⟨by simp, fun y hy => by rw [List.mem_singleton.1 hy]; exact ht, fun x hx => ?_, ?_⟩
    · rcases List.mem_or_eq_of_mem_set hx with hx | rfl
      · rw [hr x hx]; simp
      · simp
    · rw [List.countP_set htl]
      have : (List.replicate c.length (-1 : Int)).countP (fun x => decide (x < 0)) = c.length := by rw [List.countP_replicate]; simp
      rw [this]
      simp; omega
  obtain ⟨z, w', ⟨F, hz, hw, h1, h2⟩, h3, h4⟩ := iter_sim2 (f := spec_l2Field_L2 n w h c t b) (g := impl_field_L2 n' w h c t b)
    (fun x y => ∃ (k : Nat) (q out : List Int), x = (q, (k : Int), out) ∧ y = (q.drop k, out) ∧ k ≤ q.length ∧ FJ c.length q out)
    (fun z w => ∃ F, z.2.2 = F ∧ w.2 = F ∧ F.length = c.length ∧ ∀ x ∈ F, -1 ≤ x ∧ x < (c.length : Int))
    (fun x => c.length - x.2.1.toNat) (fun x y hR => by
      obtain ⟨k, q, out, rfl, rfl, hk, hJ⟩ := hR
      have hq : q.length ≤ c.length := by have := hJ.cnt; omega
      by_cases hk2 : k = q.length
      · subst hk2
        refine .inl ⟨(q, (q.length : Int), out), ([], out), by simp [spec_l2Field_L2], by simp [impl_field_L2], out, rfl, rfl, hJ.len, fun x hx => ?_⟩
        have := hJ.bnd x hx
        omega
      · right
        have hk' : k < q.length := by omega
        have hx : q[k]? = some q[k] := List.getElem?_eq_getElem hk'
        have hv := hJ.qin q[k] (List.getElem_mem hk')
        have hdc : q.drop k = q[k] :: q.drop (k + 1) := List.drop_eq_getElem_cons hk'
        generalize q[k] = v at hx hv hdc
        have hd : decide ((k : Int) < (q.length : Int)) = true := by simpa using hk'
        have hlen1 : decide (((q.drop k).length : Int) > 0) = true := by rw [decide_eq_true_eq]; simp; omega
        have hsub : sub (q.drop k) (Int.toNat 1) (Int.toNat ((q.drop k).length : Int)) = q.drop (k + 1) := by
          rw [hdc]; simp [sub, List.take_of_length_le]
        have hrng : (decide ((0 : Nat) ≤ 1) && decide ((1 : Int) ≤ ((q.drop k).length : Int)) && decide (((q.drop k).length : Int) ≤ ((q.drop k).length : Int))) = true := by simp; omega
        have h0 : (q.drop k)[Int.toNat 0]? = some v := by rw [hdc]; rfl
        have hi0 : inb (q.drop k) 0 = true := by rw [hdc]; exact inb_lt (i := 0) (by simp)
        have hwk := w64_nat hk' (by omega)
        have hkc := kindC_at (c := c) (i := v) (by exact hv)
        by_cases hskip : (b && v != t && kindC c v == 2) = true
        · refine ⟨(q, ((k + 1 : Nat) : Int), out), (q.drop (k + 1), out), ?_, ?_, ⟨k + 1, q, out, rfl, rfl, by omega, hJ⟩, by show c.length - ((k + 1 : Nat) : Int).toNat < c.length - (k : Int).toNat; omega⟩
          · simp only [spec_l2Field_L2, hd, inb_lt hk', Int.toNat_natCast, hx, Option.bind_some, cond_true, hkc, hwk]
            rw [Bool.and_eq_true, Bool.and_eq_true] at hskip
            rw [hskip.1.1, hskip.1.2, hskip.2]
            rfl
          · simp only [impl_field_L2, hlen1, hi0, h0, Option.bind_some, cond_true, hrng, hkc, hsub]
            rw [Bool.and_eq_true, Bool.and_eq_true] at hskip
            rw [hskip.1.1, hskip.1.2, hskip.2]
            rfl
        · obtain ⟨n1, n2, n3⟩ := near_in f hv false
          obtain ⟨q', out', e1, e2, e3, e4⟩ := field_in w h c c.length hN v hv (nearL w h c v false) (fun y hy => (n1 y hy).1) n3 (k + 1) n n' hn hn' q out (by omega) hJ
          refine ⟨(q', ((k + 1 : Nat) : Int), out'), (q'.drop (k + 1), out'), ?_, ?_, ⟨k + 1, q', out', rfl, rfl, e3, e4⟩, by show c.length - ((k + 1 : Nat) : Int).toNat < c.length - (k : Int).toNat; omega⟩
          · simp only [spec_l2Field_L2, hd, inb_lt hk', Int.toNat_natCast, hx, Option.bind_some, cond_true, hkc, hwk, spec_near_ok f hv false n hn, e1]
            generalize (v != t) = b2 at hskip
            generalize (kindC c v == 2) = b3 at hskip
            cases b <;> cases b2 <;> cases b3 <;> first | rfl | (exact absurd rfl hskip) | (exact absurd hskip (by decide))
          · simp only [impl_field_L2, hlen1, hi0, h0, Option.bind_some, cond_true, hrng, hkc, hsub, impl_near_ok f hv false n' hn', e2]
            generalize (v != t) = b2 at hskip
            generalize (kindC c v == 2) = b3 at hskip
            cases b <;> cases b2 <;> cases b3 <;> first | rfl | (exact absurd rfl hskip) | (exact absurd hskip (by decide))) n n' ([t], 0, (List.replicate c.length (-1)).set t.toNat 0) ([t], (List.replicate c.length (-1)).set t.toNat 0) ⟨0, [t], _, rfl, rfl, by simp, hJ0⟩ (by show c.length - (0 : Int).toNat < n; omega) (by show c.length - (0 : Int).toNat < n'; omega)
  have hin : inb (List.replicate c.length (-1 : Int)) t = true := (at_in (by simpa using ht)).1
  have hmr : (decide ((0 : Int) ≤ (c.length : Int)) && decide ((c.length : Int) ≤ (maxRow : Int)) && decide ((c.length : Int) = (c.length : Int))) = true := by
    have hm : (c.length : Int) ≤ (maxRow : Int) := by unfold maxRow; omega
    rw [decide_eq_true hm]; simp
  refine ⟨F, ?_, ?_, h1, h2⟩
  · unfold spec_l2Field
    rw [field_init c hN n hn, Option.bind_some]
    dsimp only
    rw [hin, upd_is, h3, ← hz]; rfl
  · unfold impl_field
    rw [hmr, impl_field_init c hN n' hn', cond_true, Option.bind_some]
    dsimp only
    rw [hin, upd_is, h4, ← hw]; rfl
theorem field_ok {w h : Int} {c : List Int} (f : Flr w h c) {t : Int} (ht : 0 ≤ t ∧ t < (c.length : Int)) (b : Bool) :
    ∃ F, (∀ n, BIG ≤ n → spec_l2Field n w h c t b = some F ∧ impl_field n w h c t b = some F) ∧ F.length = c.length ∧ ∀ x ∈ F, -1 ≤ x ∧ x < (c.length : Int) := by
  obtain ⟨F, h1, h2, h3, h4⟩ := field_two f ht b BIG BIG (Nat.le_refl _) (Nat.le_refl _)
  refine ⟨F, fun n hn => ⟨?_, ?_⟩, h3, h4⟩
  · obtain ⟨G, g1, g2, _⟩ := field_two f ht b n BIG hn (Nat.le_refl _)
    rw [h2] at g2; injection g2 with g2
    rw [g1, g2]
  · obtain ⟨G, g1, g2, _⟩ := field_two f ht b BIG n (Nat.le_refl _) hn
    rw [h1] at g1; injection g1 with g1
    rw [g2, g1]

theorem spec_l1In_ok (a b c : Int) : spec_l1In a b c = some (decide (b ≤ a) && decide (a ≤ c)) := by
  unfold spec_l1In
  by_cases h : a ≥ b <;> simp [h]

theorem impl_in_ok (a b c : Int) : impl_in a b c = some (decide (b ≤ a) && decide (a ≤ c)) := by
  unfold impl_in
  by_cases h : a ≥ b <;> simp [h]


/-- A task that is right by itself. -/
def taskGood (t : Int × Int × Int × Int) : Bool :=
  decide (1 ≤ t.1) && decide (t.1 ≤ 1000000) && decide (1 ≤ t.2.1) && decide (t.2.1 ≤ 999) && decide (1 ≤ t.2.2.2) && decide (t.2.2.2 ≤ 4) && decide (0 ≤ t.2.2.1) && decide (t.2.2.1 ≤ 99) && ((t.2.2.1 == 0) == (t.2.2.2 == 1))
def taskClash (t u : Int × Int × Int × Int) : Bool :=
  (t.1 == u.1 && t.2.1 == u.2.1) || (!(t.2.2.2 == 1) && (t.2.2.1 == u.2.2.1 || (t.2.1 == u.2.1 && !(u.2.2.2 == 1))))
def tasksGo : List (Int × Int × Int × Int) → List (Int × Int × Int × Int) → Bool
  | _, [] => true
  | p, x :: l => taskGood x && p.all (fun u => !taskClash x u) && tasksGo (p ++ [x]) l
def tasksOk (l : List (Int × Int × Int × Int)) : Bool := decide (l.length ≤ 60) && tasksGo [] l


theorem sub_zero {α : Type} (xs : List α) (i : Nat) : sub xs (Int.toNat (0 : Int)) (Int.toNat (i : Int)) = xs.take i := by simp [sub]

theorem impl_clash (x u : Int × Int × Int × Int) (i : Nat) (a : List (Int × Int × Int × Int)) (k : Nat) (hk : k < (a.take i).length) (hu : (a.take i)[k]? = some u) (hm : a.length ≤ 1048576) :
    impl_TasksOk_L2 a i x k = some (bif taskClash x u then .inr (.inr false) else .inl ((k + 1 : Nat) : Int)) := by
  unfold impl_TasksOk_L2
  rw [sub_zero, getI_nat, hu]
  have hk' : decide ((k : Int) < ((a.take i).length : Int)) = true := by simp only [decide_eq_true_eq]; omega
  rw [hk', cond_true, w64_nat hk (by simp; omega)]
  simp only [Option.bind_some, taskClash]
  cases (x.1 == u.1) <;> cases (x.2.1 == u.2.1) <;> cases (x.2.2.2 == 1) <;> cases (x.2.2.1 == u.2.2.1) <;> cases hq : (u.2.2.2 == 1) <;> simp [bne, hq]

theorem spec_clash (x u : Int × Int × Int × Int) (i : Nat) (a : List (Int × Int × Int × Int)) (k : Nat) (hk : k < i) (hu : a[k]? = some u) (hi : i ≤ a.length) (hm : a.length ≤ 1048576) :
    spec_TasksOk_L2 a i x k = some (bif taskClash x u then .inr (.inr false) else .inl ((k + 1 : Nat) : Int)) := by
  unfold spec_TasksOk_L2
  rw [getI_nat, hu]
  have hk' : decide ((k : Int) < (i : Int)) = true := by simp only [decide_eq_true_eq]; omega
  rw [hk', cond_true, w64_nat hk (by omega)]
  simp only [Option.bind_some, taskClash]
  rw [BEq.comm (a := u.1), BEq.comm (a := u.2.1), BEq.comm (a := u.2.2.1)]
  cases (x.1 == u.1) <;> cases (x.2.1 == u.2.1) <;> cases (x.2.2.2 == 1) <;> cases (x.2.2.1 == u.2.2.1) <;> cases hq : (u.2.2.2 == 1) <;> simp [bne, hq]


theorem impl_inner (x : Int × Int × Int × Int) (i : Nat) (a : List (Int × Int × Int × Int)) (hi : i ≤ a.length) (hm : a.length ≤ 1048576) (n : Nat) (hn : BIG ≤ n) :
    iter n (impl_TasksOk_L2 a i x) 0 = some (bif (a.take i).all (fun u => !taskClash x u) then .inl (i : Int) else .inr false) := by
  have hl : (a.take i).length = i := by simp; omega
  refine (iter_list (impl_TasksOk_L2 a i x) (a.take i) (fun p l => bif l.all (fun u => !taskClash x u) then .inl (i : Int) else .inr false) ?_ ?_ n (by unfold BIG at hn; omega))
  · unfold impl_TasksOk_L2
    rw [sub_zero, hl]; simp [hl]
  · intro k u l p h1 h2 h3 h4 h5
    rw [impl_clash x u i a k h1 h2 hm]
    cases hc : taskClash x u with
    | true => exact .inr (by simp [hc])
    | false => exact .inl ⟨by simp, by simp [hc]⟩

theorem spec_inner (x : Int × Int × Int × Int) (i : Nat) (a : List (Int × Int × Int × Int)) (hi : i ≤ a.length) (hm : a.length ≤ 1048576) (n : Nat) (hn : BIG ≤ n) :
    iter n (spec_TasksOk_L2 a i x) 0 = some (bif (a.take i).all (fun u => !taskClash x u) then .inl (i : Int) else .inr false) := by
  have hl : (a.take i).length = i := by simp; omega
  refine (iter_list (spec_TasksOk_L2 a i x) (a.take i) (fun p l => bif l.all (fun u => !taskClash x u) then .inl (i : Int) else .inr false) ?_ ?_ n (by unfold BIG at hn; omega))
  · unfold spec_TasksOk_L2
    rw [hl]; simp
  · intro k u l p h1 h2 h3 h4 h5
    have hk : k < i := by omega
    rw [spec_clash x u i a k hk (by rw [List.getElem?_take_of_lt hk] at h2; exact h2) hi hm]
    cases hc : taskClash x u with
    | true => exact .inr (by simp [hc])
    | false => exact .inl ⟨by simp, by simp [hc]⟩


theorem impl_good (x : Int × Int × Int × Int) :
    ((impl_in x.1 1 1000000).bind fun (x3 : Bool) => bif (!x3) then some true else (impl_in x.2.1 1 999).bind fun (x4 : Bool) => bif (!x4) then some true else (impl_in x.2.2.2 1 4).bind fun (x5 : Bool) => bif (!x5) then some true else
      bif ((x.2.2.2 == 1) != (x.2.2.1 == 0)) then some true else (impl_in x.2.2.1 0 99).bind fun (x6 : Bool) => some (!x6)) = some (!taskGood x) := by
  simp only [impl_in_ok, Option.bind_some, taskGood]
  cases decide (1 ≤ x.1) <;> cases decide (x.1 ≤ 1000000) <;> cases decide (1 ≤ x.2.1) <;> cases decide (x.2.1 ≤ 999) <;> cases decide (1 ≤ x.2.2.2) <;> cases decide (x.2.2.2 ≤ 4) <;> simp <;>
    cases (x.2.2.2 == 1) <;> cases (x.2.2.1 == 0) <;> simp

theorem spec_good (x : Int × Int × Int × Int) :
    ((spec_l1In x.1 1 1000000).bind fun (x3 : Bool) => bif (!x3) then some true else (spec_l1In x.2.1 1 999).bind fun (x4 : Bool) => bif (!x4) then some true else (spec_l1In x.2.2.2 1 4).bind fun (x5 : Bool) => bif (!x5) then some true else
      (spec_l1In x.2.2.1 0 99).bind fun (x6 : Bool) => bif (!x6) then some true else some ((x.2.2.1 == 0) != (x.2.2.2 == 1))) = some (!taskGood x) := by
  simp only [spec_l1In_ok, Option.bind_some, taskGood]
  cases decide (1 ≤ x.1) <;> cases decide (x.1 ≤ 1000000) <;> cases decide (1 ≤ x.2.1) <;> cases decide (x.2.1 ≤ 999) <;> cases decide (1 ≤ x.2.2.2) <;> cases decide (x.2.2.2 ≤ 4) <;> simp <;>
    cases (x.2.2.2 == 1) <;> cases (x.2.2.1 == 0) <;> cases decide (0 ≤ x.2.2.1) <;> cases decide (x.2.2.1 ≤ 99) <;> simp


theorem impl_TasksOk_ok (a : List (Int × Int × Int × Int)) (hm : a.length ≤ 1048576) (n : Nat) (hn : BIG ≤ n) : impl_TasksOk n a = some (tasksOk a) := by
  have key : iter n (impl_TasksOk_L1 n a) 0 = some (bif tasksGo [] a then .inl (a.length : Int) else .inr false) := by
    refine iter_list (impl_TasksOk_L1 n a) a (fun p l => bif tasksGo p l then .inl (a.length : Int) else .inr false) ?_ ?_ n (by unfold BIG at hn; omega)
    · unfold impl_TasksOk_L1; simp [tasksGo]
    · intro i x l p h1 h2 h3 h4 h5
      have e : impl_TasksOk_L1 n a i = some (bif taskGood x && p.all (fun u => !taskClash x u) then .inl ((i + 1 : Nat) : Int) else .inr (.inr false)) := by
        unfold impl_TasksOk_L1
        rw [show decide ((i : Int) < (a.length : Int)) = true by simp only [decide_eq_true_eq]; omega, cond_true, getI_nat, h2]
        simp only [Option.bind_some, impl_good, w64_nat h1 (by omega)]
        cases hg : taskGood x with
        | false => simp
        | true =>
          rw [show (decide ((0 : Int) ≤ (0 : Int)) && decide ((0 : Int) ≤ (i : Int)) && decide ((i : Int) ≤ (a.length : Int))) = true by simp; omega]
          rw [impl_inner x i a (by omega) hm n hn, ← h5]
          cases hp : p.all (fun u => !taskClash x u) <;> simp
      rw [e]
      cases hg : (taskGood x && p.all fun u => !taskClash x u) with
      | true => exact .inl ⟨by simp, by simp [tasksGo, hg]⟩
      | false => exact .inr (by simp [tasksGo, hg])
  unfold impl_TasksOk
  rw [key]
  cases h : tasksGo [] a with
  | true => simp [tasksOk, h]; omega
  | false => simp [tasksOk, h]

theorem spec_TasksOk_ok (a : List (Int × Int × Int × Int)) (hm : a.length ≤ 1048576) (n : Nat) (hn : BIG ≤ n) : spec_TasksOk n a = some (tasksOk a) := by
  have key : iter n (spec_TasksOk_L1 n a) 0 = some (bif tasksGo [] a then .inl (a.length : Int) else .inr false) := by
    refine iter_list (spec_TasksOk_L1 n a) a (fun p l => bif tasksGo p l then .inl (a.length : Int) else .inr false) ?_ ?_ n (by unfold BIG at hn; omega)
    · unfold spec_TasksOk_L1; simp [tasksGo]
    · intro i x l p h1 h2 h3 h4 h5
      have e : spec_TasksOk_L1 n a i = some (bif taskGood x && p.all (fun u => !taskClash x u) then .inl ((i + 1 : Nat) : Int) else .inr (.inr false)) := by
        unfold spec_TasksOk_L1
        rw [show decide ((i : Int) < (a.length : Int)) = true by simp only [decide_eq_true_eq]; omega, cond_true, getI_nat, h2]
        simp only [Option.bind_some, spec_good, w64_nat h1 (by omega)]
        cases hg : taskGood x with
        | false => simp
        | true =>
          rw [spec_inner x i a (by omega) hm n hn, ← h5]
          cases hp : p.all (fun u => !taskClash x u) <;> simp
      rw [e]
      cases hg : (taskGood x && p.all fun u => !taskClash x u) with
      | true => exact .inl ⟨by simp, by simp [tasksGo, hg]⟩
      | false => exact .inr (by simp [tasksGo, hg])
  unfold spec_TasksOk
  rw [key]
  by_cases hl : a.length ≤ 60
  · rw [show decide ((a.length : Int) > 60) = false by simp; omega]
    cases h : tasksGo [] a with
    | true => simp [tasksOk, h, hl]
    | false => simp [tasksOk, h]
  · rw [show decide ((a.length : Int) > 60) = true by simp; omega]
    simp [tasksOk, hl]


def stackOk (l : List SIII) (i : Nat) : Bool := match l[i]? with
  | none => false
  | some x => inB x.1 1 50 && inB x.2.1 1 1000 && inB x.2.2 0 x.2.1 && prevL (·.1) l i x
def stacksOk (l : List SIII) : Bool := (List.range l.length).all (stackOk l) && decide (l.length ≤ 8)
abbrev Pod := Int × Int × List SIII
def podAt (a : List Pod) (i : Nat) : Bool := match a[i]? with
  | none => false
  | some x => inB x.1 1 999 && inB x.2.1 0 99 && stacksOk x.2.2 && prevL (·.1) a i x && (a.take i).all fun y => !(y.2.1 == x.2.1)
def stockOk (a : List Pod) : Bool := decide (a.length ≤ 12) && (List.range a.length).all (podAt a)


theorem spec_l5Stacks_ok (l : List SIII) (hl : l.length ≤ 1048576) (n : Nat) (hn : BIG ≤ n) : spec_l5Stacks n l = some (stacksOk l) := by
  have := all_loopF (spec_l5Stacks_L1 l) (fun i => (i : Int)) l.length (stackOk l) (fun i hi => by
    have hp : (bif decide ((i : Int) > 0) then (getI l (w64 ((i : Int) - 1))).bind (fun y => some (decide (y.1 ≥ l[i].1))) else some false) = some (!prevL (·.1) l i l[i]) := prev_F (·.1) l l[i] i hi hl some
    simp only [spec_l5Stacks_L1, stackOk, getI_lt hi, List.getElem?_eq_getElem hi, Option.bind_some, in_ok, w64_nat hi (by omega), hp]
    rw [show decide ((i : Int) < (l.length : Int)) = true by simpa using hi]
    generalize l[i] = x
    generalize prevL (·.1) l i x = b4
    cases inB x.1 1 50 <;> cases inB x.2.1 1 1000 <;> cases inB x.2.2 0 x.2.1 <;> cases b4 <;> rfl) (by simp [spec_l5Stacks_L1]) n (by unfold BIG at hn; omega)
  unfold spec_l5Stacks stacksOk
  rw [show ((0 : Nat) : Int) = 0 from rfl] at this
  rw [this]
  rw [show decide ((l.length : Int) ≤ 8) = decide (l.length ≤ 8) by rw [Bool.eq_iff_iff]; simp; omega]
  cases (List.range l.length).all (stackOk l) <;> rfl
theorem spec_StockOk_in (a : List Pod) (hl : a.length ≤ 1048576) (i : Nat) (hi : i < a.length) (x : Pod) (n : Nat) (hn : BIG ≤ n) :
    iter n (spec_StockOk_L2 a (i : Int) x) 0 = some (bif (a.take i).all fun y => !(y.2.1 == x.2.1) then .inl (i : Int) else .inr false) := by
  have hlen : (a.take i).length = i := by simp; omega
  have := all_loop (spec_StockOk_L2 a (i : Int) x) (a.take i) (fun y => !(y.2.1 == x.2.1)) (fun j y h1 h2 => by
    obtain ⟨hj, hj2, hy⟩ := take_get h1 h2
    simp only [spec_StockOk_L2, getI_lt hj2, hy, Option.bind_some, w64_nat hj2 (by omega)]
    rw [show decide ((j : Int) < (i : Int)) = true by rw [decide_eq_true_eq]; omega]
    cases (y.2.1 == x.2.1) <;> rfl) (by first | (simp [spec_StockOk_L2, hlen]; done) | (simp [spec_StockOk_L2, hlen]; omega)) n (by unfold BIG at hn; omega)
  rw [hlen] at this
  exact this
theorem spec_StockOk_ok (a : List Pod) (hs : sm_PodS a) (n : Nat) (hn : BIG ≤ n) : spec_StockOk n a = some (stockOk a) := by
  have hl : a.length ≤ 1048576 := hs.1
  have := all_loopF (spec_StockOk_L1 n a) (fun i => (i : Int)) a.length (podAt a) (fun i hi => by
    have hp : (bif decide ((i : Int) > 0) then (getI a (w64 ((i : Int) - 1))).bind (fun y => some (decide (y.1 ≥ a[i].1))) else some false) = some (!prevL (·.1) a i a[i]) := prev_F (·.1) a a[i] i hi hl some
    have hst : a[i].2.2.length ≤ 1048576 := hs.2 _ (List.getElem_mem hi)
    simp only [spec_StockOk_L1, podAt, getI_lt hi, List.getElem?_eq_getElem hi, Option.bind_some, in_ok, w64_nat hi (by omega), hp, spec_l5Stacks_ok _ hst n hn, spec_StockOk_in a hl i hi a[i] n hn]
    rw [show decide ((i : Int) < (a.length : Int)) = true by simpa using hi]
    generalize a[i] = x
    generalize ((a.take i).all fun y => !(y.2.1 == x.2.1)) = b5
    generalize prevL (·.1) a i x = b4
    cases inB x.1 1 999 <;> cases inB x.2.1 0 99 <;> cases stacksOk x.2.2 <;> cases b4 <;> cases b5 <;> rfl) (by simp [spec_StockOk_L1]) n (by unfold BIG at hn; omega)
  unfold spec_StockOk stockOk
  rw [show ((0 : Nat) : Int) = 0 from rfl] at this
  rw [this, show decide ((a.length : Int) > 12) = !decide (a.length ≤ 12) by by_cases q : a.length ≤ 12 <;> simp [q] <;> omega]
  cases decide (a.length ≤ 12) <;> cases (List.range a.length).all (podAt a) <;> rfl


theorem impl_podOk_ok (p : Pod) (hl : p.2.2.length ≤ 1048576) (n : Nat) (hn : BIG ≤ n) : impl_podOk n p.1 p.2.1 p.2.2 = some (inB p.1 1 999 && inB p.2.1 0 99 && stacksOk p.2.2) := by
  have := all_loopF (impl_podOk_L1 p.2.2) (fun i => (i : Int)) p.2.2.length (stackOk p.2.2) (fun i hi => by
    have hp : (bif decide ((i : Int) > 0) then (getI p.2.2 (w64 ((i : Int) - 1))).bind (fun y => some (decide (y.1 ≥ p.2.2[i].1))) else some false) = some (!prevL (·.1) p.2.2 i p.2.2[i]) := prev_F (·.1) p.2.2 p.2.2[i] i hi hl some
    simp only [impl_podOk_L1, stackOk, getI_lt hi, List.getElem?_eq_getElem hi, Option.bind_some, in_eq, in_ok, w64_nat hi (by omega), hp]
    rw [show decide ((i : Int) < (p.2.2.length : Int)) = true by simpa using hi]
    generalize p.2.2[i] = x
    generalize prevL (·.1) p.2.2 i x = b4
    cases inB x.1 1 50 <;> cases inB x.2.1 1 1000 <;> cases inB x.2.2 0 x.2.1 <;> cases b4 <;> rfl) (by simp [impl_podOk_L1]) n (by unfold BIG at hn; omega)
  unfold impl_podOk stacksOk
  rw [show ((0 : Nat) : Int) = 0 from rfl] at this
  rw [this, show decide ((p.2.2.length : Int) > 8) = !decide (p.2.2.length ≤ 8) by by_cases q : p.2.2.length ≤ 8 <;> simp [q] <;> omega]
  simp only [in_eq, in_ok, Option.bind_some]
  cases inB p.1 1 999 <;> cases inB p.2.1 0 99 <;> cases decide (p.2.2.length ≤ 8) <;> cases (List.range p.2.2.length).all (stackOk p.2.2) <;> rfl
theorem impl_StockOk_in (a : List Pod) (hl : a.length ≤ 1048576) (i : Nat) (hi : i < a.length) (x : Pod) (n : Nat) (hn : BIG ≤ n) :
    iter n (impl_StockOk_L2 a (i : Int) x) 0 = some (bif (a.take i).all fun y => !(y.2.1 == x.2.1) then .inl (i : Int) else .inr false) := by
  have hsub : sub a (Int.toNat (0 : Int)) (Int.toNat (i : Int)) = a.take i := by simp [sub]
  have hlen : (a.take i).length = i := by simp; omega
  have := all_loop (impl_StockOk_L2 a (i : Int) x) (a.take i) (fun y => !(y.2.1 == x.2.1)) (fun j y h1 h2 => by
    obtain ⟨hj, hj2, hy⟩ := take_get h1 h2
    simp only [impl_StockOk_L2, hsub, getI_nat, h2, Option.bind_some, w64_nat hj2 (by omega), hlen]
    rw [show decide ((j : Int) < (i : Int)) = true by rw [decide_eq_true_eq]; omega]
    cases (y.2.1 == x.2.1) <;> rfl) (by simp only [impl_StockOk_L2, hsub, hlen]; simp) n (by unfold BIG at hn; omega)
  rw [hlen] at this
  exact this
theorem impl_StockOk_ok (a : List Pod) (hs : sm_PodS a) (n : Nat) (hn : BIG ≤ n) : impl_StockOk n a = some (stockOk a) := by
  have hl : a.length ≤ 1048576 := hs.1
  have := all_loopF (impl_StockOk_L1 n a) (fun i => (i : Int)) a.length (podAt a) (fun i hi => by
    have hp : (bif decide ((i : Int) > 0) then (getI a (w64 ((i : Int) - 1))).bind (fun y => some (decide (y.1 ≥ a[i].1))) else some false) = some (!prevL (·.1) a i a[i]) := prev_F (·.1) a a[i] i hi hl some
    have hst : a[i].2.2.length ≤ 1048576 := hs.2 _ (List.getElem_mem hi)
    have hr : (decide (0 ≤ (0 : Int)) && decide ((0 : Int) ≤ (i : Int)) && decide ((i : Int) ≤ (a.length : Int))) = true := by simp; omega
    simp only [impl_StockOk_L1, podAt, getI_lt hi, List.getElem?_eq_getElem hi, Option.bind_some, w64_nat hi (by omega), hp, impl_podOk_ok _ hst n hn, impl_StockOk_in a hl i hi a[i] n hn, hr]
    rw [show decide ((i : Int) < (a.length : Int)) = true by simpa using hi]
    generalize a[i] = x
    generalize ((a.take i).all fun y => !(y.2.1 == x.2.1)) = b5
    generalize prevL (·.1) a i x = b4
    cases inB x.1 1 999 <;> cases inB x.2.1 0 99 <;> cases stacksOk x.2.2 <;> cases b4 <;> cases b5 <;> rfl) (by simp [impl_StockOk_L1]) n (by unfold BIG at hn; omega)
  unfold impl_StockOk stockOk
  rw [show ((0 : Nat) : Int) = 0 from rfl] at this
  rw [this]
  rw [show decide ((a.length : Int) ≤ 12) = decide (a.length ≤ 12) by rw [Bool.eq_iff_iff]; simp; omega]
  cases decide (a.length ≤ 12) <;> cases (List.range a.length).all (podAt a) <;> rfl


/-- What rows may pay together for columns of their own. -/
def AS : List (Nat → Int) → List Nat → Int → Prop
  | [], _, x => x = 0
  | r :: rs, S, x => ∃ k ∈ S, ∃ y, AS rs (S.erase k) y ∧ x = r k + y
def Lst (R : List (Nat → Int)) (S : List Nat) (x : Int) : Prop := AS R S x ∧ ∀ y, AS R S y → x ≤ y
theorem Lst.uniq {R : List (Nat → Int)} {S : List Nat} {x y : Int} (h1 : Lst R S x) (h2 : Lst R S y) : x = y :=
  Int.le_antisymm (h1.2 y h2.1) (h2.2 x h1.1)
def sumI : List Int → Int
  | [] => 0
  | x :: l => x + sumI l
theorem sumI_app : ∀ a b : List Int, sumI (a ++ b) = sumI a + sumI b
  | [], b => by simp [sumI]
  | x :: a, b => by simp only [List.cons_append, sumI, sumI_app a b]; omega
theorem sumI_erase (v : Nat → Int) : ∀ (S : List Nat) (k : Nat), k ∈ S → sumI (S.map v) = v k + sumI ((S.erase k).map v)
  | [], k, h => by cases h
  | a :: S, k, h => by
    by_cases e : a = k
    · subst e; simp [sumI]
    · have hk : k ∈ S := by
        rcases List.mem_cons.1 h with h | h
        · exact absurd h.symm e
        · exact h
      have e2 : (a == k) = false := by simpa using e
      rw [List.erase_cons, e2]
      simp only [Bool.false_eq_true, if_false, List.map_cons, sumI, sumI_erase v S k hk]
      omega
theorem sumI_neg (v : Nat → Int) : ∀ (S : List Nat), (∀ k ∈ S, v k ≤ 0) → sumI (S.map v) ≤ 0
  | [], _ => by simp [sumI]
  | a :: S, h => by
    simp only [List.map_cons, sumI]
    have := sumI_neg v S (fun k hk => h k (List.mem_cons_of_mem _ hk))
    have := h a List.mem_cons_self
    omega
/-- Prices prove that nothing costs less. -/
theorem AS.ge (v : Nat → Int) : ∀ (R : List (Nat → Int)) (u : List Int) (S : List Nat) (x : Int), u.length = R.length → (∀ i (hi : i < R.length) (hu : i < u.length), ∀ k ∈ S, u[i] + v k ≤ R[i] k) → (∀ k ∈ S, v k ≤ 0) → AS R S x → sumI u + sumI (S.map v) ≤ x
  | [], u, S, x, hl, _, hv, hx => by
    obtain rfl : u = [] := List.eq_nil_of_length_eq_zero hl
    have := sumI_neg v S hv
    simp only [AS] at hx
    simp only [sumI]; omega
  | r :: R, [], S, x, hl, _, _, _ => by simp at hl
  | r :: R, u0 :: u, S, x, hl, hc, hv, hx => by
    obtain ⟨k, hk, y, hy, rfl⟩ := hx
    have ih := AS.ge v R u (S.erase k) y (by simpa using hl) (fun i hi hu q hq => by
      have := hc (i + 1) (by simp; omega) (by simp; omega) q (List.mem_of_mem_erase hq)
      simpa using this) (fun q hq => hv q (List.mem_of_mem_erase hq)) hy
    have h0 := hc 0 (by simp) (by simp) k hk
    simp only [List.getElem_cons_zero] at h0
    rw [sumI_erase v S k hk]
    simp only [sumI]; omega
theorem sumI_zero (f : Nat → Int) : ∀ (S : List Nat), (∀ k ∈ S, f k = 0) → sumI (S.map f) = 0
  | [], _ => rfl
  | a :: S, h => by
    simp only [List.map_cons, sumI, sumI_zero f S (fun k hk => h k (List.mem_cons_of_mem _ hk)), h a List.mem_cons_self]
    omega
theorem sum_on (f : Nat → Int) : ∀ (cs S : List Nat), cs.Nodup → S.Nodup → (∀ k ∈ cs, k ∈ S) → (∀ k ∈ S, k ∉ cs → f k = 0) → sumI (S.map f) = sumI (cs.map f)
  | [], S, _, _, _, h => by rw [sumI_zero f S (fun k hk => h k hk (by simp))]; rfl
  | k :: cs, S, hn, hS, hs, h => by
    obtain ⟨h1, h2⟩ := List.nodup_cons.1 hn
    rw [sumI_erase f S k (hs k List.mem_cons_self), sum_on f cs (S.erase k) h2 (hS.erase k) (fun q hq => ?_) (fun q hq hc => ?_)]
    · rfl
    · have hne : q ≠ k := fun e => h1 (e ▸ hq)
      exact (List.mem_erase_of_ne hne).2 (hs q (List.mem_cons_of_mem _ hq))
    · have hne : q ≠ k := fun e => hS.not_mem_erase (e ▸ hq)
      refine h q (List.mem_of_mem_erase hq) (fun hq2 => ?_)
      rcases List.mem_cons.1 hq2 with hq2 | hq2
      · exact hne hq2
      · exact hc hq2
/-- As many at most as lie in a row that has them all. -/
theorem nodup_le : ∀ (a b : List Nat), a.Nodup → (∀ x ∈ a, x ∈ b) → a.length ≤ b.length
  | [], _, _, _ => by simp
  | x :: a, b, hn, hs => by
    obtain ⟨h1, h2⟩ := List.nodup_cons.1 hn
    have hx := hs x List.mem_cons_self
    have := nodup_le a (b.erase x) h2 (fun q hq => (List.mem_erase_of_ne (fun e : q = x => h1 (e ▸ hq))).2 (hs q (List.mem_cons_of_mem _ hq)))
    rw [List.length_erase_of_mem hx] at this
    have := List.length_pos_of_mem hx
    simp only [List.length_cons]; omega
def paid : List (Nat → Int) → List Nat → Int
  | r :: rs, k :: ks => r k + paid rs ks
  | _, _ => 0
/-- Columns, each once, are a way to pay. -/
theorem AS.of : ∀ (R : List (Nat → Int)) (cs : List Nat) (S : List Nat), cs.length = R.length → cs.Nodup → (∀ k ∈ cs, k ∈ S) → AS R S (paid R cs)
  | [], [], S, _, _, _ => rfl
  | [], c :: cs, S, hl, _, _ => by simp at hl
  | r :: R, [], S, hl, _, _ => by simp at hl
  | r :: R, k :: cs, S, hl, hn, hs => by
    obtain ⟨h1, h2⟩ := List.nodup_cons.1 hn
    refine ⟨k, hs k List.mem_cons_self, paid R cs, AS.of R cs (S.erase k) (by simpa using hl) h2 (fun q hq => ?_), rfl⟩
    have hne : q ≠ k := fun e => h1 (e ▸ hq)
    exact (List.mem_erase_of_ne hne).2 (hs q (List.mem_cons_of_mem _ hq))

def omin : Option Int → Option Int → Option Int
  | none, b => b
  | some x, none => some x
  | some x, some y => some (if y < x then y else x)
theorem omin_or {a b : Option Int} {x : Int} (h : omin a b = some x) : a = some x ∨ b = some x := by
  cases a with
  | none => exact .inr h
  | some y => cases b with
    | none => exact .inl h
    | some z =>
      simp only [omin, Option.some.injEq] at h
      by_cases hz : z < y
      · rw [if_pos hz] at h; exact .inr (by rw [h])
      · rw [if_neg hz] at h; exact .inl (by rw [h])
theorem omin_l {a b : Option Int} {y : Int} (h : a = some y) : ∃ z, omin a b = some z ∧ z ≤ y := by
  subst h
  cases b with
  | none => exact ⟨y, rfl, Int.le_refl _⟩
  | some z => exact ⟨_, rfl, by split <;> omega⟩
theorem omin_r {a b : Option Int} {y : Int} (h : b = some y) : ∃ z, omin a b = some z ∧ z ≤ y := by
  subst h
  cases a with
  | none => exact ⟨y, rfl, Int.le_refl _⟩
  | some z => exact ⟨_, rfl, by split <;> omega⟩
theorem omin_fold (g : Nat → Option Int) : ∀ (l : List Nat) (b : Option Int),
    (∀ x, l.foldl (fun b k => omin b (g k)) b = some x → b = some x ∨ ∃ k ∈ l, g k = some x) ∧
    (∀ y, b = some y → ∃ x, l.foldl (fun b k => omin b (g k)) b = some x ∧ x ≤ y) ∧
    (∀ k ∈ l, ∀ y, g k = some y → ∃ x, l.foldl (fun b k => omin b (g k)) b = some x ∧ x ≤ y)
  | [], b => ⟨fun x h => .inl h, fun y h => ⟨y, h, Int.le_refl _⟩, fun k hk => by cases hk⟩
  | k :: l, b => by
    obtain ⟨i1, i2, i3⟩ := omin_fold g l (omin b (g k))
    simp only [List.foldl_cons]
    refine ⟨fun x hx => ?_, fun y hy => ?_, fun q hq y hy => ?_⟩
    · rcases i1 x hx with h | ⟨q, hq, e⟩
      · rcases omin_or h with h | h
        · exact .inl h
        · exact .inr ⟨k, List.mem_cons_self, h⟩
      · exact .inr ⟨q, List.mem_cons_of_mem _ hq, e⟩
    · obtain ⟨z, h1, h2⟩ := omin_l (b := g k) hy
      obtain ⟨x, h3, h4⟩ := i2 z h1
      exact ⟨x, h3, by omega⟩
    · rcases List.mem_cons.1 hq with rfl | hq
      · obtain ⟨z, h1, h2⟩ := omin_r (a := b) hy
        obtain ⟨x, h3, h4⟩ := i2 z h1
        exact ⟨x, h3, by omega⟩
      · exact i3 q hq y hy
/-- The least sum, if there is one. -/
def bst : List (Nat → Int) → List Nat → Option Int
  | [], _ => some 0
  | r :: rs, S => S.foldl (fun b k => omin b ((bst rs (S.erase k)).map fun y => r k + y)) none
theorem bst_some : ∀ (R : List (Nat → Int)) (S : List Nat), (∀ x, bst R S = some x → Lst R S x) ∧ (∀ y, AS R S y → ∃ x, bst R S = some x ∧ x ≤ y)
  | [], S => ⟨fun x h => by
      simp only [bst, Option.some.injEq] at h
      subst h
      exact ⟨rfl, fun y hy => by simp only [AS] at hy; omega⟩, fun y hy => ⟨0, rfl, by simp only [AS] at hy; omega⟩⟩
  | r :: R, S => by
    obtain ⟨f1, _, f3⟩ := omin_fold (fun k => (bst R (S.erase k)).map fun y => r k + y) S none
    have up : ∀ y, AS (r :: R) S y → ∃ x, bst (r :: R) S = some x ∧ x ≤ y := by
      rintro _ ⟨k, hk, y, hy, rfl⟩
      obtain ⟨x, h1, h2⟩ := (bst_some R (S.erase k)).2 y hy
      obtain ⟨z, h3, h4⟩ := f3 k hk (r k + x) (by rw [h1]; rfl)
      exact ⟨z, h3, by omega⟩
    refine ⟨fun x hx => ⟨?_, fun y hy => ?_⟩, up⟩
    · rcases f1 x hx with h | ⟨k, hk, e⟩
      · cases h
      · cases hb : bst R (S.erase k) with
        | none => rw [hb] at e; cases e
        | some y =>
          rw [hb] at e
          simp only [Option.map_some, Option.some.injEq] at e
          exact ⟨k, hk, y, ((bst_some R (S.erase k)).1 y hb).1, e.symm⟩
    · obtain ⟨z, h1, h2⟩ := up y hy
      rw [hx] at h1
      injection h1 with h1
      omega
theorem bst_lst {R : List (Nat → Int)} {S : List Nat} {x : Int} (h : Lst R S x) : bst R S = some x := by
  obtain ⟨y, h1, h2⟩ := (bst_some R S).2 x h.1
  rw [h1, ((bst_some R S).1 y h1).uniq h]
/-- Where there are columns enough there is a least sum. -/
theorem bst_ex (R : List (Nat → Int)) (S : List Nat) (hn : S.Nodup) (hl : R.length ≤ S.length) : ∃ x, bst R S = some x := by
  obtain ⟨x, h, _⟩ := (bst_some R S).2 _ (AS.of R (S.take R.length) S (by simp; omega) (hn.sublist (List.take_sublist _ _)) (fun k hk => List.mem_of_mem_take hk))
  exact ⟨x, h⟩
theorem bst_nonneg {R : List (Nat → Int)} {S : List Nat} {x : Int} (h : bst R S = some x) (hc : ∀ r ∈ R, ∀ k ∈ S, 0 ≤ r k) : 0 ≤ x := by
  induction R generalizing S x with
  | nil => simp only [bst, Option.some.injEq] at h; omega
  | cons r R ih =>
    obtain ⟨⟨k, hk, y, hy, rfl⟩, _⟩ := (bst_some _ _).1 x h
    obtain ⟨z, h1, h2⟩ := (bst_some R (S.erase k)).2 y hy
    have := ih h1 (fun r hr q hq => hc r (List.mem_cons_of_mem _ hr) q (List.mem_of_mem_erase hq))
    have := hc r List.mem_cons_self k hk
    omega
theorem bst_le {R : List (Nat → Int)} {S : List Nat} {x : Int} {M : Int} (h : bst R S = some x) (hM : 0 ≤ M) (hc : ∀ r ∈ R, ∀ k ∈ S, r k ≤ M) : x ≤ M * R.length := by
  induction R generalizing S x with
  | nil => simp only [bst, Option.some.injEq] at h; simp; omega
  | cons r R ih =>
    obtain ⟨⟨k, hk, y, hy, rfl⟩, _⟩ := (bst_some _ _).1 x h
    obtain ⟨z, h1, h2⟩ := (bst_some R (S.erase k)).2 y hy
    have hl := ((bst_some _ _).1 _ h).2 (r k + z) ⟨k, hk, z, ((bst_some _ _).1 z h1).1, rfl⟩
    have i := ih h1 (fun r hr q hq => hc r (List.mem_cons_of_mem _ hr) q (List.mem_of_mem_erase hq))
    have := hc r List.mem_cons_self k hk
    rw [List.length_cons, Int.natCast_add, Int.mul_add]
    omega
/-- The first columns of the least sum. -/
def pk : List (Nat → Int) → List Nat → List Nat
  | [], _ => []
  | r :: rs, S => match S.find? fun k => (bst rs (S.erase k)).map (fun y => r k + y) == bst (r :: rs) S with
    | some k => k :: pk rs (S.erase k)
    | none => []
theorem pk_step {r : Nat → Int} {R : List (Nat → Int)} {S : List Nat} {x : Int} (h : bst (r :: R) S = some x) : ∃ k ∈ S, (S.find? fun k => (bst R (S.erase k)).map (fun y => r k + y) == bst (r :: R) S) = some k ∧ ∃ y, bst R (S.erase k) = some y ∧ x = r k + y := by
  obtain ⟨f1, _, _⟩ := omin_fold (fun k => (bst R (S.erase k)).map fun y => r k + y) S none
  rcases f1 x h with h2 | ⟨k, hk, e⟩
  · cases h2
  cases hf : S.find? fun k => (bst R (S.erase k)).map (fun y => r k + y) == bst (r :: R) S with
  | none =>
    have := List.find?_eq_none.1 hf k hk
    rw [e, h] at this
    simp at this
  | some q =>
    have hq := List.find?_some hf
    refine ⟨q, List.mem_of_find?_eq_some hf, rfl, ?_⟩
    rw [h] at hq
    cases hb : bst R (S.erase q) with
    | none => rw [hb] at hq; simp at hq
    | some y =>
      rw [hb] at hq
      simp only [Option.map_some, beq_iff_eq, Option.some.injEq] at hq
      exact ⟨y, rfl, hq.symm⟩
theorem pk_ok : ∀ (R : List (Nat → Int)) (S : List Nat), S.Nodup → R.length ≤ S.length → (pk R S).length = R.length ∧ (pk R S).Nodup ∧ ∀ k ∈ pk R S, k ∈ S
  | [], S, _, _ => by simp [pk]
  | r :: R, S, hn, hl => by
    obtain ⟨x, hx⟩ := bst_ex (r :: R) S hn hl
    obtain ⟨k, hk, hf, _⟩ := pk_step hx
    have hle : (S.erase k).length = S.length - 1 := List.length_erase_of_mem hk
    obtain ⟨i1, i2, i3⟩ := pk_ok R (S.erase k) (hn.erase k) (by simp at hl; omega)
    have e : pk (r :: R) S = k :: pk R (S.erase k) := by simp only [pk, hf]
    rw [e]
    refine ⟨by simp [i1], List.nodup_cons.2 ⟨fun h => ?_, i2⟩, fun q hq => ?_⟩
    · exact (hn.not_mem_erase) (i3 k h)
    · rcases List.mem_cons.1 hq with rfl | hq
      · exact hk
      · exact List.mem_of_mem_erase (i3 q hq)

structure HF (C : Nat → Nat → Int) (n m : Nat) (u v : Nat → Int) : Prop where
  feas : ∀ r j, 1 ≤ r → r ≤ n → 1 ≤ j → j ≤ m → u r + v j ≤ C r j
  vneg : ∀ j, 1 ≤ j → j ≤ m → v j ≤ 0
  upos : ∀ r, 1 ≤ r → r ≤ n → 0 ≤ u r
structure HM (m i : Nat) (w : Nat → Int) : Prop where
  ran : ∀ j, 1 ≤ j → j ≤ m → 0 ≤ w j ∧ w j < (i : Int)
  inj : ∀ j k, 1 ≤ j → j ≤ m → 1 ≤ k → k ≤ m → w j = w k → 0 < w j → j = k
  cov : ∀ r : Nat, 1 ≤ r → r < i → ∃ j, 1 ≤ j ∧ j ≤ m ∧ w j = (r : Int)
structure HT (C : Nat → Nat → Int) (m : Nat) (u v w : Nat → Int) : Prop where
  tight : ∀ j (r : Nat), 1 ≤ j → j ≤ m → 1 ≤ r → w j = (r : Int) → u r + v j = C r j
  free : ∀ j, 1 ≤ j → j ≤ m → w j = 0 → v j = 0
/-- A column is free. -/
theorem HM.open {m i : Nat} {w : Nat → Int} (h : HM m i w) (h1 : 1 ≤ i) (hi : i ≤ m) : ∃ j, 1 ≤ j ∧ j ≤ m ∧ w j = 0 := by
  refine Classical.byContradiction fun hno => ?_
  have hp : ∀ j, 1 ≤ j → j ≤ m → 0 < w j := fun j a b => by
    have := (h.ran j a b).1
    have : w j ≠ 0 := fun e => hno ⟨j, a, b, e⟩
    omega
  have := nodup_le ((List.range m).map fun k => (w (k + 1)).toNat) (List.range' 1 (i - 1)) ?_ ?_
  · simp at this; omega
  · unfold List.Nodup
    rw [List.pairwise_map]
    refine List.Pairwise.imp_of_mem (fun {a b} ha hb hab e => ?_) (List.pairwise_lt_range (n := m))
    rw [List.mem_range] at ha hb
    have p1 := hp (a + 1) (by omega) (by omega)
    have p2 := hp (b + 1) (by omega) (by omega)
    have := h.inj (a + 1) (b + 1) (by omega) (by omega) (by omega) (by omega) (by omega) p1
    omega
  · intro x hx
    obtain ⟨k, hk, rfl⟩ := List.mem_map.1 hx
    rw [List.mem_range] at hk
    have p1 := hp (k + 1) (by omega) (by omega)
    have p2 := (h.ran (k + 1) (by omega) (by omega)).2
    rw [List.mem_range'_1]
    omega
theorem HF.bnd {C : Nat → Nat → Int} {n m i : Nat} {u v w : Nat → Int} (hf : HF C n m u v) (ht : HT C m u v w) (hm : HM m i w) (h1 : 1 ≤ i) (hi : i ≤ m) (hin : i ≤ n) {M : Int} (hC : ∀ r j, 1 ≤ r → r ≤ n → 1 ≤ j → j ≤ m → 0 ≤ C r j ∧ C r j ≤ M) :
    (∀ r, 1 ≤ r → r ≤ n → 0 ≤ u r ∧ u r ≤ M) ∧ ∀ j, 1 ≤ j → j ≤ m → -M ≤ v j ∧ v j ≤ 0 := by
  obtain ⟨f, f1, f2, f3⟩ := hm.open h1 hi
  have hu : ∀ r, 1 ≤ r → r ≤ n → 0 ≤ u r ∧ u r ≤ M := fun r a b => by
    have := hf.feas r f a b f1 f2
    rw [ht.free f f1 f2 f3] at this
    have := (hC r f a b f1 f2).2
    exact ⟨hf.upos r a b, by omega⟩
  refine ⟨hu, fun j a b => ⟨?_, hf.vneg j a b⟩⟩
  obtain ⟨q1, q2⟩ := hm.ran j a b
  by_cases h0 : w j = 0
  · rw [ht.free j a b h0]
    have := hC i f h1 hin f1 f2
    omega
  · have := ht.tight j (w j).toNat a b (by omega) (by omega)
    have := hu (w j).toNat (by omega) (by omega)
    have := hC (w j).toNat j (by omega) (by omega) a b
    omega

def Ch (P : Nat → Nat → Prop) : List Nat → Prop
  | [] => True
  | a :: l => (a = 0 ∧ l = []) ∨ (1 ≤ a ∧ (∃ x ∈ l, P a x) ∧ Ch P l)
theorem Ch.mono {P Q : Nat → Nat → Prop} : ∀ {l : List Nat}, (∀ a x, a ∈ l → x ∈ l → P a x → Q a x) → Ch P l → Ch Q l
  | [], _, _ => trivial
  | a :: l, h, hc => by
    rcases hc with hc | ⟨h1, ⟨x, hx, hP⟩, h3⟩
    · exact .inl hc
    · exact .inr ⟨h1, ⟨x, hx, h a x List.mem_cons_self (List.mem_cons_of_mem _ hx) hP⟩, Ch.mono (fun a x ha hx => h a x (List.mem_cons_of_mem _ ha) (List.mem_cons_of_mem _ hx)) h3⟩
theorem Ch.tail {P : Nat → Nat → Prop} {a : Nat} {l : List Nat} (h : Ch P (a :: l)) : Ch P l := by
  rcases h with ⟨_, h⟩ | ⟨_, _, h⟩
  · rw [h]; trivial
  · exact h
theorem Ch.drop {P : Nat → Nat → Prop} {l : List Nat} : ∀ {p : List Nat}, Ch P (p ++ l) → Ch P l
  | [], h => h
  | a :: p, h => Ch.drop (p := p) (Ch.tail h)
/-- Who found a column, by a step that costs nothing. -/
def Fr (C : Nat → Nat → Int) (u v w fr : Nat → Int) (a x : Nat) : Prop := fr a = (x : Int) ∧ ∃ r : Nat, 1 ≤ r ∧ w x = (r : Int) ∧ u r + v a = C r a
structure HG (C : Nat → Nat → Int) (n m : Nat) (u v w ls fr : Nat → Int) (Q : List Nat) (j0 : Nat) : Prop where
  hf : HF C n m u v
  ht : HT C m u v w
  j0m : j0 ≤ m
  nd : (j0 :: Q).Nodup
  qm : ∀ j ∈ Q, j ≤ m
  qp : ∀ j ∈ Q, 1 ≤ w j
  ch : Ch (Fr C u v w fr) (j0 :: Q)
  l1 : ∀ j, 1 ≤ j → j ≤ m → j ∉ Q → ∀ b ∈ Q, ∀ r : Nat, w b = (r : Int) → ls j ≤ C r j - u r - v j
  l2 : Q = [] ∨ ∀ j, 1 ≤ j → j ≤ m → j ∉ Q → ∃ b ∈ Q, fr j = (b : Int) ∧ ∃ r : Nat, 1 ≤ r ∧ w b = (r : Int) ∧ ls j = C r j - u r - v j
/-- After all columns were looked at from one more. -/
structure HS (C : Nat → Nat → Int) (n m : Nat) (u v w ls fr : Nat → Int) (Q : List Nat) : Prop where
  hf : HF C n m u v
  ht : HT C m u v w
  nd : Q.Nodup
  qm : ∀ j ∈ Q, j ≤ m
  qp : ∀ j ∈ Q, 1 ≤ w j
  ch : Ch (Fr C u v w fr) Q
  l1 : ∀ j, 1 ≤ j → j ≤ m → j ∉ Q → ∀ b ∈ Q, ∀ r : Nat, w b = (r : Int) → ls j ≤ C r j - u r - v j
  l2 : ∀ j, 1 ≤ j → j ≤ m → j ∉ Q → ∃ b ∈ Q, fr j = (b : Int) ∧ ∃ r : Nat, 1 ≤ r ∧ w b = (r : Int) ∧ ls j = C r j - u r - v j
theorem HG.scan {C : Nat → Nat → Int} {n m : Nat} {u v w ls fr ls' fr' : Nat → Int} {Q : List Nat} {j0 : Nat} (h : HG C n m u v w ls fr Q j0) {i0 : Nat} (hi : 1 ≤ i0) (hw : w j0 = (i0 : Int))
    (hfar : Q = [] → ∀ j, 1 ≤ j → j ≤ m → C i0 j - u i0 - v j < ls j)
    (hused : ∀ j, j ≤ m → j ∈ j0 :: Q → fr' j = fr j)
    (hnew : ∀ j, 1 ≤ j → j ≤ m → j ∉ j0 :: Q → (C i0 j - u i0 - v j < ls j ∧ ls' j = C i0 j - u i0 - v j ∧ fr' j = (j0 : Int)) ∨ (¬ C i0 j - u i0 - v j < ls j ∧ ls' j = ls j ∧ fr' j = fr j)) :
    HS C n m u v w ls' fr' (j0 :: Q) := by
  refine ⟨h.hf, h.ht, h.nd, fun j hj => ?_, fun j hj => ?_, ?_, fun j a b hj x hx r hr => ?_, fun j a b hj => ?_⟩
  · rcases List.mem_cons.1 hj with rfl | hj
    · exact h.j0m
    · exact h.qm j hj
  · rcases List.mem_cons.1 hj with rfl | hj
    · omega
    · exact h.qp j hj
  · refine h.ch.mono fun a x ha hx hP => ⟨?_, hP.2⟩
    rw [hused a ?_ ha]
    · exact hP.1
    · rcases List.mem_cons.1 ha with rfl | ha
      · exact h.j0m
      · exact h.qm a ha
  · have hjQ : j ∉ Q := fun e => hj (List.mem_cons_of_mem _ e)
    rcases hnew j a b hj with ⟨h1, h2, h3⟩ | ⟨h1, h2, h3⟩
    · rcases List.mem_cons.1 hx with rfl | hx
      · rw [h2, show r = i0 by omega]; omega
      · have := h.l1 j a b hjQ x hx r hr
        omega
    · rcases List.mem_cons.1 hx with rfl | hx
      · rw [h2, show r = i0 by omega]; omega
      · rw [h2]; exact h.l1 j a b hjQ x hx r hr
  · have hjQ : j ∉ Q := fun e => hj (List.mem_cons_of_mem _ e)
    rcases hnew j a b hj with ⟨h1, h2, h3⟩ | ⟨h1, h2, h3⟩
    · exact ⟨j0, List.mem_cons_self, h3, i0, hi, hw, h2⟩
    · rcases h.l2 with e | e
      · exact absurd (hfar e j a b) h1
      · obtain ⟨x, hx, p1, r, p2, p3, p4⟩ := e j a b hjQ
        exact ⟨x, List.mem_cons_of_mem _ hx, by rw [h3, p1], r, p2, p3, by rw [h2, p4]⟩
theorem HS.step {C : Nat → Nat → Int} {n m i : Nat} {u v w ls fr u' v' ls' : Nat → Int} {Q : List Nat} (h : HS C n m u v w ls fr Q) (hm : HM m i w) (hw0 : w 0 = (i : Int)) (hin : i ≤ n) {d : Int} {j1 : Nat}
    (a1 : 1 ≤ j1) (a2 : j1 ≤ m) (a3 : j1 ∉ Q) (hd : ls j1 = d) (hmin : ∀ j, 1 ≤ j → j ≤ m → j ∉ Q → d ≤ ls j)
    (hu1 : ∀ r : Nat, 1 ≤ r → r ≤ n → (∃ b ∈ Q, w b = (r : Int)) → u' r = u r + d)
    (hu2 : ∀ r : Nat, 1 ≤ r → r ≤ n → ¬ (∃ b ∈ Q, w b = (r : Int)) → u' r = u r)
    (hv1 : ∀ j, 1 ≤ j → j ≤ m → j ∈ Q → v' j = v j - d) (hv2 : ∀ j, 1 ≤ j → j ≤ m → j ∉ Q → v' j = v j)
    (hl : ∀ j, 1 ≤ j → j ≤ m → j ∉ Q → ls' j = ls j - d) : 0 ≤ d ∧ HG C n m u' v' w ls' fr Q j1 := by
  have rn : ∀ b ∈ Q, ∀ r : Nat, w b = (r : Int) → 1 ≤ r ∧ r ≤ n := fun b hb r hr => by
    have h1 := h.qp b hb
    refine ⟨by omega, ?_⟩
    by_cases hb0 : b = 0
    · subst hb0; rw [hw0] at hr; omega
    · have := hm.ran b (by omega) (h.qm b hb)
      omega
  have hd0 : 0 ≤ d := by
    obtain ⟨b, hb, _, r, p2, p3, p4⟩ := h.l2 j1 a1 a2 a3
    obtain ⟨r1, r2⟩ := rn b hb r p3
    have := h.hf.feas r j1 r1 r2 a1 a2
    omega
  have inQ : ∀ j (r : Nat), 1 ≤ j → j ≤ m → j ∉ Q → 1 ≤ r → w j = (r : Int) → ¬ ∃ b ∈ Q, w b = (r : Int) := fun j r c1 c2 c3 c4 c5 => by
    rintro ⟨b, hb, e⟩
    by_cases hb0 : b = 0
    · subst hb0
      have := hm.ran j c1 c2
      rw [hw0] at e; omega
    · have := hm.inj j b c1 c2 (by omega) (h.qm b hb) (by omega) (by omega)
      exact c3 (this ▸ hb)
  have tq : ∀ a x, a ∈ Q → 1 ≤ a → x ∈ Q → Fr C u v w fr a x → Fr C u' v' w fr a x := fun a x ha ha1 hx hP => by
    obtain ⟨p1, r, p2, p3, p4⟩ := hP
    obtain ⟨r1, r2⟩ := rn x hx r p3
    refine ⟨p1, r, p2, p3, ?_⟩
    rw [hu1 r r1 r2 ⟨x, hx, p3⟩, hv1 a ha1 (h.qm a ha) ha]; omega
  refine ⟨hd0, ⟨fun r j r1 r2 j1 j2 => ?_, fun j c1 c2 => ?_, fun r c1 c2 => ?_⟩, ⟨fun j r c1 c2 c3 c4 => ?_, fun j c1 c2 c3 => ?_⟩, a2, List.nodup_cons.2 ⟨a3, h.nd⟩, h.qm, h.qp, ?_, fun j c1 c2 hj b hb r hr => ?_, .inr fun j c1 c2 hj => ?_⟩
  · have hf := h.hf.feas r j r1 r2 j1 j2
    by_cases hr : ∃ b ∈ Q, w b = (r : Int)
    · rw [hu1 r r1 r2 hr]
      by_cases hj : j ∈ Q
      · rw [hv1 j j1 j2 hj]; omega
      · obtain ⟨b, hb, e⟩ := hr
        have := h.l1 j j1 j2 hj b hb r e
        have := hmin j j1 j2 hj
        rw [hv2 j j1 j2 hj]; omega
    · rw [hu2 r r1 r2 hr]
      by_cases hj : j ∈ Q
      · rw [hv1 j j1 j2 hj]; omega
      · rw [hv2 j j1 j2 hj]; omega
  · have := h.hf.vneg j c1 c2
    by_cases hj : j ∈ Q
    · rw [hv1 j c1 c2 hj]; omega
    · rw [hv2 j c1 c2 hj]; omega
  · have := h.hf.upos r c1 c2
    by_cases hr : ∃ b ∈ Q, w b = (r : Int)
    · rw [hu1 r c1 c2 hr]; omega
    · rw [hu2 r c1 c2 hr]; omega
  · have ht := h.ht.tight j r c1 c2 c3 c4
    have := hm.ran j c1 c2
    have hrn : r ≤ n := by omega
    by_cases hj : j ∈ Q
    · rw [hv1 j c1 c2 hj, hu1 r c3 hrn ⟨j, hj, c4⟩]; omega
    · rw [hv2 j c1 c2 hj, hu2 r c3 hrn (inQ j r c1 c2 hj c3 c4)]; omega
  · have hj : j ∉ Q := fun hj => by have := h.qp j hj; omega
    rw [hv2 j c1 c2 hj, h.ht.free j c1 c2 c3]
  · refine .inr ⟨a1, ?_, ?_⟩
    · obtain ⟨b, hb, p1, r, p2, p3, p4⟩ := h.l2 j1 a1 a2 a3
      obtain ⟨r1, r2⟩ := rn b hb r p3
      refine ⟨b, hb, p1, r, p2, p3, ?_⟩
      rw [hu1 r r1 r2 ⟨b, hb, p3⟩, hv2 j1 a1 a2 a3]; omega
    · have key : ∀ (l : List Nat), (∀ a ∈ l, a ∈ Q) → Ch (Fr C u v w fr) l → Ch (Fr C u' v' w fr) l := by
        intro l
        induction l with
        | nil => intro _ _; trivial
        | cons a l ih =>
          intro hs hc
          rcases hc with hc | ⟨h1, ⟨x, hx, hP⟩, h3⟩
          · exact .inl hc
          · exact .inr ⟨h1, ⟨x, hx, tq a x (hs a List.mem_cons_self) h1 (hs x (List.mem_cons_of_mem _ hx)) hP⟩, ih (fun b hb => hs b (List.mem_cons_of_mem _ hb)) h3⟩
      exact key Q (fun a ha => ha) h.ch
  · obtain ⟨r1, r2⟩ := rn b hb r hr
    have := h.l1 j c1 c2 hj b hb r hr
    rw [hl j c1 c2 hj, hu1 r r1 r2 ⟨b, hb, hr⟩, hv2 j c1 c2 hj]; omega
  · obtain ⟨b, hb, p1, r, p2, p3, p4⟩ := h.l2 j c1 c2 hj
    obtain ⟨r1, r2⟩ := rn b hb r p3
    refine ⟨b, hb, p1, r, p2, p3, ?_⟩
    rw [hl j c1 c2 hj, hu1 r r1 r2 ⟨b, hb, p3⟩, hv2 j c1 c2 hj]; omega

structure HA (C : Nat → Nat → Int) (m i : Nat) (u v fr w : Nat → Int) (j0 : Nat) (Q : List Nat) : Prop where
  nd : (j0 :: Q).Nodup
  lm : ∀ j ∈ j0 :: Q, j ≤ m
  ch : Ch (Fr C u v w fr) (j0 :: Q)
  inj : ∀ j k, j ≤ m → k ≤ m → j ≠ j0 → k ≠ j0 → w j = w k → 0 < w j → j = k
  cov : ∀ r : Nat, 1 ≤ r → r ≤ i → ∃ j, j ≤ m ∧ j ≠ j0 ∧ w j = (r : Int)
  ran : ∀ j, j ≤ m → j ≠ j0 → 0 ≤ w j ∧ w j ≤ (i : Int)
  tight : ∀ j (r : Nat), 1 ≤ j → j ≤ m → j ≠ j0 → 1 ≤ r → w j = (r : Int) → u r + v j = C r j
  free : ∀ j, 1 ≤ j → j ≤ m → j ≠ j0 → w j = 0 → v j = 0
theorem HG.aug {C : Nat → Nat → Int} {n m i : Nat} {u v w ls fr : Nat → Int} {Q : List Nat} {j0 : Nat} (h : HG C n m u v w ls fr Q j0) (hm : HM m i w) (hw0 : w 0 = (i : Int)) (h1 : 1 ≤ i) (hj : w j0 = 0) : HA C m i u v fr w j0 Q := by
  have hj0 : j0 ≠ 0 := fun e => by rw [e, hw0] at hj; omega
  refine ⟨h.nd, fun j hj => ?_, h.ch, fun j k a b c d e f => ?_, fun r a b => ?_, fun j a b => ?_, fun j r a b _ c d => h.ht.tight j r a b c d, fun j a b _ c => h.ht.free j a b c⟩
  · rcases List.mem_cons.1 hj with rfl | hj
    · exact h.j0m
    · exact h.qm j hj
  · by_cases j00 : j = 0
    · by_cases k00 : k = 0
      · rw [j00, k00]
      · subst j00
        have := hm.ran k (by omega) b
        rw [hw0] at e; omega
    · by_cases k00 : k = 0
      · subst k00
        have := hm.ran j (by omega) a
        rw [hw0] at e; omega
      · exact hm.inj j k (by omega) a (by omega) b e f
  · by_cases hr : r = i
    · exact ⟨0, by omega, fun e => hj0 e.symm, by rw [hw0, hr]⟩
    · obtain ⟨j, a1, a2, a3⟩ := hm.cov r a (by omega)
      exact ⟨j, a2, fun e => by rw [e, hj] at a3; omega, a3⟩
  · by_cases j00 : j = 0
    · rw [j00, hw0]; omega
    · have := hm.ran j (by omega) a
      omega
theorem HA.next {C : Nat → Nat → Int} {m i : Nat} {u v fr w : Nat → Int} {j0 : Nat} {Q : List Nat} (h : HA C m i u v fr w j0 Q) (hj : 1 ≤ j0) : ∃ x Q', fr j0 = ((x : Nat) : Int) ∧ x ≤ m ∧ Q'.length < Q.length ∧ x ≠ j0 ∧
    ∀ w' : Nat → Int, (w' j0 = w x) → (∀ j, j ≤ m → j ≠ j0 → w' j = w j) → HA C m i u v fr w' x Q' := by
  rcases h.ch with ⟨h0, _⟩ | ⟨_, ⟨x, hx, hP⟩, hc⟩
  · omega
  obtain ⟨p1, r, p2, p3, p4⟩ := hP
  obtain ⟨pre, Q', hQ⟩ := List.append_of_mem hx
  obtain ⟨n1, n2⟩ := List.nodup_cons.1 h.nd
  have hxj : x ≠ j0 := fun e => n1 (e ▸ hx)
  have hxm : x ≤ m := h.lm x (List.mem_cons_of_mem _ hx)
  have sub : ∀ j ∈ x :: Q', j ∈ Q := fun j hj => by rw [hQ]; exact List.mem_append_right _ hj
  refine ⟨x, Q', p1, hxm, by rw [hQ]; simp; omega, hxj, fun w' e1 e2 => ⟨?_, fun j hj => h.lm j (List.mem_cons_of_mem _ (sub j hj)), ?_, fun j k a b c d e f => ?_, fun s a b => ?_, fun j a b => ?_, fun j s a b c d e => ?_, fun j a b c d => ?_⟩⟩
  · rw [hQ] at n2
    exact (List.nodup_append.1 n2).2.1
  · have hc2 : Ch (Fr C u v w fr) (x :: Q') := by rw [hQ] at hc; exact Ch.drop hc
    refine hc2.mono fun a y ha hy hP => ?_
    obtain ⟨q1, s, q2, q3, q4⟩ := hP
    have hyj : y ≠ j0 := fun e => n1 (e ▸ sub y hy)
    exact ⟨q1, s, q2, by rw [e2 y (h.lm y (List.mem_cons_of_mem _ (sub y hy))) hyj, q3], q4⟩
  · by_cases hj0 : j = j0
    · by_cases hk0 : k = j0
      · rw [hj0, hk0]
      · rw [hj0, e1, e2 k b hk0] at e
        rw [hj0, e1] at f
        exact absurd (h.inj x k hxm b hxj hk0 e f).symm d
    · by_cases hk0 : k = j0
      · rw [hk0, e1, e2 j a hj0] at e
        rw [e2 j a hj0] at f
        exact absurd (h.inj j x a hxm hj0 hxj e f) c
      · rw [e2 j a hj0, e2 k b hk0] at e
        rw [e2 j a hj0] at f
        exact h.inj j k a b hj0 hk0 e f
  · obtain ⟨j, a1, a2, a3⟩ := h.cov s a b
    by_cases hjx : j = x
    · exact ⟨j0, h.lm j0 List.mem_cons_self, fun e => hxj e.symm, by rw [e1, ← hjx, a3]⟩
    · exact ⟨j, a1, hjx, by rw [e2 j a1 a2, a3]⟩
  · by_cases hj0 : j = j0
    · rw [hj0, e1]; exact h.ran x hxm hxj
    · rw [e2 j a hj0]; exact h.ran j a hj0
  · by_cases hj0 : j = j0
    · subst hj0
      rw [e1, p3] at e
      rw [show s = r by omega]; exact p4
    · rw [e2 j b hj0] at e
      exact h.tight j s a b hj0 d e
  · by_cases hj0 : j = j0
    · rw [hj0, e1, p3] at d; omega
    · rw [e2 j b hj0] at d
      exact h.free j a b hj0 d
theorem HA.done {C : Nat → Nat → Int} {m i : Nat} {u v fr w : Nat → Int} {Q : List Nat} (h : HA C m i u v fr w 0 Q) : HM m (i + 1) w ∧ HT C m u v w :=
  ⟨⟨fun j a b => by have := h.ran j b (by omega); omega, fun j k a b c d e f => h.inj j k b d (by omega) (by omega) e f, fun r a b => by
      obtain ⟨j, a1, a2, a3⟩ := h.cov r a (by omega)
      exact ⟨j, by omega, a1, a3⟩⟩, ⟨fun j r a b c d => h.tight j r a b (by omega) c d, fun j a b c => h.free j a b (by omega) c⟩⟩

def ga (l : List Int) (i : Nat) : Int := l.getD i 0
theorem ga_get {l : List Int} {i : Nat} (h : i < l.length) : l[i]? = some (ga l i) := by
  unfold ga; rw [List.getD, List.getElem?_eq_getElem h]; rfl
theorem ga_set {l : List Int} {i : Nat} (h : i < l.length) (x : Int) (j : Nat) : ga (l.set i x) j = if j = i then x else ga l j := by
  unfold ga
  rw [List.getD, List.getD, List.getElem?_set]
  by_cases e : i = j
  · subst e; simp [h]
  · rw [if_neg e, if_neg (fun q => e q.symm)]
theorem ga_rep (m : Nat) (x : Int) (j : Nat) (h : j < m) : ga (List.replicate m x) j = x := by
  unfold ga; rw [List.getD, List.getElem?_replicate, if_pos h]; rfl
structure CM (a0 : List (List Int)) (m : Nat) : Prop where
  row : ∀ r ∈ a0, r.length = m
  nm : a0.length ≤ m
  m10 : m ≤ 10
  bnd : ∀ r ∈ a0, ∀ x ∈ r, 0 ≤ x ∧ x ≤ 100000
def cC (a0 : List (List Int)) (r j : Nat) : Int := ga (a0.getD (r - 1) []) (j - 1)
theorem CM.at {a0 : List (List Int)} {m : Nat} (h : CM a0 m) {r j : Nat} (r1 : 1 ≤ r) (r2 : r ≤ a0.length) (j1 : 1 ≤ j) (j2 : j ≤ m) :
    ∃ l, getI a0 (w64 ((r : Int) - 1)) = some l ∧ getI l (w64 ((j : Int) - 1)) = some (cC a0 r j) ∧ 0 ≤ cC a0 r j ∧ cC a0 r j ≤ 100000 := by
  have hm := h.m10
  have hn := h.nm
  have hr : r - 1 < a0.length := by omega
  have e1 : w64 ((r : Int) - 1) = ((r - 1 : Nat) : Int) := by rw [w64_eq (by omega) (by omega)]; omega
  have e2 : w64 ((j : Int) - 1) = ((j - 1 : Nat) : Int) := by rw [w64_eq (by omega) (by omega)]; omega
  have hl := h.row _ (List.getElem_mem hr)
  have hj : j - 1 < a0[r - 1].length := by omega
  have e3 : cC a0 r j = a0[r - 1][j - 1] := by
    unfold cC ga
    rw [List.getD, List.getD, List.getElem?_eq_getElem hr, Option.getD_some, List.getElem?_eq_getElem hj]
    rfl
  refine ⟨a0[r - 1], by rw [e1, getI_lt hr], by rw [e2, getI_lt hj, e3], ?_⟩
  rw [e3]
  exact h.bnd _ (List.getElem_mem hr) _ (List.getElem_mem hj)
theorem HM.congr {m i : Nat} {w w' : Nat → Int} (h : HM m i w) (e : ∀ j, 1 ≤ j → j ≤ m → w' j = w j) : HM m i w' :=
  ⟨fun j a b => by rw [e j a b]; exact h.ran j a b, fun j k a b c d => by rw [e j a b, e k c d]; exact h.inj j k a b c d, fun r a b => by
    obtain ⟨j, p, q, s⟩ := h.cov r a b
    exact ⟨j, p, q, by rw [e j p q, s]⟩⟩
theorem HT.congr {C : Nat → Nat → Int} {m : Nat} {u v w w' : Nat → Int} (h : HT C m u v w) (e : ∀ j, 1 ≤ j → j ≤ m → w' j = w j) : HT C m u v w' :=
  ⟨fun j r a b c d => h.tight j r a b c (by rw [← e j a b]; exact d), fun j a b c => h.free j a b (by rw [← e j a b]; exact c)⟩

theorem l4Grow_far (m : Nat) (hm : m ≤ 10) (n : Nat) (hn : BIG ≤ n) : iter n (spec_l4Grow_L1 (m : Int)) (0, List.replicate (m + 1) 0) = some (((m + 1 : Nat) : Int), List.replicate (m + 1) 1099511627776) := by
  have := iter_steps (spec_l4Grow_L1 (m : Int)) (fun i => ((i : Int), List.replicate i 1099511627776 ++ List.replicate (m + 1 - i) 0)) (m + 1) (((m + 1 : Nat) : Int), List.replicate (m + 1) 1099511627776) (fun i hi => by
    have hd : decide ((i : Int) ≤ (m : Int)) = true := by rw [decide_eq_true_eq]; omega
    have hl : i < (List.replicate i (1099511627776 : Int) ++ List.replicate (m + 1 - i) 0).length := by simp; omega
    simp only [spec_l4Grow_L1, hd, cond_true, inb_lt hl, Int.toNat_natCast, upd_is, w64_nat hi (by omega)]
    congr 3
    rw [List.set_append_right _ _ (by simp), List.length_replicate, Nat.sub_self, show m + 1 - i = (m + 1 - (i + 1)) + 1 by omega, List.replicate_succ, List.set_cons_zero, List.replicate_succ' (n := i)]
    simp) (by
    have hd : decide (((m + 1 : Nat) : Int) ≤ (m : Int)) = false := by rw [decide_eq_false_iff_not]; omega
    simp only [spec_l4Grow_L1, hd, cond_false]
    simp) n (by unfold BIG at hn; omega)
  simpa using this

theorem l4Grow_scan {a0 : List (List Int)} {m i : Nat} (hc : CM a0 m) {u v ls fr w : List Int} {us : List Bool} {Q : List Nat} {j0 i0 : Nat} (hj0 : j0 ≤ m)
    (lu : u.length = a0.length + 1) (lv : v.length = m + 1) (ll : ls.length = m + 1) (lf : fr.length = m + 1)
    (hus : ∀ k, k ≤ m → (us.set j0 true)[k]? = some (decide (k ∈ j0 :: Q))) (hlu : us.length = m + 1)
    (hi1 : 1 ≤ i0) (hi2 : i0 ≤ a0.length) (hub : 0 ≤ ga u i0 ∧ ga u i0 ≤ 100000) (hvb : ∀ j, 1 ≤ j → j ≤ m → -100000 ≤ ga v j ∧ ga v j ≤ 0)
    (n : Nat) (hn : BIG ≤ n) :
    ∃ (d : Int) (j1 : Nat) (ls' fr' : List Int), iter n (spec_l4Grow_L3 a0 (m : Int) ((j0 : Int), u, v, ls, fr, us) (i0 : Int)) (1099511627776, 0, 1, ls, fr) = some (d, (j1 : Int), ((m + 1 : Nat) : Int), ls', fr') ∧
      ls'.length = m + 1 ∧ fr'.length = m + 1 ∧ (∀ k, k ≤ m → k ∈ j0 :: Q → ga fr' k = ga fr k) ∧
      (∀ k, 1 ≤ k → k ≤ m → k ∉ j0 :: Q → (cC a0 i0 k - ga u i0 - ga v k < ga ls k ∧ ga ls' k = cC a0 i0 k - ga u i0 - ga v k ∧ ga fr' k = (j0 : Int)) ∨ (¬ cC a0 i0 k - ga u i0 - ga v k < ga ls k ∧ ga ls' k = ga ls k ∧ ga fr' k = ga fr k)) ∧
      (∀ k, 1 ≤ k → k ≤ m → k ∉ j0 :: Q → d ≤ ga ls' k) ∧ ((∀ k, 1 ≤ k → k ≤ m → k ∈ j0 :: Q) ∨ (1 ≤ j1 ∧ j1 ≤ m ∧ j1 ∉ j0 :: Q ∧ ga ls' j1 = d)) := by
  have hm := hc.m10
  obtain ⟨z, ⟨d, j1, ls', fr', e, h1⟩, h2⟩ := iter_inv (f := spec_l4Grow_L3 a0 (m : Int) ((j0 : Int), u, v, ls, fr, us) (i0 : Int))
    (fun x => ∃ (d : Int) (j1 j : Nat) (ls' fr' : List Int), x = (d, (j1 : Int), (j : Int), ls', fr') ∧ 1 ≤ j ∧ j ≤ m + 1 ∧ ls'.length = m + 1 ∧ fr'.length = m + 1 ∧
      (∀ k, j ≤ k → k ≤ m → ga ls' k = ga ls k ∧ ga fr' k = ga fr k) ∧ (∀ k, k ≤ m → k ∈ j0 :: Q → ga fr' k = ga fr k) ∧
      (∀ k, 1 ≤ k → k < j → k ∉ j0 :: Q → (cC a0 i0 k - ga u i0 - ga v k < ga ls k ∧ ga ls' k = cC a0 i0 k - ga u i0 - ga v k ∧ ga fr' k = (j0 : Int)) ∨ (¬ cC a0 i0 k - ga u i0 - ga v k < ga ls k ∧ ga ls' k = ga ls k ∧ ga fr' k = ga fr k)) ∧
      (∀ k, 1 ≤ k → k < j → k ∉ j0 :: Q → d ≤ ga ls' k) ∧ ((d = 1099511627776 ∧ ∀ k, 1 ≤ k → k < j → k ∈ j0 :: Q) ∨ (1 ≤ j1 ∧ j1 < j ∧ j1 ∉ j0 :: Q ∧ ga ls' j1 = d)))
    (fun z => ∃ (d : Int) (j1 : Nat) (ls' fr' : List Int), z = (d, (j1 : Int), ((m + 1 : Nat) : Int), ls', fr') ∧ ls'.length = m + 1 ∧ fr'.length = m + 1 ∧ (∀ k, k ≤ m → k ∈ j0 :: Q → ga fr' k = ga fr k) ∧
      (∀ k, 1 ≤ k → k ≤ m → k ∉ j0 :: Q → (cC a0 i0 k - ga u i0 - ga v k < ga ls k ∧ ga ls' k = cC a0 i0 k - ga u i0 - ga v k ∧ ga fr' k = (j0 : Int)) ∨ (¬ cC a0 i0 k - ga u i0 - ga v k < ga ls k ∧ ga ls' k = ga ls k ∧ ga fr' k = ga fr k)) ∧
      (∀ k, 1 ≤ k → k ≤ m → k ∉ j0 :: Q → d ≤ ga ls' k) ∧ ((∀ k, 1 ≤ k → k ≤ m → k ∈ j0 :: Q) ∨ (1 ≤ j1 ∧ j1 ≤ m ∧ j1 ∉ j0 :: Q ∧ ga ls' j1 = d)))
    (fun x => m + 1 - x.2.2.1.toNat) (fun x hx => by
      obtain ⟨d, j1, j, ls', fr', rfl, b1, b2, l1, l2, g1, g2, g3, g4, g5⟩ := hx
      by_cases hj : j = m + 1
      · left
        have hd : decide ((j : Int) ≤ (m : Int)) = false := by rw [decide_eq_false_iff_not]; omega
        refine ⟨(d, (j1 : Int), (j : Int), ls', fr'), by simp only [spec_l4Grow_L3, hd, cond_false], d, j1, ls', fr', by rw [hj], l1, l2, g2, fun k a b c => g3 k a (by omega) c, fun k a b c => g4 k a (by omega) c, ?_⟩
        rcases g5 with ⟨_, g5⟩ | ⟨p1, p2, p3, p4⟩
        · exact .inl fun k a b => g5 k a (by omega)
        · exact .inr ⟨p1, by omega, p3, p4⟩
      · right
        have hjm : j ≤ m := by omega
        have hd : decide ((j : Int) ≤ (m : Int)) = true := by rw [decide_eq_true_eq]; omega
        have hu1 := hus j hjm
        have hul : j < (us.set j0 true).length := by simp; omega
        have hw : w64 ((j : Int) + 1) = ((j + 1 : Nat) : Int) := w64_nat (show j < m + 1 by omega) (by omega)
        have hmu : m + 1 - ((j + 1 : Nat) : Int).toNat < m + 1 - ((j : Nat) : Int).toNat := by omega
        by_cases hQ : j ∈ j0 :: Q
        · rw [decide_eq_true hQ] at hu1
          refine ⟨(d, (j1 : Int), ((j + 1 : Nat) : Int), ls', fr'), ?_, ⟨d, j1, j + 1, ls', fr', rfl, by omega, by omega, l1, l2, fun k a b => g1 k (by omega) b, g2, fun k a b c => g3 k a ?_ c, fun k a b c => g4 k a ?_ c, ?_⟩, hmu⟩
          · simp only [spec_l4Grow_L3, hd, cond_true, Int.toNat_natCast, upd_is, inb_lt hul, hu1, Option.bind_some, hw]
          · by_cases e : k = j
            · exact absurd (e ▸ hQ) c
            · omega
          · by_cases e : k = j
            · exact absurd (e ▸ hQ) c
            · omega
          · rcases g5 with ⟨p1, p2⟩ | ⟨p1, p2, p3, p4⟩
            · refine .inl ⟨p1, fun k a b => ?_⟩
              by_cases e : k = j
              · rw [e]; exact hQ
              · exact p2 k a (by omega)
            · exact .inr ⟨p1, by omega, p3, p4⟩
        · rw [decide_eq_false hQ] at hu1
          obtain ⟨l, c1, c2, c3, c4⟩ := hc.at hi1 hi2 b1 hjm
          have hvj := hvb j b1 hjm
          have hcur : w64 (w64 (cC a0 i0 j - ga u i0) - ga v j) = cC a0 i0 j - ga u i0 - ga v j := by
            rw [w64_eq (n := cC a0 i0 j - ga u i0) (by omega) (by omega)]
            exact w64_eq (by omega) (by omega)
          have i1 : inb u (i0 : Int) = true := inb_lt (by omega)
          have i2 : inb v (j : Int) = true := inb_lt (by omega)
          have i3 : inb ls' (j : Int) = true := inb_lt (by omega)
          have i4 : inb fr' (j : Int) = true := inb_lt (by omega)
          have e1 := ga_get (l := u) (i := i0) (by omega)
          have e2 := ga_get (l := v) (i := j) (by omega)
          have e3 := ga_get (l := ls') (i := j) (by omega)
          obtain ⟨g1a, g1b⟩ := g1 j (Nat.le_refl _) hjm
          generalize hcv : cC a0 i0 j - ga u i0 - ga v j = cur at hcur
          have hcb : cur ≤ 200000 := by omega
          -- the new rows
          have key : ∀ (ls2 fr2 : List Int), ls2.length = m + 1 → fr2.length = m + 1 → (∀ k, k ≠ j → ga ls2 k = ga ls' k ∧ ga fr2 k = ga fr' k) →
              ((cur < ga ls j ∧ ga ls2 j = cur ∧ ga fr2 j = (j0 : Int)) ∨ (¬ cur < ga ls j ∧ ga ls2 j = ga ls j ∧ ga fr2 j = ga fr j)) → (∀ d2 j2, (ga ls2 j < d ∧ d2 = ga ls2 j ∧ j2 = j ∨ ¬ ga ls2 j < d ∧ d2 = d ∧ j2 = j1) →
              ∃ (d' : Int) (j1' j' : Nat) (ls' fr' : List Int), (d2, ((j2 : Nat) : Int), ((j + 1 : Nat) : Int), ls2, fr2) = (d', (j1' : Int), (j' : Int), ls', fr') ∧ 1 ≤ j' ∧ j' ≤ m + 1 ∧ ls'.length = m + 1 ∧ fr'.length = m + 1 ∧
      (∀ k, j' ≤ k → k ≤ m → ga ls' k = ga ls k ∧ ga fr' k = ga fr k) ∧ (∀ k, k ≤ m → k ∈ j0 :: Q → ga fr' k = ga fr k) ∧
      (∀ k, 1 ≤ k → k < j' → k ∉ j0 :: Q → (cC a0 i0 k - ga u i0 - ga v k < ga ls k ∧ ga ls' k = cC a0 i0 k - ga u i0 - ga v k ∧ ga fr' k = (j0 : Int)) ∨ (¬ cC a0 i0 k - ga u i0 - ga v k < ga ls k ∧ ga ls' k = ga ls k ∧ ga fr' k = ga fr k)) ∧
      (∀ k, 1 ≤ k → k < j' → k ∉ j0 :: Q → d' ≤ ga ls' k) ∧ ((d' = 1099511627776 ∧ ∀ k, 1 ≤ k → k < j' → k ∈ j0 :: Q) ∨ (1 ≤ j1' ∧ j1' < j' ∧ j1' ∉ j0 :: Q ∧ ga ls' j1' = d'))) := by
            intro ls2 fr2 q1 q2 q3 q4 d2 j2 q5
            refine ⟨d2, j2, j + 1, ls2, fr2, rfl, by omega, by omega, q1, q2, fun k a b => ?_, fun k a b => ?_, fun k a b c => ?_, fun k a b c => ?_, ?_⟩
            · rw [(q3 k (by omega)).1, (q3 k (by omega)).2]; exact g1 k (by omega) b
            · have hne : k ≠ j := fun e => hQ (e ▸ b)
              rw [(q3 k hne).2]; exact g2 k a b
            · by_cases e : k = j
              · subst e
                rw [hcv]; exact q4
              · rw [(q3 k e).1, (q3 k e).2]; exact g3 k a (by omega) c
            · by_cases e : k = j
              · subst e
                rcases q5 with ⟨p1, p2, p3⟩ | ⟨p1, p2, p3⟩ <;> omega
              · rw [(q3 k e).1]
                have := g4 k a (by omega) c
                rcases q5 with ⟨p1, p2, p3⟩ | ⟨p1, p2, p3⟩ <;> omega
            · have hlt : ga ls2 j ≤ 200000 := by rcases q4 with ⟨p1, p2, _⟩ | ⟨p1, p2, _⟩ <;> omega
              rcases q5 with ⟨p1, p2, p3⟩ | ⟨p1, p2, p3⟩
              · exact .inr ⟨by omega, by omega, by rw [p3]; exact hQ, by rw [p3, p2]⟩
              · rcases g5 with ⟨r1, r2⟩ | ⟨r1, r2, r3, r4⟩
                · omega
                · exact .inr ⟨by omega, by omega, by rw [p3]; exact r3, by rw [p3, p2, (q3 j1 (by omega)).1, r4]⟩
          by_cases hcl : cur < ga ls j
          · have hcl' : decide (cur < ga ls' j) = true := by rw [decide_eq_true_eq, g1a]; exact hcl
            have il : inb (ls'.set j cur) (j : Int) = true := inb_lt (by simp; omega)
            have el : (ls'.set j cur)[j]? = some cur := by rw [List.getElem?_set_self (by omega)]
            have kk := key (ls'.set j cur) (fr'.set j (j0 : Int)) (by simp [l1]) (by simp [l2]) (fun k hk => ⟨by rw [ga_set (by omega), if_neg hk], by rw [ga_set (by omega), if_neg hk]⟩) (.inl ⟨hcl, by rw [ga_set (by omega), if_pos rfl], by rw [ga_set (by omega), if_pos rfl]⟩)
            rw [ga_set (by omega), if_pos rfl] at kk
            by_cases hdl : cur < d
            · refine ⟨(cur, (j : Int), ((j + 1 : Nat) : Int), ls'.set j cur, fr'.set j (j0 : Int)), ?_, kk cur j (.inl ⟨hdl, rfl, rfl⟩), hmu⟩
              simp only [spec_l4Grow_L3, hd, cond_true, Int.toNat_natCast, upd_is, inb_lt hul, hu1, Option.bind_some, hw, cond_false, c1, c2, i1, i2, i3, i4, e1, e2, e3, hcur, hcl', il, el, decide_eq_true hdl]
            · refine ⟨(d, (j1 : Int), ((j + 1 : Nat) : Int), ls'.set j cur, fr'.set j (j0 : Int)), ?_, kk d j1 (.inr ⟨hdl, rfl, rfl⟩), hmu⟩
              simp only [spec_l4Grow_L3, hd, cond_true, Int.toNat_natCast, upd_is, inb_lt hul, hu1, Option.bind_some, hw, cond_false, c1, c2, i1, i2, i3, i4, e1, e2, e3, hcur, hcl', il, el, decide_eq_false hdl]
          · have hcl' : decide (cur < ga ls' j) = false := by rw [decide_eq_false_iff_not, g1a]; exact hcl
            have kk := key ls' fr' l1 l2 (fun k hk => ⟨rfl, rfl⟩) (.inr ⟨hcl, g1a, g1b⟩)
            by_cases hdl : ga ls' j < d
            · refine ⟨(ga ls' j, (j : Int), ((j + 1 : Nat) : Int), ls', fr'), ?_, kk (ga ls' j) j (.inl ⟨hdl, rfl, rfl⟩), hmu⟩
              simp only [spec_l4Grow_L3, hd, cond_true, Int.toNat_natCast, upd_is, inb_lt hul, hu1, Option.bind_some, hw, cond_false, c1, c2, i1, i2, i3, i4, e1, e2, e3, hcur, hcl', decide_eq_true hdl]
            · refine ⟨(d, (j1 : Int), ((j + 1 : Nat) : Int), ls', fr'), ?_, kk d j1 (.inr ⟨hdl, rfl, rfl⟩), hmu⟩
              simp only [spec_l4Grow_L3, hd, cond_true, Int.toNat_natCast, upd_is, inb_lt hul, hu1, Option.bind_some, hw, cond_false, c1, c2, i1, i2, i3, i4, e1, e2, e3, hcur, hcl', decide_eq_false hdl])
    n (1099511627776, 0, 1, ls, fr) ⟨1099511627776, 0, 1, ls, fr, rfl, Nat.le_refl _, by omega, ll, lf, fun k _ _ => ⟨rfl, rfl⟩, fun k _ _ => rfl, fun k a b => by omega, fun k a b => by omega, .inl ⟨rfl, fun k a b => by omega⟩⟩ (by show m + 1 - (1 : Int).toNat < n; unfold BIG at hn; omega)
  exact ⟨d, j1, ls', fr', by rw [h2, e], h1⟩

theorem l4Grow_upd {N m i : Nat} {u v ls w : List Int} {us : List Bool} {Q : List Nat} {j0 : Nat} (hm : m ≤ 10) (fr0 : List Int) (x16 : Int × Int × Int × (List Int) × (List Int))
    (lu : u.length = N + 1) (lv : v.length = m + 1) (ll : ls.length = m + 1) (lw : w.length = m + 1)
    (hus : ∀ k, k ≤ m → (us.set j0 true)[k]? = some (decide (k ∈ j0 :: Q))) (hlu : us.length = m + 1)
    (hw : ∀ k, k ≤ m → k ∈ j0 :: Q → 1 ≤ ga w k ∧ ga w k ≤ N) (hinj : ∀ k b, k ≤ m → b ≤ m → k ∈ j0 :: Q → b ∈ j0 :: Q → ga w k = ga w b → k = b)
    (hd : 0 ≤ x16.1 ∧ x16.1 ≤ 200000) (hub : ∀ r, 1 ≤ r → r ≤ N → 0 ≤ ga u r ∧ ga u r ≤ 100000) (hvb : ∀ j, 1 ≤ j → j ≤ m → -100000 ≤ ga v j ∧ ga v j ≤ 0)
    (hlb : ∀ k, 1 ≤ k → k ≤ m → k ∉ j0 :: Q → 0 ≤ ga ls k ∧ ga ls k ≤ 200000) (ls0 : List Int) (h0 : 0 ∈ j0 :: Q)
    (n : Nat) (hn : BIG ≤ n) :
    ∃ (u' v' ls' : List Int), iter n (spec_l4Grow_L4 w (m : Int) ((j0 : Int), u, v, ls0, fr0, us) x16) (0, u, v, ls) = some (((m + 1 : Nat) : Int), u', v', ls') ∧
      u'.length = N + 1 ∧ v'.length = m + 1 ∧ ls'.length = m + 1 ∧
      (∀ r : Nat, 1 ≤ r → r ≤ N → (∃ b ∈ j0 :: Q, b ≤ m ∧ ga w b = (r : Int)) → ga u' r = ga u r + x16.1) ∧
      (∀ r : Nat, 1 ≤ r → r ≤ N → ¬ (∃ b ∈ j0 :: Q, b ≤ m ∧ ga w b = (r : Int)) → ga u' r = ga u r) ∧
      (∀ j, 1 ≤ j → j ≤ m → j ∈ j0 :: Q → ga v' j = ga v j - x16.1) ∧ (∀ j, 1 ≤ j → j ≤ m → j ∉ j0 :: Q → ga v' j = ga v j) ∧
      (∀ j, 1 ≤ j → j ≤ m → j ∉ j0 :: Q → ga ls' j = ga ls j - x16.1) := by
  obtain ⟨z, ⟨j, u', v', ls', e, hje, h1⟩, h2⟩ := iter_inv (f := spec_l4Grow_L4 w (m : Int) ((j0 : Int), u, v, ls0, fr0, us) x16)
    (fun x => ∃ (j : Nat) (u' v' ls' : List Int), x = ((j : Int), u', v', ls') ∧ j ≤ m + 1 ∧ u'.length = N + 1 ∧ v'.length = m + 1 ∧ ls'.length = m + 1 ∧
      (∀ r : Nat, 1 ≤ r → r ≤ N → (∃ b ∈ j0 :: Q, b < j ∧ ga w b = (r : Int)) → ga u' r = ga u r + x16.1) ∧
      (∀ r : Nat, 1 ≤ r → r ≤ N → ¬ (∃ b ∈ j0 :: Q, b < j ∧ ga w b = (r : Int)) → ga u' r = ga u r) ∧
      (∀ k, 1 ≤ k → k ≤ m → k ∈ j0 :: Q → ga v' k = if k < j then ga v k - x16.1 else ga v k) ∧ (∀ k, 1 ≤ k → k ≤ m → k ∉ j0 :: Q → ga v' k = ga v k) ∧
      (∀ k, 1 ≤ k → k ≤ m → k ∉ j0 :: Q → ga ls' k = if k < j then ga ls k - x16.1 else ga ls k))
    (fun x => ∃ (j : Nat) (u' v' ls' : List Int), x = ((j : Int), u', v', ls') ∧ j = m + 1 ∧ u'.length = N + 1 ∧ v'.length = m + 1 ∧ ls'.length = m + 1 ∧
      (∀ r : Nat, 1 ≤ r → r ≤ N → (∃ b ∈ j0 :: Q, b < j ∧ ga w b = (r : Int)) → ga u' r = ga u r + x16.1) ∧
      (∀ r : Nat, 1 ≤ r → r ≤ N → ¬ (∃ b ∈ j0 :: Q, b < j ∧ ga w b = (r : Int)) → ga u' r = ga u r) ∧
      (∀ k, 1 ≤ k → k ≤ m → k ∈ j0 :: Q → ga v' k = if k < j then ga v k - x16.1 else ga v k) ∧ (∀ k, 1 ≤ k → k ≤ m → k ∉ j0 :: Q → ga v' k = ga v k) ∧
      (∀ k, 1 ≤ k → k ≤ m → k ∉ j0 :: Q → ga ls' k = if k < j then ga ls k - x16.1 else ga ls k))
    (fun x => m + 1 - x.1.toNat) (fun x hx => by
      obtain ⟨j, u', v', ls', rfl, b, l1, l2, l3, g1, g2, g3, g4, g5⟩ := hx
      by_cases hj : j = m + 1
      · left
        have hdd : decide ((j : Int) ≤ (m : Int)) = false := by rw [decide_eq_false_iff_not]; omega
        exact ⟨((j : Int), u', v', ls'), by simp only [spec_l4Grow_L4, hdd, cond_false], j, u', v', ls', rfl, hj, l1, l2, l3, g1, g2, g3, g4, g5⟩
      · right
        have hjm : j ≤ m := by omega
        have hdd : decide ((j : Int) ≤ (m : Int)) = true := by rw [decide_eq_true_eq]; omega
        have hu1 := hus j hjm
        have hul : j < (us.set j0 true).length := by simp; omega
        have hw1 : w64 ((j : Int) + 1) = ((j + 1 : Nat) : Int) := w64_nat (show j < m + 1 by omega) (by omega)
        have hmu : m + 1 - ((j + 1 : Nat) : Int).toNat < m + 1 - ((j : Nat) : Int).toNat := by omega
        by_cases hQ : j ∈ j0 :: Q
        · rw [decide_eq_true hQ] at hu1
          obtain ⟨w1, w2⟩ := hw j hjm hQ
          obtain ⟨r, hr⟩ : ∃ r : Nat, ga w j = (r : Int) := ⟨(ga w j).toNat, by omega⟩
          have i1 : inb w (j : Int) = true := inb_lt (by omega)
          have i2 : inb u' (r : Int) = true := inb_lt (by omega)
          have i3 : inb v' (j : Int) = true := inb_lt (by omega)
          have e1 := ga_get (l := w) (i := j) (by omega)
          rw [hr] at e1
          have e2 := ga_get (l := u') (i := r) (by omega)
          have e3 := ga_get (l := v') (i := j) (by omega)
          have hnb : ¬ ∃ b ∈ j0 :: Q, b < j ∧ ga w b = (r : Int) := by
            rintro ⟨b, hb, hlt, e⟩
            have := hinj b j (by omega) hjm hb hQ (by omega)
            omega
          have hu' := g2 r (by omega) (by omega) hnb
          have hub' := hub r (by omega) (by omega)
          refine ⟨(((j + 1 : Nat) : Int), u'.set r (w64 (ga u' r + x16.1)), v'.set j (w64 (ga v' j - x16.1)), ls'), ?_, ⟨j + 1, u'.set r (w64 (ga u' r + x16.1)), v'.set j (w64 (ga v' j - x16.1)), ls', rfl, by omega, by simp [l1], by simp [l2], l3, fun s s1 s2 hs => ?_, fun s s1 s2 hs => ?_, fun k k1 k2 hk => ?_, fun k k1 k2 hk => ?_, fun k k1 k2 hk => ?_⟩, hmu⟩
          · simp only [spec_l4Grow_L4, hdd, cond_true, Int.toNat_natCast, upd_is, inb_lt hul, hu1, Option.bind_some, hw1, i1, i2, i3, e1, e2, e3]
          · rw [ga_set (by omega)]
            by_cases e : s = r
            · rw [if_pos e, e, w64_eq (by omega) (by omega)]; omega
            · rw [if_neg e]
              obtain ⟨b, hb, hlt, eb⟩ := hs
              have hbj : b ≠ j := fun e2 => by rw [e2, hr] at eb; omega
              exact g1 s s1 s2 ⟨b, hb, by omega, eb⟩
          · have e : s ≠ r := fun e => hs ⟨j, hQ, by omega, by rw [hr, e]⟩
            rw [ga_set (by omega), if_neg e]
            exact g2 s s1 s2 fun ⟨b, hb, hlt, eb⟩ => hs ⟨b, hb, by omega, eb⟩
          · rw [ga_set (by omega)]
            by_cases e : k = j
            · have h3 := g3 k k1 k2 hk
              rw [if_neg (by omega)] at h3
              have := hvb k k1 k2
              rw [if_pos e, if_pos (by omega), ← e, h3, w64_eq (by omega) (by omega)]
            · rw [if_neg e, g3 k k1 k2 hk]
              by_cases e2 : k < j
              · rw [if_pos e2, if_pos (by omega)]
              · rw [if_neg e2, if_neg (by omega)]
          · have e : k ≠ j := fun e => hk (e ▸ hQ)
            rw [ga_set (by omega), if_neg e]; exact g4 k k1 k2 hk
          · have e : k ≠ j := fun e => hk (e ▸ hQ)
            rw [g5 k k1 k2 hk]
            by_cases e2 : k < j
            · rw [if_pos e2, if_pos (by omega)]
            · rw [if_neg e2, if_neg (by omega)]
        · rw [decide_eq_false hQ] at hu1
          have hj1 : 1 ≤ j := by
            rcases Nat.eq_zero_or_pos j with e | e
            · exact absurd (e ▸ h0) hQ
            · exact e
          have i3 : inb ls' (j : Int) = true := inb_lt (by omega)
          have e3 := ga_get (l := ls') (i := j) (by omega)
          have h5 := g5 j hj1 hjm hQ
          rw [if_neg (by omega)] at h5
          have hlb' := hlb j hj1 hjm hQ
          have sm : ∀ r : Nat, (∃ b ∈ j0 :: Q, b < j + 1 ∧ ga w b = (r : Int)) ↔ ∃ b ∈ j0 :: Q, b < j ∧ ga w b = (r : Int) := fun r =>
            ⟨fun ⟨b, hb, h1, h2⟩ => ⟨b, hb, by
              have : b ≠ j := fun e => hQ (e ▸ hb)
              omega, h2⟩, fun ⟨b, hb, h1, h2⟩ => ⟨b, hb, by omega, h2⟩⟩
          refine ⟨(((j + 1 : Nat) : Int), u', v', ls'.set j (w64 (ga ls' j - x16.1))), ?_, ⟨j + 1, u', v', ls'.set j (w64 (ga ls' j - x16.1)), rfl, by omega, l1, l2, by simp [l3], fun s s1 s2 hs => g1 s s1 s2 ((sm s).1 hs), fun s s1 s2 hs => g2 s s1 s2 fun h => hs ((sm s).2 h), fun k k1 k2 hk => ?_, g4, fun k k1 k2 hk => ?_⟩, hmu⟩
          · simp only [spec_l4Grow_L4, hdd, cond_true, cond_false, Int.toNat_natCast, upd_is, inb_lt hul, hu1, Option.bind_some, hw1, i3, e3]
          · have e : k ≠ j := fun e => hQ (e ▸ hk)
            rw [g3 k k1 k2 hk]
            by_cases e2 : k < j
            · rw [if_pos e2, if_pos (by omega)]
            · rw [if_neg e2, if_neg (by omega)]
          · rw [ga_set (by omega)]
            by_cases e : k = j
            · rw [if_pos e, if_pos (by omega), e, h5, w64_eq (by omega) (by omega)]
            · rw [if_neg e, g5 k k1 k2 hk]
              by_cases e2 : k < j
              · rw [if_pos e2, if_pos (by omega)]
              · rw [if_neg e2, if_neg (by omega)])
    n (0, u, v, ls) ⟨0, u, v, ls, rfl, by omega, lu, lv, ll, fun r _ _ h => by obtain ⟨b, _, hb, _⟩ := h; omega, fun r _ _ _ => rfl, fun k _ _ _ => by rw [if_neg (by omega)], fun k _ _ _ => rfl, fun k _ _ _ => by rw [if_neg (by omega)]⟩ (by show m + 1 - (0 : Int).toNat < n; unfold BIG at hn; omega)
  obtain ⟨l1, l2, l3, g1, g2, g3, g4, g5⟩ := h1
  subst hje
  refine ⟨u', v', ls', by rw [h2, e], l1, l2, l3, fun r r1 r2 ⟨b, hb, hbm, eb⟩ => g1 r r1 r2 ⟨b, hb, by omega, eb⟩, fun r r1 r2 h => g2 r r1 r2 fun ⟨b, hb, hbm, eb⟩ => h ⟨b, hb, by omega, eb⟩, fun j j1 j2 hj => ?_, g4, fun j j1 j2 hj => ?_⟩
  · rw [g3 j j1 j2 hj, if_pos (by omega)]
  · rw [g5 j j1 j2 hj, if_pos (by omega)]

/-- A loop, by what holds of its states, with a rank that falls. -/
theorem iter_rank {α γ : Type} {f : α → Option (α ⊕ γ)} (R : Nat → α → Prop) (S : γ → Prop)
    (h : ∀ k x, R k x → (∃ z, f x = some (.inr z) ∧ S z) ∨ (∃ x' k', f x = some (.inl x') ∧ R k' x' ∧ k' < k)) :
    ∀ n k x, R k x → k < n → ∃ z, S z ∧ iter n f x = some z := by
  intro n
  induction n with
  | zero => intro k x _ hn; omega
  | succ n ih =>
    intro k x hR hn
    rcases h k x hR with ⟨z, h1, h3⟩ | ⟨x', k', h1, h3, h4⟩
    · exact ⟨z, h3, iter_end h1 n⟩
    · obtain ⟨z, h5, h6⟩ := ih k' x' h3 (by omega)
      exact ⟨z, h5, (iter_go h1 n).trans h6⟩
theorem Ch.zero {P : Nat → Nat → Prop} : ∀ {a : Nat} {l : List Nat}, Ch P (a :: l) → 0 ∈ a :: l
  | a, [], h => by
    rcases h with ⟨h, _⟩ | ⟨_, ⟨x, hx, _⟩, _⟩
    · rw [h]; exact List.mem_cons_self
    · cases hx
  | a, b :: l, h => by
    rcases h with ⟨_, h⟩ | ⟨_, _, h⟩
    · cases h
    · exact List.mem_cons_of_mem _ (Ch.zero h)

theorem l4Grow_step {a0 : List (List Int)} {m i : Nat} (hc : CM a0 m) {w : List Int} (lw : w.length = m + 1) (hm : HM m i (ga w)) (hw0 : ga w 0 = (i : Int)) (h1i : 1 ≤ i) (hiN : i ≤ a0.length) (n : Nat) (hn : BIG ≤ n)
    {u v ls fr : List Int} {us : List Bool} {j0 : Nat} {Q : List Nat} (lu : u.length = a0.length + 1) (lv : v.length = m + 1) (ll : ls.length = m + 1) (lf : fr.length = m + 1) (lus : us.length = m + 1)
    (hG : HG (cC a0) a0.length m (ga u) (ga v) (ga w) (ga ls) (ga fr) Q j0) (hu : ∀ k, k ≤ m → us[k]? = some (decide (k ∈ Q))) (hwj : 1 ≤ ga w j0) (hfar : Q = [] → ∀ k, k ≤ m → ga ls k = 1099511627776) :
    ∃ (j1 : Nat) (u' v' ls' fr' : List Int), u'.length = a0.length + 1 ∧ v'.length = m + 1 ∧ ls'.length = m + 1 ∧ fr'.length = m + 1 ∧ HG (cC a0) a0.length m (ga u') (ga v') (ga w) (ga ls') (ga fr') (j0 :: Q) j1 ∧
      (∀ k, k ≤ m → (us.set j0 true)[k]? = some (decide (k ∈ j0 :: Q))) ∧ 0 ≤ ga w j1 ∧ (j0 :: Q).length ≤ m + 1 ∧
      spec_l4Grow_L2 n a0 w (m : Int) ((j0 : Int), u, v, ls, fr, us) = bif ga w j1 == 0 then some (.inr ((j1 : Int), u', v', ls', fr', us.set j0 true)) else some (.inl ((j1 : Int), u', v', ls', fr', us.set j0 true)) := by
  have hm10 := hc.m10
  have hnm := hc.nm
  have hj0 := hG.j0m
  obtain ⟨bu, bv⟩ := hG.hf.bnd hG.ht hm h1i (by clear hn; omega) hiN (M := 100000) (fun r j r1 r2 j1 j2 => by
    obtain ⟨_, _, _, p, q⟩ := hc.at r1 r2 j1 j2
    exact ⟨p, q⟩)
  have wle : ∀ k, k ≤ m → ga w k ≤ (a0.length : Int) := fun k hk => by
    by_cases e : k = 0
    · rw [e, hw0]; clear hn; omega
    · have := hm.ran k (by clear hn; omega) hk
      clear hn; omega
  obtain ⟨i0, hi0⟩ : ∃ i0 : Nat, ga w j0 = (i0 : Int) := ⟨(ga w j0).toNat, by clear hn; omega⟩
  have hi01 : 1 ≤ i0 := by clear hn; omega
  have hi02 : i0 ≤ a0.length := by have := wle j0 hj0; clear hn; omega
  have hset : ∀ k, k ≤ m → (us.set j0 true)[k]? = some (decide (k ∈ j0 :: Q)) := fun k hk => by
    rw [List.getElem?_set]
    by_cases e : j0 = k
    · subst e; simp [lus]; clear hn; omega
    · rw [if_neg e, hu k hk]
      congr 1
      have : k ≠ j0 := fun q => e q.symm
      simp [this]
  obtain ⟨d, j1, ls', fr', s1, l1, l2, s2, s3, s4, s5⟩ := l4Grow_scan (i := i) hc (w := w) hj0 lu lv ll lf hset lus hi01 hi02 (bu i0 hi01 hi02) bv n hn
  have hfar2 : Q = [] → ∀ j, 1 ≤ j → j ≤ m → cC a0 i0 j - ga u i0 - ga v j < ga ls j := fun e j a b => by
    rw [hfar e j b]
    obtain ⟨_, _, _, p, q⟩ := hc.at hi01 hi02 a b
    have := bu i0 hi01 hi02
    have := bv j a b
    clear hn; omega
  have hS : HS (cC a0) a0.length m (ga u) (ga v) (ga w) (ga ls') (ga fr') (j0 :: Q) := hG.scan hi01 hi0 hfar2 s2 s3
  have rN : ∀ b ∈ j0 :: Q, ∀ r : Nat, ga w b = (r : Int) → 1 ≤ r ∧ r ≤ a0.length := fun b hb r hr => by
    have := hS.qp b hb
    have := wle b (hS.qm b hb)
    clear hn; omega
  have hlb : ∀ k, 1 ≤ k → k ≤ m → k ∉ j0 :: Q → 0 ≤ ga ls' k ∧ ga ls' k ≤ 200000 := fun k a b c => by
    obtain ⟨q, hq, _, r, r1, r2, r3⟩ := hS.l2 k a b c
    obtain ⟨p1, p2⟩ := rN q hq r r2
    have := hS.hf.feas r k p1 p2 a b
    obtain ⟨_, _, _, p, q⟩ := hc.at p1 p2 a b
    have := bu r p1 p2
    have := bv k a b
    clear hn; omega
  rcases s5 with s5 | ⟨a1, a2, a3, a4⟩
  · obtain ⟨f, f1, f2, f3⟩ := hm.open h1i (by clear hn; omega)
    have := hS.qp f (s5 f f1 f2)
    clear hn; omega
  have hdb := hlb j1 a1 a2 a3
  rw [a4] at hdb
  have hinj : ∀ k b, k ≤ m → b ≤ m → k ∈ j0 :: Q → b ∈ j0 :: Q → ga w k = ga w b → k = b := fun k b c1 c2 c3 c4 c5 => by
    have p1 := hS.qp k c3
    by_cases k0 : k = 0
    · by_cases b0 : b = 0
      · clear hn; omega
      · have := hm.ran b (by clear hn; omega) c2
        rw [k0, hw0] at c5; clear hn; omega
    · by_cases b0 : b = 0
      · have := hm.ran k (by clear hn; omega) c1
        rw [b0, hw0] at c5; clear hn; omega
      · exact hm.inj k b (by clear hn; omega) c1 (by clear hn; omega) c2 c5 (by clear hn; omega)
  have h00 : 0 ∈ j0 :: Q := Ch.zero hG.ch
  obtain ⟨u', v', ls'', t1, t2, t3, t4, t5, t6, t7, t8, t9⟩ := l4Grow_upd (m := m) (i := i) (u := u) (v := v) (ls := ls') (w := w) hm10 fr (d, (j1 : Int), ((m + 1 : Nat) : Int), ls', fr') lu lv l1 lw hset lus (fun k a b => ⟨hS.qp k b, wle k a⟩) hinj hdb bu bv hlb ls h00 n hn
  obtain ⟨hd0, hG'⟩ := hS.step (u' := ga u') (v' := ga v') (ls' := ga ls'') hm hw0 hiN a1 a2 a3 a4 s4 (fun r r1 r2 ⟨b, hb, eb⟩ => t5 r r1 r2 ⟨b, hb, hS.qm b hb, eb⟩) (fun r r1 r2 h => t6 r r1 r2 fun ⟨b, hb, _, eb⟩ => h ⟨b, hb, eb⟩) t7 t8 t9
  have i1 : inb us (j0 : Int) = true := inb_lt (by clear hn; omega)
  have i2 : inb w (j0 : Int) = true := inb_lt (by clear hn; omega)
  have i3 : inb w (j1 : Int) = true := inb_lt (by clear hn; omega)
  have e2 := ga_get (l := w) (i := j0) (by clear hn; omega)
  have e3 := ga_get (l := w) (i := j1) (by clear hn; omega)
  rw [hi0] at e2
  have hlen : (j0 :: Q).length ≤ m + 1 := by
    have := nodup_le (j0 :: Q) (List.range (m + 1)) hS.nd (fun x hx => by rw [List.mem_range]; have := hS.qm x hx; clear hn; omega)
    simpa using this
  refine ⟨j1, u', v', ls'', fr', t2, t3, t4, l2, hG', hset, (hm.ran j1 a1 a2).1, hlen, ?_⟩
  simp only [spec_l4Grow_L2, i1, i2, i3, cond_true, Int.toNat_natCast, e2, e3, Option.bind_some, s1, t1, upd_is]
abbrev GT := Int × (List Int) × (List Int) × (List Int) × (List Int) × (List Bool)
structure GS (a0 : List (List Int)) (m : Nat) (w : List Int) (k : Nat) (x : GT) (j0 : Nat) (Q : List Nat) : Prop where
  j : x.1 = (j0 : Int)
  lu : x.2.1.length = a0.length + 1
  lv : x.2.2.1.length = m + 1
  ll : x.2.2.2.1.length = m + 1
  lf : x.2.2.2.2.1.length = m + 1
  lus : x.2.2.2.2.2.length = m + 1
  hG : HG (cC a0) a0.length m (ga x.2.1) (ga x.2.2.1) (ga w) (ga x.2.2.2.1) (ga x.2.2.2.2.1) Q j0
  hu : ∀ k, k ≤ m → x.2.2.2.2.2[k]? = some (decide (k ∈ Q))
  hwj : 1 ≤ ga w j0
  hfar : Q = [] → ∀ k, k ≤ m → ga x.2.2.2.1 k = 1099511627776
  hk : k + Q.length = m + 1
structure GE (a0 : List (List Int)) (m : Nat) (w : List Int) (x : GT) (j0 : Nat) (Q : List Nat) : Prop where
  j : x.1 = (j0 : Int)
  lu : x.2.1.length = a0.length + 1
  lv : x.2.2.1.length = m + 1
  lf : x.2.2.2.2.1.length = m + 1
  hG : HG (cC a0) a0.length m (ga x.2.1) (ga x.2.2.1) (ga w) (ga x.2.2.2.1) (ga x.2.2.2.2.1) Q j0
  hz : ga w j0 = 0
theorem l4Grow_one {a0 : List (List Int)} {m i : Nat} (hc : CM a0 m) {w : List Int} (lw : w.length = m + 1) (hm : HM m i (ga w)) (hw0 : ga w 0 = (i : Int)) (h1i : 1 ≤ i) (hiN : i ≤ a0.length) (n : Nat) (hn : BIG ≤ n) (k : Nat) (x : GT) (hx : ∃ j0 Q, GS a0 m w k x j0 Q) :
    (∃ z, spec_l4Grow_L2 n a0 w (m : Int) x = some (.inr z) ∧ ∃ j0 Q, GE a0 m w z j0 Q) ∨ (∃ x' k', spec_l4Grow_L2 n a0 w (m : Int) x = some (.inl x') ∧ (∃ j0 Q, GS a0 m w k' x' j0 Q) ∧ k' < k) := by
  obtain ⟨x1, u, v, ls, fr, us⟩ := x
  obtain ⟨j0, Q, ⟨j, lu, lv, ll, lf, lus, hG, hu, hwj, hfar, hk⟩⟩ := hx
  dsimp only at j lu lv ll lf lus hG hu hfar
  subst j
  obtain ⟨j1, u', v', ls', fr', t2, t3, t4, l2, hG', hset, hw1, hlen, hstep⟩ := l4Grow_step hc lw hm hw0 h1i hiN n hn lu lv ll lf lus hG hu hwj hfar
  clear hG hu hfar hn
  rw [List.length_cons] at hlen
  by_cases hz : ga w j1 = 0
  · rw [show (ga w j1 == 0) = true by simpa using hz, cond_true] at hstep
    exact .inl ⟨_, hstep, j1, j0 :: Q, ⟨rfl, t2, t3, l2, hG', hz⟩⟩
  · rw [show (ga w j1 == 0) = false by simpa using hz, cond_false] at hstep
    have h1 : 1 ≤ ga w j1 := by clear hstep hG' hset; omega
    exact .inr ⟨_, k - 1, hstep, ⟨j1, j0 :: Q, ⟨rfl, t2, t3, t4, l2, (by show (us.set j0 true).length = _; rw [List.length_set]; exact lus), hG', hset, h1, (fun h => nomatch h), (by rw [List.length_cons]; omega)⟩⟩, (by omega)⟩
theorem l4Grow_main {a0 : List (List Int)} {m i : Nat} (hc : CM a0 m) {w : List Int} (lw : w.length = m + 1) (hm : HM m i (ga w)) (hw0 : ga w 0 = (i : Int)) (h1i : 1 ≤ i) (hiN : i ≤ a0.length) (n : Nat) (hn : BIG ≤ n)
    {u v ls fr : List Int} {us : List Bool} (lu : u.length = a0.length + 1) (lv : v.length = m + 1) (ll : ls.length = m + 1) (lf : fr.length = m + 1) (lus : us.length = m + 1)
    (hf : HF (cC a0) a0.length m (ga u) (ga v)) (ht : HT (cC a0) m (ga u) (ga v) (ga w)) (hls : ∀ k, k ≤ m → ga ls k = 1099511627776) (hus : ∀ k, k ≤ m → us[k]? = some false) :
    ∃ z, (∃ j0 Q, GE a0 m w z j0 Q) ∧ iter n (spec_l4Grow_L2 n a0 w (m : Int)) (0, u, v, ls, fr, us) = some z := by
  have hm10 := hc.m10
  have h0 : GS a0 m w (m + 1) (0, u, v, ls, fr, us) 0 [] :=
    ⟨rfl, lu, lv, ll, lf, lus, ⟨hf, ht, by omega, by simp, by simp, by simp, .inl ⟨rfl, rfl⟩, fun _ _ _ _ b hb => (nomatch hb), .inl rfl⟩, fun k hk => by simpa using hus k hk, by rw [hw0]; clear hn; omega, fun _ => hls, by simp⟩
  exact iter_rank (fun k x => ∃ j0 Q, GS a0 m w k x j0 Q) (fun z => ∃ j0 Q, GE a0 m w z j0 Q) (l4Grow_one hc lw hm hw0 h1i hiN n hn) n (m + 1) _ ⟨0, [], h0⟩ (by unfold BIG at hn; omega)

theorem l4Grow_aug {C : Nat → Nat → Int} {m i : Nat} {u v fr : List Int} (x27 : Int × (List Int) × (List Int) × (List Int) × (List Int) × (List Bool)) (hx : x27.2.2.2.2.1 = fr) (lf : fr.length = m + 1) (n : Nat) (hn : BIG ≤ n) {w : List Int} (lw : w.length = m + 1) {j0 : Nat} {Q : List Nat} (hm : m ≤ 10)
    (h : HA C m i (ga u) (ga v) (ga fr) (ga w) j0 Q) : ∃ z, (∃ w' Q', z = ((0 : Int), w') ∧ w'.length = m + 1 ∧ HA C m i (ga u) (ga v) (ga fr) (ga w') 0 Q') ∧ iter n (spec_l4Grow_L5 x27) ((j0 : Int), w) = some z := by
  refine iter_rank (fun k x => ∃ (j0 : Nat) (Q : List Nat) (w : List Int), x = ((j0 : Int), w) ∧ w.length = m + 1 ∧ HA C m i (ga u) (ga v) (ga fr) (ga w) j0 Q ∧ k = Q.length) _ (fun k x hx' => ?_) n Q.length ((j0 : Int), w) ⟨j0, Q, w, rfl, lw, h, rfl⟩ ?_
  · obtain ⟨j0, Q, w, rfl, lw, h, rfl⟩ := hx'
    by_cases hj : j0 = 0
    · left
      subst hj
      exact ⟨((0 : Int), w), by simp [spec_l4Grow_L5], w, Q, rfl, lw, h⟩
    · right
      have hjm : j0 ≤ m := h.lm j0 List.mem_cons_self
      obtain ⟨x, Q', p1, p2, p3, p4, p5⟩ := h.next (by omega)
      have hne : ((j0 : Int) != 0) = true := by simp; omega
      have i1 : inb fr (j0 : Int) = true := inb_lt (by omega)
      have i2 : inb w (x : Int) = true := inb_lt (by omega)
      have i3 : inb w (j0 : Int) = true := inb_lt (by omega)
      have e1 := ga_get (l := fr) (i := j0) (by omega)
      have e2 := ga_get (l := w) (i := x) (by omega)
      rw [p1] at e1
      refine ⟨((x : Int), w.set j0 (ga w x)), Q'.length, ?_, ⟨x, Q', w.set j0 (ga w x), rfl, by simp [lw], p5 _ ?_ (fun j a b => ?_), rfl⟩, p3⟩
      · simp only [spec_l4Grow_L5, hne, cond_true, hx, i1, i2, i3, Int.toNat_natCast, e1, e2, Option.bind_some, upd_is]
      · rw [ga_set (by omega), if_pos rfl]
      · rw [ga_set (by omega), if_neg b]
  · have := nodup_le Q (List.range (m + 1)) (List.nodup_cons.1 h.nd).2 (fun x hx => by rw [List.mem_range]; have := h.lm x (List.mem_cons_of_mem _ hx); omega)
    simp at this
    unfold BIG at hn; omega

theorem l4Grow_ok {a0 : List (List Int)} {m i : Nat} (hc : CM a0 m) {u v w : List Int} (lu : u.length = a0.length + 1) (lv : v.length = m + 1) (lw : w.length = m + 1) (h1i : 1 ≤ i) (hiN : i ≤ a0.length)
    (hf : HF (cC a0) a0.length m (ga u) (ga v)) (ht : HT (cC a0) m (ga u) (ga v) (ga w)) (hm : HM m i (ga w)) (hw0 : ga w 0 = (i : Int)) (n : Nat) (hn : BIG ≤ n) :
    ∃ u' v' w', spec_l4Grow n a0 u v w (m : Int) = some (u', v', w') ∧ u'.length = a0.length + 1 ∧ v'.length = m + 1 ∧ w'.length = m + 1 ∧ HF (cC a0) a0.length m (ga u') (ga v') ∧ HT (cC a0) m (ga u') (ga v') (ga w') ∧ HM m (i + 1) (ga w') := by
  have hm10 := hc.m10
  have e0 : w64 ((m : Int) + 1) = ((m + 1 : Nat) : Int) := w64_nat (show m < m + 1 by omega) (by omega)
  have g0 : (decide (0 ≤ ((m + 1 : Nat) : Int)) && decide (((m + 1 : Nat) : Int) ≤ (maxRow : Int)) && decide (((m + 1 : Nat) : Int) = ((m + 1 : Nat) : Int))) = true := by
    rw [decide_eq_true (show 0 ≤ ((m + 1 : Nat) : Int) by omega), decide_eq_true (show ((m + 1 : Nat) : Int) ≤ (maxRow : Int) by unfold maxRow; omega)]
    simp
  obtain ⟨⟨x1, u', v', ls, fr, us⟩, ⟨j0, Q, ⟨j, lu', lv', lf', hG, hz⟩⟩, h2⟩ := l4Grow_main hc lw hm hw0 h1i hiN n hn (ls := List.replicate (m + 1) 1099511627776) (fr := List.replicate (m + 1) 0) (us := List.replicate (m + 1) false) lu lv (by simp) (by simp) (by simp) hf ht (fun k hk => ga_rep _ _ _ (by omega)) (fun k hk => by rw [List.getElem?_replicate, if_pos (by omega)])
  dsimp only at j lu' lv' lf' hG
  subst j
  obtain ⟨z2, ⟨w', Q', rfl, lw', hA⟩, h3⟩ := l4Grow_aug (fr := fr) ((j0 : Int), u', v', ls, fr, us) rfl lf' n hn lw hm10 (hG.aug hm hw0 h1i hz)
  obtain ⟨d1, d2⟩ := hA.done
  refine ⟨u', v', w', ?_, lu', lv', lw', hG.hf, d2, d1⟩
  unfold spec_l4Grow
  rw [e0, g0]
  simp only [cond_true, Int.toNat_natCast, l4Grow_far m hm10 n hn, Option.bind_some, h2, h3]

def rowsF (a0 : List (List Int)) : List (Nat → Int) := a0.map ga
theorem rowsF_get (a0 : List (List Int)) {r : Nat} (h : r < a0.length) (k : Nat) : ((rowsF a0)[r]'(by simp only [rowsF, List.length_map]; exact h)) k = cC a0 (r + 1) (k + 1) := by
  have e : (a0.map ga)[r]'(by simpa using h) = ga a0[r] := List.getElem_map ..
  show ((a0.map ga)[r]'(by simpa using h)) k = _
  rw [e]
  unfold cC
  rw [Nat.add_sub_cancel, Nat.add_sub_cancel, List.getD, List.getElem?_eq_getElem h, Option.getD_some]
theorem list_ex {P : Nat → Nat → Prop} : ∀ N : Nat, (∀ r, r < N → ∃ k, P r k) → ∃ cs : List Nat, cs.length = N ∧ ∀ r (h : r < cs.length), P r cs[r]
  | 0, _ => ⟨[], rfl, fun r h => by simp at h⟩
  | N + 1, h => by
    obtain ⟨cs, h1, h2⟩ := list_ex N (fun r hr => h r (by omega))
    obtain ⟨k, hk⟩ := h N (by omega)
    refine ⟨cs ++ [k], by simp [h1], fun r hr => ?_⟩
    by_cases e : r < cs.length
    · rw [List.getElem_append_left e]; exact h2 r e
    · have : r = cs.length := by simp at hr; omega
      subst this
      rw [List.getElem_append_right (Nat.le_refl _)]
      simpa [h1] using hk
theorem paid_sum (f : Nat → Int) : ∀ (R : List (Nat → Int)) (cs : List Nat), cs.length = R.length → (∀ r (h1 : r < R.length) (h2 : r < cs.length), R[r] cs[r] = f cs[r]) → paid R cs = sumI (cs.map f)
  | [], [], _, _ => rfl
  | [], c :: cs, h, _ => by simp at h
  | r :: R, [], h, _ => by simp at h
  | r :: R, c :: cs, h, he => by
    have h0 := he 0 (by simp) (by simp)
    simp only [List.getElem_cons_zero] at h0
    simp only [paid, List.map_cons, sumI]
    rw [h0, paid_sum f R cs (by simpa using h) (fun r h1 h2 => by
      have := he (r + 1) (by simp; omega) (by simp; omega)
      simpa only [List.getElem_cons_succ] using this)]
theorem sum_two (f h : Nat → Int) : ∀ (cs : List Nat) (u : List Int), u.length = cs.length → (∀ r (h1 : r < cs.length) (h2 : r < u.length), f cs[r] = u[r] + h cs[r]) → sumI (cs.map f) = sumI u + sumI (cs.map h)
  | [], [], _, _ => rfl
  | [], c :: cs, h, _ => by simp at h
  | r :: R, [], h, _ => by simp at h
  | c :: cs, x :: u, hl, he => by
    have h0 := he 0 (by simp) (by simp)
    simp only [List.getElem_cons_zero] at h0
    have := sum_two f h cs u (by simpa using hl) (fun r h1 h2 => by
      have := he (r + 1) (by simp; omega) (by simp; omega)
      simpa only [List.getElem_cons_succ] using this)
    simp only [List.map_cons, sumI]
    omega
theorem l4Least_ok {a0 : List (List Int)} {m : Nat} (hc : CM a0 m) (n : Nat) (hn : BIG ≤ n) : ∃ s, spec_l4Least n a0 = some s ∧ Lst (rowsF a0) (List.range m) s := by
  have hm10 := hc.m10
  have hnm := hc.nm
  by_cases h0 : a0.length = 0
  · have : a0 = [] := List.eq_nil_of_length_eq_zero h0
    subst this
    exact ⟨0, by simp [spec_l4Least], rfl, fun y hy => by simp only [rowsF, List.map_nil, AS] at hy; omega⟩
  have hg0 : getI a0 0 = some a0[0] := getI_lt (show 0 < a0.length by omega)
  have hl0 : a0[0].length = m := hc.row _ (List.getElem_mem (show 0 < a0.length by omega))
  have hne : ((a0.length : Int) == 0) = false := by simp; intro h; exact h0 (by simp [h])
  have e0 : ∀ k : Nat, k ≤ 10 → w64 ((k : Int) + 1) = ((k + 1 : Nat) : Int) ∧ (decide (0 ≤ ((k + 1 : Nat) : Int)) && decide (((k + 1 : Nat) : Int) ≤ (maxRow : Int)) && decide (((k + 1 : Nat) : Int) = ((k + 1 : Nat) : Int))) = true := fun k hk => by
    refine ⟨w64_nat (show k < k + 1 by omega) (by omega), ?_⟩
    rw [decide_eq_true (show 0 ≤ ((k + 1 : Nat) : Int) by omega), decide_eq_true (show ((k + 1 : Nat) : Int) ≤ (maxRow : Int) by unfold maxRow; omega)]
    simp
  obtain ⟨z, ⟨u, v, w, rfl, lu, lv, lw, hf, ht, hm⟩, hz⟩ := iter_rank (f := spec_l4Least_L1 n a0 a0[0])
    (fun k x => ∃ (i : Nat) (u v w : List Int), x = ((i : Int), u, v, w) ∧ 1 ≤ i ∧ k + i = a0.length + 1 ∧ u.length = a0.length + 1 ∧ v.length = m + 1 ∧ w.length = m + 1 ∧ HF (cC a0) a0.length m (ga u) (ga v) ∧ HT (cC a0) m (ga u) (ga v) (ga w) ∧ HM m i (ga w))
    (fun z => ∃ (u v w : List Int), z = (((a0.length + 1 : Nat) : Int), u, v, w) ∧ u.length = a0.length + 1 ∧ v.length = m + 1 ∧ w.length = m + 1 ∧ HF (cC a0) a0.length m (ga u) (ga v) ∧ HT (cC a0) m (ga u) (ga v) (ga w) ∧ HM m (a0.length + 1) (ga w))
    (fun k x hx => by
      obtain ⟨i, u, v, w, rfl, h1, hk, lu, lv, lw, hf, ht, hm⟩ := hx
      by_cases hi : i = a0.length + 1
      · left
        subst hi
        have hd : decide (((a0.length + 1 : Nat) : Int) ≤ (a0.length : Int)) = false := by rw [decide_eq_false_iff_not]; omega
        exact ⟨_, by simp only [spec_l4Least_L1, hd, cond_false], u, v, w, rfl, lu, lv, lw, hf, ht, hm⟩
      · right
        have hd : decide ((i : Int) ≤ (a0.length : Int)) = true := by rw [decide_eq_true_eq]; omega
        have i0 : inb w 0 = true := inb_lt (show 0 < w.length by omega)
        have hs : ∀ j, 1 ≤ j → j ≤ m → ga (w.set 0 (i : Int)) j = ga w j := fun j a b => by rw [ga_set (by omega), if_neg (by omega)]
        obtain ⟨u', v', w', g1, g2, g3, g4, g5, g6, g7⟩ := l4Grow_ok hc lu lv (w := w.set 0 (i : Int)) (by simp [lw]) h1 (by omega) hf (ht.congr hs) (hm.congr hs) (by rw [ga_set (by omega), if_pos rfl]) n hn
        refine ⟨(((i + 1 : Nat) : Int), u', v', w'), k - 1, ?_, ⟨i + 1, u', v', w', rfl, by omega, by omega, g2, g3, g4, g5, g6, g7⟩, by omega⟩
        simp only [spec_l4Least_L1, hd, cond_true, i0, upd_is, hl0, g1, Option.bind_some, w64_nat (show i < a0.length + 1 by omega) (by omega), Int.toNat_zero])
    n a0.length (1, List.replicate (a0.length + 1) 0, List.replicate (m + 1) 0, List.replicate (m + 1) 0) ⟨1, _, _, _, rfl, by omega, rfl, by simp, by simp, by simp, ⟨fun r j r1 r2 j1 j2 => by
      rw [ga_rep _ _ _ (by omega), ga_rep _ _ _ (by omega)]
      obtain ⟨_, _, _, p, _⟩ := hc.at r1 r2 j1 j2
      omega, fun j a b => by rw [ga_rep _ _ _ (by omega)]; omega, fun r a b => by rw [ga_rep _ _ _ (by omega)]; omega⟩, ⟨fun j r a b c d => by rw [ga_rep _ _ _ (by omega)] at d; omega, fun j a b c => ga_rep _ _ _ (by omega)⟩, ⟨fun j a b => by rw [ga_rep _ _ _ (by omega)]; omega, fun j k a b c d e f => by rw [ga_rep _ _ _ (by omega)] at f; omega, fun r a b => by omega⟩⟩ (by unfold BIG at hn; omega)
  -- the sum
  let f : Nat → Int := fun k => if 0 < ga w (k + 1) then cC a0 (ga w (k + 1)).toNat (k + 1) else 0
  have fdef : ∀ k, f k = if 0 < ga w (k + 1) then cC a0 (ga w (k + 1)).toNat (k + 1) else 0 := fun k => rfl
  clear_value f
  have fb : ∀ k, k < m → 0 ≤ f k ∧ f k ≤ 100000 := fun k hk => by
    rw [fdef]
    by_cases h : 0 < ga w (k + 1)
    · rw [if_pos h]
      have := hm.ran (k + 1) (by omega) (by omega)
      obtain ⟨_, _, _, p, q⟩ := hc.at (r := (ga w (k + 1)).toNat) (j := k + 1) (by omega) (by omega) (by omega) (by omega)
      exact ⟨p, q⟩
    · rw [if_neg h]; omega
  have sb : ∀ k : Nat, k ≤ m → 0 ≤ sumI ((List.range k).map f) ∧ sumI ((List.range k).map f) ≤ 100000 * (k : Int) := by
    intro k
    induction k with
    | zero => intro _; simp [sumI]
    | succ k ih =>
      intro hk
      obtain ⟨p, q⟩ := ih (by omega)
      have := fb k (by omega)
      rw [List.range_succ, List.map_append, sumI_app]
      simp only [List.map_cons, List.map_nil, sumI]
      omega
  have hsum : iter n (spec_l4Least_L2 a0 a0[0] (((a0.length + 1 : Nat) : Int), u, v, w)) (0, 1) = some (sumI ((List.range m).map f), ((m + 1 : Nat) : Int)) := by
    have := iter_steps (spec_l4Least_L2 a0 a0[0] (((a0.length + 1 : Nat) : Int), u, v, w)) (fun k => (sumI ((List.range k).map f), ((k + 1 : Nat) : Int))) m (sumI ((List.range m).map f), ((m + 1 : Nat) : Int)) (fun k hk => by
      have hd : decide (((k + 1 : Nat) : Int) ≤ (a0[0].length : Int)) = true := by rw [decide_eq_true_eq]; omega
      have i1 : inb w ((k + 1 : Nat) : Int) = true := inb_lt (by omega)
      have e1 := ga_get (l := w) (i := k + 1) (by omega)
      have hw1 : w64 (((k + 1 : Nat) : Int) + 1) = ((k + 1 + 1 : Nat) : Int) := w64_nat (show k + 1 < m + 1 by omega) (by omega)
      have hS : sumI ((List.range (k + 1)).map f) = sumI ((List.range k).map f) + f k := by
        rw [List.range_succ, List.map_append, sumI_app]; simp [sumI]
      by_cases h : 0 < ga w (k + 1)
      · have hdw : decide (ga w (k + 1) > 0) = true := decide_eq_true h
        have hfk : f k = cC a0 (ga w (k + 1)).toNat (k + 1) := by rw [fdef, if_pos h]
        have := hm.ran (k + 1) (by omega) (by omega)
        obtain ⟨l, c1, c2, _, _⟩ := hc.at (r := (ga w (k + 1)).toNat) (j := k + 1) (by omega) (by omega) (by omega) (by omega)
        have hcast : (((ga w (k + 1)).toNat : Nat) : Int) = ga w (k + 1) := by omega
        rw [hcast] at c1
        have b1 := sb k (by omega)
        have b2 := fb k hk
        have hw2 : w64 (sumI ((List.range k).map f) + cC a0 (ga w (k + 1)).toNat (k + 1)) = sumI ((List.range (k + 1)).map f) := by
          rw [hS, hfk]; exact w64_eq (by omega) (by omega)
        simp only [spec_l4Least_L2, hd, cond_true, i1, Int.toNat_natCast, e1, Option.bind_some, hdw, c1, c2, hw1, hw2]
      · have hdw : decide (ga w (k + 1) > 0) = false := decide_eq_false h
        have hfk : f k = 0 := by rw [fdef, if_neg h]
        have hw2 : sumI ((List.range k).map f) = sumI ((List.range (k + 1)).map f) := by rw [hS, hfk]; omega
        simp only [spec_l4Least_L2, hd, cond_true, cond_false, i1, Int.toNat_natCast, e1, Option.bind_some, hdw, hw1]
        rw [hw2]) (by
      have hd : decide (((m + 1 : Nat) : Int) ≤ (a0[0].length : Int)) = false := by rw [decide_eq_false_iff_not]; omega
      simp only [spec_l4Least_L2, hd, cond_false]) n (by unfold BIG at hn; omega)
    simpa [sumI] using this
  -- who pays
  obtain ⟨cs, cl, cp⟩ := list_ex (P := fun r k => k < m ∧ ga w (k + 1) = ((r + 1 : Nat) : Int)) a0.length (fun r hr => by
    obtain ⟨j, j1, j2, e⟩ := hm.cov (r + 1) (by omega) (by omega)
    exact ⟨j - 1, by omega, by rw [show j - 1 + 1 = j by omega]; exact e⟩)
  have cnd : cs.Nodup := by
    unfold List.Nodup
    rw [List.pairwise_iff_getElem]
    intro a b ha hb hab e
    have p1 := (cp a ha).2
    have p2 := (cp b hb).2
    rw [e, p2] at p1
    omega
  have cin : ∀ k ∈ cs, k ∈ List.range m := fun k hk => by
    obtain ⟨a, ha, rfl⟩ := List.mem_iff_getElem.1 hk
    rw [List.mem_range]; exact (cp a ha).1
  have coff : ∀ k ∈ List.range m, k ∉ cs → ga w (k + 1) = 0 := fun k hk hn => by
    rw [List.mem_range] at hk
    have hr := hm.ran (k + 1) (by omega) (by omega)
    refine Classical.byContradiction fun hne => hn ?_
    have hlt : (ga w (k + 1)).toNat - 1 < cs.length := by omega
    obtain ⟨p1, p2⟩ := cp _ hlt
    have := hm.inj (cs[(ga w (k + 1)).toNat - 1] + 1) (k + 1) (by omega) (by omega) (by omega) (by omega) (by omega) (by omega)
    rw [show k = cs[(ga w (k + 1)).toNat - 1] by omega]
    exact List.getElem_mem hlt
  have hR : (rowsF a0).length = a0.length := by simp [rowsF]
  have fc : ∀ r (h : r < cs.length), f cs[r] = cC a0 (r + 1) (cs[r] + 1) := fun r h => by
    have p2 := (cp r h).2
    rw [fdef, p2, if_pos (by omega), Int.toNat_natCast]
  have hs1 : sumI ((List.range m).map f) = sumI (cs.map f) := sum_on f cs (List.range m) cnd List.nodup_range cin (fun k hk hn => by
    rw [fdef, coff k hk hn, if_neg (by omega)])
  have hs2 : paid (rowsF a0) cs = sumI (cs.map f) := paid_sum f (rowsF a0) cs (by rw [hR, cl]) (fun r h1 h2 => by
    rw [fc r h2, rowsF_get _ (by omega)])
  have hs3 : sumI (cs.map f) = sumI ((List.range a0.length).map fun r => ga u (r + 1)) + sumI (cs.map fun k => ga v (k + 1)) := sum_two f (fun k => ga v (k + 1)) cs _ (by simp [cl]) (fun r h1 h2 => by
    rw [fc r h1, List.getElem_map, List.getElem_range]
    obtain ⟨p1, p2⟩ := cp r h1
    exact (ht.tight (cs[r] + 1) (r + 1) (by omega) (by omega) (by omega) p2).symm)
  have hs4 : sumI ((List.range m).map fun k => ga v (k + 1)) = sumI (cs.map fun k => ga v (k + 1)) := sum_on _ cs (List.range m) cnd List.nodup_range cin (fun k hk hn => by
    have hw := coff k hk hn
    rw [List.mem_range] at hk
    exact ht.free (k + 1) (by omega) (by omega) hw)
  refine ⟨sumI ((List.range m).map f), ?_, ?_, fun y hy => ?_⟩
  · unfold spec_l4Least
    rw [hne, cond_false, hg0, Option.bind_some, hl0, (e0 a0.length (by omega)).1, (e0 m hm10).1, (e0 a0.length (by omega)).2, (e0 m hm10).2]
    simp only [cond_true, Int.toNat_natCast, hz, Option.bind_some, hsum]
  · rw [hs1, ← hs2]
    exact AS.of (rowsF a0) cs (List.range m) (by rw [hR, cl]) cnd cin
  · have := AS.ge (fun k => ga v (k + 1)) (rowsF a0) ((List.range a0.length).map fun r => ga u (r + 1)) (List.range m) y (by simp [rowsF]) (fun r hr hu k hk => by
      rw [List.mem_range] at hk
      have hra : r < a0.length := by rw [hR] at hr; exact hr
      have := hf.feas (r + 1) (k + 1) (by omega) (by omega) (by omega) (by omega)
      rw [List.getElem_map, List.getElem_range]
      have e : (rowsF a0)[r] k = cC a0 (r + 1) (k + 1) := rowsF_get _ hra k
      rw [e]; exact this) (fun k hk => by
      rw [List.mem_range] at hk
      exact hf.vneg (k + 1) (by omega) (by omega)) hy
    rw [hs1, hs3, ← hs4]; exact this

theorem shl1 {k : Nat} (h : k ≤ 10) : shlI .i64 1 (k : Int) = ((2 ^ k : Nat) : Int) := by
  have h2 : 2 ^ k ≤ 2 ^ 10 := Nat.pow_le_pow_right (by omega) h
  unfold shlI
  rw [show min ((k : Int)).toNat (IntKind.bits .i64) = k by simp [IntKind.bits]; omega, Int.one_mul]
  have e : (2 : Int) ^ k = ((2 ^ k : Nat) : Int) := by rw [Int.natCast_pow]; rfl
  rw [e]
  generalize 2 ^ k = p at h2 ⊢
  exact w64_eq (by omega) (by omega)
theorem ofInt_nat {s : Nat} (h : s < 1024) : (BitVec.ofInt (IntKind.bits .i64) (s : Int)).toNat = s := by
  have : (BitVec.ofInt (IntKind.bits .i64) (s : Int)).toNat = ((s : Int) % (2 ^ 64 : Nat)).toNat := BitVec.toNat_ofInt ..
  rw [this]
  omega
theorem orS {s t : Nat} (hs : s < 1024) (ht : t < 1024) : orI .i64 (s : Int) (t : Int) = ((s ||| t : Nat) : Int) := by
  have h : s ||| t < 1024 := Nat.or_lt_two_pow (n := 10) hs ht
  unfold orI
  rw [BitVec.toNat_or, ofInt_nat hs, ofInt_nat ht]
  exact w64_eq (by omega) (by omega)
theorem bitS {s k : Nat} (hs : s < 1024) (hk : k ≤ 10) : (andI .i64 (shrI .i64 (s : Int) (k : Int)) 1 == 1) = s.testBit k := by
  have e1 : shrI .i64 (s : Int) (k : Int) = ((s >>> k : Nat) : Int) := by
    unfold shrI
    rw [show min ((k : Int)).toNat (IntKind.bits .i64) = k by simp [IntKind.bits]; omega, Nat.shiftRight_eq_div_pow]
    have e : (2 : Int) ^ k = ((2 ^ k : Nat) : Int) := by rw [Int.natCast_pow]; rfl
    rw [e]
    exact (Int.ofNat_fdiv s (2 ^ k)).symm
  have h1 : s >>> k < 1024 := Nat.lt_of_le_of_lt (Nat.shiftRight_le s k) hs
  have e2 : andI .i64 ((s >>> k : Nat) : Int) 1 = ((1 &&& (s >>> k) : Nat) : Int) := by
    unfold andI
    rw [BitVec.toNat_and, ofInt_nat h1, show (BitVec.ofInt (IntKind.bits .i64) 1).toNat = 1 by decide, Nat.and_comm]
    have : 1 &&& (s >>> k) ≤ 1 := Nat.and_le_left
    exact w64_eq (by omega) (by omega)
  rw [e1, e2, Nat.testBit]
  have : 1 &&& (s >>> k) ≤ 1 := Nat.and_le_left
  generalize 1 &&& (s >>> k) = x at this
  have : x = 0 ∨ x = 1 := by omega
  rcases this with rfl | rfl <;> rfl
/-- Columns that are not in a set. -/
def Sof (m s : Nat) : List Nat := (List.range m).filter fun k => !s.testBit k
theorem Sof_nd (m s : Nat) : (Sof m s).Nodup := List.nodup_range.filter _
theorem Sof_mem {m s k : Nat} : k ∈ Sof m s ↔ k < m ∧ s.testBit k = false := by simp [Sof]
theorem Sof_erase {m s k : Nat} (h : s.testBit k = false) : (Sof m s).erase k = Sof m (s ||| 2 ^ k) := by
  rw [(Sof_nd m s).erase_eq_filter]
  unfold Sof
  rw [List.filter_filter]
  congr 1
  funext x
  rw [Nat.testBit_or, Nat.testBit_two_pow, Bool.not_or, Bool.and_comm]
  congr 1
  by_cases e : x = k
  · subst e; simp
  · rw [decide_eq_false (fun q => e q.symm)]; simp [e]
theorem Sof_lt {m s k : Nat} (hs : s < 2 ^ m) (hk : k < m) : s ||| 2 ^ k < 2 ^ m := Nat.or_lt_two_pow hs (Nat.pow_lt_pow_right (by omega) hk)
theorem pow_le {m : Nat} (h : m ≤ 10) : 2 ^ m ≤ 1024 := Nat.pow_le_pow_right (by omega) h

def encO : Option Int → Int
  | none => -1
  | some x => x
theorem encO_inj {a b : Option Int} (ha : ∀ x, a = some x → 0 ≤ x) (hb : ∀ x, b = some x → 0 ≤ x) (h : encO a = encO b) : a = b := by
  cases a with
  | none => cases b with
    | none => rfl
    | some y => have := hb y rfl; simp only [encO] at h; omega
  | some x => cases b with
    | none => have := ha x rfl; simp only [encO] at h; omega
    | some y => simp only [encO] at h; rw [h]
def rowT (R : List (Nat → Int)) (m i : Nat) : List Int := (List.range (2 ^ m)).map fun s => encO (bst (R.drop i) (Sof m s))
theorem rowT_len (R : List (Nat → Int)) (m i : Nat) : (rowT R m i).length = 2 ^ m := by simp [rowT]
theorem rowT_get {R : List (Nat → Int)} {m i s : Nat} (h : s < 2 ^ m) : (rowT R m i)[s]? = some (encO (bst (R.drop i) (Sof m s))) := by
  unfold rowT
  rw [List.getElem?_map, List.getElem?_range h]; rfl
structure RB (R : List (Nat → Int)) (m : Nat) : Prop where
  b : ∀ r ∈ R, ∀ k, k < m → 0 ≤ r k ∧ r k ≤ 100000
  l : R.length ≤ 10
theorem RB.val {R : List (Nat → Int)} {m i s : Nat} (h : RB R m) {x : Int} (hx : bst (R.drop i) (Sof m s) = some x) : 0 ≤ x ∧ x ≤ 1000000 := by
  have h1 := bst_nonneg hx (fun r hr k hk => (h.b r (List.mem_of_mem_drop hr) k (Sof_mem.1 hk).1).1)
  have h2 := bst_le hx (M := 100000) (by omega) (fun r hr k hk => (h.b r (List.mem_of_mem_drop hr) k (Sof_mem.1 hk).1).2)
  have := h.l
  rw [List.length_drop] at h2
  omega
theorem CM.rb {a0 : List (List Int)} {m : Nat} (h : CM a0 m) : RB (rowsF a0) m := by
  refine ⟨fun r hr k hk => ?_, ?_⟩
  · obtain ⟨l, hl, rfl⟩ := List.mem_map.1 hr
    have := h.row l hl
    have hg : l[k]? = some (ga l k) := ga_get (by omega)
    exact h.bnd l hl _ (List.mem_of_getElem? hg)
  · have := h.nm; have := h.m10
    simp only [rowsF, List.length_map]; omega

theorem least_row {a0 : List (List Int)} {m : Nat} (hc : CM a0 m) {i : Nat} (hi : i < a0.length) {s : Nat} (hs : s < 2 ^ m) (T0 : List (List Int)) (hT : i + 1 < T0.length) (hnext : T0[i + 1]? = some (rowT (rowsF a0) m (i + 1))) (y : List Int) (hy : y.length = 2 ^ m) (c7 : Int × (List ((List Int)))) (hc7 : c7.1 = (s : Int)) (c3 : Int × (List ((List Int)))) (hc3 : c3.1 = (i : Int)) (n : Nat) (hn : BIG ≤ n) :
    iter n (impl_least_L3 a0 (m : Int) c3 c7) (0, T0.set i (y.set s (-1))) = some ((m : Int), T0.set i (y.set s (encO (bst ((rowsF a0).drop i) (Sof m s))))) := by
  have hm10 := hc.m10
  have hnm := hc.nm
  have hp := pow_le hm10
  have hR : (rowsF a0).length = a0.length := by simp [rowsF]
  have hdrop : (rowsF a0).drop i = ga a0[i] :: (rowsF a0).drop (i + 1) := by
    rw [List.drop_eq_getElem_cons (by omega)]
    congr 1
    exact List.getElem_map ..
  let acc : Nat → Option Int := fun k => ((List.range k).filter fun k => !s.testBit k).foldl (fun b k => omin b ((bst ((rowsF a0).drop (i + 1)) ((Sof m s).erase k)).map fun y => ga a0[i] k + y)) none
  have acc0 : acc 0 = none := rfl
  have accm : acc m = bst ((rowsF a0).drop i) (Sof m s) := by rw [hdrop]; rfl
  have accS : ∀ k, acc (k + 1) = bif s.testBit k then acc k else omin (acc k) ((bst ((rowsF a0).drop (i + 1)) ((Sof m s).erase k)).map fun y => ga a0[i] k + y) := fun k => by
    show ((List.range (k + 1)).filter _).foldl _ none = _
    rw [List.range_succ, List.filter_append, List.foldl_append]
    cases h : s.testBit k <;> simp [h] <;> rfl
  clear_value acc
  have accP : ∀ k, k ≤ m → ∀ z, acc k = some z → 0 ≤ z := by
    intro k
    induction k with
    | zero => intro _ z h; rw [acc0] at h; cases h
    | succ k ih =>
      intro hk z h
      rw [accS k] at h
      cases hb : s.testBit k with
      | true => rw [hb, cond_true] at h; exact ih (by omega) z h
      | false =>
        rw [hb, cond_false] at h
        rcases omin_or h with h | h
        · exact ih (by omega) z h
        · rw [Sof_erase hb] at h
          cases hB : bst ((rowsF a0).drop (i + 1)) (Sof m (s ||| 2 ^ k)) with
          | none => rw [hB] at h; cases h
          | some x =>
            rw [hB] at h
            simp only [Option.map_some, Option.some.injEq] at h
            have := hc.rb.val hB
            have := hc.rb.b (ga a0[i]) (List.mem_map_of_mem (List.getElem_mem hi)) k (by omega)
            omega
  have hi3 : w64 ((i : Int) + 1) = ((i + 1 : Nat) : Int) := w64_nat (show i < i + 1 by omega) (by omega)
  have hrow : getI a0 (i : Int) = some a0[i] := getI_lt hi
  have hrl : a0[i].length = m := hc.row _ (List.getElem_mem hi)
  have rb := hc.rb
  have := iter_steps (impl_least_L3 a0 (m : Int) c3 c7) (fun k => ((k : Int), T0.set i (y.set s (encO (acc k))))) m ((m : Int), T0.set i (y.set s (encO (acc m)))) (fun k hk => by
    have hd : decide ((k : Int) < (m : Int)) = true := by rw [decide_eq_true_eq]; omega
    have hd0 : decide (0 ≤ (k : Int)) = true := by rw [decide_eq_true_eq]; omega
    have hbit := bitS (s := s) (k := k) (by omega) (by omega)
    have hsh := shl1 (k := k) (by omega)
    have hk10 : 2 ^ k < 1024 := Nat.lt_of_lt_of_le (Nat.pow_lt_pow_right (by omega) hk) hp
    have hor := orS (s := s) (t := 2 ^ k) (by omega) hk10
    have hw : w64 ((k : Int) + 1) = ((k + 1 : Nat) : Int) := w64_nat hk (by omega)
    have hlt := Sof_lt hs hk
    have i1 : inb (T0.set i (y.set s (encO (acc k)))) ((i + 1 : Nat) : Int) = true := inb_lt (by simp; omega)
    have e1 : (T0.set i (y.set s (encO (acc k))))[i + 1]? = some (rowT (rowsF a0) m (i + 1)) := by rw [List.getElem?_set_ne (by omega)]; exact hnext
    have i2 : inb (rowT (rowsF a0) m (i + 1)) ((s ||| 2 ^ k : Nat) : Int) = true := inb_lt (by rw [rowT_len]; exact hlt)
    have e2 := rowT_get (R := rowsF a0) (i := i + 1) hlt
    have i3 : inb (T0.set i (y.set s (encO (acc k)))) (i : Int) = true := inb_lt (by simp; omega)
    have e3 : (T0.set i (y.set s (encO (acc k))))[i]? = some (y.set s (encO (acc k))) := by rw [List.getElem?_set_self (by omega)]
    have i4 : inb (y.set s (encO (acc k))) (s : Int) = true := inb_lt (by simp; omega)
    have e4 : (y.set s (encO (acc k)))[s]? = some (encO (acc k)) := by rw [List.getElem?_set_self (by omega)]
    have e5 : getI a0[i] (k : Int) = some (ga a0[i] k) := by rw [getI_nat]; exact ga_get (by omega)
    have hb0 := rb.b (ga a0[i]) (List.mem_map_of_mem (List.getElem_mem hi)) k hk
    rw [accS k]
    cases hb : s.testBit k with
    | true =>
      rw [hb] at hbit
      simp only [impl_least_L3, hd, hd0, cond_true, hc7, hc3, hbit, Option.bind_some, hw]
    | false =>
      rw [hb] at hbit
      rw [cond_false, Sof_erase hb]
      have hv : ∀ x, bst ((rowsF a0).drop (i + 1)) (Sof m (s ||| 2 ^ k)) = some x → 0 ≤ x ∧ x ≤ 1000000 := fun x hx => rb.val hx
      cases hB : bst ((rowsF a0).drop (i + 1)) (Sof m (s ||| 2 ^ k)) with
      | none =>
        rw [hB] at e2
        have hneg : decide (encO none < 0) = true := by simp [encO]
        have ho : omin (acc k) (Option.map (fun y => ga a0[i] k + y) none) = acc k := by cases acc k <;> rfl
        rw [ho]
        simp only [impl_least_L3, hd, hd0, cond_true, cond_false, hc7, hc3, hbit, Option.bind_some, hw, hi3, i1, e1, Int.toNat_natCast, hsh, hor, i2, e2, hneg]
      | some x =>
        rw [hB] at e2
        obtain ⟨x0, x1⟩ := hv x hB
        have hneg : decide (encO (some x) < 0) = false := decide_eq_false (show ¬ x < 0 by omega)
        have hww : w64 (ga a0[i] k + encO (some x)) = ga a0[i] k + x := w64_eq (n := ga a0[i] k + x) (by omega) (by omega)
        have hmod : ∀ v : Int, List.modify (T0.set i (y.set s (encO (acc k)))) i (fun y2 => upd y2 s v) = T0.set i (y.set s v) := fun v => by
          apply List.ext_getElem?
          intro j
          rw [List.getElem?_modify, List.getElem?_set, List.getElem?_set]
          by_cases e : i = j
          · subst e; simp [show i < T0.length by omega, upd_is]
          · simp [e]
        cases hA : acc k with
        | none =>
          rw [hA] at e4 i3 i4 e3 i1 e1 hmod
          have hneg2 : decide (encO none < 0) = true := by simp [encO]
          simp only [impl_least_L3, hd, hd0, cond_true, cond_false, hc7, hc3, hbit, Option.bind_some, hw, hi3, i1, e1, Int.toNat_natCast, hsh, hor, i2, e2, hneg, hrow, e5, i3, e3, i4, e4, hneg2, hww, hmod]
          rfl
        | some z =>
          rw [hA] at e4 i3 i4 e3 i1 e1 hmod
          have hz0 := accP k (by omega) z hA
          · have hneg2 : decide (encO (some z) < 0) = false := decide_eq_false (show ¬ z < 0 by omega)
            by_cases hlt2 : ga a0[i] k + x < z
            · have hd2 : decide (ga a0[i] k + x < encO (some z)) = true := decide_eq_true hlt2
              have ho : omin (some z) (Option.map (fun y => ga a0[i] k + y) (some x)) = some (ga a0[i] k + x) := by simp only [Option.map_some, omin, if_pos hlt2]
              rw [ho]
              simp only [impl_least_L3, hd, hd0, cond_true, cond_false, hc7, hc3, hbit, Option.bind_some, hw, hi3, i1, e1, Int.toNat_natCast, hsh, hor, i2, e2, hneg, hrow, e5, i3, e3, i4, e4, hneg2, hww, hmod, hd2]
              rfl
            · have hd2 : decide (ga a0[i] k + x < encO (some z)) = false := decide_eq_false hlt2
              have ho : omin (some z) (Option.map (fun y => ga a0[i] k + y) (some x)) = some z := by simp only [Option.map_some, omin, if_neg hlt2]
              rw [ho]
              simp only [impl_least_L3, hd, hd0, cond_true, cond_false, hc7, hc3, hbit, Option.bind_some, hw, hi3, i1, e1, Int.toNat_natCast, hsh, hor, i2, e2, hneg, hrow, e5, i3, e3, i4, e4, hneg2, hww, hmod, hd2]) (by
    have hd : decide ((m : Int) < (m : Int)) = false := by simp
    simp only [impl_least_L3, hd, cond_false]) n (by unfold BIG at hn; omega)
  rw [acc0, accm] at this
  exact this

theorem least_sets {a0 : List (List Int)} {m : Nat} (hc : CM a0 m) {i : Nat} (hi : i < a0.length) (T0 : List (List Int)) (hT : i + 1 < T0.length) (hnext : T0[i + 1]? = some (rowT (rowsF a0) m (i + 1))) (x5 : List Int) (h5 : x5.length = 2 ^ m) (c3 : Int × (List ((List Int)))) (hc3 : c3.1 = (i : Int)) (n : Nat) (hn : BIG ≤ n) :
    iter n (impl_least_L2 n a0 (m : Int) c3 x5) (0, T0.set i (List.replicate (2 ^ m) 0)) = some (((2 ^ m : Nat) : Int), T0.set i (rowT (rowsF a0) m i)) := by
  have hp := pow_le hc.m10
  have hrl := rowT_len (rowsF a0) m i
  have := iter_steps (impl_least_L2 n a0 (m : Int) c3 x5) (fun s => ((s : Int), T0.set i ((rowT (rowsF a0) m i).take s ++ List.replicate (2 ^ m - s) 0))) (2 ^ m) (((2 ^ m : Nat) : Int), T0.set i (rowT (rowsF a0) m i)) (fun s hs => by
    have hd : decide ((s : Int) < (x5.length : Int)) = true := by rw [decide_eq_true_eq]; omega
    generalize hy : (rowT (rowsF a0) m i).take s ++ List.replicate (2 ^ m - s) 0 = y
    have hyl : y.length = 2 ^ m := by rw [← hy]; simp [hrl]; omega
    have i3 : inb (T0.set i y) (i : Int) = true := inb_lt (by simp; omega)
    have e3 : (T0.set i y)[i]? = some y := by rw [List.getElem?_set_self (by omega)]
    have i4 : inb y (s : Int) = true := inb_lt (by omega)
    have hmod : List.modify (T0.set i y) i (fun y2 => upd y2 s (-1)) = T0.set i (y.set s (-1)) := by
      apply List.ext_getElem?
      intro j
      rw [List.getElem?_modify, List.getElem?_set, List.getElem?_set]
      by_cases e : i = j
      · subst e; simp [show i < T0.length by omega, upd_is]
      · simp [e]
    have hr := least_row hc hi hs T0 hT hnext y hyl ((s : Int), T0.set i y) rfl c3 hc3 n hn
    have hw : w64 ((s : Int) + 1) = ((s + 1 : Nat) : Int) := w64_nat hs (by omega)
    simp only [impl_least_L2, hd, cond_true, hc3, i3, e3, i4, Int.toNat_natCast, Option.bind_some, hmod, hr, hw]
    congr 5
    rw [← hy, List.set_append_right _ _ (by simp [hrl]; omega), List.length_take, hrl, Nat.min_eq_left (by omega), Nat.sub_self, show 2 ^ m - s = (2 ^ m - (s + 1)) + 1 by omega, List.replicate_succ, List.set_cons_zero, List.take_add_one, rowT_get hs]
    simp) (by
    have hd : decide (((2 ^ m : Nat) : Int) < (x5.length : Int)) = false := by rw [h5]; simp
    simp only [impl_least_L2, hd, cond_false, Nat.sub_self, List.replicate_zero, List.append_nil]
    rw [List.take_of_length_le (by rw [hrl]; exact Nat.le_refl _)]) n (by unfold BIG at hn; omega)
  simpa using this

theorem impl_least_ok {a0 : List (List Int)} {m : Nat} (hc : CM a0 m) (h0 : a0 = [] → m = 0) (n : Nat) (hn : BIG ≤ n) : ∃ T, impl_least n a0 = some T ∧ T.length = a0.length + 1 ∧ ∀ j, j ≤ a0.length → T[j]? = some (rowT (rowsF a0) m j) := by
  have hm10 := hc.m10
  have hnm := hc.nm
  have hp := pow_le hm10
  have hsh := shl1 hm10
  have hg1 : decide (0 ≤ ((2 ^ m : Nat) : Int)) = true := by
    generalize 2 ^ m = q
    rw [decide_eq_true_eq]; omega
  have hg2 : decide (((2 ^ m : Nat) : Int) ≤ (maxRow : Int)) = true := by
    generalize 2 ^ m = q at hp
    rw [decide_eq_true_eq]; unfold maxRow; omega
  have e0 : w64 ((a0.length : Int) + 1) = ((a0.length + 1 : Nat) : Int) := w64_nat (show a0.length < a0.length + 1 by omega) (by omega)
  have g0 : (decide (0 ≤ ((a0.length + 1 : Nat) : Int)) && decide (((a0.length + 1 : Nat) : Int) ≤ (maxRow : Int)) && decide (((a0.length + 1 : Nat) : Int) = ((a0.length + 1 : Nat) : Int))) = true := by
    rw [decide_eq_true (show 0 ≤ ((a0.length + 1 : Nat) : Int) by omega), decide_eq_true (show ((a0.length + 1 : Nat) : Int) ≤ (maxRow : Int) by unfold maxRow; omega)]
    simp
  have hd0 : decide (0 ≤ (m : Int)) = true := by rw [decide_eq_true_eq]; omega
  have hcol : (show Option Int from bif decide ((a0.length : Int) > 0) then (getI a0 0).bind fun x2 => some (x2.length : Int) else some 0) = some (m : Int) := by
    by_cases e : a0 = []
    · rw [h0 e, e]; rfl
    · have hl : 0 < a0.length := List.length_pos_iff.2 e
      rw [show decide ((a0.length : Int) > 0) = true by rw [decide_eq_true_eq]; omega, cond_true, show getI a0 0 = some a0[0] from getI_lt hl, Option.bind_some, hc.row _ (List.getElem_mem hl)]
  have iN : inb (List.replicate (a0.length + 1) ([] : List Int)) (a0.length : Int) = true := inb_lt (by simp)
  obtain ⟨z, ⟨T, hz1, hz2, hz3⟩, hz⟩ := iter_rank (f := impl_least_L1 n a0 (m : Int))
    (fun k x => ∃ T : List (List Int), x = ((k : Int) - 1, T) ∧ k ≤ a0.length ∧ T.length = a0.length + 1 ∧ ∀ j, k ≤ j → j ≤ a0.length → T[j]? = some (rowT (rowsF a0) m j))
    (fun z => ∃ T : List (List Int), z = (((0 : Nat) : Int) - 1, T) ∧ T.length = a0.length + 1 ∧ ∀ j, j ≤ a0.length → T[j]? = some (rowT (rowsF a0) m j))
    (fun k x hx => by
      obtain ⟨T, rfl, hk, hl, hT⟩ := hx
      cases k with
      | zero =>
        left
        exact ⟨(((0 : Nat) : Int) - 1, T), by simp [impl_least_L1], T, rfl, hl, fun j hj => hT j (by omega) hj⟩
      | succ i =>
        right
        have hi1 : ((i + 1 : Nat) : Int) - 1 = (i : Int) := by omega
        have hd : decide ((i : Int) ≥ 0) = true := by rw [decide_eq_true_eq]; omega
        have i3 : inb T (i : Int) = true := inb_lt (by omega)
        have i4 : inb (T.set i (List.replicate (2 ^ m) 0)) (i : Int) = true := inb_lt (by simp; omega)
        have e4 : (T.set i (List.replicate (2 ^ m) 0))[i]? = some (List.replicate (2 ^ m) 0) := by rw [List.getElem?_set_self (by omega)]
        have hs := least_sets hc (i := i) (by omega) T (by omega) (hT (i + 1) (by omega) (by omega)) (List.replicate (2 ^ m) 0) (by simp) ((i : Int), T) rfl n hn
        have hw : w64 ((i : Int) - 1) = (i : Int) - 1 := w64_eq (by omega) (by omega)
        refine ⟨((i : Int) - 1, T.set i (rowT (rowsF a0) m i)), i, ?_, ⟨T.set i (rowT (rowsF a0) m i), rfl, by omega, by simp [hl], fun j h1 h2 => ?_⟩, by omega⟩
        · rw [hi1]
          simp only [impl_least_L1, hd, cond_true, hd0, hsh, hg1, hg2, decide_true, Bool.and_true, Bool.and_self, i3, Int.toNat_natCast, upd_is, i4, e4, Option.bind_some, hs, hw]
        · by_cases e : j = i
          · subst e; rw [List.getElem?_set_self (by omega)]
          · rw [List.getElem?_set_ne (by omega)]
            exact hT j (by omega) h2)
    n a0.length ((a0.length : Int) - 1, (List.replicate (a0.length + 1) ([] : List Int)).set a0.length (List.replicate (2 ^ m) 0)) ⟨_, rfl, Nat.le_refl _, by simp, fun j h1 h2 => by
      have : j = a0.length := by omega
      subst this
      rw [List.getElem?_set_self (by simp)]
      refine congrArg some (List.ext_getElem? fun s => ?_)
      by_cases hs : s < 2 ^ m
      · rw [rowT_get hs, List.getElem?_replicate, if_pos hs, List.drop_of_length_le (by simp [rowsF])]
        rfl
      · rw [List.getElem?_eq_none (by rw [List.length_replicate]; omega), List.getElem?_eq_none (by rw [rowT_len]; omega)]⟩ (by unfold BIG at hn; omega)
  refine ⟨T, ?_, hz2, hz3⟩
  have hw : w64 ((a0.length : Int) - 1) = (a0.length : Int) - 1 := w64_eq (by omega) (by omega)
  unfold impl_least
  rw [hcol, Option.bind_some, e0, g0, hd0, hsh]
  simp only [hg1, hg2, decide_true, Bool.and_true, Bool.and_self, cond_true, Int.toNat_natCast, iN, upd_is, hw, hz, hz1, Option.bind_some]

theorem impl_CostsOk_yes {a0 : List (List Int)} {m : Nat} (hc : CM a0 m) (n : Nat) (hn : BIG ≤ n) : impl_CostsOk n a0 = some true := by
  have hm10 := hc.m10
  have hnm := hc.nm
  have h1 := all_loop (impl_CostsOk_L1 n a0) a0 (fun _ => true) (fun i x hi hx => by
    obtain ⟨_, rfl⟩ := List.getElem?_eq_some_iff.1 hx
    have hl := hc.row _ (List.getElem_mem hi)
    have h0 : 0 < a0.length := by omega
    have hl0 := hc.row _ (List.getElem_mem h0)
    have h2 := all_loop (impl_CostsOk_L2 a0[i]) a0[i] (fun _ => true) (fun k y hk hy => by
      obtain ⟨_, rfl⟩ := List.getElem?_eq_some_iff.1 hy
      have hb := hc.bnd _ (List.getElem_mem hi) _ (List.getElem_mem hk)
      have hd : decide ((k : Int) < (a0[i].length : Int)) = true := by rw [decide_eq_true_eq]; omega
      have hin : impl_in a0[i][k] 0 100000 = some true := by
        unfold impl_in
        rw [show decide (a0[i][k] ≥ 0) = true from decide_eq_true hb.1, show decide (a0[i][k] ≤ 100000) = true from decide_eq_true hb.2]; rfl
      simp only [impl_CostsOk_L2, hd, cond_true, getI_lt hk, Option.bind_some, hin, Bool.not_true, cond_false, w64_nat hk (by omega)]) (by
      have hd : decide ((a0[i].length : Int) < (a0[i].length : Int)) = false := by simp
      simp only [impl_CostsOk_L2, hd, cond_false]) n (by unfold BIG at hn; omega)
    have hd : decide ((i : Int) < (a0.length : Int)) = true := by rw [decide_eq_true_eq]; omega
    have hall : a0[i].all (fun _ => true) = true := by simp
    rw [hall, cond_true] at h2
    have hin : impl_in (m : Int) (a0.length : Int) 10 = some true := by
      unfold impl_in
      rw [show decide ((m : Int) ≥ (a0.length : Int)) = true by rw [decide_eq_true_eq]; omega, show decide ((m : Int) ≤ 10) = true by rw [decide_eq_true_eq]; omega]; rfl
    have hg0 : getI a0 0 = some a0[0] := getI_lt h0
    have hne : ((m : Int) != (m : Int)) = false := by simp
    simp only [impl_CostsOk_L1, hd, cond_true, getI_lt hi, hg0, Option.bind_some, hl0, hl, hne, cond_false, hin, Bool.not_true, h2, w64_nat hi (by omega)]
    ) (by
    have hd : decide ((a0.length : Int) < (a0.length : Int)) = false := by simp
    simp only [impl_CostsOk_L1, hd, cond_false]) n (by unfold BIG at hn; omega)
  have hall : a0.all (fun _ => true) = true := by simp
  rw [hall, cond_true] at h1
  unfold impl_CostsOk
  rw [show decide ((a0.length : Int) > 10) = false by rw [decide_eq_false_iff_not]; omega, cond_false, h1]
  rfl

theorem spec_CostsOk_yes {a0 : List (List Int)} {m : Nat} (hc : CM a0 m) (n : Nat) (hn : BIG ≤ n) : spec_CostsOk n a0 = some true := by
  have hm10 := hc.m10
  have hnm := hc.nm
  have h1 := all_loop (spec_CostsOk_L1 n a0) a0 (fun _ => true) (fun i x hi hx => by
    obtain ⟨_, rfl⟩ := List.getElem?_eq_some_iff.1 hx
    have hl := hc.row _ (List.getElem_mem hi)
    have h0 : 0 < a0.length := by omega
    have hl0 := hc.row _ (List.getElem_mem h0)
    have h2 := all_loop (spec_CostsOk_L2 a0 (i : Int)) a0[i] (fun _ => true) (fun k y hk hy => by
      obtain ⟨_, rfl⟩ := List.getElem?_eq_some_iff.1 hy
      have hb := hc.bnd _ (List.getElem_mem hi) _ (List.getElem_mem hk)
      have hd : decide ((k : Int) < (a0[i].length : Int)) = true := by rw [decide_eq_true_eq]; omega
      have hin : spec_l1In a0[i][k] 0 100000 = some true := by
        rw [in_ok]; unfold inB
        rw [decide_eq_true hb.1, decide_eq_true hb.2]; rfl
      simp only [spec_CostsOk_L2, hd, cond_true, getI_lt hi, getI_lt hk, Option.bind_some, hin, Bool.not_true, cond_false, w64_nat hk (by omega)]) (by
      have hd : decide ((a0[i].length : Int) < (a0[i].length : Int)) = false := by simp
      simp only [spec_CostsOk_L2, getI_lt hi, Option.bind_some, hd, cond_false]) n (by unfold BIG at hn; omega)
    have hd : decide ((i : Int) < (a0.length : Int)) = true := by rw [decide_eq_true_eq]; omega
    have hall : a0[i].all (fun _ => true) = true := by simp
    rw [hall, cond_true] at h2
    have hg0 : getI a0 0 = some a0[0] := getI_lt h0
    have hne : ((m : Int) != (m : Int)) = false := by simp
    have h10 : decide ((m : Int) > 10) = false := by rw [decide_eq_false_iff_not]; omega
    have hlt : decide ((m : Int) < (a0.length : Int)) = false := by rw [decide_eq_false_iff_not]; omega
    simp only [spec_CostsOk_L1, hd, cond_true, getI_lt hi, hg0, Option.bind_some, hl0, hl, hne, h10, hlt, cond_false, h2, w64_nat hi (by omega)]
    ) (by
    have hd : decide ((a0.length : Int) < (a0.length : Int)) = false := by simp
    simp only [spec_CostsOk_L1, hd, cond_false]) n (by unfold BIG at hn; omega)
  have hall : a0.all (fun _ => true) = true := by simp
  rw [hall, cond_true] at h1
  unfold spec_CostsOk
  rw [show decide ((a0.length : Int) > 10) = false by rw [decide_eq_false_iff_not]; omega, cond_false, h1]
  rfl

theorem find_first {m s k : Nat} {p : Nat → Bool} (h : (Sof m s).find? p = some k) : ∀ j, j < k → s.testBit j = false → p j = false := by
  unfold Sof at h
  rw [List.find?_filter, List.find?_range_eq_some] at h
  obtain ⟨_, _, h⟩ := h
  intro j hj hb
  have := h j hj
  rw [hb] at this
  cases hp : p j with
  | false => rfl
  | true => rw [hp] at this; simp at this
def castL (l : List Nat) : List Int := l.map fun k : Nat => (k : Int)
theorem impl_Match_ok {a0 : List (List Int)} {m : Nat} (hc : CM a0 m) (h0 : a0 = [] → m = 0) (n : Nat) (hn : BIG ≤ n) : ∃ s, impl_Match n a0 = some (castL (pk (rowsF a0) (List.range m)), s) ∧ bst (rowsF a0) (List.range m) = some s := by
  have hm10 := hc.m10
  have hnm := hc.nm
  have hp := pow_le hm10
  have rb := hc.rb
  have hR : (rowsF a0).length = a0.length := by simp [rowsF]
  obtain ⟨T, t1, t2, t3⟩ := impl_least_ok hc h0 n hn
  have hS0 : Sof m 0 = List.range m := by unfold Sof; simp
  obtain ⟨z, ⟨s', hz1⟩, hz⟩ := iter_rank (f := impl_Match_L1 n a0 T)
    (fun k x => ∃ (i s : Nat) (out : List Int), x = (out, (s : Int), (i : Int)) ∧ i + k = a0.length ∧ s < 2 ^ m ∧ a0.length - i ≤ (Sof m s).length ∧ out ++ castL (pk ((rowsF a0).drop i) (Sof m s)) = castL (pk (rowsF a0) (List.range m)) ∧ out.length = i)
    (fun z => ∃ s : Int, z = (castL (pk (rowsF a0) (List.range m)), s, (a0.length : Int)))
    (fun k x hx => by
      obtain ⟨i, s, out, rfl, hk, hs, hl, hout, hol⟩ := hx
      by_cases hi : i = a0.length
      · left
        subst hi
        have hd : decide ((a0.length : Int) < (a0.length : Int)) = false := by simp
        refine ⟨(out, (s : Int), (a0.length : Int)), by simp only [impl_Match_L1, hd, cond_false], (s : Int), ?_⟩
        rw [List.drop_of_length_le (by rw [hR]; exact Nat.le_refl _)] at hout
        simp only [pk, castL, List.map_nil, List.append_nil] at hout
        rw [hout]; rfl
      · right
        have hi' : i < a0.length := by omega
        have hd : decide ((i : Int) < (a0.length : Int)) = true := by rw [decide_eq_true_eq]; omega
        have hrl := hc.row _ (List.getElem_mem hi')
        have hdrop : (rowsF a0).drop i = ga a0[i] :: (rowsF a0).drop (i + 1) := by
          rw [List.drop_eq_getElem_cons (by omega)]
          congr 1
          exact List.getElem_map ..
        obtain ⟨x, hx⟩ := bst_ex ((rowsF a0).drop i) (Sof m s) (Sof_nd m s) (by rw [List.length_drop, hR]; exact hl)
        have hx' := hx
        rw [hdrop] at hx'
        obtain ⟨q, hq, hf, y, hy, hxy⟩ := pk_step hx'
        obtain ⟨qm, qb⟩ := Sof_mem.1 hq
        have hcont := find_first hf
        have hw3 : w64 ((i : Int) + 1) = ((i + 1 : Nat) : Int) := w64_nat hi' (by omega)
        have i1 : inb T ((i + 1 : Nat) : Int) = true := inb_lt (by omega)
        have e1 := t3 (i + 1) (by omega)
        have i2 : inb T (i : Int) = true := inb_lt (by omega)
        have e2 := t3 i (by omega)
        have i3 : inb (rowT (rowsF a0) m i) (s : Int) = true := inb_lt (by rw [rowT_len]; exact hs)
        have e3 := rowT_get (R := rowsF a0) (i := i) hs
        rw [hx] at e3
        have bit : ∀ k, k < m → (andI .i64 (shrI .i64 (s : Int) (k : Int)) 1 == 1) = s.testBit k := fun k hk => bitS (by omega) (by omega)
        have pow : ∀ k, k < m → shlI .i64 1 (k : Int) = ((2 ^ k : Nat) : Int) ∧ orI .i64 (s : Int) ((2 ^ k : Nat) : Int) = ((s ||| 2 ^ k : Nat) : Int) := fun k hk => by
          have hk10 : 2 ^ k < 1024 := Nat.lt_of_lt_of_le (Nat.pow_lt_pow_right (by omega) hk) hp
          exact ⟨shl1 (by omega), orS (by omega) hk10⟩
        have hin : iter n (impl_Match_L2 T (out, (s : Int), (i : Int)) a0[i]) (out, (s : Int), 0) = some (out ++ [(q : Int)], ((s ||| 2 ^ q : Nat) : Int), (q : Int)) := by
          have common : ∀ k, k < m → s.testBit k = false → ∀ v, bst ((rowsF a0).drop (i + 1)) (Sof m (s ||| 2 ^ k)) = some v → 0 ≤ ga a0[i] k + v ∧ ga a0[i] k + v ≤ 2000000 ∧ 0 ≤ v := fun k hk hb v hv => by
            have := rb.val hv
            have := rb.b (ga a0[i]) (List.mem_map_of_mem (List.getElem_mem hi')) k hk
            omega
          have := iter_steps (impl_Match_L2 T (out, (s : Int), (i : Int)) a0[i]) (fun k => (out, (s : Int), (k : Int))) q (out ++ [(q : Int)], ((s ||| 2 ^ q : Nat) : Int), (q : Int)) (fun k hk => by
            have hkm : k < m := by omega
            have hdk : decide ((k : Int) < (a0[i].length : Int)) = true := by rw [decide_eq_true_eq]; omega
            have hd0 : decide (0 ≤ (k : Int)) = true := by rw [decide_eq_true_eq]; omega
            have hb := bit k hkm
            obtain ⟨p1, p2⟩ := pow k hkm
            have hwk : w64 ((k : Int) + 1) = ((k + 1 : Nat) : Int) := w64_nat hkm (by omega)
            cases hbt : s.testBit k with
            | true =>
              rw [hbt] at hb
              simp only [impl_Match_L2, hdk, hd0, cond_true, hb, Option.bind_some, hwk]
            | false =>
              rw [hbt] at hb
              have hlt := Sof_lt hs hkm
              have i4 : inb (rowT (rowsF a0) m (i + 1)) ((s ||| 2 ^ k : Nat) : Int) = true := inb_lt (by rw [rowT_len]; exact hlt)
              have e4 := rowT_get (R := rowsF a0) (i := i + 1) hlt
              have e5 : getI a0[i] (k : Int) = some (ga a0[i] k) := by rw [getI_nat]; exact ga_get (by omega)
              have hpk := hcont k hk hbt
              rw [Sof_erase hbt] at hpk
              cases hB : bst ((rowsF a0).drop (i + 1)) (Sof m (s ||| 2 ^ k)) with
              | none =>
                rw [hB] at e4
                have hneg : decide (encO none < 0) = true := by simp [encO]
                simp only [impl_Match_L2, hdk, hd0, cond_true, cond_false, hb, Option.bind_some, hwk, hw3, i1, e1, p1, p2, Int.toNat_natCast, i4, e4, hneg]
              | some v =>
                rw [hB] at e4 hpk
                obtain ⟨v1, v2, v3⟩ := common k hkm hbt v hB
                have hneg : decide (encO (some v) < 0) = false := decide_eq_false (show ¬ v < 0 by omega)
                have hww : w64 (ga a0[i] k + encO (some v)) = ga a0[i] k + v := w64_eq (n := ga a0[i] k + v) (by omega) (by omega)
                rw [hx'] at hpk
                have hneq : (ga a0[i] k + v != encO (some x)) = true := by
                  have : ga a0[i] k + v ≠ x := fun e => by rw [Option.map_some, e] at hpk; simp at hpk
                  simp only [encO, bne_iff_ne]; exact this
                simp only [impl_Match_L2, hdk, hd0, cond_true, cond_false, hb, Option.bind_some, hwk, hw3, i1, e1, p1, p2, Int.toNat_natCast, i4, e4, hneg, e5, hww, i2, e2, i3, e3, hneq]) (by
            have hdk : decide ((q : Int) < (a0[i].length : Int)) = true := by rw [decide_eq_true_eq]; omega
            have hd0 : decide (0 ≤ (q : Int)) = true := by rw [decide_eq_true_eq]; omega
            have hb := bit q qm
            rw [qb] at hb
            obtain ⟨p1, p2⟩ := pow q qm
            have hlt := Sof_lt hs qm
            have i4 : inb (rowT (rowsF a0) m (i + 1)) ((s ||| 2 ^ q : Nat) : Int) = true := inb_lt (by rw [rowT_len]; exact hlt)
            have e4 := rowT_get (R := rowsF a0) (i := i + 1) hlt
            have e5 : getI a0[i] (q : Int) = some (ga a0[i] q) := by rw [getI_nat]; exact ga_get (by omega)
            rw [Sof_erase qb] at hy
            rw [hy] at e4
            obtain ⟨v1, v2, v3⟩ := common q qm qb y hy
            have hneg : decide (encO (some y) < 0) = false := decide_eq_false (show ¬ y < 0 by omega)
            have hww : w64 (ga a0[i] q + encO (some y)) = ga a0[i] q + y := w64_eq (n := ga a0[i] q + y) (by omega) (by omega)
            have hneq : (ga a0[i] q + y != encO (some x)) = false := by
              simp only [encO, bne_eq_false_iff_eq]; exact hxy.symm
            have hrow : decide (out.length + [(q : Int)].length ≤ maxRow) = true := row1 (by omega)
            simp only [impl_Match_L2, hdk, hd0, cond_true, cond_false, hb, Option.bind_some, hw3, i1, e1, p1, p2, Int.toNat_natCast, i4, e4, hneg, e5, hww, i2, e2, i3, e3, hneq, hrow]) n (by unfold BIG at hn; omega)
          simpa using this
        have hpk : pk ((rowsF a0).drop i) (Sof m s) = q :: pk ((rowsF a0).drop (i + 1)) (Sof m (s ||| 2 ^ q)) := by
          rw [hdrop]
          simp only [pk, hf]
          rw [Sof_erase qb]
        refine ⟨(out ++ [(q : Int)], ((s ||| 2 ^ q : Nat) : Int), ((i + 1 : Nat) : Int)), k - 1, ?_, ⟨i + 1, s ||| 2 ^ q, out ++ [(q : Int)], rfl, by omega, Sof_lt hs qm, ?_, ?_, by simp [hol]⟩, by omega⟩
        · simp only [impl_Match_L1, hd, cond_true, getI_lt hi', Option.bind_some, hin, hw3]
        · rw [← Sof_erase qb, List.length_erase_of_mem hq]; omega
        · rw [← hout, hpk]; simp [castL])
    n a0.length (([] : List Int), 0, 0) ⟨0, 0, [], rfl, by omega, Nat.pow_pos (by omega), by rw [hS0]; simp; omega, by rw [hS0]; rfl, rfl⟩ (by unfold BIG at hn; omega)
  obtain ⟨x, hx⟩ := bst_ex (rowsF a0) (List.range m) List.nodup_range (by rw [hR, List.length_range]; exact hnm)
  refine ⟨x, ?_, hx⟩
  have i1 : inb T 0 = true := inb_lt (show 0 < T.length by omega)
  have e1 := t3 0 (by omega)
  have i2 : inb (rowT (rowsF a0) m 0) 0 = true := inb_lt (show 0 < _ by rw [rowT_len]; exact Nat.pow_pos (by omega))
  have e2 := rowT_get (R := rowsF a0) (m := m) (i := 0) (s := 0) (Nat.pow_pos (by omega))
  rw [hS0, List.drop_zero, hx] at e2
  unfold impl_Match
  rw [impl_CostsOk_yes hc n hn]
  simp only [Option.bind_some, Bool.not_true, cond_false, t1, hz, hz1, i1, e1, cond_true, Int.toNat_zero, i2, e2, encO]

theorem erase_idx {S : List Nat} (h : S.Nodup) {j : Nat} (hj : j < S.length) : S.erase S[j] = S.eraseIdx j := by
  have hs : S = S.take j ++ S[j] :: S.drop (j + 1) := by rw [← List.drop_eq_getElem_cons hj, List.take_append_drop]
  have hn : S[j] ∉ S.take j := fun hm => by
    obtain ⟨a, ha, e⟩ := List.mem_iff_getElem.1 hm
    rw [List.getElem_take] at e
    have ha2 : a < j := by simp at ha; omega
    have := List.pairwise_iff_getElem.1 h a j (by omega) hj ha2
    exact this e
  rw [List.eraseIdx_eq_take_drop_succ]
  generalize S[j] = q at hs hn
  have h2 := List.erase_append_right (l₂ := q :: S.drop (j + 1)) hn
  rw [List.erase_cons_head] at h2
  exact (congrArg (fun l => l.erase q) hs).trans h2
theorem nodup_at {S : List Nat} (h : S.Nodup) {i j : Nat} (hi : i < S.length) (hj : j < S.length) (e : S[i] = S[j]) : i = j := by
  rcases Nat.lt_trichotomy i j with h1 | h1 | h1
  · exact absurd e (List.pairwise_iff_getElem.1 h i j hi hj h1)
  · exact h1
  · exact absurd e.symm (List.pairwise_iff_getElem.1 h j i hj hi h1)
theorem erase_map (g : Nat → Nat) {S : List Nat} (hn : S.Nodup) (hg : ∀ a ∈ S, ∀ b ∈ S, g a = g b → a = b) {k : Nat} (hk : k ∈ S) : (S.map g).erase (g k) = (S.erase k).map g := by
  have hm : (S.map g).Nodup := by
    unfold List.Nodup
    rw [List.pairwise_map]
    exact List.Pairwise.imp_of_mem (fun {a b} ha hb hab e => hab (hg a ha b hb e)) hn
  rw [hm.erase_eq_filter, hn.erase_eq_filter, List.filter_map]
  congr 1
  refine List.filter_congr fun x hx => ?_
  by_cases e : x = k
  · subst e; simp
  · have : g x ≠ g k := fun h => e (hg x hx k hk h)
    show (g x != g k) = (x != k)
    rw [bne_iff_ne.2 this, bne_iff_ne.2 e]
theorem AS.rename (g : Nat → Nat) : ∀ (R : List (Nat → Int)) (S : List Nat) (x : Int), S.Nodup → (∀ a ∈ S, ∀ b ∈ S, g a = g b → a = b) → (AS (R.map fun r k => r (g k)) S x ↔ AS R (S.map g) x)
  | [], S, x, _, _ => Iff.rfl
  | r :: R, S, x, hn, hg => by
    have ih : ∀ k ∈ S, ∀ y, AS (R.map fun r k => r (g k)) (S.erase k) y ↔ AS R ((S.map g).erase (g k)) y := fun k hk y => by
      rw [erase_map g hn hg hk]
      exact AS.rename g R (S.erase k) y (hn.erase k) (fun a ha b hb => hg a (List.mem_of_mem_erase ha) b (List.mem_of_mem_erase hb))
    refine ⟨fun ⟨k, hk, y, hy, e⟩ => ⟨g k, List.mem_map_of_mem hk, y, (ih k hk y).1 hy, e⟩, fun ⟨q, hq, y, hy, e⟩ => ?_⟩
    obtain ⟨k, hk, rfl⟩ := List.mem_map.1 hq
    exact ⟨k, hk, y, (ih k hk y).2 hy, e⟩
theorem AS.cong : ∀ (R R2 : List (Nat → Int)) (S : List Nat) (x : Int), R.length = R2.length → (∀ i (h1 : i < R.length) (h2 : i < R2.length), ∀ k ∈ S, R[i] k = R2[i] k) → AS R S x → AS R2 S x
  | [], [], S, x, _, _, h => h
  | [], r :: R2, S, x, hl, _, _ => by simp at hl
  | r :: R, [], S, x, hl, _, _ => by simp at hl
  | r :: R, r2 :: R2, S, x, hl, hc, ⟨k, hk, y, hy, e⟩ => by
    have h0 := hc 0 (by simp) (by simp) k hk
    simp only [List.getElem_cons_zero] at h0
    refine ⟨k, hk, y, AS.cong R R2 (S.erase k) y (by simpa using hl) (fun i h1 h2 q hq => ?_) hy, by rw [e, h0]⟩
    have := hc (i + 1) (by simp; omega) (by simp; omega) q (List.mem_of_mem_erase hq)
    simpa only [List.getElem_cons_succ] using this
def subM (rows : List (List Int)) (S : List Nat) : List (List Int) := rows.map fun r => S.map (ga r)
theorem subM_as (rows : List (List Int)) {S : List Nat} (hn : S.Nodup) (x : Int) : AS (rowsF (subM rows S)) (List.range S.length) x ↔ AS (rowsF rows) S x := by
  have hS : (List.range S.length).map (fun k => S.getD k 0) = S := by
    apply List.ext_getElem (by simp)
    intro i h1 h2
    simp [List.getElem?_eq_getElem h2]
  have e : AS ((rowsF rows).map fun (r : Nat → Int) k => r (S.getD k 0)) (List.range S.length) x ↔ AS (rowsF rows) S x := by
    have := AS.rename (fun k => S.getD k 0) (rowsF rows) (List.range S.length) x List.nodup_range (fun a ha b hb h => by
      rw [List.mem_range] at ha hb
      simp only [List.getD, List.getElem?_eq_getElem ha, List.getElem?_eq_getElem hb, Option.getD_some] at h
      exact nodup_at hn ha hb h)
    rw [hS] at this
    exact this
  have same : ∀ i (h1 : i < (rowsF (subM rows S)).length) (h2 : i < ((rowsF rows).map fun (r : Nat → Int) k => r (S.getD k 0)).length), ∀ k ∈ List.range S.length, (rowsF (subM rows S))[i] k = ((rowsF rows).map fun (r : Nat → Int) k => r (S.getD k 0))[i] k := fun i h1 h2 k hk => by
    rw [List.mem_range] at hk
    have hi : i < rows.length := by simpa [rowsF, subM] using h1
    have e1 : (rowsF (subM rows S))[i] = ga (S.map (ga rows[i])) := by simp [rowsF, subM]
    have e2 : ((rowsF rows).map fun (r : Nat → Int) k => r (S.getD k 0))[i] = fun k => ga rows[i] (S.getD k 0) := by simp [rowsF]
    rw [e1, e2]
    show ga (S.map (ga rows[i])) k = ga rows[i] (S.getD k 0)
    rw [List.getD, List.getElem?_eq_getElem hk, Option.getD_some]
    generalize ga rows[i] = f
    unfold ga
    rw [List.getD, List.getElem?_map, List.getElem?_eq_getElem hk]
    rfl
  have hl : (rowsF (subM rows S)).length = ((rowsF rows).map fun (r : Nat → Int) k => r (S.getD k 0)).length := by simp [rowsF, subM]
  exact ⟨fun h => e.1 (AS.cong _ _ _ x hl same h), fun h => AS.cong _ _ _ x hl.symm (fun i h1 h2 k hk => (same i h2 h1 k hk).symm) (e.2 h)⟩
theorem subM_cm {a0 : List (List Int)} {m : Nat} (hc : CM a0 m) (i : Nat) {S : List Nat} (hs : ∀ k ∈ S, k < m) (hl : a0.length - i ≤ S.length) (h10 : S.length ≤ 10) : CM (subM (a0.drop i) S) S.length := by
  refine ⟨fun r hr => ?_, by simp [subM]; omega, h10, fun r hr x hx => ?_⟩
  · obtain ⟨q, _, rfl⟩ := List.mem_map.1 hr
    simp
  · obtain ⟨q, hq, rfl⟩ := List.mem_map.1 hr
    obtain ⟨k, hk, rfl⟩ := List.mem_map.1 hx
    have hq2 := List.mem_of_mem_drop hq
    have := hc.row q hq2
    have hg : q[k]? = some (ga q k) := ga_get (by have := hs k hk; omega)
    exact hc.bnd q hq2 _ (List.mem_of_getElem? hg)
theorem sub_take {α : Type} (x : List α) (j : Nat) : sub x 0 j = x.take j := by simp [sub]
theorem sub_drop {α : Type} (x : List α) (j : Nat) : sub x j x.length = x.drop j := by
  unfold sub
  exact List.take_of_length_le (by simp)

theorem spec_l4Without_ok (rows : List (List Int)) {S : List Nat} (hl : rows.length ≤ 10) (h10 : S.length ≤ 10) {j : Nat} (hj : j < S.length) (n : Nat) (hn : BIG ≤ n) : spec_l4Without n (subM rows S) (j : Int) = some (subM (rows.drop 1) (S.eraseIdx j)) := by
  have hL : (subM rows S).length = rows.length := by simp [subM]
  by_cases h0 : rows.length = 0
  · have : rows = [] := List.eq_nil_of_length_eq_zero h0
    subst this
    obtain ⟨k, rfl⟩ : ∃ k, n = k + 1 := ⟨n - 1, by unfold BIG at hn; omega⟩
    unfold spec_l4Without
    rw [iter_end (z := (([] : List (List Int)), (1 : Int))) (by simp [spec_l4Without_L1, subM])]
    rfl
  have hw : w64 ((j : Int) + 1) = ((j + 1 : Nat) : Int) := w64_nat hj (by omega)
  have := iter_steps (spec_l4Without_L1 (subM rows S) (j : Int)) (fun i => ((subM (rows.drop 1) (S.eraseIdx j)).take i, ((i + 1 : Nat) : Int))) (rows.length - 1) (subM (rows.drop 1) (S.eraseIdx j), (rows.length : Int)) (fun i hi => by
    have hi1 : i + 1 < (subM rows S).length := by rw [hL]; omega
    have hd : decide (((i + 1 : Nat) : Int) < ((subM rows S).length : Int)) = true := by rw [decide_eq_true_eq]; omega
    have hg : getI (subM rows S) ((i + 1 : Nat) : Int) = some (S.map (ga (rows[i + 1]'(by omega)))) := by
      rw [getI_lt hi1]
      simp [subM]
    generalize hr : rows[i + 1]'(by omega) = r at hg
    have hlen : (S.map (ga r)).length = S.length := by simp
    have c1 : decide (0 ≤ (0 : Int)) = true := rfl
    have c2 : decide ((0 : Int) ≤ (j : Int)) = true := by rw [decide_eq_true_eq]; omega
    have c3 : decide ((j : Int) ≤ ((S.map (ga r)).length : Int)) = true := by rw [decide_eq_true_eq, hlen]; omega
    have c4 : decide ((0 : Int) ≤ ((j + 1 : Nat) : Int)) = true := by rw [decide_eq_true_eq]; omega
    have c5 : decide (((j + 1 : Nat) : Int) ≤ ((S.map (ga r)).length : Int)) = true := by rw [decide_eq_true_eq, hlen]; omega
    have c6 : decide (((S.map (ga r)).length : Int) ≤ ((S.map (ga r)).length : Int)) = true := by simp
    have c7 : decide (([] : List Int).length + (sub (S.map (ga r)) 0 j).length ≤ maxRow) = true := by
      rw [sub_take, decide_eq_true_eq]; simp [maxRow]; omega
    have c8 : decide ((([] : List Int) ++ sub (S.map (ga r)) 0 j).length + (sub (S.map (ga r)) (j + 1) (S.map (ga r)).length).length ≤ maxRow) = true := by
      rw [sub_take, sub_drop, decide_eq_true_eq]; simp [maxRow]; omega
    have c9 : ∀ q : List Int, decide (((subM (rows.drop 1) (S.eraseIdx j)).take i).length + [q].length ≤ maxRow) = true := fun q => by
      rw [decide_eq_true_eq]; simp [maxRow, subM]; omega
    have hw2 : w64 (((i + 1 : Nat) : Int) + 1) = ((i + 1 + 1 : Nat) : Int) := w64_nat (show i + 1 < rows.length by omega) (by omega)
    have hval : ([] : List Int) ++ sub (S.map (ga r)) 0 j ++ sub (S.map (ga r)) (j + 1) (S.map (ga r)).length = (S.eraseIdx j).map (ga r) := by
      rw [sub_take, sub_drop, List.nil_append, List.eraseIdx_eq_take_drop_succ, List.map_append, List.map_take, List.map_drop]
    simp only [spec_l4Without_L1, hd, cond_true, hg, Option.bind_some, c1, c2, c3, hw, c4, c5, c6, Bool.and_self, Int.toNat_zero, Int.toNat_natCast, c7, c8, c9, hw2, hval]
    congr 4
    have hi2 : i < (subM (rows.drop 1) (S.eraseIdx j)).length := by simp [subM]; omega
    rw [List.take_succ_eq_append_getElem hi2]
    congr 2
    simp only [subM, List.getElem_map, List.getElem_drop]
    rw [← hr]
    congr 3
    omega) (by
    have hd : decide (((rows.length - 1 + 1 : Nat) : Int) < ((subM rows S).length : Int)) = false := by rw [decide_eq_false_iff_not, hL]; omega
    simp only [spec_l4Without_L1, hd, cond_false]
    rw [List.take_of_length_le (by simp [subM]), show rows.length - 1 + 1 = rows.length by omega]) n (by unfold BIG at hn; omega)
  unfold spec_l4Without
  have h2 : iter n (spec_l4Without_L1 (subM rows S) (j : Int)) (([] : List (List Int)), 1) = some (subM (rows.drop 1) (S.eraseIdx j), (rows.length : Int)) := by simpa using this
  rw [h2]; rfl

theorem spec_Match_ok {a0 : List (List Int)} {m : Nat} (hc : CM a0 m) (h0 : a0 = [] → m = 0) (n : Nat) (hn : BIG ≤ n) : ∃ s, spec_Match n a0 = some (castL (pk (rowsF a0) (List.range m)), s) ∧ bst (rowsF a0) (List.range m) = some s := by
  have hm10 := hc.m10
  have hnm := hc.nm
  have rb := hc.rb
  have hR : (rowsF a0).length = a0.length := by simp [rowsF]
  obtain ⟨s0, hs0, hL0⟩ := l4Least_ok hc n hn
  have hb0 := bst_lst hL0
  have hnames : iter n (spec_Match_L1 a0) (([] : List Int), 0) = some (castL (List.range m), (m : Int)) := by
    have := iter_steps (spec_Match_L1 a0) (fun i => (castL (List.range i), (i : Int))) m (castL (List.range m), (m : Int)) (fun i hi => by
      have hl : 0 < a0.length := by
        rcases Nat.eq_zero_or_pos a0.length with e | e
        · have := h0 (List.eq_nil_of_length_eq_zero e); omega
        · exact e
      have hd : decide ((a0.length : Int) > 0) = true := by rw [decide_eq_true_eq]; omega
      have hg : getI a0 0 = some a0[0] := getI_lt hl
      have hd2 : decide ((i : Int) < (a0[0].length : Int)) = true := by rw [decide_eq_true_eq, hc.row _ (List.getElem_mem hl)]; omega
      have hr : decide ((castL (List.range i)).length + [(i : Int)].length ≤ maxRow) = true := row1 (by simp [castL]; omega)
      simp only [spec_Match_L1, hd, cond_true, hg, Option.bind_some, hd2, hr, w64_nat hi (by omega)]
      congr 3
      simp [castL, List.range_succ]) (by
      by_cases e : a0 = []
      · subst e; rw [h0 rfl]; rfl
      · have hl : 0 < a0.length := List.length_pos_iff.2 e
        have hd : decide ((a0.length : Int) > 0) = true := by rw [decide_eq_true_eq]; omega
        have hg : getI a0 0 = some a0[0] := getI_lt hl
        have hd2 : decide ((m : Int) < (a0[0].length : Int)) = false := by rw [decide_eq_false_iff_not, hc.row _ (List.getElem_mem hl)]; omega
        simp only [spec_Match_L1, hd, cond_true, hg, Option.bind_some, hd2, cond_false]) n (by unfold BIG at hn; omega)
    simpa [castL] using this
  obtain ⟨z, hz1, hz⟩ := iter_rank (f := spec_Match_L2 n)
    (fun k x => ∃ (i : Nat) (S : List Nat) (out : List Int) (left : Int), x = (out, left, subM (a0.drop i) S, castL S) ∧ i + k = a0.length ∧ S.Nodup ∧ (∀ k ∈ S, k < m) ∧ a0.length - i ≤ S.length ∧ S.length ≤ 10 ∧ bst ((rowsF a0).drop i) S = some left ∧ out ++ castL (pk ((rowsF a0).drop i) S) = castL (pk (rowsF a0) (List.range m)) ∧ out.length = i)
    (fun z => z.1 = castL (pk (rowsF a0) (List.range m)))
    (fun k x hx => by
      obtain ⟨i, S, out, left, rfl, hk, hnd, hsm, hl, h10, hb, hout, hol⟩ := hx
      have hLen : (subM (a0.drop i) S).length = a0.length - i := by simp [subM]
      by_cases hi : i = a0.length
      · left
        subst hi
        have hd : decide (((subM (a0.drop a0.length) S).length : Int) > 0) = false := by rw [decide_eq_false_iff_not, hLen]; omega
        refine ⟨(out, left, subM (a0.drop a0.length) S, castL S), by simp only [spec_Match_L2, hd, cond_false], ?_⟩
        rw [List.drop_of_length_le (by rw [hR]; exact Nat.le_refl _)] at hout
        simpa only [pk, castL, List.map_nil, List.append_nil] using hout
      · right
        have hi' : i < a0.length := by omega
        have hd : decide (((subM (a0.drop i) S).length : Int) > 0) = true := by rw [decide_eq_true_eq, hLen]; omega
        have hdrop : (rowsF a0).drop i = ga a0[i] :: (rowsF a0).drop (i + 1) := by
          rw [List.drop_eq_getElem_cons (by omega)]
          congr 1
          exact List.getElem_map ..
        have hb' := hb
        rw [hdrop] at hb'
        obtain ⟨q, hq, hf, y, hy, hxy⟩ := pk_step hb'
        obtain ⟨hpq, as, bs, hSab, hfail⟩ := List.find?_eq_some_iff_append.1 hf
        have hj : as.length < S.length := by rw [hSab]; simp
        have hSj : S[as.length] = q := by simp [hSab]
        have hg0 : getI (subM (a0.drop i) S) 0 = some (S.map (ga a0[i])) := by
          rw [show (0 : Int) = ((0 : Nat) : Int) from rfl, getI_lt (by rw [hLen]; omega)]
          simp [subM]
        have hRd : ∀ i, rowsF (a0.drop i) = (rowsF a0).drop i := fun i => by simp [rowsF, List.map_drop]
        -- the least sum without a column
        have lst : ∀ j (hj : j < S.length), ∃ v, spec_l4Least n (subM (a0.drop (i + 1)) (S.eraseIdx j)) = some v ∧ bst ((rowsF a0).drop (i + 1)) (S.erase S[j]) = some v ∧ 0 ≤ v ∧ v ≤ 1000000 := fun j hj => by
          have hnd2 : (S.eraseIdx j).Nodup := hnd.sublist (List.eraseIdx_sublist ..)
          have hel : (S.eraseIdx j).length = S.length - 1 := by rw [List.length_eraseIdx, if_pos hj]
          have hsm2 : ∀ k ∈ S.eraseIdx j, k < m := fun k hk => hsm k (List.mem_of_mem_eraseIdx hk)
          obtain ⟨v, v1, v2⟩ := l4Least_ok (subM_cm hc (i + 1) hsm2 (by omega) (by omega)) n hn
          have v3 : Lst ((rowsF a0).drop (i + 1)) (S.erase S[j]) v := by
            rw [erase_idx hnd hj, ← hRd]
            exact ⟨(subM_as _ hnd2 v).1 v2.1, fun y hy => v2.2 y ((subM_as _ hnd2 y).2 hy)⟩
          have v4 := bst_lst v3
          refine ⟨v, v1, v4, bst_nonneg v4 (fun r hr k hk => (rb.b r (List.mem_of_mem_drop hr) k (hsm k (List.mem_of_mem_erase hk))).1), ?_⟩
          have := bst_le v4 (M := 100000) (by omega) (fun r hr k hk => (rb.b r (List.mem_of_mem_drop hr) k (hsm k (List.mem_of_mem_erase hk))).2)
          rw [List.length_drop, hR] at this
          omega
        have wo : ∀ j, j < S.length → spec_l4Without n (subM (a0.drop i) S) (j : Int) = some (subM (a0.drop (i + 1)) (S.eraseIdx j)) := fun j hj => by
          rw [spec_l4Without_ok (a0.drop i) (by simp; omega) h10 hj n hn, List.drop_drop]
        have cost : ∀ j (hj : j < S.length), getI (S.map (ga a0[i])) (j : Int) = some (ga a0[i] S[j]) ∧ 0 ≤ ga a0[i] S[j] ∧ ga a0[i] S[j] ≤ 100000 := fun j hj => by
          refine ⟨?_, rb.b (ga a0[i]) (List.mem_map_of_mem (List.getElem_mem hi')) _ (hsm _ (List.getElem_mem hj))⟩
          rw [getI_lt (by simpa using hj)]; simp
        have hin : iter n (spec_Match_L3 n) (out, left, subM (a0.drop i) S, castL S, 0) = some (out ++ [(q : Int)], y, subM (a0.drop (i + 1)) (S.erase q), castL (S.erase q), (as.length : Int)) := by
          have := iter_steps (spec_Match_L3 n) (fun j => (out, left, subM (a0.drop i) S, castL S, (j : Int))) as.length (out ++ [(q : Int)], y, subM (a0.drop (i + 1)) (S.erase q), castL (S.erase q), (as.length : Int)) (fun j hja => by
            have hjS : j < S.length := by omega
            have hdj : decide ((j : Int) < ((S.map (ga a0[i])).length : Int)) = true := by rw [decide_eq_true_eq]; simp; omega
            obtain ⟨v, v1, v2, v3, v4⟩ := lst j hjS
            obtain ⟨c1, c2, c3⟩ := cost j hjS
            have hww : w64 (ga a0[i] S[j] + v) = ga a0[i] S[j] + v := w64_eq (by omega) (by omega)
            have hne : (ga a0[i] S[j] + v == left) = false := by
              have hmem : S[j] ∈ as := by
                have : S[j] = as[j] := by simp [hSab, hja]
                rw [this]; exact List.getElem_mem hja
              have := hfail S[j] hmem
              rw [v2, hb'] at this
              simpa using this
            simp only [spec_Match_L3, hg0, Option.bind_some, hdj, cond_true, wo j hjS, c1, v1, hww, hne, cond_false, w64_nat hja (by omega)]) (by
            have hdj : decide ((as.length : Int) < ((S.map (ga a0[i])).length : Int)) = true := by rw [decide_eq_true_eq]; simp; omega
            obtain ⟨v, v1, v2, v3, v4⟩ := lst as.length hj
            obtain ⟨c1, c2, c3⟩ := cost as.length hj
            rw [hSj] at v2 c1 c2 c3
            rw [hy] at v2
            injection v2 with v2
            subst v2
            have hww : w64 (ga a0[i] q + y) = ga a0[i] q + y := w64_eq (by omega) (by omega)
            have he : (ga a0[i] q + y == left) = true := by rw [← hxy]; simp
            have hcl : (castL S).length = S.length := by simp [castL]
            have i1 : inb (castL S) (as.length : Int) = true := inb_lt (by omega)
            have e1 : (castL S)[as.length]? = some (q : Int) := by
              unfold castL
              rw [List.getElem?_map, List.getElem?_eq_getElem hj, hSj]; rfl
            have r1 : decide (out.length + [(q : Int)].length ≤ maxRow) = true := row1 (by omega)
            have hwj : w64 ((as.length : Int) + 1) = ((as.length + 1 : Nat) : Int) := w64_nat hj (by omega)
            have hwl : w64 (left - ga a0[i] q) = y := by rw [hxy, w64_eq (by omega) (by omega)]; omega
            have d1 : decide (0 ≤ (0 : Int)) = true := rfl
            have d2 : decide ((0 : Int) ≤ (as.length : Int)) = true := by rw [decide_eq_true_eq]; omega
            have d3 : decide ((as.length : Int) ≤ ((castL S).length : Int)) = true := by rw [decide_eq_true_eq, hcl]; omega
            have d4 : decide ((0 : Int) ≤ ((as.length + 1 : Nat) : Int)) = true := by rw [decide_eq_true_eq]; omega
            have d5 : decide (((as.length + 1 : Nat) : Int) ≤ ((castL S).length : Int)) = true := by rw [decide_eq_true_eq, hcl]; omega
            have d6 : decide (((castL S).length : Int) ≤ ((castL S).length : Int)) = true := by simp
            have c7 : decide (([] : List Int).length + (sub (castL S) 0 as.length).length ≤ maxRow) = true := by
              rw [sub_take, decide_eq_true_eq]; simp [maxRow, castL]; omega
            have c8 : decide ((([] : List Int) ++ sub (castL S) 0 as.length).length + (sub (castL S) (as.length + 1) (castL S).length).length ≤ maxRow) = true := by
              rw [sub_take, sub_drop, decide_eq_true_eq]; simp [maxRow, castL]; omega
            have hval : ([] : List Int) ++ sub (castL S) 0 as.length ++ sub (castL S) (as.length + 1) (castL S).length = castL (S.erase q) := by
              rw [sub_take, sub_drop, List.nil_append, ← hSj, erase_idx hnd hj, List.eraseIdx_eq_take_drop_succ]
              simp [castL]
            have hnext : S.eraseIdx as.length = S.erase q := by rw [← erase_idx hnd hj, hSj]
            simp only [spec_Match_L3, hg0, Option.bind_some, hdj, cond_true, wo as.length hj, c1, v1, hww, he, i1, e1, r1, d1, d2, d3, d4, d5, d6, hwj, hwl, Bool.and_self, Int.toNat_zero, Int.toNat_natCast, c7, c8, hval]
            rw [hnext]) n (by unfold BIG at hn; omega)
          simpa using this
        have hpk : pk ((rowsF a0).drop i) S = q :: pk ((rowsF a0).drop (i + 1)) (S.erase q) := by
          rw [hdrop]
          simp only [pk, hf]
        have hel : (S.erase q).length = S.length - 1 := List.length_erase_of_mem hq
        refine ⟨(out ++ [(q : Int)], y, subM (a0.drop (i + 1)) (S.erase q), castL (S.erase q)), k - 1, ?_, ⟨i + 1, S.erase q, out ++ [(q : Int)], y, rfl, by omega, hnd.erase q, fun k hk => hsm k (List.mem_of_mem_erase hk), by omega, by omega, hy, ?_, by simp [hol]⟩, by omega⟩
        · simp only [spec_Match_L2, hd, cond_true, hin, Option.bind_some]
        · rw [← hout, hpk]; simp [castL])
    n a0.length (([] : List Int), s0, a0, castL (List.range m)) ⟨0, List.range m, [], s0, by
      congr 3
      rw [List.drop_zero]
      unfold subM
      apply List.ext_getElem (by simp)
      intro r h1 h2
      rw [List.getElem_map]
      have hl := hc.row _ (List.getElem_mem h1)
      apply List.ext_getElem (by simp [hl])
      intro k k1 k2
      rw [List.getElem_map, List.getElem_range]
      unfold ga
      rw [List.getD, List.getElem?_eq_getElem k1, Option.getD_some], by omega, List.nodup_range, fun k hk => List.mem_range.1 hk, by simp; omega, by simp; omega, hb0, rfl, rfl⟩ (by unfold BIG at hn; omega)
  refine ⟨s0, ?_, hb0⟩
  unfold spec_Match
  rw [spec_CostsOk_yes hc n hn]
  simp only [Option.bind_some, Bool.not_true, cond_false, hs0, hnames, hz, hz1]

/-- A loop that builds a row. -/
theorem build_loop {β : Type} (L : List β × Int → Option ((List β × Int) ⊕ (List β × Int))) (f : Nat → β) (m : Nat)
    (hL : ∀ i, i < m → L ((List.range i).map f, (i : Int)) = some (.inl ((List.range i).map f ++ [f i], ((i + 1 : Nat) : Int)))) (he : L ((List.range m).map f, (m : Int)) = some (.inr ((List.range m).map f, (m : Int)))) (n : Nat) (hn : m < n) :
    iter n L ([], 0) = some ((List.range m).map f, (m : Int)) := by
  have := iter_steps L (fun i => ((List.range i).map f, (i : Int))) m ((List.range m).map f, (m : Int)) (fun i hi => by
    rw [hL i hi, List.range_succ, List.map_append]; rfl) he n hn
  simpa using this

def stepsN (w h : Int) (c : List Int) (a b : Int) : Int := (spec_Steps BIG w h c a b).getD (-1)
theorem steps_ok {w h : Int} {c : List Int} (hc : c.length ≤ 1048576) (hf : floorOk w h c = true) (a b : Int) (n : Nat) (hn : BIG ≤ n) :
    spec_Steps n w h c a b = some (stepsN w h c a b) ∧ impl_Steps n w h c a b = some (stepsN w h c a b) ∧ -1 ≤ stepsN w h c a b ∧ stepsN w h c a b < 100 := by
  have f := flr_of hf
  have hN := f.le
  have hcell : ∀ (n : Nat), BIG ≤ n → ∀ i, spec_l1Cell n w h c i = some (inB i 0 ((c.length : Int) - 1)) := fun n hn i => by
    unfold spec_l1Cell
    rw [spec_FloorOk_ok w h c hc n hn, hf, show w64 ((c.length : Int) - 1) = (c.length : Int) - 1 from w64_eq (by clear hn; omega) (by clear hn; omega)]
    simp only [Option.bind_some, cond_true, in_ok]
  have hic : ∀ i, impl_isCell w h c i = some (inB i 0 ((c.length : Int) - 1)) := fun i => by
    unfold impl_isCell
    rw [show w64 ((c.length : Int) - 1) = (c.length : Int) - 1 from w64_eq (by clear hn; omega) (by clear hn; omega)]
    simp only [Option.bind_some, impl_in_ok]; rfl
  have key : ∃ s, -1 ≤ s ∧ s < 100 ∧ ∀ n, BIG ≤ n → spec_Steps n w h c a b = some s ∧ impl_Steps n w h c a b = some s := by
    cases hb : freeC c b with
    | false =>
      refine ⟨-1, by omega, by omega, fun n hn => ⟨?_, ?_⟩⟩
      · unfold spec_Steps spec_Field
        rw [hcell n hn b]
        cases hi : inB b 0 ((c.length : Int) - 1) with
        | false => rfl
        | true =>
          obtain ⟨m, rfl, hm⟩ := in_nat hi
          unfold freeC at hb
          rw [hi, Bool.true_and] at hb
          have hg : (c[m] == 0) = true := by simpa [hm] using hb
          simp only [Option.bind_some, Bool.not_true, cond_false, getI_lt hm, hg, cond_true]
          rfl
      · obtain ⟨k, k1, k2⟩ := impl_KindAt_ok w h c hc hf b n hn
        rw [hb] at k2
        have k3 : (k == 0) = true := by simpa using k2
        unfold impl_Steps
        rw [k1]
        simp only [Option.bind_some, k3, cond_true]
    | true =>
      have hbr : 0 ≤ b ∧ b < (c.length : Int) := by
        unfold freeC inB at hb
        simp only [Bool.and_eq_true, decide_eq_true_eq] at hb
        omega
      have hib : inB b 0 ((c.length : Int) - 1) = true := by
        unfold inB; simp only [Bool.and_eq_true, decide_eq_true_eq]; omega
      obtain ⟨m, rfl, hm⟩ := in_nat hib
      have hg : (c[m] == 0) = false := by
        unfold freeC at hb
        rw [hib, Bool.true_and] at hb
        simpa [hm] using hb
      obtain ⟨F, hF, hl, hbd⟩ := field_ok f hbr false
      have hne : ((F.length : Int) == 0) = false := by simp; intro e; rw [e] at hl; simp at hl; omega
      have hsf : ∀ n, BIG ≤ n → spec_Field n w h c (m : Int) false = some F := fun n hn => by
        unfold spec_Field
        simp only [hcell n hn, hib, Option.bind_some, Bool.not_true, cond_false, getI_lt hm, hg, (hF n hn).1]
      have hkk : ∀ n, BIG ≤ n → ∃ k, impl_KindAt n w h c (m : Int) = some k ∧ (k == 0) = false := fun n hn => by
        obtain ⟨k, k1, k2⟩ := impl_KindAt_ok w h c hc hf (m : Int) n hn
        rw [hb] at k2
        exact ⟨k, k1, by simpa using k2⟩
      cases hia : inB a 0 ((c.length : Int) - 1) with
      | false =>
        refine ⟨-1, by omega, by omega, fun n hn => ⟨?_, ?_⟩⟩
        · unfold spec_Steps
          simp only [hsf n hn, Option.bind_some, hne, cond_false, hcell n hn, hia, Bool.not_false, cond_true]
        · obtain ⟨k, k1, k2⟩ := hkk n hn
          unfold impl_Steps
          simp only [k1, Option.bind_some, k2, cond_false, hic, hia, Bool.not_false, cond_true]
      | true =>
        obtain ⟨q, rfl, hq⟩ := in_nat hia
        have hqF : q < F.length := by omega
        have hb2 := hbd _ (List.getElem_mem hqF)
        refine ⟨F[q], hb2.1, by omega, fun n hn => ⟨?_, ?_⟩⟩
        · unfold spec_Steps
          simp only [hsf n hn, Option.bind_some, hne, cond_false, hcell n hn, hia, Bool.not_true, inb_lt hqF, Int.toNat_natCast, List.getElem?_eq_getElem hqF, cond_true]
        · obtain ⟨k, k1, k2⟩ := hkk n hn
          unfold impl_Steps
          simp only [k1, Option.bind_some, k2, cond_false, hic, hia, Bool.not_true, (hF n hn).2, inb_lt hqF, Int.toNat_natCast, List.getElem?_eq_getElem hqF, cond_true]
  obtain ⟨s, s1, s2, s3⟩ := key
  have e : stepsN w h c a b = s := by unfold stepsN; rw [(s3 BIG (Nat.le_refl _)).1]; rfl
  rw [e]
  exact ⟨(s3 n hn).1, (s3 n hn).2, s1, s2⟩
def costN (w h : Int) (c : List Int) (a b : Int) : Int := if stepsN w h c a b < 0 then 100000 else stepsN w h c a b

def podIx (a : List Pod) (id : Int) : Int := (spec_l5Pod BIG a id).getD (-1)
theorem podIx_ok (a : List Pod) (hl : a.length ≤ 1048576) (id : Int) (n : Nat) (hn : BIG ≤ n) : spec_l5Pod n a id = some (podIx a id) ∧ (podIx a id = -1 ∧ (∀ p ∈ a, p.1 ≠ id) ∨ ∃ i, ∃ h : i < a.length, podIx a id = (i : Int) ∧ a[i].1 = id) := by
  have hs : ∀ (i : Nat) (x : Pod), i < a.length → a[i]? = some x → spec_l5Pod_L1 a id (i : Int) = some (bif x.1 == id then .inr (.inr (i : Int)) else .inl ((i + 1 : Nat) : Int)) := fun i x h1 h2 => by
    have hx : a[i] = x := by rw [List.getElem?_eq_getElem h1] at h2; exact Option.some.inj h2
    simp only [spec_l5Pod_L1, getI_lt h1, hx, Option.bind_some, w64_nat h1 (show a.length ≤ 9223372036854775807 by clear hn; omega)]
    rw [show decide ((i : Int) < (a.length : Int)) = true by simpa using h1]
    cases hq : (x.1 == id) <;> rfl
  have he : spec_l5Pod_L1 a id (a.length : Int) = some (.inr (.inl (a.length : Int))) := by simp [spec_l5Pod_L1]
  have key : ∃ v : Int, (∀ n, BIG ≤ n → spec_l5Pod n a id = some v) ∧ (v = -1 ∧ (∀ p ∈ a, p.1 ≠ id) ∨ ∃ i, ∃ h : i < a.length, v = (i : Int) ∧ a[i].1 = id) := by
    cases hf : a.findIdx? fun p => p.1 == id with
    | none =>
      have hno : ∀ p ∈ a, p.1 ≠ id := fun p hp => by
        have := List.findIdx?_eq_none_iff.1 hf p hp
        simpa using this
      refine ⟨-1, fun n hn => ?_, .inl ⟨rfl, hno⟩⟩
      have := iter_steps (spec_l5Pod_L1 a id) (fun i => (i : Int)) a.length (.inl (a.length : Int)) (fun i hi => by
        rw [hs i a[i] hi (List.getElem?_eq_getElem hi), show (a[i].1 == id) = false by simpa using hno _ (List.getElem_mem hi), cond_false]) he n (by unfold BIG at hn; omega)
      unfold spec_l5Pod
      rw [show ((0 : Nat) : Int) = 0 from rfl] at this
      rw [this]; rfl
    | some i =>
      obtain ⟨hi, hp, hb⟩ := List.findIdx?_eq_some_iff_getElem.1 hf
      have hp' : a[i].1 = id := by simpa using hp
      refine ⟨(i : Int), fun n hn => ?_, .inr ⟨i, hi, rfl, hp'⟩⟩
      have := iter_steps (spec_l5Pod_L1 a id) (fun i => (i : Int)) i (.inr (i : Int)) (fun j hj => by
        have hb' := hb j hj
        rw [hs j a[j] (by omega) (List.getElem?_eq_getElem (by omega)), show (a[j].1 == id) = false by simpa using hb', cond_false]) (by
        rw [hs i a[i] hi (List.getElem?_eq_getElem hi), show (a[i].1 == id) = true by simpa using hp', cond_true]) n (by unfold BIG at hn; omega)
      unfold spec_l5Pod
      rw [show ((0 : Nat) : Int) = 0 from rfl] at this
      rw [this]; rfl
  obtain ⟨v, v1, v2⟩ := key
  have e : podIx a id = v := by unfold podIx; rw [v1 BIG (Nat.le_refl _)]; rfl
  rw [e]
  exact ⟨v1 n hn, v2⟩

theorem podAt_eq : impl_podAt = spec_l5Pod := rfl

abbrev Rbt := Int × Int × Int × Bool × Int
abbrev Tsk := Int × Int × Int × Int
def isIdle (l : List Tsk) (r : Rbt) : Bool := r.2.2.1 == -1 && !r.2.2.2.1 && l.all fun t => !(t.2.2.1 == r.1)
def idleAt (crew : List Rbt) (l : List Tsk) (i : Nat) : Bool := match crew[i]? with
  | some r => isIdle l r
  | none => false
def idleIx (crew : List Rbt) (l : List Tsk) : List Nat := ((List.range crew.length).filter (idleAt crew l)).take 10
theorem idleIx_mem {crew : List Rbt} {l : List Tsk} {k : Nat} (h : k ∈ idleIx crew l) : ∃ hk : k < crew.length, isIdle l crew[k] = true := by
  have := List.mem_of_mem_take h
  obtain ⟨h1, h2⟩ := List.mem_filter.1 this
  rw [List.mem_range] at h1
  refine ⟨h1, ?_⟩
  unfold idleAt at h2
  rw [List.getElem?_eq_getElem h1] at h2
  exact h2
theorem idleIx_len (crew : List Rbt) (l : List Tsk) : (idleIx crew l).length ≤ 10 := by unfold idleIx; rw [List.length_take]; omega
theorem idleIx_nd (crew : List Rbt) (l : List Tsk) : (idleIx crew l).Nodup := (List.nodup_range.filter _).sublist (List.take_sublist _ _)
theorem take_push (xs : List Nat) (k m : Nat) : (xs ++ [k]).take m = if xs.length < m then xs.take m ++ [k] else xs.take m := by
  by_cases h : xs.length < m
  · rw [if_pos h, List.take_of_length_le (by simp; omega), List.take_of_length_le (by omega)]
  · rw [if_neg h, List.take_append_of_le_length (by omega)]

theorem spec_idle_ok (crew : List Rbt) (hc : crew.length ≤ 1048576) (l : List Tsk) (hl : l.length ≤ 1048576) (n : Nat) (hn : BIG ≤ n) : spec_l12Idle n crew l = some (castL (idleIx crew l)) := by
  have hin : ∀ (i : Nat) (hi : i < crew.length) (out : List Int) (b : Bool), iter n (spec_l12Idle_L2 crew l (out, (i : Int))) (b, 0) = some (b || l.any fun t => t.2.2.1 == crew[i].1, (l.length : Int)) := fun i hi out b => by
    have := iter_steps (spec_l12Idle_L2 crew l (out, (i : Int))) (fun k => (b || (l.take k).any fun t => t.2.2.1 == crew[i].1, (k : Int))) l.length (b || l.any fun t => t.2.2.1 == crew[i].1, (l.length : Int)) (fun k hk => by
      rw [List.take_succ_eq_append_getElem hk, List.any_append]
      simp only [spec_l12Idle_L2, getI_lt hk, getI_lt hi, Option.bind_some, w64_nat hk (show l.length ≤ 9223372036854775807 by clear hn; omega), List.any_cons, List.any_nil, Bool.or_false]
      rw [show decide ((k : Int) < (l.length : Int)) = true by simpa using hk]
      cases b <;> cases (l.take k).any (fun t => t.2.2.1 == crew[i].1) <;> rfl) (by simp [spec_l12Idle_L2]) n (by unfold BIG at hn; omega)
    simpa using this
  obtain ⟨z, hz1, hz⟩ := iter_rank (f := spec_l12Idle_L1 n crew l)
    (fun k x => ∃ i : Nat, x = (castL (((List.range i).filter (idleAt crew l)).take 10), (i : Int)) ∧ i + k = crew.length)
    (fun z => z.1 = castL (idleIx crew l)) (fun k x hx => by
      obtain ⟨i, rfl, hk⟩ := hx
      have hlen : (castL (((List.range i).filter (idleAt crew l)).take 10)).length = min 10 ((List.range i).filter (idleAt crew l)).length := by simp [castL]
      by_cases hi : i < crew.length
      · by_cases h10 : ((List.range i).filter (idleAt crew l)).length < 10
        · right
          have hd : decide ((i : Int) < (crew.length : Int)) = true := by simpa using hi
          have hd2 : decide (((castL (((List.range i).filter (idleAt crew l)).take 10)).length : Int) < 10) = true := by rw [decide_eq_true_eq, hlen]; clear hn; omega
          have hrow : decide ((castL (((List.range i).filter (idleAt crew l)).take 10)).length + [(i : Int)].length ≤ maxRow) = true := row1 (by rw [hlen]; clear hn; omega)
          have hidle : idleAt crew l i = isIdle l crew[i] := by unfold idleAt; rw [List.getElem?_eq_getElem hi]
          refine ⟨(castL (((List.range (i + 1)).filter (idleAt crew l)).take 10), ((i + 1 : Nat) : Int)), k - 1, ?_, ⟨i + 1, rfl, by clear hn; omega⟩, by clear hn; omega⟩
          rw [List.range_succ, List.filter_append]
          simp only [spec_l12Idle_L1, hd, cond_true, hd2, Option.bind_some, getI_lt hi, hin i hi, hrow, w64_nat hi (show crew.length ≤ 9223372036854775807 by clear hn; omega)]
          have hany : (l.any fun t => t.2.2.1 == crew[i].1) = !(l.all fun t => !(t.2.2.1 == crew[i].1)) := by
            rw [List.not_all_eq_any_not]; simp
          rw [hany]
          generalize hA : (l.all fun t => !(t.2.2.1 == crew[i].1)) = A
          have h2 : idleAt crew l i = (crew[i].2.2.1 == -1 && !crew[i].2.2.2.1 && A) := by rw [hidle, ← hA]; rfl
          rw [show (crew[i].2.2.1 != -1) = !(crew[i].2.2.1 == -1) from rfl]
          cases q1 : (crew[i].2.2.1 == -1) <;> cases q2 : crew[i].2.2.2.1 <;> cases A <;> rw [q1, q2] at h2 <;> simp [h2, take_push, h10, castL]
        · left
          refine ⟨(castL (((List.range i).filter (idleAt crew l)).take 10), (i : Int)), ?_, ?_⟩
          · have hd : decide ((i : Int) < (crew.length : Int)) = true := by simpa using hi
            have hd2 : decide (((castL (((List.range i).filter (idleAt crew l)).take 10)).length : Int) < 10) = false := by rw [decide_eq_false_iff_not, hlen]; clear hn; omega
            simp only [spec_l12Idle_L1, hd, cond_true, hd2, Option.bind_some, cond_false]
          · show castL _ = castL _
            unfold idleIx
            congr 1
            have : List.range crew.length = List.range i ++ (List.range (crew.length - i)).map (i + ·) := by
              rw [← List.range_add]; congr 1; clear hn; omega
            rw [this, List.filter_append, List.take_append_of_le_length (by clear hn; omega)]
      · left
        have hie : i = crew.length := by clear hn; omega
        refine ⟨(castL (((List.range i).filter (idleAt crew l)).take 10), (i : Int)), ?_, by rw [hie]; rfl⟩
        have hd : decide ((i : Int) < (crew.length : Int)) = false := by simpa using hi
        simp only [spec_l12Idle_L1, hd, cond_false, Option.bind_some])
    n crew.length ([], 0) ⟨0, rfl, by clear hn; omega⟩ (by unfold BIG at hn; omega)
  unfold spec_l12Idle
  rw [hz]
  simp only [Option.bind_some, hz1]

theorem impl_idle_ok (crew : List Rbt) (hc : crew.length ≤ 1048576) (l : List Tsk) (hl : l.length ≤ 1048576) (n : Nat) (hn : BIG ≤ n) : impl_idle n crew l = some (castL (idleIx crew l)) := by
  have hin : ∀ (r : Rbt) (b : Bool), iter n (impl_idle_L2 l r) (b, 0) = some (b && l.all fun t => !(t.2.2.1 == r.1), (l.length : Int)) := fun r b => by
    have := iter_steps (impl_idle_L2 l r) (fun k => (b && (l.take k).all fun t => !(t.2.2.1 == r.1), (k : Int))) l.length (b && l.all fun t => !(t.2.2.1 == r.1), (l.length : Int)) (fun k hk => by
      rw [List.take_succ_eq_append_getElem hk, List.all_append]
      simp only [impl_idle_L2, getI_lt hk, Option.bind_some, w64_nat hk (show l.length ≤ 9223372036854775807 by clear hn; omega), List.all_cons, List.all_nil, Bool.and_true]
      rw [show decide ((k : Int) < (l.length : Int)) = true by simpa using hk, show (l[k].2.2.1 != r.1) = !(l[k].2.2.1 == r.1) from rfl]
      cases b <;> cases (l.take k).all (fun t => !(t.2.2.1 == r.1)) <;> rfl) (by simp [impl_idle_L2]) n (by unfold BIG at hn; omega)
    simpa using this
  have := iter_steps (impl_idle_L1 n crew l) (fun i => (castL (((List.range i).filter (idleAt crew l)).take 10), (i : Int))) crew.length (castL (idleIx crew l), (crew.length : Int)) (fun i hi => by
    have hlen : (castL (((List.range i).filter (idleAt crew l)).take 10)).length = min 10 ((List.range i).filter (idleAt crew l)).length := by simp [castL]
    have hd : decide ((i : Int) < (crew.length : Int)) = true := by simpa using hi
    have hrow : decide ((castL (((List.range i).filter (idleAt crew l)).take 10)).length + [(i : Int)].length ≤ maxRow) = true := row1 (by rw [hlen]; clear hn; omega)
    have hidle : idleAt crew l i = isIdle l crew[i] := by unfold idleAt; rw [List.getElem?_eq_getElem hi]
    have h10 : decide (((castL (((List.range i).filter (idleAt crew l)).take 10)).length : Int) < 10) = decide (((List.range i).filter (idleAt crew l)).length < 10) := by
      rw [decide_eq_decide, hlen]; clear hn; omega
    rw [List.range_succ, List.filter_append]
    simp only [impl_idle_L1, hd, cond_true, Option.bind_some, getI_lt hi, hin, hrow, w64_nat hi (show crew.length ≤ 9223372036854775807 by clear hn; omega), h10]
    generalize hA : (l.all fun t => !(t.2.2.1 == crew[i].1)) = A
    have h2 : idleAt crew l i = (crew[i].2.2.1 == -1 && !crew[i].2.2.2.1 && A) := by rw [hidle, ← hA]; rfl
    by_cases hq : ((List.range i).filter (idleAt crew l)).length < 10
    · rw [decide_eq_true hq]
      cases q1 : (crew[i].2.2.1 == -1) <;> cases q2 : crew[i].2.2.2.1 <;> cases A <;> rw [q1, q2] at h2 <;> simp [h2, take_push, hq, castL]
    · rw [decide_eq_false hq]
      cases q1 : (crew[i].2.2.1 == -1) <;> cases q2 : crew[i].2.2.2.1 <;> cases A <;> rw [q1, q2] at h2 <;> simp [h2, take_push, hq, castL]) (by
    have hd : decide ((crew.length : Int) < (crew.length : Int)) = false := by simp
    simp only [impl_idle_L1, hd, cond_false]
    rfl) n (by unfold BIG at hn; omega)
  unfold impl_idle
  have h2 : iter n (impl_idle_L1 n crew l) ([], 0) = some (castL (idleIx crew l), (crew.length : Int)) := by simpa [castL] using this
  rw [h2]; rfl

/-- A loop that looks for an element. -/
theorem any_loop {β : Type} (f : Int → Option (Int ⊕ (Int ⊕ Bool))) (xs : List β) (P : β → Bool) (hs : ∀ (i : Nat) (x : β), i < xs.length → xs[i]? = some x → f (i : Int) = some (bif P x then .inr (.inr true) else .inl ((i + 1 : Nat) : Int)))
    (he : f (xs.length : Int) = some (.inr (.inl (xs.length : Int)))) : ∀ n, xs.length < n → iter n f 0 = some (bif xs.any P then .inr true else .inl (xs.length : Int)) := by
  intro n hn
  refine iter_list f xs (fun p l => bif l.any P then .inr true else .inl (xs.length : Int)) ?_ ?_ n hn
  · rw [he]; simp
  · intro i x l p h1 h2 h3 h4 h5
    rw [hs i x h1 h2]
    cases hp : P x with
    | true => exact .inr (by simp [hp])
    | false => exact .inl ⟨by simp, by simp [hp]⟩


theorem spec_l6Among_ok (a : List Int) (h : a.length ≤ 1048576) (c : Int) (n : Nat) (hn : BIG ≤ n) : spec_l6Among n a c = some (a.any fun x => x == c) := by
  unfold spec_l6Among
  rw [any_loop (spec_l6Among_L1 a c) a (fun x => x == c) (fun i x h1 h2 => by
    have hx : a[i] = x := by rw [List.getElem?_eq_getElem h1] at h2; exact Option.some.inj h2
    simp only [spec_l6Among_L1, getI_lt h1, hx]
    rw [show decide ((i : Int) < (a.length : Int)) = true by simpa using h1]
    cases hq : (x == c) <;> simp [hq, w64_nat h1 (by omega)]) (by simp [spec_l6Among_L1]) n (by unfold BIG at hn; omega)]
  cases a.any fun x => x == c <;> rfl


theorem hasInt_eq : impl_hasInt = spec_l6Among := rfl


def rdyOk (a : List Pod) (tk : List Int) (t : Tsk) : Bool := t.2.2.2 == 1 && decide (podIx a t.2.1 ≥ 0) && !(tk.any fun y => y == t.2.1)
/-- The first tasks that may begin, so many at most. -/
def rdy (a : List Pod) : Nat → List Int → Nat → List Tsk → List Nat
  | 0, _, _, _ => []
  | _ + 1, _, _, [] => []
  | m + 1, tk, i, t :: ts => bif rdyOk a tk t then i :: rdy a m (tk ++ [t.2.1]) (i + 1) ts else rdy a (m + 1) tk (i + 1) ts
theorem rdy_step (a : List Pod) (m : Nat) (tk : List Int) (i : Nat) (t : Tsk) (ts : List Tsk) : rdy a (m + 1) tk i (t :: ts) = bif rdyOk a tk t then i :: rdy a m (tk ++ [t.2.1]) (i + 1) ts else rdy a (m + 1) tk (i + 1) ts := rfl
theorem rdy_nil (a : List Pod) (m : Nat) (tk : List Int) (i : Nat) : rdy a m tk i [] = [] := by cases m <;> rfl
theorem rdy_len (a : List Pod) : ∀ (ts : List Tsk) (m : Nat) (tk : List Int) (i : Nat), (rdy a m tk i ts).length ≤ m
  | [], m, tk, i => by rw [rdy_nil]; simp
  | t :: ts, 0, tk, i => by simp [rdy]
  | t :: ts, m + 1, tk, i => by
    unfold rdy
    cases rdyOk a tk t with
    | true => have := rdy_len a ts m (tk ++ [t.2.1]) (i + 1); simp only [cond_true, List.length_cons]; omega
    | false => simpa only [cond_false] using rdy_len a ts (m + 1) tk (i + 1)
/-- What they are: waiting, on a shelf that is there and that nobody has, each on one of its own. -/
theorem rdy_in (a : List Pod) : ∀ (ts : List Tsk) (m : Nat) (tk : List Int) (i : Nat), ∀ x ∈ rdy a m tk i ts, i ≤ x ∧ ∃ h : x - i < ts.length, ts[x - i].2.2.2 = 1 ∧ podIx a ts[x - i].2.1 ≥ 0 ∧ ts[x - i].2.1 ∉ tk
  | [], m, tk, i => by rw [rdy_nil]; simp
  | t :: ts, 0, tk, i => by simp [rdy]
  | t :: ts, m + 1, tk, i => by
    intro x hx
    have up : ∀ (h : i + 1 ≤ x) (h2 : x - (i + 1) < ts.length), ∃ h : x - i < (t :: ts).length, (t :: ts)[x - i] = ts[x - (i + 1)] := fun h h2 => by
      refine ⟨by simp; omega, ?_⟩
      have e : x - i = (x - (i + 1)) + 1 := by omega
      simp only [e, List.getElem_cons_succ]
    unfold rdy at hx
    cases hr : rdyOk a tk t with
    | true =>
      rw [hr, cond_true] at hx
      rcases List.mem_cons.1 hx with rfl | hx
      · unfold rdyOk at hr
        simp only [Bool.and_eq_true, beq_iff_eq, decide_eq_true_eq, Bool.not_eq_true', List.any_eq_false, beq_iff_eq] at hr
        refine ⟨Nat.le_refl _, by simp, ?_⟩
        have e : (t :: ts)[x - x]'(by simp) = t := by simp
        rw [e]
        exact ⟨hr.1.1, hr.1.2, fun hm => hr.2 _ hm rfl⟩
      · obtain ⟨h1, h2, h3, h4, h5⟩ := rdy_in a ts m (tk ++ [t.2.1]) (i + 1) x hx
        obtain ⟨u1, u2⟩ := up h1 h2
        refine ⟨by omega, u1, ?_⟩
        rw [u2]
        exact ⟨h3, h4, fun hm => h5 (List.mem_append_left _ hm)⟩
    | false =>
      rw [hr, cond_false] at hx
      obtain ⟨h1, h2, h3, h4, h5⟩ := rdy_in a ts (m + 1) tk (i + 1) x hx
      obtain ⟨u1, u2⟩ := up h1 h2
      refine ⟨by omega, u1, ?_⟩
      rw [u2]
      exact ⟨h3, h4, h5⟩
theorem rdy_pods (a : List Pod) : ∀ (ts : List Tsk) (m : Nat) (tk : List Int) (i : Nat), (rdy a m tk i ts).Pairwise fun x y => x < y ∧ ∀ (hx : x - i < ts.length) (hy : y - i < ts.length), ts[x - i].2.1 ≠ ts[y - i].2.1
  | [], m, tk, i => by rw [rdy_nil]; exact List.Pairwise.nil
  | t :: ts, 0, tk, i => by simp [rdy]
  | t :: ts, m + 1, tk, i => by
    have up : ∀ (m : Nat) (tk : List Int), (rdy a m tk (i + 1) ts).Pairwise fun x y => x < y ∧ ∀ (hx : x - i < (t :: ts).length) (hy : y - i < (t :: ts).length), (t :: ts)[x - i].2.1 ≠ (t :: ts)[y - i].2.1 := fun m tk => by
      refine List.Pairwise.imp_of_mem (fun {x y} hx hy hxy => ⟨hxy.1, fun h1 h2 => ?_⟩) (rdy_pods a ts m tk (i + 1))
      obtain ⟨x1, x2, _⟩ := rdy_in a ts m tk (i + 1) x hx
      obtain ⟨y1, y2, _⟩ := rdy_in a ts m tk (i + 1) y hy
      have ex : x - i = (x - (i + 1)) + 1 := by omega
      have ey : y - i = (y - (i + 1)) + 1 := by omega
      simp only [ex, ey, List.getElem_cons_succ]
      exact hxy.2 x2 y2
    unfold rdy
    cases hr : rdyOk a tk t with
    | true =>
      rw [cond_true]
      refine List.pairwise_cons.2 ⟨fun y hy => ?_, up m (tk ++ [t.2.1])⟩
      obtain ⟨y1, y2, y3, y4, y5⟩ := rdy_in a ts m (tk ++ [t.2.1]) (i + 1) y hy
      refine ⟨by omega, fun h1 h2 => ?_⟩
      have e : (t :: ts)[i - i]'h1 = t := by simp
      have ey : y - i = (y - (i + 1)) + 1 := by omega
      rw [e]
      simp only [ey, List.getElem_cons_succ]
      exact fun q => y5 (List.mem_append_right _ (by simp [q]))
    | false => rw [cond_false]; exact up (m + 1) tk
def busyP (l : List Tsk) : List Int := (l.filter fun t => !(t.2.2.2 == 1)).map (·.2.1)
def readyIx (a : List Pod) (l : List Tsk) (m : Nat) : List Nat := rdy a m (busyP l) 0 l

theorem busy_loop (L : List Int × Int → Option ((List Int × Int) ⊕ (List Int × Int))) (l : List Tsk) (hl : l.length ≤ 1048576)
    (hL : ∀ (i : Nat) (out : List Int) (hi : i < l.length), out.length ≤ i → L (out, (i : Int)) = some (.inl (bif l[i].2.2.2 == 1 then out else out ++ [l[i].2.1], ((i + 1 : Nat) : Int)))) (he : ∀ out, L (out, (l.length : Int)) = some (.inr (out, (l.length : Int)))) (n : Nat) (hn : BIG ≤ n) :
    iter n L ([], 0) = some (busyP l, (l.length : Int)) := by
  have := iter_steps L (fun i => (busyP (l.take i), (i : Int))) l.length (busyP l, (l.length : Int)) (fun i hi => by
    rw [hL i _ hi (by unfold busyP; rw [List.length_map]; exact Nat.le_trans (List.length_filter_le _ _) (by simp; omega)), List.take_succ_eq_append_getElem hi]
    unfold busyP
    rw [List.filter_append, List.map_append]
    cases hq : (l[i].2.2.2 == 1) <;> simp [hq]) (by rw [List.take_length]; exact he _) n (by unfold BIG at hn; omega)
  simpa [busyP] using this
/-- What a loop over tasks leaves of those that are ready. -/
theorem rdy_loop (L : List Int × List Int × Int → Option ((List Int × List Int × Int) ⊕ (List Int × List Int × Int))) (a : List Pod) (l : List Tsk) (M : Nat) (tk0 : List Int)
    (hgo : ∀ (i : Nat) (out tk : List Int) (hi : i < l.length), out.length < M → out.length ≤ i → tk.length ≤ tk0.length + i → L (out, tk, (i : Int)) = some (.inl (bif rdyOk a tk l[i] then (out ++ [(i : Int)], tk ++ [l[i].2.1], ((i + 1 : Nat) : Int)) else (out, tk, ((i + 1 : Nat) : Int)))))
    (hfull : ∀ (i : Nat) (out tk : List Int) (hi : i < l.length), out.length = M → tk.length ≤ tk0.length + i → L (out, tk, (i : Int)) = some (.inl (out, tk, ((i + 1 : Nat) : Int))) ∨ L (out, tk, (i : Int)) = some (.inr (out, tk, (i : Int))))
    (hend : ∀ (out tk : List Int), L (out, tk, (l.length : Int)) = some (.inr (out, tk, (l.length : Int)))) (n : Nat) (hn : l.length < n) :
    ∃ z, z.1 = castL (rdy a M tk0 0 l) ∧ iter n L ([], tk0, 0) = some z := by
  refine iter_rank (f := L) (fun k x => ∃ (i : Nat) (out : List Nat) (tk : List Int), x = (castL out, tk, (i : Int)) ∧ i + k = l.length ∧ out.length ≤ M ∧ out.length ≤ i ∧ tk.length ≤ tk0.length + i ∧ out ++ rdy a (M - out.length) tk i (l.drop i) = rdy a M tk0 0 l)
    (fun z => z.1 = castL (rdy a M tk0 0 l)) (fun k x hx => ?_) n l.length ([], tk0, 0) ⟨0, [], tk0, rfl, by omega, by simp, by simp, by simp, by simp⟩ hn
  obtain ⟨i, out, tk, rfl, hk, h1, h2, h3, h4⟩ := hx
  have hcl : (castL out).length = out.length := by simp [castL]
  by_cases hi : i < l.length
  · by_cases hM : out.length = M
    · rcases hfull i (castL out) tk hi (by rw [hcl]; exact hM) h3 with e | e
      · refine .inr ⟨_, k - 1, e, ⟨i + 1, out, tk, rfl, by omega, h1, by omega, by omega, ?_⟩, by omega⟩
        rw [← h4, hM, Nat.sub_self]; simp [rdy]
      · refine .inl ⟨_, e, ?_⟩
        show castL out = _
        rw [← h4, hM, Nat.sub_self]; simp [rdy]
    · have e := hgo i (castL out) tk hi (by rw [hcl]; omega) (by rw [hcl]; exact h2) h3
      have hd : l.drop i = l[i] :: l.drop (i + 1) := List.drop_eq_getElem_cons hi
      obtain ⟨m, hm⟩ : ∃ m, M - out.length = m + 1 := ⟨M - out.length - 1, by omega⟩
      rw [hd, hm, rdy_step] at h4
      cases hr : rdyOk a tk l[i] with
      | true =>
        rw [hr, cond_true] at e h4
        refine .inr ⟨_, k - 1, e, ⟨i + 1, out ++ [i], tk ++ [l[i].2.1], by simp [castL], by omega, by simp; omega, by simp; omega, by simp; omega, ?_⟩, by omega⟩
        rw [← h4, List.append_assoc]
        congr 1
        rw [show M - (out ++ [i]).length = m by simp; omega]; rfl
      | false =>
        rw [hr, cond_false] at e h4
        refine .inr ⟨_, k - 1, e, ⟨i + 1, out, tk, rfl, by omega, h1, by omega, by omega, ?_⟩, by omega⟩
        rw [← h4, hm]
  · have hie : i = l.length := by omega
    subst hie
    refine .inl ⟨_, hend _ _, ?_⟩
    show castL out = _
    rw [← h4, List.drop_length, rdy_nil, List.append_nil]

end Go.Ev.N
