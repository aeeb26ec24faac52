/- FnExactDepotNew, as a plain law over native forms: what the program's function answers is what the reference's answers. Conditions: none but the lengths' and numbers' bounds. -/
import Derived.Test.YtjbfgbgibmebfaaFnExactDepotNewNat
namespace Go.Ev.N
open Go Go.Ev
set_option linter.unusedVariables false
set_option linter.unusedSimpArgs false

theorem w64_eq {n : Int} (h1 : -9223372036854775808 ≤ n) (h2 : n ≤ 9223372036854775807) : w64 n = n := by
  unfold w64 IntKind.wrap
  simp only [IntKind.bits, IntKind.signed]
  simp
  split <;> omega
theorem w64_up {i : Int} {m : Nat} (h0 : 0 ≤ i) (h : i < (m : Int)) (hm : m ≤ 9223372036854775807) : w64 (i + 1) = i + 1 := w64_eq (by omega) (by omega)
theorem w64_nat {i m : Nat} (h : i < m) (hm : m ≤ 9223372036854775807) : w64 ((i : Int) + 1) = ((i + 1 : Nat) : Int) := by rw [w64_eq (by omega) (by omega)]; omega

theorem getI_nat {α : Type} (xs : List α) (i : Nat) : getI xs (i : Int) = xs[i]? := by
  unfold getI
  rw [if_pos (by omega)]
  simp
theorem getI_lt {α : Type} {xs : List α} {i : Nat} (h : i < xs.length) : getI xs (i : Int) = some xs[i] := by rw [getI_nat]; exact List.getElem?_eq_getElem h
theorem inb_nat {α : Type} (xs : List α) (i : Nat) : inb xs (i : Int) = decide (i < xs.length) := by
  unfold inb
  have : decide (0 ≤ (i : Int)) = true := by simp
  rw [this, Bool.true_and]
  simp
theorem inb_lt {α : Type} {xs : List α} {i : Nat} (h : i < xs.length) : inb xs (i : Int) = true := by rw [inb_nat]; simpa using h
theorem upd_is {α : Type} (l : List α) (n : Nat) (y : α) : upd l n y = l.set n y := upd_set l n y

/-! ### what comes in -/
def fI (x : Int) : Prop := IntKind.min .i64 ≤ x ∧ x ≤ IntKind.max .i64
def fB (_ : Bool) : Prop := True
def fStr (x : List UInt8) : Prop := List.length x ≤ maxLen
def fSl {α : Type} (p : α → Prop) (x : List α) : Prop := List.length x ≤ maxLen ∧ ∀ y, List.Mem y x → p y
def fP {α β : Type} (p : α → Prop) (q : β → Prop) (x : α × β) : Prop := p x.1 ∧ q x.2
theorem fI_b {x : Int} (h : fI x) : -9223372036854775808 ≤ x ∧ x ≤ 9223372036854775807 := by
  unfold fI IntKind.min IntKind.max at h
  simpa [IntKind.bits, IntKind.signed] using h
theorem fSl_len {α : Type} {p : α → Prop} {x : List α} (h : fSl p x) : x.length ≤ 9223372036854775807 := h.1
theorem fSl_mem {α : Type} {p : α → Prop} {x : List α} (h : fSl p x) {y : α} (hy : y ∈ x) : p y := h.2 y hy

/-! ### loops -/

section
variable {α γ σ β : Type}
theorem iter_go {f : α → Option (α ⊕ γ)} {x y : α} (h : f x = some (.inl y)) (n : Nat) : iter (n + 1) f x = iter n f y := by simp [iter, h]
theorem iter_end {f : α → Option (α ⊕ γ)} {x : α} {z : γ} (h : f x = some (.inr z)) (n : Nat) : iter (n + 1) f x = some z := by simp [iter, h]

/-- A loop that goes so many rounds. -/
theorem iter_steps (f : α → Option (α ⊕ γ)) (st : Nat → α) (m : Nat) (r : γ) (hs : ∀ i, i < m → f (st i) = some (.inl (st (i + 1)))) (he : f (st m) = some (.inr r)) : ∀ n, m < n → iter n f (st 0) = some r := by
  have key : ∀ d i n, i + d = m → d < n → iter n f (st i) = some r := by
    intro d
    induction d with
    | zero =>
      intro i n hi hn
      obtain ⟨n, rfl⟩ : ∃ k, n = k + 1 := ⟨n - 1, by omega⟩
      have : i = m := by omega
      subst this
      exact iter_end he n
    | succ d ih =>
      intro i n hi hn
      obtain ⟨n, rfl⟩ : ∃ k, n = k + 1 := ⟨n - 1, by omega⟩
      rw [iter_go (hs i (by omega)) n]
      exact ih (i + 1) n (by omega) (by omega)
  exact fun n hn => key m 0 n (by omega) hn

/-- A loop over a list, with a state: what it answers is told by recursion on what is left. -/
theorem iter_rec (f : α → Option (α ⊕ γ)) (st : Nat → σ → α) (xs : List β) (G : List β → σ → γ) (Inv : Nat → σ → Prop)
    (hend : ∀ s, Inv xs.length s → f (st xs.length s) = some (.inr (G [] s)))
    (hstep : ∀ i x l s, i < xs.length → xs[i]? = some x → xs.drop i = x :: l → xs.drop (i + 1) = l → Inv i s → (∃ s', f (st i s) = some (.inl (st (i + 1) s')) ∧ Inv (i + 1) s' ∧ G (x :: l) s = G l s') ∨ f (st i s) = some (.inr (G (x :: l) s))) :
    ∀ n, xs.length < n → ∀ s, Inv 0 s → iter n f (st 0 s) = some (G xs s) := by
  have key : ∀ d i n s, i + d = xs.length → d < n → Inv i s → iter n f (st i s) = some (G (xs.drop i) s) := by
    intro d
    induction d with
    | zero =>
      intro i n s hi hn hI
      obtain ⟨n, rfl⟩ : ∃ k, n = k + 1 := ⟨n - 1, by omega⟩
      have : i = xs.length := by omega
      subst this
      rw [iter_end (hend s hI) n, List.drop_length]
    | succ d ih =>
      intro i n s hi hn hI
      obtain ⟨n, rfl⟩ : ∃ k, n = k + 1 := ⟨n - 1, by omega⟩
      have hlt : i < xs.length := by omega
      have hd : xs.drop i = xs[i] :: xs.drop (i + 1) := List.drop_eq_getElem_cons hlt
      rcases hstep i xs[i] (xs.drop (i + 1)) s hlt (List.getElem?_eq_getElem hlt) hd rfl hI with ⟨s', h1, h2, h3⟩ | h1
      · rw [iter_go h1 n, ih (i + 1) n s' (by omega) (by omega) h2, hd, h3]
      · rw [iter_end h1 n, hd]
  intro n hn s hI
  have := key xs.length 0 n s (by omega) hn hI
  simpa using this
/-- The same where the state is the number of the round alone. -/
theorem iter_list (f : Int → Option (Int ⊕ γ)) (xs : List β) (G : List β → List β → γ) (hend : f (xs.length : Int) = some (.inr (G xs [])))
    (hstep : ∀ i x l p, i < xs.length → xs[i]? = some x → xs = p ++ x :: l → p.length = i → p = xs.take i → (f (i : Int) = some (.inl ((i + 1 : Nat) : Int)) ∧ G p (x :: l) = G (p ++ [x]) l) ∨ f (i : Int) = some (.inr (G p (x :: l)))) :
    ∀ n, xs.length < n → iter n f 0 = some (G [] xs) := by
  intro n hn
  refine iter_rec (σ := List β) f (fun i _ => (i : Int)) xs (fun l p => G p l) (fun i p => p = xs.take i) (fun s hs => ?_) (fun i x l s h1 h2 h3 h4 h5 => ?_) n hn [] (by simp)
  · have : s = xs := by rw [hs]; simp
    rw [this]; exact hend
  · have hlen : s.length = i := by rw [h5]; simp; omega
    have hx : xs = s ++ x :: l := by rw [← h3, h5, List.take_append_drop]
    rcases hstep i x l s h1 h2 hx hlen h5 with ⟨q1, q2⟩ | q1
    · refine .inl ⟨s ++ [x], q1, ?_, q2⟩
      have hxi : x = xs[i] := by rw [List.getElem?_eq_getElem h1] at h2; exact (Option.some.inj h2).symm
      rw [h5, List.take_succ_eq_append_getElem h1, hxi]
    · exact .inr q1
end

/-- A loop that asks the same of each element. -/
theorem all_loop {β : Type} (f : Int → Option (Int ⊕ (Int ⊕ Bool))) (xs : List β) (P : β → Bool) (hs : ∀ (i : Nat) (x : β), i < xs.length → xs[i]? = some x → f (i : Int) = some (bif P x then .inl ((i + 1 : Nat) : Int) else .inr (.inr false)))
    (he : f (xs.length : Int) = some (.inr (.inl (xs.length : Int)))) : ∀ n, xs.length < n → iter n f 0 = some (bif xs.all P then .inl (xs.length : Int) else .inr false) := by
  intro n hn
  refine iter_list f xs (fun p l => bif l.all P then .inl (xs.length : Int) else .inr false) ?_ ?_ n hn
  · rw [he]; simp
  · intro i x l p h1 h2 h3 h4 h5
    rw [hs i x h1 h2]
    cases hp : P x with
    | true => exact .inl ⟨by simp, by simp [hp]⟩
    | false => exact .inr (by simp [hp])

/-! ### conditions that stand as ways -/
theorem or1 (b c : Bool) : (bif b then some true else some c) = some (b || c) := by cases b <;> rfl
theorem and1 (b c : Bool) : (bif b then some c else some false) = some (b && c) := by cases b <;> rfl
theorem andn (b c : Bool) : (bif b then some false else some c) = some (!b && c) := by cases b <;> rfl
theorem orn (b c : Bool) : (bif b then some c else some true) = some (!b || c) := by cases b <;> rfl
theorem cond_some {α : Type} (b : Bool) (x y : α) : (bif b then some x else some y) = some (bif b then x else y) := by cases b <;> rfl

/-! ### copies -/

/-- A loop that copies. -/
theorem copy_ok {β : Type} (L : Int × List β → Option ((Int × List β) ⊕ (Int × List β))) (xs : List β) (z : β)
    (hL : ∀ (i : Nat) (h : i < xs.length) (out : List β), out.length = xs.length → L ((i : Int), out) = some (.inl (((i + 1 : Nat) : Int), out.set i xs[i]))) (hend : ∀ out, L ((xs.length : Int), out) = some (.inr ((xs.length : Int), out))) :
    ∀ n, xs.length < n → iter n L (0, List.replicate xs.length z) = some ((xs.length : Int), xs) := by
  intro n hn
  have := iter_rec (σ := List β) L (fun i s => ((i : Int), s)) xs (fun l s => ((xs.length : Int), s.take (xs.length - l.length) ++ l)) (fun i s => s.length = xs.length ∧ s.take i = xs.take i)
    (fun s hs => by
      rw [hend s, show s.take (xs.length - ([] : List β).length) ++ [] = s by simp [← hs.1]])
    (fun i x l s h1 h2 h3 h4 h5 => by
      left
      have hx : xs[i] = x := by rw [List.getElem?_eq_getElem h1] at h2; exact Option.some.inj h2
      refine ⟨s.set i xs[i], hL i h1 s h5.1, ⟨by simp [h5.1], ?_⟩, ?_⟩
      · rw [List.take_succ_eq_append_getElem h1, List.take_succ_eq_append_getElem (by simp [h5.1]; exact h1)]
        congr 1
        · rw [List.take_set_of_le (Nat.le_refl i), h5.2]
        · simp
      · have hl : l.length = xs.length - (i + 1) := by rw [← h4]; simp
        congr 1
        rw [List.length_cons, hl, show xs.length - (xs.length - (i + 1) + 1) = i by omega, show xs.length - (xs.length - (i + 1)) = i + 1 by omega]
        rw [List.take_succ_eq_append_getElem (by simp [h5.1]; exact h1), List.take_set_of_le (Nat.le_refl i)]
        simp [hx])
    n hn (List.replicate xs.length z) ⟨by simp, by simp⟩
  simpa using this

/-! ### the largest number of rounds -/
def BIG : Nat := 18446744073709551616
theorem maxLen_eq : maxLen = 9223372036854775807 := rfl

section
variable {β : Type}
open Classical in
/-- What one element becomes ('E': what is known of it). -/
noncomputable def mkOne (E : Int → β → Int → β → Prop) (k : Int) (x : β) : Int × β := if h : ∃ p : Int × β, E k x p.1 p.2 then h.choose else (k, x)
theorem mkOne_ok {E : Int → β → Int → β → Prop} {k : Int} {x : β} (h : ∃ k' x', E k x k' x') : E k x (mkOne E k x).1 (mkOne E k x).2 := by
  have h' : ∃ p : Int × β, E k x p.1 p.2 := let ⟨a, b, c⟩ := h; ⟨(a, b), c⟩
  unfold mkOne
  rw [dif_pos h']
  exact h'.choose_spec
noncomputable def mkAll (E : Int → β → Int → β → Prop) : Int → List β → Int × List β
  | k, [] => (k, [])
  | k, x :: l => ((mkAll E (mkOne E k x).1 l).1, (mkOne E k x).2 :: (mkAll E (mkOne E k x).1 l).2)
theorem mkAll_len (E : Int → β → Int → β → Prop) : ∀ (l : List β) (k : Int), (mkAll E k l).2.length = l.length
  | [], k => rfl
  | x :: l, k => by simp [mkAll, mkAll_len E l]

/-- A loop that marks a row. -/
theorem mark_only (L : Int × Int × List β → Option ((Int × Int × List β) ⊕ (Int × Int × List β))) (sm sm' : β → Prop) (c : Nat) (xs : List β) (hx : ∀ x ∈ xs, sm x) (hlen : xs.length ≤ 1048576)
    (k0 : Int) (h0 : 0 ≤ k0) (hb : k0 + (c : Int) * (xs.length : Int) ≤ 4611686018427387904)
    (hstep : ∀ (k : Int) (x : β), 0 ≤ k → k + (c : Int) ≤ 4611686018427387904 → sm x → ∃ k' x', k ≤ k' ∧ k' ≤ k + c ∧ sm' x' ∧
      (∀ (i : Nat) (ys : List β), i < ys.length → ys.length ≤ 1048576 → ys[i]? = some x → L (k, (i : Int), ys) = some (.inl (k', ((i + 1 : Nat) : Int), ys.set i x'))))
    (hL : ∀ (k : Int) (ys : List β), L (k, (ys.length : Int), ys) = some (.inr (k, (ys.length : Int), ys))) :
    ∀ n, xs.length < n → ∃ k' xs', iter n L (k0, 0, xs) = some (k', (xs.length : Int), xs') ∧ xs'.length = xs.length ∧ k0 ≤ k' ∧ k' ≤ k0 + (c : Int) * (xs.length : Int) ∧ (∀ x ∈ xs', sm' x) := by
  intro n hn
  let E : Int → β → Int → β → Prop := fun k x k' x' => k ≤ k' ∧ k' ≤ k + c ∧ sm' x' ∧
      (∀ (i : Nat) (ys : List β), i < ys.length → ys.length ≤ 1048576 → ys[i]? = some x → L (k, (i : Int), ys) = some (.inl (k', ((i + 1 : Nat) : Int), ys.set i x')))
  have hone : ∀ k x, 0 ≤ k → k + (c : Int) ≤ 4611686018427387904 → sm x → E k x (mkOne E k x).1 (mkOne E k x).2 := fun k x h1 h2 h3 => mkOne_ok (hstep k x h1 h2 h3)
  have bnd : ∀ (l : List β) (k : Int), (∀ x ∈ l, sm x) → 0 ≤ k → k + (c : Int) * (l.length : Int) ≤ 4611686018427387904 → k ≤ (mkAll E k l).1 ∧ (mkAll E k l).1 ≤ k + (c : Int) * (l.length : Int) ∧ ∀ y ∈ (mkAll E k l).2, sm' y := by
    intro l
    induction l with
    | nil => intro k _ h1 h2; simp [mkAll]
    | cons x l ih =>
      intro k hs h1 h2
      have hc : (c : Int) * ((x :: l).length : Int) = c + (c : Int) * (l.length : Int) := by simp [Int.mul_add]; omega
      rw [hc] at h2
      have hcl : 0 ≤ (c : Int) * (l.length : Int) := Int.mul_nonneg (by omega) (by omega)
      obtain ⟨e1, e2, e3, _⟩ := hone k x h1 (by omega) (hs x (by simp))
      obtain ⟨i1, i2, i3⟩ := ih (mkOne E k x).1 (fun y hy => hs y (by simp [hy])) (by omega) (by omega)
      refine ⟨?_, ?_, ?_⟩
      · show k ≤ (mkAll E (mkOne E k x).1 l).1; omega
      · show (mkAll E (mkOne E k x).1 l).1 ≤ _
        rw [hc]; omega
      · intro y hy
        rcases List.mem_cons.1 (show y ∈ (mkOne E k x).2 :: (mkAll E (mkOne E k x).1 l).2 from hy) with rfl | hy
        · exact e3
        · exact i3 y hy
  obtain ⟨b1, b2, b3⟩ := bnd xs k0 hx h0 hb
  have hdrop : ∀ i x l, xs.drop i = x :: l → sm x ∧ ∀ y ∈ l, sm y := by
    intro i x l hd
    have : ∀ y ∈ x :: l, sm y := fun y hy => hx y (List.mem_of_mem_drop (hd ▸ hy))
    exact ⟨this x (by simp), fun y hy => this y (by simp [hy])⟩
  refine ⟨(mkAll E k0 xs).1, (mkAll E k0 xs).2, ?_, mkAll_len E xs k0, b1, b2, b3⟩
  have := iter_rec (σ := Int × List β) L (fun i s => (s.1, (i : Int), s.2)) xs (fun l s => ((mkAll E s.1 l).1, (xs.length : Int), s.2.take (xs.length - l.length) ++ (mkAll E s.1 l).2))
      (fun i s => s.2.length = xs.length ∧ s.2.drop i = xs.drop i ∧ 0 ≤ s.1 ∧ s.1 + (c : Int) * ((xs.length - i : Nat) : Int) ≤ 4611686018427387904)
      (fun s hs => by
        have := hL s.1 s.2
        rw [hs.1] at this
        rw [this]
        simp [mkAll, ← hs.1])
      (fun i x l s h1 h2 h3 h4 h5 => by
        left
        obtain ⟨q1, q2, q3, q4⟩ := h5
        have hll : l.length = xs.length - (i + 1) := by rw [← h4]; simp
        have hsub : xs.length - i = (xs.length - (i + 1)) + 1 := by omega
        have hc : (c : Int) * ((xs.length - i : Nat) : Int) = c + (c : Int) * ((xs.length - (i + 1) : Nat) : Int) := by rw [hsub]; simp [Int.mul_add]; omega
        rw [hc] at q4
        have hcl : 0 ≤ (c : Int) * ((xs.length - (i + 1) : Nat) : Int) := Int.mul_nonneg (by omega) (by omega)
        obtain ⟨e1, e2, e3, e4⟩ := hone s.1 x q3 (by omega) (hdrop i x l h3).1
        have hsi : s.2[i]? = some x := by
          have := congrArg (fun l => l[0]?) (q2.trans h3)
          simpa using this
        refine ⟨((mkOne E s.1 x).1, s.2.set i (mkOne E s.1 x).2), e4 i s.2 (by omega) (by omega) hsi, ⟨by simp [q1], ?_, by omega, by omega⟩, ?_⟩
        · show (s.2.set i (mkOne E s.1 x).2).drop (i + 1) = _
          rw [List.drop_set_of_lt (by omega)]
          have := congrArg (List.drop 1) q2
          simpa using this
        · show (((mkAll E (mkOne E s.1 x).1 l).1, (xs.length : Int), s.2.take (xs.length - (l.length + 1)) ++ (mkOne E s.1 x).2 :: (mkAll E (mkOne E s.1 x).1 l).2) : Int × Int × List β) = ((mkAll E (mkOne E s.1 x).1 l).1, (xs.length : Int), (s.2.set i (mkOne E s.1 x).2).take (xs.length - l.length) ++ (mkAll E (mkOne E s.1 x).1 l).2)
          rw [hll, show xs.length - (xs.length - (i + 1) + 1) = i by omega, show xs.length - (xs.length - (i + 1)) = i + 1 by omega]
          rw [List.take_succ_eq_append_getElem (by simp [q1]; exact h1), List.take_set_of_le (Nat.le_refl i)]
          simp)
      n hn (k0, xs) ⟨rfl, rfl, h0, by simpa using hb⟩
  simpa using this

/-- A loop that marks a row, and one that reads the marks. 'c': how much an element counts at most. -/
theorem mark_loop {γ : Type} (L : Int × Int × List β → Option ((Int × Int × List β) ⊕ (Int × Int × List β))) (H : List β → Int × Int → Option ((Int × Int) ⊕ ((Int × Int) ⊕ γ))) (sm sm' : β → Prop) (c : Nat) (xs : List β) (hx : ∀ x ∈ xs, sm x) (hlen : xs.length ≤ 1048576)
    (k0 : Int) (h0 : 0 ≤ k0) (hb : k0 + (c : Int) * (xs.length : Int) ≤ 4611686018427387904)
    (hstep : ∀ (k : Int) (x : β), 0 ≤ k → k + (c : Int) ≤ 4611686018427387904 → sm x → ∃ k' x', k ≤ k' ∧ k' ≤ k + c ∧ sm' x' ∧
      (∀ (i : Nat) (ys : List β), i < ys.length → ys.length ≤ 1048576 → ys[i]? = some x → L (k, (i : Int), ys) = some (.inl (k', ((i + 1 : Nat) : Int), ys.set i x'))) ∧
      (∀ (i : Nat) (ys : List β), i < ys.length → ys.length ≤ 1048576 → ys[i]? = some x' → H ys (k, (i : Int)) = some (.inl (k', ((i + 1 : Nat) : Int)))))
    (hL : ∀ (k : Int) (ys : List β), L (k, (ys.length : Int), ys) = some (.inr (k, (ys.length : Int), ys))) (hH : ∀ (k : Int) (ys : List β), H ys (k, (ys.length : Int)) = some (.inr (.inl (k, (ys.length : Int))))) :
    ∀ n, xs.length < n → ∃ k' xs', iter n L (k0, 0, xs) = some (k', (xs.length : Int), xs') ∧ xs'.length = xs.length ∧ k0 ≤ k' ∧ k' ≤ k0 + (c : Int) * (xs.length : Int) ∧ (∀ x ∈ xs', sm' x) ∧ iter n (H xs') (k0, 0) = some (.inl (k', (xs.length : Int))) := by
  intro n hn
  let E : Int → β → Int → β → Prop := fun k x k' x' => k ≤ k' ∧ k' ≤ k + c ∧ sm' x' ∧
      (∀ (i : Nat) (ys : List β), i < ys.length → ys.length ≤ 1048576 → ys[i]? = some x → L (k, (i : Int), ys) = some (.inl (k', ((i + 1 : Nat) : Int), ys.set i x'))) ∧
      (∀ (i : Nat) (ys : List β), i < ys.length → ys.length ≤ 1048576 → ys[i]? = some x' → H ys (k, (i : Int)) = some (.inl (k', ((i + 1 : Nat) : Int))))
  have hone : ∀ k x, 0 ≤ k → k + (c : Int) ≤ 4611686018427387904 → sm x → E k x (mkOne E k x).1 (mkOne E k x).2 := fun k x h1 h2 h3 => mkOne_ok (hstep k x h1 h2 h3)
  have bnd : ∀ (l : List β) (k : Int), (∀ x ∈ l, sm x) → 0 ≤ k → k + (c : Int) * (l.length : Int) ≤ 4611686018427387904 → k ≤ (mkAll E k l).1 ∧ (mkAll E k l).1 ≤ k + (c : Int) * (l.length : Int) ∧ ∀ y ∈ (mkAll E k l).2, sm' y := by
    intro l
    induction l with
    | nil => intro k _ h1 h2; simp [mkAll]
    | cons x l ih =>
      intro k hs h1 h2
      have hc : (c : Int) * ((x :: l).length : Int) = c + (c : Int) * (l.length : Int) := by simp [Int.mul_add]; omega
      rw [hc] at h2
      have hcl : 0 ≤ (c : Int) * (l.length : Int) := Int.mul_nonneg (by omega) (by omega)
      obtain ⟨e1, e2, e3, _, _⟩ := hone k x h1 (by omega) (hs x (by simp))
      obtain ⟨i1, i2, i3⟩ := ih (mkOne E k x).1 (fun y hy => hs y (by simp [hy])) (by omega) (by omega)
      refine ⟨?_, ?_, ?_⟩
      · show k ≤ (mkAll E (mkOne E k x).1 l).1; omega
      · show (mkAll E (mkOne E k x).1 l).1 ≤ _
        rw [hc]; omega
      · intro y hy
        rcases List.mem_cons.1 (show y ∈ (mkOne E k x).2 :: (mkAll E (mkOne E k x).1 l).2 from hy) with rfl | hy
        · exact e3
        · exact i3 y hy
  obtain ⟨b1, b2, b3⟩ := bnd xs k0 hx h0 hb
  have hdrop : ∀ i x l, xs.drop i = x :: l → sm x ∧ ∀ y ∈ l, sm y := by
    intro i x l hd
    have : ∀ y ∈ x :: l, sm y := fun y hy => hx y (List.mem_of_mem_drop (hd ▸ hy))
    exact ⟨this x (by simp), fun y hy => this y (by simp [hy])⟩
  refine ⟨(mkAll E k0 xs).1, (mkAll E k0 xs).2, ?_, mkAll_len E xs k0, b1, b2, b3, ?_⟩
  · have := iter_rec (σ := Int × List β) L (fun i s => (s.1, (i : Int), s.2)) xs (fun l s => ((mkAll E s.1 l).1, (xs.length : Int), s.2.take (xs.length - l.length) ++ (mkAll E s.1 l).2))
      (fun i s => s.2.length = xs.length ∧ s.2.drop i = xs.drop i ∧ 0 ≤ s.1 ∧ s.1 + (c : Int) * ((xs.length - i : Nat) : Int) ≤ 4611686018427387904)
      (fun s hs => by
        have := hL s.1 s.2
        rw [hs.1] at this
        rw [this]
        simp [mkAll, ← hs.1])
      (fun i x l s h1 h2 h3 h4 h5 => by
        left
        obtain ⟨q1, q2, q3, q4⟩ := h5
        have hll : l.length = xs.length - (i + 1) := by rw [← h4]; simp
        have hsub : xs.length - i = (xs.length - (i + 1)) + 1 := by omega
        have hc : (c : Int) * ((xs.length - i : Nat) : Int) = c + (c : Int) * ((xs.length - (i + 1) : Nat) : Int) := by rw [hsub]; simp [Int.mul_add]; omega
        rw [hc] at q4
        have hcl : 0 ≤ (c : Int) * ((xs.length - (i + 1) : Nat) : Int) := Int.mul_nonneg (by omega) (by omega)
        obtain ⟨e1, e2, e3, e4, e5⟩ := hone s.1 x q3 (by omega) (hdrop i x l h3).1
        have hsi : s.2[i]? = some x := by
          have := congrArg (fun l => l[0]?) (q2.trans h3)
          simpa using this
        refine ⟨((mkOne E s.1 x).1, s.2.set i (mkOne E s.1 x).2), e4 i s.2 (by omega) (by omega) hsi, ⟨by simp [q1], ?_, by omega, by omega⟩, ?_⟩
        · show (s.2.set i (mkOne E s.1 x).2).drop (i + 1) = _
          rw [List.drop_set_of_lt (by omega)]
          have := congrArg (List.drop 1) q2
          simpa using this
        · show (((mkAll E (mkOne E s.1 x).1 l).1, (xs.length : Int), s.2.take (xs.length - (l.length + 1)) ++ (mkOne E s.1 x).2 :: (mkAll E (mkOne E s.1 x).1 l).2) : Int × Int × List β) = ((mkAll E (mkOne E s.1 x).1 l).1, (xs.length : Int), (s.2.set i (mkOne E s.1 x).2).take (xs.length - l.length) ++ (mkAll E (mkOne E s.1 x).1 l).2)
          rw [hll, show xs.length - (xs.length - (i + 1) + 1) = i by omega, show xs.length - (xs.length - (i + 1)) = i + 1 by omega]
          rw [List.take_succ_eq_append_getElem (by simp [q1]; exact h1), List.take_set_of_le (Nat.le_refl i)]
          simp)
      n hn (k0, xs) ⟨rfl, rfl, h0, by simpa using hb⟩
    simpa using this
  · have hxl : (mkAll E k0 xs).2.length = xs.length := mkAll_len E xs k0
    have := iter_rec (σ := Int) (H (mkAll E k0 xs).2) (fun i k => (k, (i : Int))) xs (fun l k => (.inl ((mkAll E k l).1, (xs.length : Int)) : (Int × Int) ⊕ γ))
      (fun i k => (mkAll E k0 xs).2.drop i = (mkAll E k (xs.drop i)).2 ∧ 0 ≤ k ∧ k + (c : Int) * ((xs.length - i : Nat) : Int) ≤ 4611686018427387904)
      (fun k hk => by
        have := hH k (mkAll E k0 xs).2
        rw [hxl] at this
        rw [this]; simp [mkAll])
      (fun i x l k h1 h2 h3 h4 h5 => by
        left
        obtain ⟨q2, q3, q4⟩ := h5
        have hsub : xs.length - i = (xs.length - (i + 1)) + 1 := by omega
        have hc : (c : Int) * ((xs.length - i : Nat) : Int) = c + (c : Int) * ((xs.length - (i + 1) : Nat) : Int) := by rw [hsub]; simp [Int.mul_add]; omega
        rw [hc] at q4
        have hcl : 0 ≤ (c : Int) * ((xs.length - (i + 1) : Nat) : Int) := Int.mul_nonneg (by omega) (by omega)
        obtain ⟨e1, e2, e3, e4, e5⟩ := hone k x q3 (by omega) (hdrop i x l h3).1
        rw [h3] at q2
        have q2 : (mkAll E k0 xs).2.drop i = (mkOne E k x).2 :: (mkAll E (mkOne E k x).1 l).2 := q2
        have hsi : (mkAll E k0 xs).2[i]? = some (mkOne E k x).2 := by
          have := congrArg (fun l => l[0]?) q2
          simpa using this
        refine ⟨(mkOne E k x).1, e5 i _ (by omega) (by omega) hsi, ⟨?_, by omega, by omega⟩, rfl⟩
        have := congrArg (List.drop 1) q2
        rw [h4]
        simpa using this)
      n hn k0 ⟨rfl, h0, by simpa using hb⟩
    simpa using this

/-- A loop that counts how much is left. -/
theorem sz_loop (L : Int × Int → Option ((Int × Int) ⊕ ((Int × Int) ⊕ Int))) (xs : List β) (sm : β → Prop)
    (hstep : ∀ (i : Nat) (x : β) (left : Int), i < xs.length → xs[i]? = some x → 0 ≤ left → left ≤ 1048576 → (∃ r, L (left, (i : Int)) = some (.inl (r, ((i + 1 : Nat) : Int))) ∧ 0 ≤ r ∧ r ≤ left ∧ sm x) ∨ ∃ r, L (left, (i : Int)) = some (.inr (.inr r)) ∧ r < 0)
    (hend : ∀ left, L (left, (xs.length : Int)) = some (.inr (.inl (left, (xs.length : Int))))) : ∀ n, xs.length < n → ∀ left : Int, 0 ≤ left → left ≤ 1048576 →
    (∃ r, iter n L (left, 0) = some (.inr r) ∧ r < 0) ∨ ∃ r, iter n L (left, 0) = some (.inl (r, (xs.length : Int))) ∧ 0 ≤ r ∧ r ≤ left ∧ ∀ x ∈ xs, sm x := by
  have key : ∀ d i n (left : Int), i + d = xs.length → d < n → 0 ≤ left → left ≤ 1048576 → (∃ r, iter n L (left, (i : Int)) = some (.inr r) ∧ r < 0) ∨ ∃ r, iter n L (left, (i : Int)) = some (.inl (r, (xs.length : Int))) ∧ 0 ≤ r ∧ r ≤ left ∧ ∀ x ∈ xs.drop i, sm x := by
    intro d
    induction d with
    | zero =>
      intro i n left hi hn h0 h1
      obtain ⟨n, rfl⟩ : ∃ k, n = k + 1 := ⟨n - 1, by omega⟩
      have : i = xs.length := by omega
      subst this
      exact .inr ⟨left, iter_end (hend left) n, h0, Int.le_refl _, by simp⟩
    | succ d ih =>
      intro i n left hi hn h0 h1
      obtain ⟨n, rfl⟩ : ∃ k, n = k + 1 := ⟨n - 1, by omega⟩
      have hlt : i < xs.length := by omega
      rcases hstep i xs[i] left hlt (List.getElem?_eq_getElem hlt) h0 h1 with ⟨r, e, r0, r1, hs⟩ | ⟨r, e, r0⟩
      · rw [iter_go e n]
        rcases ih (i + 1) n r (by omega) (by omega) r0 (by omega) with ⟨q, e2, q0⟩ | ⟨q, e2, q0, q1, q2⟩
        · exact .inl ⟨q, e2, q0⟩
        · refine .inr ⟨q, e2, q0, by omega, ?_⟩
          rw [List.drop_eq_getElem_cons hlt]
          intro x hx
          rcases List.mem_cons.1 hx with rfl | hx
          · exact hs
          · exact q2 x hx
      · exact .inl ⟨r, iter_end e n, r0⟩
  intro n hn left h0 h1
  have := key xs.length 0 n left (by omega) hn h0 h1
  simpa using this
end

theorem make_ok (m : Nat) (h : m ≤ 1048576) : (decide (0 ≤ (m : Int)) && decide ((m : Int) ≤ (maxRow : Int)) && decide ((m : Int) = (m : Int))) = true := by
  have hm : maxRow = 68719476736 := rfl
  have h2 : decide ((m : Int) ≤ (maxRow : Int)) = true := by rw [hm]; simp; omega
  rw [h2]; simp
theorem modify_set {α : Type} (xs : List α) (i : Nat) (f : α → α) (h : i < xs.length) : List.modify xs i f = xs.set i (f xs[i]) := by
  apply List.ext_getElem
  · simp
  · intro j h1 h2
    rw [List.getElem_modify, List.getElem_set]
    by_cases e : i = j
    · subst e; simp
    · simp [e]


def sm_ItemS (a : List (Int × Int)) : Prop := a.length ≤ 1048576

def sm_PickS (a : List (Int × Int × Int)) : Prop := a.length ≤ 1048576

def sm_Order (a : Int × Int × (List (Int × Int)) × (List (Int × Int × Int)) × Int) : Prop := sm_ItemS a.2.2.1 ∧ sm_PickS a.2.2.2.1

def sm_OrderS (a : List (Int × Int × (List (Int × Int)) × (List (Int × Int × Int)) × Int)) : Prop := a.length ≤ 1048576 ∧ ∀ y ∈ a, sm_Order y

def sm_Book (a : Int × (List (Int × Int × (List (Int × Int)) × (List (Int × Int × Int)) × Int))) : Prop := sm_OrderS a.2

theorem laws_eqItemS_ok (a : List (Int × Int)) (h : sm_ItemS a) (n : Nat) (hn : BIG ≤ n) : laws_eqItemS n a a = some true := by
  have hl : a.length ≤ 1048576 := h
  have hc := iter_steps (laws_eqItemS_L1 a a) (fun i => (i : Int)) a.length (.inl (a.length : Int)) (fun i hi => by
    simp [laws_eqItemS_L1, hi, getI_lt hi, laws_eqItem, w64_nat hi (by omega)]) (by simp [laws_eqItemS_L1]) n (by unfold BIG at hn; omega)
  unfold laws_eqItemS
  rw [show ((a.length : Int) != (a.length : Int)) = false by simp, cond_false]
  rw [show ((0 : Nat) : Int) = 0 from rfl] at hc
  rw [hc]; rfl


theorem laws_eqPickS_ok (a : List (Int × Int × Int)) (h : sm_PickS a) (n : Nat) (hn : BIG ≤ n) : laws_eqPickS n a a = some true := by
  have hl : a.length ≤ 1048576 := h
  have hc := iter_steps (laws_eqPickS_L1 a a) (fun i => (i : Int)) a.length (.inl (a.length : Int)) (fun i hi => by
    simp [laws_eqPickS_L1, hi, getI_lt hi, laws_eqPick, w64_nat hi (by omega)]) (by simp [laws_eqPickS_L1]) n (by unfold BIG at hn; omega)
  unfold laws_eqPickS
  rw [show ((a.length : Int) != (a.length : Int)) = false by simp, cond_false]
  rw [show ((0 : Nat) : Int) = 0 from rfl] at hc
  rw [hc]; rfl


theorem laws_eqOrder_ok (a : Int × Int × (List (Int × Int)) × (List (Int × Int × Int)) × Int) (h : sm_Order a) (n : Nat) (hn : BIG ≤ n) : laws_eqOrder n a.1 a.2.1 a.2.2.1 a.2.2.2.1 a.2.2.2.2 a.1 a.2.1 a.2.2.1 a.2.2.2.1 a.2.2.2.2 = some true := by
  unfold laws_eqOrder
  unfold sm_Order at h
  simp [laws_eqItemS_ok a.2.2.1 h.1 n hn, laws_eqPickS_ok a.2.2.2.1 h.2 n hn]


theorem laws_eqOrderS_ok (a : List (Int × Int × (List (Int × Int)) × (List (Int × Int × Int)) × Int)) (h : sm_OrderS a) (n : Nat) (hn : BIG ≤ n) : laws_eqOrderS n a a = some true := by
  have hl : a.length ≤ 1048576 := h.1
  have hc := iter_steps (laws_eqOrderS_L1 n a a) (fun i => (i : Int)) a.length (.inl (a.length : Int)) (fun i hi => by
    have he := laws_eqOrder_ok a[i] (h.2 _ (List.getElem_mem hi)) n hn
    simp [laws_eqOrderS_L1, hi, getI_lt hi, he, w64_nat hi (by omega)]) (by simp [laws_eqOrderS_L1]) n (by unfold BIG at hn; omega)
  unfold laws_eqOrderS
  rw [show ((a.length : Int) != (a.length : Int)) = false by simp, cond_false]
  rw [show ((0 : Nat) : Int) = 0 from rfl] at hc
  rw [hc]; rfl


theorem laws_eqBook_ok (a : Int × (List (Int × Int × (List (Int × Int)) × (List (Int × Int × Int)) × Int))) (h : sm_Book a) (n : Nat) (hn : BIG ≤ n) : laws_eqBook n a.1 a.2 a.1 a.2 = some true := by
  unfold laws_eqBook
  unfold sm_Book at h
  simp [laws_eqOrderS_ok a.2 h n hn]


theorem laws_markItemS_ok (a : List (Int × Int)) (h : sm_ItemS a) (k : Int) (h0 : 0 ≤ k) (h1 : k + 2097152 ≤ 4611686018427387904) (n : Nat) (hn : BIG ≤ n) : ∃ k' a', laws_markItemS n a k = some (k', a') ∧ k ≤ k' ∧ k' ≤ k + 2097152 ∧ sm_ItemS a' ∧ laws_heldItemS n a' k = some k' := by
  have hl : a.length ≤ 1048576 := h
  have st : ∀ (k : Int) (x : Int × Int), 0 ≤ k → k + ((2 : Nat) : Int) ≤ 4611686018427387904 → True → ∃ k' x', k ≤ k' ∧ k' ≤ k + ((2 : Nat) : Int) ∧ True ∧ (∀ (i : Nat) (ys : List (Int × Int)), i < ys.length → ys.length ≤ 1048576 → ys[i]? = some x → laws_markItemS_L1 (k, (i : Int), ys) = some (.inl (k', ((i + 1 : Nat) : Int), ys.set i x'))) ∧ (∀ (i : Nat) (ys : List (Int × Int)), i < ys.length → ys.length ≤ 1048576 → ys[i]? = some x' → laws_heldItemS_L1 ys (k, (i : Int)) = some (.inl (k', ((i + 1 : Nat) : Int)))) := by
    intro k x h0 h1 _
    refine ⟨k + 2, (k, (k + 1)), by omega, by omega, trivial, fun i ys hi hy hx => ?_, fun i ys hi hy hx => ?_⟩
    · have hx' : ys[i] = x := by rw [List.getElem?_eq_getElem hi] at hx; exact Option.some.inj hx
      have a0 : k + 1 + 1 = k + 2 := by omega
      have a1 : k + 2 + 1 = k + 3 := by omega
      have a2 : k + 3 + 1 = k + 4 := by omega
      have a3 : k + 4 + 1 = k + 5 := by omega
      simp [laws_markItemS_L1, hi, inb_nat, upd_is, modify_set, w64_nat hi (by omega), w64_eq (n := k + 1) (by omega) (by omega), w64_eq (n := k + 2) (by omega) (by omega), a0, a1, a2, a3]
    · have hx' : ys[i] = (k, (k + 1)) := by rw [List.getElem?_eq_getElem hi] at hx; exact Option.some.inj hx
      have a0 : k + 1 + 1 = k + 2 := by omega
      have a1 : k + 2 + 1 = k + 3 := by omega
      have a2 : k + 3 + 1 = k + 4 := by omega
      have a3 : k + 4 + 1 = k + 5 := by omega
      simp [laws_heldItemS_L1, hi, getI_lt hi, hx', w64_nat hi (by omega), w64_eq (n := k + 1) (by omega) (by omega), w64_eq (n := k + 2) (by omega) (by omega), a0, a1, a2, a3]
  obtain ⟨k', a', e1, e2, e3, e4, _, e5⟩ := mark_loop (γ := Int) laws_markItemS_L1 laws_heldItemS_L1 (fun _ => True) (fun _ => True) 2 a (fun _ _ => trivial) hl k h0 (by omega) st (fun k ys => by simp [laws_markItemS_L1]) (fun k ys => by simp [laws_heldItemS_L1]) n (by unfold BIG at hn; omega)
  refine ⟨k', a', ?_, e3, by omega, by unfold sm_ItemS; omega, ?_⟩
  · unfold laws_markItemS; rw [e1]; rfl
  · unfold laws_heldItemS; rw [e5]; rfl


theorem laws_markItemS_only (a : List (Int × Int)) (h : sm_ItemS a) (k : Int) (h0 : 0 ≤ k) (h1 : k + 2097152 ≤ 4611686018427387904) (n : Nat) (hn : BIG ≤ n) : ∃ k' a', laws_markItemS n a k = some (k', a') ∧ k ≤ k' ∧ k' ≤ k + 2097152 ∧ sm_ItemS a' := by
  have hl : a.length ≤ 1048576 := h
  have st : ∀ (k : Int) (x : Int × Int), 0 ≤ k → k + ((2 : Nat) : Int) ≤ 4611686018427387904 → True → ∃ k' x', k ≤ k' ∧ k' ≤ k + ((2 : Nat) : Int) ∧ True ∧ (∀ (i : Nat) (ys : List (Int × Int)), i < ys.length → ys.length ≤ 1048576 → ys[i]? = some x → laws_markItemS_L1 (k, (i : Int), ys) = some (.inl (k', ((i + 1 : Nat) : Int), ys.set i x'))) := by
    intro k x h0 h1 _
    refine ⟨k + 2, (k, (k + 1)), by omega, by omega, trivial, fun i ys hi hy hx => ?_⟩
    have hx' : ys[i] = x := by rw [List.getElem?_eq_getElem hi] at hx; exact Option.some.inj hx
    have a0 : k + 1 + 1 = k + 2 := by omega
    have a1 : k + 2 + 1 = k + 3 := by omega
    have a2 : k + 3 + 1 = k + 4 := by omega
    have a3 : k + 4 + 1 = k + 5 := by omega
    simp [laws_markItemS_L1, hi, inb_nat, upd_is, modify_set, w64_nat hi (by omega), w64_eq (n := k + 1) (by omega) (by omega), w64_eq (n := k + 2) (by omega) (by omega), a0, a1, a2, a3]
  obtain ⟨k', a', e1, e2, e3, e4, _⟩ := mark_only laws_markItemS_L1 (fun _ => True) (fun _ => True) 2 a (fun _ _ => trivial) hl k h0 (by omega) st (fun k ys => by simp [laws_markItemS_L1]) n (by unfold BIG at hn; omega)
  refine ⟨k', a', ?_, e3, by omega, by unfold sm_ItemS; omega⟩
  unfold laws_markItemS; rw [e1]; rfl


theorem laws_markPickS_ok (a : List (Int × Int × Int)) (h : sm_PickS a) (k : Int) (h0 : 0 ≤ k) (h1 : k + 3145728 ≤ 4611686018427387904) (n : Nat) (hn : BIG ≤ n) : ∃ k' a', laws_markPickS n a k = some (k', a') ∧ k ≤ k' ∧ k' ≤ k + 3145728 ∧ sm_PickS a' ∧ laws_heldPickS n a' k = some k' := by
  have hl : a.length ≤ 1048576 := h
  have st : ∀ (k : Int) (x : Int × Int × Int), 0 ≤ k → k + ((3 : Nat) : Int) ≤ 4611686018427387904 → True → ∃ k' x', k ≤ k' ∧ k' ≤ k + ((3 : Nat) : Int) ∧ True ∧ (∀ (i : Nat) (ys : List (Int × Int × Int)), i < ys.length → ys.length ≤ 1048576 → ys[i]? = some x → laws_markPickS_L1 (k, (i : Int), ys) = some (.inl (k', ((i + 1 : Nat) : Int), ys.set i x'))) ∧ (∀ (i : Nat) (ys : List (Int × Int × Int)), i < ys.length → ys.length ≤ 1048576 → ys[i]? = some x' → laws_heldPickS_L1 ys (k, (i : Int)) = some (.inl (k', ((i + 1 : Nat) : Int)))) := by
    intro k x h0 h1 _
    refine ⟨k + 3, (k, (k + 1), (k + 2)), by omega, by omega, trivial, fun i ys hi hy hx => ?_, fun i ys hi hy hx => ?_⟩
    · have hx' : ys[i] = x := by rw [List.getElem?_eq_getElem hi] at hx; exact Option.some.inj hx
      have a0 : k + 1 + 1 = k + 2 := by omega
      have a1 : k + 2 + 1 = k + 3 := by omega
      have a2 : k + 3 + 1 = k + 4 := by omega
      have a3 : k + 4 + 1 = k + 5 := by omega
      simp [laws_markPickS_L1, hi, inb_nat, upd_is, modify_set, w64_nat hi (by omega), w64_eq (n := k + 1) (by omega) (by omega), w64_eq (n := k + 2) (by omega) (by omega), w64_eq (n := k + 3) (by omega) (by omega), a0, a1, a2, a3]
    · have hx' : ys[i] = (k, (k + 1), (k + 2)) := by rw [List.getElem?_eq_getElem hi] at hx; exact Option.some.inj hx
      have a0 : k + 1 + 1 = k + 2 := by omega
      have a1 : k + 2 + 1 = k + 3 := by omega
      have a2 : k + 3 + 1 = k + 4 := by omega
      have a3 : k + 4 + 1 = k + 5 := by omega
      simp [laws_heldPickS_L1, hi, getI_lt hi, hx', w64_nat hi (by omega), w64_eq (n := k + 1) (by omega) (by omega), w64_eq (n := k + 2) (by omega) (by omega), w64_eq (n := k + 3) (by omega) (by omega), a0, a1, a2, a3]
  obtain ⟨k', a', e1, e2, e3, e4, _, e5⟩ := mark_loop (γ := Int) laws_markPickS_L1 laws_heldPickS_L1 (fun _ => True) (fun _ => True) 3 a (fun _ _ => trivial) hl k h0 (by omega) st (fun k ys => by simp [laws_markPickS_L1]) (fun k ys => by simp [laws_heldPickS_L1]) n (by unfold BIG at hn; omega)
  refine ⟨k', a', ?_, e3, by omega, by unfold sm_PickS; omega, ?_⟩
  · unfold laws_markPickS; rw [e1]; rfl
  · unfold laws_heldPickS; rw [e5]; rfl


theorem laws_markPickS_only (a : List (Int × Int × Int)) (h : sm_PickS a) (k : Int) (h0 : 0 ≤ k) (h1 : k + 3145728 ≤ 4611686018427387904) (n : Nat) (hn : BIG ≤ n) : ∃ k' a', laws_markPickS n a k = some (k', a') ∧ k ≤ k' ∧ k' ≤ k + 3145728 ∧ sm_PickS a' := by
  have hl : a.length ≤ 1048576 := h
  have st : ∀ (k : Int) (x : Int × Int × Int), 0 ≤ k → k + ((3 : Nat) : Int) ≤ 4611686018427387904 → True → ∃ k' x', k ≤ k' ∧ k' ≤ k + ((3 : Nat) : Int) ∧ True ∧ (∀ (i : Nat) (ys : List (Int × Int × Int)), i < ys.length → ys.length ≤ 1048576 → ys[i]? = some x → laws_markPickS_L1 (k, (i : Int), ys) = some (.inl (k', ((i + 1 : Nat) : Int), ys.set i x'))) := by
    intro k x h0 h1 _
    refine ⟨k + 3, (k, (k + 1), (k + 2)), by omega, by omega, trivial, fun i ys hi hy hx => ?_⟩
    have hx' : ys[i] = x := by rw [List.getElem?_eq_getElem hi] at hx; exact Option.some.inj hx
    have a0 : k + 1 + 1 = k + 2 := by omega
    have a1 : k + 2 + 1 = k + 3 := by omega
    have a2 : k + 3 + 1 = k + 4 := by omega
    have a3 : k + 4 + 1 = k + 5 := by omega
    simp [laws_markPickS_L1, hi, inb_nat, upd_is, modify_set, w64_nat hi (by omega), w64_eq (n := k + 1) (by omega) (by omega), w64_eq (n := k + 2) (by omega) (by omega), w64_eq (n := k + 3) (by omega) (by omega), a0, a1, a2, a3]
  obtain ⟨k', a', e1, e2, e3, e4, _⟩ := mark_only laws_markPickS_L1 (fun _ => True) (fun _ => True) 3 a (fun _ _ => trivial) hl k h0 (by omega) st (fun k ys => by simp [laws_markPickS_L1]) n (by unfold BIG at hn; omega)
  refine ⟨k', a', ?_, e3, by omega, by unfold sm_PickS; omega⟩
  unfold laws_markPickS; rw [e1]; rfl


theorem laws_markOrderS_ok (a : List (Int × Int × (List (Int × Int)) × (List (Int × Int × Int)) × Int)) (h : sm_OrderS a) (k : Int) (h0 : 0 ≤ k) (h1 : k + 5497561284608 ≤ 4611686018427387904) (n : Nat) (hn : BIG ≤ n) : ∃ k' a', laws_markOrderS n a k = some (k', a') ∧ k ≤ k' ∧ k' ≤ k + 5497561284608 ∧ sm_OrderS a' ∧ laws_heldOrderS n a' k = some k' := by
  have hl : a.length ≤ 1048576 := h.1
  have st : ∀ (k : Int) (x : Int × Int × (List (Int × Int)) × (List (Int × Int × Int)) × Int), 0 ≤ k → k + ((5242883 : Nat) : Int) ≤ 4611686018427387904 → sm_Order x → ∃ k' x', k ≤ k' ∧ k' ≤ k + ((5242883 : Nat) : Int) ∧ sm_Order x' ∧ (∀ (i : Nat) (ys : List (Int × Int × (List (Int × Int)) × (List (Int × Int × Int)) × Int)), i < ys.length → ys.length ≤ 1048576 → ys[i]? = some x → laws_markOrderS_L1 n (k, (i : Int), ys) = some (.inl (k', ((i + 1 : Nat) : Int), ys.set i x'))) ∧ (∀ (i : Nat) (ys : List (Int × Int × (List (Int × Int)) × (List (Int × Int × Int)) × Int)), i < ys.length → ys.length ≤ 1048576 → ys[i]? = some x' → laws_heldOrderS_L1 n ys (k, (i : Int)) = some (.inl (k', ((i + 1 : Nat) : Int)))) := by
    intro k x h0 h1 hx
    unfold sm_Order at hx
    obtain ⟨k0, b2, e0, l0, u0, s0, d0⟩ := laws_markItemS_ok x.2.2.1 hx.1 (k + 2) (by omega) (by omega) n hn
    obtain ⟨k1, b3, e1, l1, u1, s1, d1⟩ := laws_markPickS_ok x.2.2.2.1 hx.2 k0 (by omega) (by omega) n hn
    refine ⟨(k1 + 1), (k, (k + 1), b2, b3, k1), by omega, by omega, ⟨s0, s1⟩, fun i ys hi hy hx => ?_, fun i ys hi hy hx => ?_⟩
    · have hx' : ys[i] = x := by rw [List.getElem?_eq_getElem hi] at hx; exact Option.some.inj hx
      simp [laws_markOrderS_L1, hi, hx', inb_nat, upd_is, modify_set, w64_nat hi (by omega), w64_eq (n := k + 1) (by omega) (by omega), w64_eq (n := k + 2) (by omega) (by omega), w64_eq (n := k1 + 1) (by omega) (by omega), (show k + 1 + 1 = k + 2 by omega), e0, e1]
    have g0 : ¬ (k0 < 0) := by omega
    have g1 : ¬ (k1 < 0) := by omega
    · have hx' : ys[i] = (k, (k + 1), b2, b3, k1) := by rw [List.getElem?_eq_getElem hi] at hx; exact Option.some.inj hx
      simp [laws_heldOrderS_L1, hi, getI_lt hi, hx', w64_nat hi (by omega), w64_eq (n := k + 1) (by omega) (by omega), w64_eq (n := k + 2) (by omega) (by omega), w64_eq (n := k1 + 1) (by omega) (by omega), (show k + 1 + 1 = k + 2 by omega), d0, d1, g0, g1]
  obtain ⟨k', a', e1, e2, e3, e4, e6, e5⟩ := mark_loop (γ := Int) (laws_markOrderS_L1 n) (laws_heldOrderS_L1 n) sm_Order sm_Order 5242883 a h.2 hl k h0 (by omega) st (fun k ys => by simp [laws_markOrderS_L1]) (fun k ys => by simp [laws_heldOrderS_L1]) n (by unfold BIG at hn; omega)
  refine ⟨k', a', ?_, e3, by omega, ⟨by omega, e6⟩, ?_⟩
  · unfold laws_markOrderS; rw [e1]; rfl
  · unfold laws_heldOrderS; rw [e5]; rfl


theorem laws_markOrderS_only (a : List (Int × Int × (List (Int × Int)) × (List (Int × Int × Int)) × Int)) (h : sm_OrderS a) (k : Int) (h0 : 0 ≤ k) (h1 : k + 5497561284608 ≤ 4611686018427387904) (n : Nat) (hn : BIG ≤ n) : ∃ k' a', laws_markOrderS n a k = some (k', a') ∧ k ≤ k' ∧ k' ≤ k + 5497561284608 ∧ sm_OrderS a' := by
  have hl : a.length ≤ 1048576 := h.1
  have st : ∀ (k : Int) (x : Int × Int × (List (Int × Int)) × (List (Int × Int × Int)) × Int), 0 ≤ k → k + ((5242883 : Nat) : Int) ≤ 4611686018427387904 → sm_Order x → ∃ k' x', k ≤ k' ∧ k' ≤ k + ((5242883 : Nat) : Int) ∧ sm_Order x' ∧ (∀ (i : Nat) (ys : List (Int × Int × (List (Int × Int)) × (List (Int × Int × Int)) × Int)), i < ys.length → ys.length ≤ 1048576 → ys[i]? = some x → laws_markOrderS_L1 n (k, (i : Int), ys) = some (.inl (k', ((i + 1 : Nat) : Int), ys.set i x'))) := by
    intro k x h0 h1 hx
    unfold sm_Order at hx
    obtain ⟨k0, b2, e0, l0, u0, s0⟩ := laws_markItemS_only x.2.2.1 hx.1 (k + 2) (by omega) (by omega) n hn
    obtain ⟨k1, b3, e1, l1, u1, s1⟩ := laws_markPickS_only x.2.2.2.1 hx.2 k0 (by omega) (by omega) n hn
    refine ⟨(k1 + 1), (k, (k + 1), b2, b3, k1), by omega, by omega, ⟨s0, s1⟩, fun i ys hi hy hx => ?_⟩
    · have hx' : ys[i] = x := by rw [List.getElem?_eq_getElem hi] at hx; exact Option.some.inj hx
      simp [laws_markOrderS_L1, hi, hx', inb_nat, upd_is, modify_set, w64_nat hi (by omega), w64_eq (n := k + 1) (by omega) (by omega), w64_eq (n := k + 2) (by omega) (by omega), w64_eq (n := k1 + 1) (by omega) (by omega), (show k + 1 + 1 = k + 2 by omega), e0, e1]
  obtain ⟨k', a', e1, e2, e3, e4, e6⟩ := mark_only (laws_markOrderS_L1 n) sm_Order sm_Order 5242883 a h.2 hl k h0 (by omega) st (fun k ys => by simp [laws_markOrderS_L1]) n (by unfold BIG at hn; omega)
  refine ⟨k', a', ?_, e3, by omega, ⟨by omega, e6⟩⟩
  · unfold laws_markOrderS; rw [e1]; rfl


theorem laws_markBook_ok (a : Int × (List (Int × Int × (List (Int × Int)) × (List (Int × Int × Int)) × Int))) (h : sm_Book a) (k : Int) (h0 : 0 ≤ k) (h1 : k + 5497561284608 ≤ 4611686018427387904) (n : Nat) (hn : BIG ≤ n) : ∃ k' b1, laws_markBook n a.1 a.2 k = some (k', (a.1, b1)) ∧ k ≤ k' ∧ k' ≤ k + 5497561284608 ∧ sm_Book (a.1, b1) ∧ laws_heldBook n a.1 b1 k = some k' := by
  unfold sm_Book at h
  obtain ⟨k0, b1, e0, l0, u0, s0, d0⟩ := laws_markOrderS_ok a.2 h k (by omega) (by omega) n hn
  refine ⟨k0, b1, ?_, by omega, by omega, s0, ?_⟩
  · unfold laws_markBook
    simp only [e0, Option.bind_some]
  · unfold laws_heldBook
    rw [d0, Option.bind_some, show decide (k0 < 0) = false by simp; omega]; simp only [cond_false]


theorem laws_markBook_only (a : Int × (List (Int × Int × (List (Int × Int)) × (List (Int × Int × Int)) × Int))) (h : sm_Book a) (k : Int) (h0 : 0 ≤ k) (h1 : k + 5497561284608 ≤ 4611686018427387904) (n : Nat) (hn : BIG ≤ n) : ∃ k' b1, laws_markBook n a.1 a.2 k = some (k', (a.1, b1)) ∧ k ≤ k' ∧ k' ≤ k + 5497561284608 ∧ sm_Book (a.1, b1) := by
  unfold sm_Book at h
  obtain ⟨k0, b1, e0, l0, u0, s0⟩ := laws_markOrderS_only a.2 h k (by omega) (by omega) n hn
  refine ⟨k0, b1, ?_, by omega, by omega, s0⟩
  unfold laws_markBook
  simp only [e0, Option.bind_some]


def sm_IntS (a : List Int) : Prop := a.length ≤ 1048576

def sm_Floor (a : Int × Int × (List Int)) : Prop := sm_IntS a.2.2

def sm_StackS (a : List (Int × Int × Int)) : Prop := a.length ≤ 1048576

def sm_Pod (a : Int × Int × (List (Int × Int × Int))) : Prop := sm_StackS a.2.2

def sm_PodS (a : List (Int × Int × (List (Int × Int × Int)))) : Prop := a.length ≤ 1048576 ∧ ∀ y ∈ a, sm_Pod y

def sm_Stock (a : (List (Int × Int × (List (Int × Int × Int))))) : Prop := sm_PodS a

def sm_RobotS (a : List (Int × Int × Int × Bool × Int)) : Prop := a.length ≤ 1048576

def sm_TaskS (a : List (Int × Int × Int × Int)) : Prop := a.length ≤ 1048576

def sm_Depot (a : Int × Int × (List Int) × (List (Int × Int × (List (Int × Int × Int)))) × Int × (List (Int × Int × (List (Int × Int)) × (List (Int × Int × Int)) × Int)) × (List (Int × Int × Int × Bool × Int)) × (List (Int × Int × Int × Int)) × (List Int) × (List Int) × Int) : Prop := sm_Floor (a.1, a.2.1, a.2.2.1) ∧ sm_Stock a.2.2.2.1 ∧ sm_Book (a.2.2.2.2.1, a.2.2.2.2.2.1) ∧ sm_RobotS a.2.2.2.2.2.2.1 ∧ sm_TaskS a.2.2.2.2.2.2.2.1 ∧ sm_IntS a.2.2.2.2.2.2.2.2.1 ∧ sm_IntS a.2.2.2.2.2.2.2.2.2.1

theorem laws_toIntS_ok (a : List Int) (h : sm_IntS a) (n : Nat) (hn : BIG ≤ n) : laws_toIntS n a = some a := by
  have hl : a.length ≤ 1048576 := h
  have hc := copy_ok (laws_toIntS_L1 a) a (0 : Int) (fun i hi out ho => by
    simp [laws_toIntS_L1, hi, getI_lt hi, inb_lt (xs := out) (by omega : i < out.length), w64_nat hi (by omega), upd_is]) (fun out => by
    simp [laws_toIntS_L1]) n (by unfold BIG at hn; omega)
  unfold laws_toIntS
  rw [make_ok a.length hl, cond_true, show Int.toNat (a.length : Int) = a.length by simp, hc]
  rfl


theorem laws_toFloor_ok (a : Int × Int × (List Int)) (h : sm_Floor a) (n : Nat) (hn : BIG ≤ n) : laws_toFloor n a.1 a.2.1 a.2.2 = some a := by
  unfold laws_toFloor
  unfold sm_Floor at h
  simp [laws_toIntS_ok a.2.2 h n hn]


theorem laws_toStackS_ok (a : List (Int × Int × Int)) (h : sm_StackS a) (n : Nat) (hn : BIG ≤ n) : laws_toStackS n a = some a := by
  have hl : a.length ≤ 1048576 := h
  have hc := copy_ok (laws_toStackS_L1 a) a ((0, 0, 0) : Int × Int × Int) (fun i hi out ho => by
    simp [laws_toStackS_L1, hi, getI_lt hi, laws_toStack, inb_lt (xs := out) (by omega : i < out.length), w64_nat hi (by omega), upd_is]) (fun out => by
    simp [laws_toStackS_L1]) n (by unfold BIG at hn; omega)
  unfold laws_toStackS
  rw [make_ok a.length hl, cond_true, show Int.toNat (a.length : Int) = a.length by simp, hc]
  rfl


theorem laws_toPod_ok (a : Int × Int × (List (Int × Int × Int))) (h : sm_Pod a) (n : Nat) (hn : BIG ≤ n) : laws_toPod n a.1 a.2.1 a.2.2 = some a := by
  unfold laws_toPod
  unfold sm_Pod at h
  simp [laws_toStackS_ok a.2.2 h n hn]


theorem laws_toPodS_ok (a : List (Int × Int × (List (Int × Int × Int)))) (h : sm_PodS a) (n : Nat) (hn : BIG ≤ n) : laws_toPodS n a = some a := by
  have hl : a.length ≤ 1048576 := h.1
  have hc := copy_ok (laws_toPodS_L1 n a) a ((0, 0, ([] : List (Int × Int × Int))) : Int × Int × (List (Int × Int × Int))) (fun i hi out ho => by
    have he := laws_toPod_ok a[i] (h.2 _ (List.getElem_mem hi)) n hn
    simp [laws_toPodS_L1, hi, getI_lt hi, he, inb_lt (xs := out) (by omega : i < out.length), w64_nat hi (by omega), upd_is]) (fun out => by
    simp [laws_toPodS_L1]) n (by unfold BIG at hn; omega)
  unfold laws_toPodS
  rw [make_ok a.length hl, cond_true, show Int.toNat (a.length : Int) = a.length by simp, hc]
  rfl


theorem laws_toStock_ok (a : (List (Int × Int × (List (Int × Int × Int))))) (h : sm_Stock a) (n : Nat) (hn : BIG ≤ n) : laws_toStock n a = some a := by
  unfold laws_toStock
  unfold sm_Stock at h
  simp [laws_toPodS_ok a h n hn]


theorem laws_eqIntS_ok (a : List Int) (h : sm_IntS a) (n : Nat) (hn : BIG ≤ n) : laws_eqIntS n a a = some true := by
  have hl : a.length ≤ 1048576 := h
  have hc := iter_steps (laws_eqIntS_L1 a a) (fun i => (i : Int)) a.length (.inl (a.length : Int)) (fun i hi => by
    simp [laws_eqIntS_L1, hi, getI_lt hi, w64_nat hi (by omega)]) (by simp [laws_eqIntS_L1]) n (by unfold BIG at hn; omega)
  unfold laws_eqIntS
  rw [show ((a.length : Int) != (a.length : Int)) = false by simp, cond_false]
  rw [show ((0 : Nat) : Int) = 0 from rfl] at hc
  rw [hc]; rfl


theorem laws_eqFloor_ok (a : Int × Int × (List Int)) (h : sm_Floor a) (n : Nat) (hn : BIG ≤ n) : laws_eqFloor n a.1 a.2.1 a.2.2 a.1 a.2.1 a.2.2 = some true := by
  unfold laws_eqFloor
  unfold sm_Floor at h
  simp [laws_eqIntS_ok a.2.2 h n hn]


theorem laws_eqStackS_ok (a : List (Int × Int × Int)) (h : sm_StackS a) (n : Nat) (hn : BIG ≤ n) : laws_eqStackS n a a = some true := by
  have hl : a.length ≤ 1048576 := h
  have hc := iter_steps (laws_eqStackS_L1 a a) (fun i => (i : Int)) a.length (.inl (a.length : Int)) (fun i hi => by
    simp [laws_eqStackS_L1, hi, getI_lt hi, laws_eqStack, w64_nat hi (by omega)]) (by simp [laws_eqStackS_L1]) n (by unfold BIG at hn; omega)
  unfold laws_eqStackS
  rw [show ((a.length : Int) != (a.length : Int)) = false by simp, cond_false]
  rw [show ((0 : Nat) : Int) = 0 from rfl] at hc
  rw [hc]; rfl


theorem laws_eqPod_ok (a : Int × Int × (List (Int × Int × Int))) (h : sm_Pod a) (n : Nat) (hn : BIG ≤ n) : laws_eqPod n a.1 a.2.1 a.2.2 a.1 a.2.1 a.2.2 = some true := by
  unfold laws_eqPod
  unfold sm_Pod at h
  simp [laws_eqStackS_ok a.2.2 h n hn]


theorem laws_eqPodS_ok (a : List (Int × Int × (List (Int × Int × Int)))) (h : sm_PodS a) (n : Nat) (hn : BIG ≤ n) : laws_eqPodS n a a = some true := by
  have hl : a.length ≤ 1048576 := h.1
  have hc := iter_steps (laws_eqPodS_L1 n a a) (fun i => (i : Int)) a.length (.inl (a.length : Int)) (fun i hi => by
    have he := laws_eqPod_ok a[i] (h.2 _ (List.getElem_mem hi)) n hn
    simp [laws_eqPodS_L1, hi, getI_lt hi, he, w64_nat hi (by omega)]) (by simp [laws_eqPodS_L1]) n (by unfold BIG at hn; omega)
  unfold laws_eqPodS
  rw [show ((a.length : Int) != (a.length : Int)) = false by simp, cond_false]
  rw [show ((0 : Nat) : Int) = 0 from rfl] at hc
  rw [hc]; rfl


theorem laws_eqStock_ok (a : (List (Int × Int × (List (Int × Int × Int))))) (h : sm_Stock a) (n : Nat) (hn : BIG ≤ n) : laws_eqStock n a a = some true := by
  unfold laws_eqStock
  unfold sm_Stock at h
  simp [laws_eqPodS_ok a h n hn]


theorem laws_eqRobotS_ok (a : List (Int × Int × Int × Bool × Int)) (h : sm_RobotS a) (n : Nat) (hn : BIG ≤ n) : laws_eqRobotS n a a = some true := by
  have hl : a.length ≤ 1048576 := h
  have hc := iter_steps (laws_eqRobotS_L1 a a) (fun i => (i : Int)) a.length (.inl (a.length : Int)) (fun i hi => by
    simp [laws_eqRobotS_L1, hi, getI_lt hi, laws_eqRobot, w64_nat hi (by omega)]) (by simp [laws_eqRobotS_L1]) n (by unfold BIG at hn; omega)
  unfold laws_eqRobotS
  rw [show ((a.length : Int) != (a.length : Int)) = false by simp, cond_false]
  rw [show ((0 : Nat) : Int) = 0 from rfl] at hc
  rw [hc]; rfl


theorem laws_eqTaskS_ok (a : List (Int × Int × Int × Int)) (h : sm_TaskS a) (n : Nat) (hn : BIG ≤ n) : laws_eqTaskS n a a = some true := by
  have hl : a.length ≤ 1048576 := h
  have hc := iter_steps (laws_eqTaskS_L1 a a) (fun i => (i : Int)) a.length (.inl (a.length : Int)) (fun i hi => by
    simp [laws_eqTaskS_L1, hi, getI_lt hi, laws_eqTask, w64_nat hi (by omega)]) (by simp [laws_eqTaskS_L1]) n (by unfold BIG at hn; omega)
  unfold laws_eqTaskS
  rw [show ((a.length : Int) != (a.length : Int)) = false by simp, cond_false]
  rw [show ((0 : Nat) : Int) = 0 from rfl] at hc
  rw [hc]; rfl


theorem laws_eqDepot_ok (a : Int × Int × (List Int) × (List (Int × Int × (List (Int × Int × Int)))) × Int × (List (Int × Int × (List (Int × Int)) × (List (Int × Int × Int)) × Int)) × (List (Int × Int × Int × Bool × Int)) × (List (Int × Int × Int × Int)) × (List Int) × (List Int) × Int) (h : sm_Depot a) (n : Nat) (hn : BIG ≤ n) : laws_eqDepot n a.1 a.2.1 a.2.2.1 a.2.2.2.1 a.2.2.2.2.1 a.2.2.2.2.2.1 a.2.2.2.2.2.2.1 a.2.2.2.2.2.2.2.1 a.2.2.2.2.2.2.2.2.1 a.2.2.2.2.2.2.2.2.2.1 a.2.2.2.2.2.2.2.2.2.2 a.1 a.2.1 a.2.2.1 a.2.2.2.1 a.2.2.2.2.1 a.2.2.2.2.2.1 a.2.2.2.2.2.2.1 a.2.2.2.2.2.2.2.1 a.2.2.2.2.2.2.2.2.1 a.2.2.2.2.2.2.2.2.2.1 a.2.2.2.2.2.2.2.2.2.2 = some true := by
  unfold laws_eqDepot
  unfold sm_Depot at h
  simp [laws_eqFloor_ok (a.1, a.2.1, a.2.2.1) h.1 n hn, laws_eqStock_ok a.2.2.2.1 h.2.1 n hn, laws_eqBook_ok (a.2.2.2.2.1, a.2.2.2.2.2.1) h.2.2.1 n hn, laws_eqRobotS_ok a.2.2.2.2.2.2.1 h.2.2.2.1 n hn, laws_eqTaskS_ok a.2.2.2.2.2.2.2.1 h.2.2.2.2.1 n hn, laws_eqIntS_ok a.2.2.2.2.2.2.2.2.1 h.2.2.2.2.2.1 n hn, laws_eqIntS_ok a.2.2.2.2.2.2.2.2.2.1 h.2.2.2.2.2.2 n hn]


theorem laws_szIntS_ok (a : List Int) (hf : (fSl fI) a) (left : Int) (h0 : 0 ≤ left) (h1 : left ≤ 1048576) : ∃ r, laws_szIntS a left = some r ∧ (r < 0 ∨ (0 ≤ r ∧ r ≤ left ∧ sm_IntS a)) := by
  have hm := fSl_len hf
  unfold laws_szIntS sm_IntS
  rw [w64_eq (n := left - (a.length : Int)) (by omega) (by omega)]
  by_cases hl : left - (a.length : Int) < 0
  · rw [show decide (left - (a.length : Int) < 0) = true by simpa using hl]; exact ⟨_, rfl, .inl (by omega)⟩
  · rw [show decide (left - (a.length : Int) < 0) = false by simpa using hl]; exact ⟨_, rfl, .inr ⟨by omega, by omega, by omega⟩⟩


theorem laws_szFloor_ok (a : Int × Int × (List Int)) (hf : (fP fI (fP fI (fSl fI))) a) (left : Int) (h0 : 0 ≤ left) (h1 : left ≤ 1048576) : ∃ r, laws_szFloor a.1 a.2.1 a.2.2 left = some r ∧ (r < 0 ∨ (0 ≤ r ∧ r ≤ left ∧ sm_Floor a)) := by
  unfold laws_szFloor sm_Floor
  obtain ⟨r0, e0, q0⟩ := laws_szIntS_ok a.2.2 hf.2.2 left h0 h1
  rw [e0]; simp only [Option.bind_some]
  rcases q0 with q0 | ⟨p0, s0, t0⟩
  · rw [show decide (r0 < 0) = true by simpa using q0]; exact ⟨_, rfl, .inl (by omega)⟩
  rw [show decide (r0 < 0) = false by simp; omega]; simp only [cond_false]
  exact ⟨_, rfl, .inr ⟨by omega, by omega, t0⟩⟩


theorem laws_szStackS_ok (a : List (Int × Int × Int)) (hf : (fSl (fP fI (fP fI fI))) a) (left : Int) (h0 : 0 ≤ left) (h1 : left ≤ 1048576) : ∃ r, laws_szStackS a left = some r ∧ (r < 0 ∨ (0 ≤ r ∧ r ≤ left ∧ sm_StackS a)) := by
  have hm := fSl_len hf
  unfold laws_szStackS sm_StackS
  rw [w64_eq (n := left - (a.length : Int)) (by omega) (by omega)]
  by_cases hl : left - (a.length : Int) < 0
  · rw [show decide (left - (a.length : Int) < 0) = true by simpa using hl]; exact ⟨_, rfl, .inl (by omega)⟩
  · rw [show decide (left - (a.length : Int) < 0) = false by simpa using hl]; exact ⟨_, rfl, .inr ⟨by omega, by omega, by omega⟩⟩


theorem laws_szPod_ok (a : Int × Int × (List (Int × Int × Int))) (hf : (fP fI (fP fI (fSl (fP fI (fP fI fI))))) a) (left : Int) (h0 : 0 ≤ left) (h1 : left ≤ 1048576) : ∃ r, laws_szPod a.1 a.2.1 a.2.2 left = some r ∧ (r < 0 ∨ (0 ≤ r ∧ r ≤ left ∧ sm_Pod a)) := by
  unfold laws_szPod sm_Pod
  obtain ⟨r0, e0, q0⟩ := laws_szStackS_ok a.2.2 hf.2.2 left h0 h1
  rw [e0]; simp only [Option.bind_some]
  rcases q0 with q0 | ⟨p0, s0, t0⟩
  · rw [show decide (r0 < 0) = true by simpa using q0]; exact ⟨_, rfl, .inl (by omega)⟩
  rw [show decide (r0 < 0) = false by simp; omega]; simp only [cond_false]
  exact ⟨_, rfl, .inr ⟨by omega, by omega, t0⟩⟩


theorem laws_szPodS_ok (a : List (Int × Int × (List (Int × Int × Int)))) (hf : (fSl (fP fI (fP fI (fSl (fP fI (fP fI fI)))))) a) (left : Int) (h0 : 0 ≤ left) (h1 : left ≤ 1048576) (n : Nat) (hn : BIG ≤ n) : ∃ r, laws_szPodS n a left = some r ∧ (r < 0 ∨ (0 ≤ r ∧ r ≤ left ∧ sm_PodS a)) := by
  have hm := fSl_len hf
  unfold laws_szPodS sm_PodS
  rw [w64_eq (n := left - (a.length : Int)) (by omega) (by omega)]
  by_cases hl : left - (a.length : Int) < 0
  · rw [show decide (left - (a.length : Int) < 0) = true by simpa using hl]; exact ⟨_, rfl, .inl (by omega)⟩
  rw [show decide (left - (a.length : Int) < 0) = false by simpa using hl, cond_false]
  have hs := sz_loop (laws_szPodS_L1 a) a (sm_Pod) (fun i x left hi hx l0 l1 => by
    have hx' : a[i] = x := by rw [List.getElem?_eq_getElem hi] at hx; exact Option.some.inj hx
    obtain ⟨r, e, q⟩ := laws_szPod_ok x (fSl_mem hf (hx' ▸ List.getElem_mem hi)) left l0 l1
    have hw : w64 ((i : Int) + 1) = ((i + 1 : Nat) : Int) := w64_nat hi (by omega)
    unfold laws_szPodS_L1
    rw [show decide ((i : Int) < (a.length : Int)) = true by simpa using hi, cond_true, getI_lt hi, Option.bind_some, hx', e, Option.bind_some, hw]
    rcases q with q | ⟨q0, q1, q2⟩
    · rw [show decide (r < 0) = true by simpa using q]; exact .inr ⟨-1, rfl, by omega⟩
    · rw [show decide (r < 0) = false by simp; omega]; exact .inl ⟨r, rfl, q0, q1, q2⟩) (fun left => by simp [laws_szPodS_L1]) n (by unfold BIG at hn; omega) (left - (a.length : Int)) (by omega) (by omega)
  rcases hs with ⟨r, e, q⟩ | ⟨r, e, q0, q1, q2⟩
  · rw [e]; exact ⟨r, rfl, .inl q⟩
  · rw [e]; exact ⟨r, rfl, .inr ⟨q0, by omega, by omega, q2⟩⟩


theorem laws_szStock_ok (a : (List (Int × Int × (List (Int × Int × Int))))) (hf : (fSl (fP fI (fP fI (fSl (fP fI (fP fI fI)))))) a) (left : Int) (h0 : 0 ≤ left) (h1 : left ≤ 1048576) (n : Nat) (hn : BIG ≤ n) : ∃ r, laws_szStock n a left = some r ∧ (r < 0 ∨ (0 ≤ r ∧ r ≤ left ∧ sm_Stock a)) := by
  unfold laws_szStock sm_Stock
  obtain ⟨r0, e0, q0⟩ := laws_szPodS_ok a hf left h0 h1 n hn
  rw [e0]; simp only [Option.bind_some]
  rcases q0 with q0 | ⟨p0, s0, t0⟩
  · rw [show decide (r0 < 0) = true by simpa using q0]; exact ⟨_, rfl, .inl (by omega)⟩
  rw [show decide (r0 < 0) = false by simp; omega]; simp only [cond_false]
  exact ⟨_, rfl, .inr ⟨by omega, by omega, t0⟩⟩


theorem laws_markIntS_ok (a : List Int) (h : sm_IntS a) (k : Int) (h0 : 0 ≤ k) (h1 : k + 1048576 ≤ 4611686018427387904) (n : Nat) (hn : BIG ≤ n) : ∃ k' a', laws_markIntS n a k = some (k', a') ∧ k ≤ k' ∧ k' ≤ k + 1048576 ∧ sm_IntS a' ∧ laws_heldIntS n a' k = some k' := by
  have hl : a.length ≤ 1048576 := h
  have st : ∀ (k : Int) (x : Int), 0 ≤ k → k + ((1 : Nat) : Int) ≤ 4611686018427387904 → True → ∃ k' x', k ≤ k' ∧ k' ≤ k + ((1 : Nat) : Int) ∧ True ∧ (∀ (i : Nat) (ys : List Int), i < ys.length → ys.length ≤ 1048576 → ys[i]? = some x → laws_markIntS_L1 (k, (i : Int), ys) = some (.inl (k', ((i + 1 : Nat) : Int), ys.set i x'))) ∧ (∀ (i : Nat) (ys : List Int), i < ys.length → ys.length ≤ 1048576 → ys[i]? = some x' → laws_heldIntS_L1 ys (k, (i : Int)) = some (.inl (k', ((i + 1 : Nat) : Int)))) := by
    intro k x h0 h1 _
    refine ⟨k + 1, k, by omega, by omega, trivial, fun i ys hi hy hx => ?_, fun i ys hi hy hx => ?_⟩
    · have hx' : ys[i] = x := by rw [List.getElem?_eq_getElem hi] at hx; exact Option.some.inj hx
      have a0 : k + 1 + 1 = k + 2 := by omega
      have a1 : k + 2 + 1 = k + 3 := by omega
      have a2 : k + 3 + 1 = k + 4 := by omega
      have a3 : k + 4 + 1 = k + 5 := by omega
      simp [laws_markIntS_L1, hi, inb_nat, upd_is, modify_set, w64_nat hi (by omega), w64_eq (n := k + 1) (by omega) (by omega), a0, a1, a2, a3]
    · have hx' : ys[i] = k := by rw [List.getElem?_eq_getElem hi] at hx; exact Option.some.inj hx
      have a0 : k + 1 + 1 = k + 2 := by omega
      have a1 : k + 2 + 1 = k + 3 := by omega
      have a2 : k + 3 + 1 = k + 4 := by omega
      have a3 : k + 4 + 1 = k + 5 := by omega
      simp [laws_heldIntS_L1, hi, getI_lt hi, hx', w64_nat hi (by omega), w64_eq (n := k + 1) (by omega) (by omega), a0, a1, a2, a3]
  obtain ⟨k', a', e1, e2, e3, e4, _, e5⟩ := mark_loop (γ := Int) laws_markIntS_L1 laws_heldIntS_L1 (fun _ => True) (fun _ => True) 1 a (fun _ _ => trivial) hl k h0 (by omega) st (fun k ys => by simp [laws_markIntS_L1]) (fun k ys => by simp [laws_heldIntS_L1]) n (by unfold BIG at hn; omega)
  refine ⟨k', a', ?_, e3, by omega, by unfold sm_IntS; omega, ?_⟩
  · unfold laws_markIntS; rw [e1]; rfl
  · unfold laws_heldIntS; rw [e5]; rfl


theorem laws_markIntS_only (a : List Int) (h : sm_IntS a) (k : Int) (h0 : 0 ≤ k) (h1 : k + 1048576 ≤ 4611686018427387904) (n : Nat) (hn : BIG ≤ n) : ∃ k' a', laws_markIntS n a k = some (k', a') ∧ k ≤ k' ∧ k' ≤ k + 1048576 ∧ sm_IntS a' := by
  have hl : a.length ≤ 1048576 := h
  have st : ∀ (k : Int) (x : Int), 0 ≤ k → k + ((1 : Nat) : Int) ≤ 4611686018427387904 → True → ∃ k' x', k ≤ k' ∧ k' ≤ k + ((1 : Nat) : Int) ∧ True ∧ (∀ (i : Nat) (ys : List Int), i < ys.length → ys.length ≤ 1048576 → ys[i]? = some x → laws_markIntS_L1 (k, (i : Int), ys) = some (.inl (k', ((i + 1 : Nat) : Int), ys.set i x'))) := by
    intro k x h0 h1 _
    refine ⟨k + 1, k, by omega, by omega, trivial, fun i ys hi hy hx => ?_⟩
    have hx' : ys[i] = x := by rw [List.getElem?_eq_getElem hi] at hx; exact Option.some.inj hx
    have a0 : k + 1 + 1 = k + 2 := by omega
    have a1 : k + 2 + 1 = k + 3 := by omega
    have a2 : k + 3 + 1 = k + 4 := by omega
    have a3 : k + 4 + 1 = k + 5 := by omega
    simp [laws_markIntS_L1, hi, inb_nat, upd_is, modify_set, w64_nat hi (by omega), w64_eq (n := k + 1) (by omega) (by omega), a0, a1, a2, a3]
  obtain ⟨k', a', e1, e2, e3, e4, _⟩ := mark_only laws_markIntS_L1 (fun _ => True) (fun _ => True) 1 a (fun _ _ => trivial) hl k h0 (by omega) st (fun k ys => by simp [laws_markIntS_L1]) n (by unfold BIG at hn; omega)
  refine ⟨k', a', ?_, e3, by omega, by unfold sm_IntS; omega⟩
  unfold laws_markIntS; rw [e1]; rfl


def sm_WordS (a : List (Bool × Int × Int)) : Prop := a.length ≤ 1048576

def sm_Link (a : (List Int) × Int × Bool × Int × Int × Int × (List Int) × (List (Bool × Int × Int))) : Prop := sm_IntS a.1 ∧ sm_IntS a.2.2.2.2.2.2.1 ∧ sm_WordS a.2.2.2.2.2.2.2

theorem laws_markTaskS_ok (a : List (Int × Int × Int × Int)) (h : sm_TaskS a) (k : Int) (h0 : 0 ≤ k) (h1 : k + 4194304 ≤ 4611686018427387904) (n : Nat) (hn : BIG ≤ n) : ∃ k' a', laws_markTaskS n a k = some (k', a') ∧ k ≤ k' ∧ k' ≤ k + 4194304 ∧ sm_TaskS a' ∧ laws_heldTaskS n a' k = some k' := by
  have hl : a.length ≤ 1048576 := h
  have st : ∀ (k : Int) (x : Int × Int × Int × Int), 0 ≤ k → k + ((4 : Nat) : Int) ≤ 4611686018427387904 → True → ∃ k' x', k ≤ k' ∧ k' ≤ k + ((4 : Nat) : Int) ∧ True ∧ (∀ (i : Nat) (ys : List (Int × Int × Int × Int)), i < ys.length → ys.length ≤ 1048576 → ys[i]? = some x → laws_markTaskS_L1 (k, (i : Int), ys) = some (.inl (k', ((i + 1 : Nat) : Int), ys.set i x'))) ∧ (∀ (i : Nat) (ys : List (Int × Int × Int × Int)), i < ys.length → ys.length ≤ 1048576 → ys[i]? = some x' → laws_heldTaskS_L1 ys (k, (i : Int)) = some (.inl (k', ((i + 1 : Nat) : Int)))) := by
    intro k x h0 h1 _
    refine ⟨k + 4, (k, (k + 1), (k + 2), (k + 3)), by omega, by omega, trivial, fun i ys hi hy hx => ?_, fun i ys hi hy hx => ?_⟩
    · have hx' : ys[i] = x := by rw [List.getElem?_eq_getElem hi] at hx; exact Option.some.inj hx
      have a0 : k + 1 + 1 = k + 2 := by omega
      have a1 : k + 2 + 1 = k + 3 := by omega
      have a2 : k + 3 + 1 = k + 4 := by omega
      have a3 : k + 4 + 1 = k + 5 := by omega
      simp [laws_markTaskS_L1, hi, inb_nat, upd_is, modify_set, w64_nat hi (by omega), w64_eq (n := k + 1) (by omega) (by omega), w64_eq (n := k + 2) (by omega) (by omega), w64_eq (n := k + 3) (by omega) (by omega), w64_eq (n := k + 4) (by omega) (by omega), a0, a1, a2, a3]
    · have hx' : ys[i] = (k, (k + 1), (k + 2), (k + 3)) := by rw [List.getElem?_eq_getElem hi] at hx; exact Option.some.inj hx
      have a0 : k + 1 + 1 = k + 2 := by omega
      have a1 : k + 2 + 1 = k + 3 := by omega
      have a2 : k + 3 + 1 = k + 4 := by omega
      have a3 : k + 4 + 1 = k + 5 := by omega
      simp [laws_heldTaskS_L1, hi, getI_lt hi, hx', w64_nat hi (by omega), w64_eq (n := k + 1) (by omega) (by omega), w64_eq (n := k + 2) (by omega) (by omega), w64_eq (n := k + 3) (by omega) (by omega), w64_eq (n := k + 4) (by omega) (by omega), a0, a1, a2, a3]
  obtain ⟨k', a', e1, e2, e3, e4, _, e5⟩ := mark_loop (γ := Int) laws_markTaskS_L1 laws_heldTaskS_L1 (fun _ => True) (fun _ => True) 4 a (fun _ _ => trivial) hl k h0 (by omega) st (fun k ys => by simp [laws_markTaskS_L1]) (fun k ys => by simp [laws_heldTaskS_L1]) n (by unfold BIG at hn; omega)
  refine ⟨k', a', ?_, e3, by omega, by unfold sm_TaskS; omega, ?_⟩
  · unfold laws_markTaskS; rw [e1]; rfl
  · unfold laws_heldTaskS; rw [e5]; rfl


theorem laws_markTaskS_only (a : List (Int × Int × Int × Int)) (h : sm_TaskS a) (k : Int) (h0 : 0 ≤ k) (h1 : k + 4194304 ≤ 4611686018427387904) (n : Nat) (hn : BIG ≤ n) : ∃ k' a', laws_markTaskS n a k = some (k', a') ∧ k ≤ k' ∧ k' ≤ k + 4194304 ∧ sm_TaskS a' := by
  have hl : a.length ≤ 1048576 := h
  have st : ∀ (k : Int) (x : Int × Int × Int × Int), 0 ≤ k → k + ((4 : Nat) : Int) ≤ 4611686018427387904 → True → ∃ k' x', k ≤ k' ∧ k' ≤ k + ((4 : Nat) : Int) ∧ True ∧ (∀ (i : Nat) (ys : List (Int × Int × Int × Int)), i < ys.length → ys.length ≤ 1048576 → ys[i]? = some x → laws_markTaskS_L1 (k, (i : Int), ys) = some (.inl (k', ((i + 1 : Nat) : Int), ys.set i x'))) := by
    intro k x h0 h1 _
    refine ⟨k + 4, (k, (k + 1), (k + 2), (k + 3)), by omega, by omega, trivial, fun i ys hi hy hx => ?_⟩
    have hx' : ys[i] = x := by rw [List.getElem?_eq_getElem hi] at hx; exact Option.some.inj hx
    have a0 : k + 1 + 1 = k + 2 := by omega
    have a1 : k + 2 + 1 = k + 3 := by omega
    have a2 : k + 3 + 1 = k + 4 := by omega
    have a3 : k + 4 + 1 = k + 5 := by omega
    simp [laws_markTaskS_L1, hi, inb_nat, upd_is, modify_set, w64_nat hi (by omega), w64_eq (n := k + 1) (by omega) (by omega), w64_eq (n := k + 2) (by omega) (by omega), w64_eq (n := k + 3) (by omega) (by omega), w64_eq (n := k + 4) (by omega) (by omega), a0, a1, a2, a3]
  obtain ⟨k', a', e1, e2, e3, e4, _⟩ := mark_only laws_markTaskS_L1 (fun _ => True) (fun _ => True) 4 a (fun _ _ => trivial) hl k h0 (by omega) st (fun k ys => by simp [laws_markTaskS_L1]) n (by unfold BIG at hn; omega)
  refine ⟨k', a', ?_, e3, by omega, by unfold sm_TaskS; omega⟩
  unfold laws_markTaskS; rw [e1]; rfl


def sm_Act (a : Int × Int × (List (Int × Int)) × Int × Int × Int × Int) : Prop := sm_ItemS a.2.2.1

def sm_BoolS (a : List Bool) : Prop := a.length ≤ 1048576

theorem laws_markFloor_ok (a : Int × Int × (List Int)) (h : sm_Floor a) (k : Int) (h0 : 0 ≤ k) (h1 : k + 1048576 ≤ 4611686018427387904) (n : Nat) (hn : BIG ≤ n) : ∃ k' b2, laws_markFloor n a.1 a.2.1 a.2.2 k = some (k', (a.1, a.2.1, b2)) ∧ k ≤ k' ∧ k' ≤ k + 1048576 ∧ sm_Floor (a.1, a.2.1, b2) ∧ laws_heldFloor n a.1 a.2.1 b2 k = some k' := by
  unfold sm_Floor at h
  obtain ⟨k0, b2, e0, l0, u0, s0, d0⟩ := laws_markIntS_ok a.2.2 h k (by omega) (by omega) n hn
  refine ⟨k0, b2, ?_, by omega, by omega, s0, ?_⟩
  · unfold laws_markFloor
    simp only [e0, Option.bind_some]
  · unfold laws_heldFloor
    rw [d0, Option.bind_some, show decide (k0 < 0) = false by simp; omega]; simp only [cond_false]


theorem laws_markFloor_only (a : Int × Int × (List Int)) (h : sm_Floor a) (k : Int) (h0 : 0 ≤ k) (h1 : k + 1048576 ≤ 4611686018427387904) (n : Nat) (hn : BIG ≤ n) : ∃ k' b2, laws_markFloor n a.1 a.2.1 a.2.2 k = some (k', (a.1, a.2.1, b2)) ∧ k ≤ k' ∧ k' ≤ k + 1048576 ∧ sm_Floor (a.1, a.2.1, b2) := by
  unfold sm_Floor at h
  obtain ⟨k0, b2, e0, l0, u0, s0⟩ := laws_markIntS_only a.2.2 h k (by omega) (by omega) n hn
  refine ⟨k0, b2, ?_, by omega, by omega, s0⟩
  unfold laws_markFloor
  simp only [e0, Option.bind_some]


theorem laws_markStackS_ok (a : List (Int × Int × Int)) (h : sm_StackS a) (k : Int) (h0 : 0 ≤ k) (h1 : k + 3145728 ≤ 4611686018427387904) (n : Nat) (hn : BIG ≤ n) : ∃ k' a', laws_markStackS n a k = some (k', a') ∧ k ≤ k' ∧ k' ≤ k + 3145728 ∧ sm_StackS a' ∧ laws_heldStackS n a' k = some k' := by
  have hl : a.length ≤ 1048576 := h
  have st : ∀ (k : Int) (x : Int × Int × Int), 0 ≤ k → k + ((3 : Nat) : Int) ≤ 4611686018427387904 → True → ∃ k' x', k ≤ k' ∧ k' ≤ k + ((3 : Nat) : Int) ∧ True ∧ (∀ (i : Nat) (ys : List (Int × Int × Int)), i < ys.length → ys.length ≤ 1048576 → ys[i]? = some x → laws_markStackS_L1 (k, (i : Int), ys) = some (.inl (k', ((i + 1 : Nat) : Int), ys.set i x'))) ∧ (∀ (i : Nat) (ys : List (Int × Int × Int)), i < ys.length → ys.length ≤ 1048576 → ys[i]? = some x' → laws_heldStackS_L1 ys (k, (i : Int)) = some (.inl (k', ((i + 1 : Nat) : Int)))) := by
    intro k x h0 h1 _
    refine ⟨k + 3, (k, (k + 1), (k + 2)), by omega, by omega, trivial, fun i ys hi hy hx => ?_, fun i ys hi hy hx => ?_⟩
    · have hx' : ys[i] = x := by rw [List.getElem?_eq_getElem hi] at hx; exact Option.some.inj hx
      have a0 : k + 1 + 1 = k + 2 := by omega
      have a1 : k + 2 + 1 = k + 3 := by omega
      have a2 : k + 3 + 1 = k + 4 := by omega
      have a3 : k + 4 + 1 = k + 5 := by omega
      simp [laws_markStackS_L1, hi, inb_nat, upd_is, modify_set, w64_nat hi (by omega), w64_eq (n := k + 1) (by omega) (by omega), w64_eq (n := k + 2) (by omega) (by omega), w64_eq (n := k + 3) (by omega) (by omega), a0, a1, a2, a3]
    · have hx' : ys[i] = (k, (k + 1), (k + 2)) := by rw [List.getElem?_eq_getElem hi] at hx; exact Option.some.inj hx
      have a0 : k + 1 + 1 = k + 2 := by omega
      have a1 : k + 2 + 1 = k + 3 := by omega
      have a2 : k + 3 + 1 = k + 4 := by omega
      have a3 : k + 4 + 1 = k + 5 := by omega
      simp [laws_heldStackS_L1, hi, getI_lt hi, hx', w64_nat hi (by omega), w64_eq (n := k + 1) (by omega) (by omega), w64_eq (n := k + 2) (by omega) (by omega), w64_eq (n := k + 3) (by omega) (by omega), a0, a1, a2, a3]
  obtain ⟨k', a', e1, e2, e3, e4, _, e5⟩ := mark_loop (γ := Int) laws_markStackS_L1 laws_heldStackS_L1 (fun _ => True) (fun _ => True) 3 a (fun _ _ => trivial) hl k h0 (by omega) st (fun k ys => by simp [laws_markStackS_L1]) (fun k ys => by simp [laws_heldStackS_L1]) n (by unfold BIG at hn; omega)
  refine ⟨k', a', ?_, e3, by omega, by unfold sm_StackS; omega, ?_⟩
  · unfold laws_markStackS; rw [e1]; rfl
  · unfold laws_heldStackS; rw [e5]; rfl


theorem laws_markStackS_only (a : List (Int × Int × Int)) (h : sm_StackS a) (k : Int) (h0 : 0 ≤ k) (h1 : k + 3145728 ≤ 4611686018427387904) (n : Nat) (hn : BIG ≤ n) : ∃ k' a', laws_markStackS n a k = some (k', a') ∧ k ≤ k' ∧ k' ≤ k + 3145728 ∧ sm_StackS a' := by
  have hl : a.length ≤ 1048576 := h
  have st : ∀ (k : Int) (x : Int × Int × Int), 0 ≤ k → k + ((3 : Nat) : Int) ≤ 4611686018427387904 → True → ∃ k' x', k ≤ k' ∧ k' ≤ k + ((3 : Nat) : Int) ∧ True ∧ (∀ (i : Nat) (ys : List (Int × Int × Int)), i < ys.length → ys.length ≤ 1048576 → ys[i]? = some x → laws_markStackS_L1 (k, (i : Int), ys) = some (.inl (k', ((i + 1 : Nat) : Int), ys.set i x'))) := by
    intro k x h0 h1 _
    refine ⟨k + 3, (k, (k + 1), (k + 2)), by omega, by omega, trivial, fun i ys hi hy hx => ?_⟩
    have hx' : ys[i] = x := by rw [List.getElem?_eq_getElem hi] at hx; exact Option.some.inj hx
    have a0 : k + 1 + 1 = k + 2 := by omega
    have a1 : k + 2 + 1 = k + 3 := by omega
    have a2 : k + 3 + 1 = k + 4 := by omega
    have a3 : k + 4 + 1 = k + 5 := by omega
    simp [laws_markStackS_L1, hi, inb_nat, upd_is, modify_set, w64_nat hi (by omega), w64_eq (n := k + 1) (by omega) (by omega), w64_eq (n := k + 2) (by omega) (by omega), w64_eq (n := k + 3) (by omega) (by omega), a0, a1, a2, a3]
  obtain ⟨k', a', e1, e2, e3, e4, _⟩ := mark_only laws_markStackS_L1 (fun _ => True) (fun _ => True) 3 a (fun _ _ => trivial) hl k h0 (by omega) st (fun k ys => by simp [laws_markStackS_L1]) n (by unfold BIG at hn; omega)
  refine ⟨k', a', ?_, e3, by omega, by unfold sm_StackS; omega⟩
  unfold laws_markStackS; rw [e1]; rfl


theorem laws_markPodS_ok (a : List (Int × Int × (List (Int × Int × Int)))) (h : sm_PodS a) (k : Int) (h0 : 0 ≤ k) (h1 : k + 3298536980480 ≤ 4611686018427387904) (n : Nat) (hn : BIG ≤ n) : ∃ k' a', laws_markPodS n a k = some (k', a') ∧ k ≤ k' ∧ k' ≤ k + 3298536980480 ∧ sm_PodS a' ∧ laws_heldPodS n a' k = some k' := by
  have hl : a.length ≤ 1048576 := h.1
  have st : ∀ (k : Int) (x : Int × Int × (List (Int × Int × Int))), 0 ≤ k → k + ((3145730 : Nat) : Int) ≤ 4611686018427387904 → sm_Pod x → ∃ k' x', k ≤ k' ∧ k' ≤ k + ((3145730 : Nat) : Int) ∧ sm_Pod x' ∧ (∀ (i : Nat) (ys : List (Int × Int × (List (Int × Int × Int)))), i < ys.length → ys.length ≤ 1048576 → ys[i]? = some x → laws_markPodS_L1 n (k, (i : Int), ys) = some (.inl (k', ((i + 1 : Nat) : Int), ys.set i x'))) ∧ (∀ (i : Nat) (ys : List (Int × Int × (List (Int × Int × Int)))), i < ys.length → ys.length ≤ 1048576 → ys[i]? = some x' → laws_heldPodS_L1 n ys (k, (i : Int)) = some (.inl (k', ((i + 1 : Nat) : Int)))) := by
    intro k x h0 h1 hx
    unfold sm_Pod at hx
    obtain ⟨k0, b2, e0, l0, u0, s0, d0⟩ := laws_markStackS_ok x.2.2 hx (k + 2) (by omega) (by omega) n hn
    refine ⟨k0, (k, (k + 1), b2), by omega, by omega, s0, fun i ys hi hy hx => ?_, fun i ys hi hy hx => ?_⟩
    · have hx' : ys[i] = x := by rw [List.getElem?_eq_getElem hi] at hx; exact Option.some.inj hx
      simp [laws_markPodS_L1, hi, hx', inb_nat, upd_is, modify_set, w64_nat hi (by omega), w64_eq (n := k + 1) (by omega) (by omega), w64_eq (n := k + 2) (by omega) (by omega), (show k + 1 + 1 = k + 2 by omega), e0]
    have g0 : ¬ (k0 < 0) := by omega
    · have hx' : ys[i] = (k, (k + 1), b2) := by rw [List.getElem?_eq_getElem hi] at hx; exact Option.some.inj hx
      simp [laws_heldPodS_L1, hi, getI_lt hi, hx', w64_nat hi (by omega), w64_eq (n := k + 1) (by omega) (by omega), w64_eq (n := k + 2) (by omega) (by omega), (show k + 1 + 1 = k + 2 by omega), d0, g0]
  obtain ⟨k', a', e1, e2, e3, e4, e6, e5⟩ := mark_loop (γ := Int) (laws_markPodS_L1 n) (laws_heldPodS_L1 n) sm_Pod sm_Pod 3145730 a h.2 hl k h0 (by omega) st (fun k ys => by simp [laws_markPodS_L1]) (fun k ys => by simp [laws_heldPodS_L1]) n (by unfold BIG at hn; omega)
  refine ⟨k', a', ?_, e3, by omega, ⟨by omega, e6⟩, ?_⟩
  · unfold laws_markPodS; rw [e1]; rfl
  · unfold laws_heldPodS; rw [e5]; rfl


theorem laws_markPodS_only (a : List (Int × Int × (List (Int × Int × Int)))) (h : sm_PodS a) (k : Int) (h0 : 0 ≤ k) (h1 : k + 3298536980480 ≤ 4611686018427387904) (n : Nat) (hn : BIG ≤ n) : ∃ k' a', laws_markPodS n a k = some (k', a') ∧ k ≤ k' ∧ k' ≤ k + 3298536980480 ∧ sm_PodS a' := by
  have hl : a.length ≤ 1048576 := h.1
  have st : ∀ (k : Int) (x : Int × Int × (List (Int × Int × Int))), 0 ≤ k → k + ((3145730 : Nat) : Int) ≤ 4611686018427387904 → sm_Pod x → ∃ k' x', k ≤ k' ∧ k' ≤ k + ((3145730 : Nat) : Int) ∧ sm_Pod x' ∧ (∀ (i : Nat) (ys : List (Int × Int × (List (Int × Int × Int)))), i < ys.length → ys.length ≤ 1048576 → ys[i]? = some x → laws_markPodS_L1 n (k, (i : Int), ys) = some (.inl (k', ((i + 1 : Nat) : Int), ys.set i x'))) := by
    intro k x h0 h1 hx
    unfold sm_Pod at hx
    obtain ⟨k0, b2, e0, l0, u0, s0⟩ := laws_markStackS_only x.2.2 hx (k + 2) (by omega) (by omega) n hn
    refine ⟨k0, (k, (k + 1), b2), by omega, by omega, s0, fun i ys hi hy hx => ?_⟩
    · have hx' : ys[i] = x := by rw [List.getElem?_eq_getElem hi] at hx; exact Option.some.inj hx
      simp [laws_markPodS_L1, hi, hx', inb_nat, upd_is, modify_set, w64_nat hi (by omega), w64_eq (n := k + 1) (by omega) (by omega), w64_eq (n := k + 2) (by omega) (by omega), (show k + 1 + 1 = k + 2 by omega), e0]
  obtain ⟨k', a', e1, e2, e3, e4, e6⟩ := mark_only (laws_markPodS_L1 n) sm_Pod sm_Pod 3145730 a h.2 hl k h0 (by omega) st (fun k ys => by simp [laws_markPodS_L1]) n (by unfold BIG at hn; omega)
  refine ⟨k', a', ?_, e3, by omega, ⟨by omega, e6⟩⟩
  · unfold laws_markPodS; rw [e1]; rfl


theorem laws_markStock_ok (a : (List (Int × Int × (List (Int × Int × Int))))) (h : sm_Stock a) (k : Int) (h0 : 0 ≤ k) (h1 : k + 3298536980480 ≤ 4611686018427387904) (n : Nat) (hn : BIG ≤ n) : ∃ k' b0, laws_markStock n a k = some (k', b0) ∧ k ≤ k' ∧ k' ≤ k + 3298536980480 ∧ sm_Stock b0 ∧ laws_heldStock n b0 k = some k' := by
  unfold sm_Stock at h
  obtain ⟨k0, b0, e0, l0, u0, s0, d0⟩ := laws_markPodS_ok a h k (by omega) (by omega) n hn
  refine ⟨k0, b0, ?_, by omega, by omega, s0, ?_⟩
  · unfold laws_markStock
    simp only [e0, Option.bind_some]
  · unfold laws_heldStock
    rw [d0, Option.bind_some, show decide (k0 < 0) = false by simp; omega]; simp only [cond_false]


theorem laws_markStock_only (a : (List (Int × Int × (List (Int × Int × Int))))) (h : sm_Stock a) (k : Int) (h0 : 0 ≤ k) (h1 : k + 3298536980480 ≤ 4611686018427387904) (n : Nat) (hn : BIG ≤ n) : ∃ k' b0, laws_markStock n a k = some (k', b0) ∧ k ≤ k' ∧ k' ≤ k + 3298536980480 ∧ sm_Stock b0 := by
  unfold sm_Stock at h
  obtain ⟨k0, b0, e0, l0, u0, s0⟩ := laws_markPodS_only a h k (by omega) (by omega) n hn
  refine ⟨k0, b0, ?_, by omega, by omega, s0⟩
  unfold laws_markStock
  simp only [e0, Option.bind_some]


theorem laws_markRobotS_ok (a : List (Int × Int × Int × Bool × Int)) (h : sm_RobotS a) (k : Int) (h0 : 0 ≤ k) (h1 : k + 5242880 ≤ 4611686018427387904) (n : Nat) (hn : BIG ≤ n) : ∃ k' a', laws_markRobotS n a k = some (k', a') ∧ k ≤ k' ∧ k' ≤ k + 5242880 ∧ sm_RobotS a' ∧ laws_heldRobotS n a' k = some k' := by
  have hl : a.length ≤ 1048576 := h
  have st : ∀ (k : Int) (x : Int × Int × Int × Bool × Int), 0 ≤ k → k + ((5 : Nat) : Int) ≤ 4611686018427387904 → True → ∃ k' x', k ≤ k' ∧ k' ≤ k + ((5 : Nat) : Int) ∧ True ∧ (∀ (i : Nat) (ys : List (Int × Int × Int × Bool × Int)), i < ys.length → ys.length ≤ 1048576 → ys[i]? = some x → laws_markRobotS_L1 (k, (i : Int), ys) = some (.inl (k', ((i + 1 : Nat) : Int), ys.set i x'))) ∧ (∀ (i : Nat) (ys : List (Int × Int × Int × Bool × Int)), i < ys.length → ys.length ≤ 1048576 → ys[i]? = some x' → laws_heldRobotS_L1 ys (k, (i : Int)) = some (.inl (k', ((i + 1 : Nat) : Int)))) := by
    intro k x h0 h1 _
    refine ⟨k + 5, (k, (k + 1), (k + 2), (Int.tmod (k + 3) 3 == 0), (k + 4)), by omega, by omega, trivial, fun i ys hi hy hx => ?_, fun i ys hi hy hx => ?_⟩
    · have hx' : ys[i] = x := by rw [List.getElem?_eq_getElem hi] at hx; exact Option.some.inj hx
      have a0 : k + 1 + 1 = k + 2 := by omega
      have a1 : k + 2 + 1 = k + 3 := by omega
      have a2 : k + 3 + 1 = k + 4 := by omega
      have a3 : k + 4 + 1 = k + 5 := by omega
      have a4 : k + 5 + 1 = k + 6 := by omega
      simp [laws_markRobotS_L1, hi, inb_nat, upd_is, modify_set, w64_nat hi (by omega), w64_eq (n := k + 1) (by omega) (by omega), w64_eq (n := k + 2) (by omega) (by omega), w64_eq (n := k + 3) (by omega) (by omega), w64_eq (n := k + 4) (by omega) (by omega), w64_eq (n := k + 5) (by omega) (by omega), a0, a1, a2, a3, a4]
    · have hx' : ys[i] = (k, (k + 1), (k + 2), (Int.tmod (k + 3) 3 == 0), (k + 4)) := by rw [List.getElem?_eq_getElem hi] at hx; exact Option.some.inj hx
      have a0 : k + 1 + 1 = k + 2 := by omega
      have a1 : k + 2 + 1 = k + 3 := by omega
      have a2 : k + 3 + 1 = k + 4 := by omega
      have a3 : k + 4 + 1 = k + 5 := by omega
      have a4 : k + 5 + 1 = k + 6 := by omega
      simp [laws_heldRobotS_L1, hi, getI_lt hi, hx', w64_nat hi (by omega), w64_eq (n := k + 1) (by omega) (by omega), w64_eq (n := k + 2) (by omega) (by omega), w64_eq (n := k + 3) (by omega) (by omega), w64_eq (n := k + 4) (by omega) (by omega), w64_eq (n := k + 5) (by omega) (by omega), a0, a1, a2, a3, a4]
  obtain ⟨k', a', e1, e2, e3, e4, _, e5⟩ := mark_loop (γ := Int) laws_markRobotS_L1 laws_heldRobotS_L1 (fun _ => True) (fun _ => True) 5 a (fun _ _ => trivial) hl k h0 (by omega) st (fun k ys => by simp [laws_markRobotS_L1]) (fun k ys => by simp [laws_heldRobotS_L1]) n (by unfold BIG at hn; omega)
  refine ⟨k', a', ?_, e3, by omega, by unfold sm_RobotS; omega, ?_⟩
  · unfold laws_markRobotS; rw [e1]; rfl
  · unfold laws_heldRobotS; rw [e5]; rfl


theorem laws_markRobotS_only (a : List (Int × Int × Int × Bool × Int)) (h : sm_RobotS a) (k : Int) (h0 : 0 ≤ k) (h1 : k + 5242880 ≤ 4611686018427387904) (n : Nat) (hn : BIG ≤ n) : ∃ k' a', laws_markRobotS n a k = some (k', a') ∧ k ≤ k' ∧ k' ≤ k + 5242880 ∧ sm_RobotS a' := by
  have hl : a.length ≤ 1048576 := h
  have st : ∀ (k : Int) (x : Int × Int × Int × Bool × Int), 0 ≤ k → k + ((5 : Nat) : Int) ≤ 4611686018427387904 → True → ∃ k' x', k ≤ k' ∧ k' ≤ k + ((5 : Nat) : Int) ∧ True ∧ (∀ (i : Nat) (ys : List (Int × Int × Int × Bool × Int)), i < ys.length → ys.length ≤ 1048576 → ys[i]? = some x → laws_markRobotS_L1 (k, (i : Int), ys) = some (.inl (k', ((i + 1 : Nat) : Int), ys.set i x'))) := by
    intro k x h0 h1 _
    refine ⟨k + 5, (k, (k + 1), (k + 2), (Int.tmod (k + 3) 3 == 0), (k + 4)), by omega, by omega, trivial, fun i ys hi hy hx => ?_⟩
    have hx' : ys[i] = x := by rw [List.getElem?_eq_getElem hi] at hx; exact Option.some.inj hx
    have a0 : k + 1 + 1 = k + 2 := by omega
    have a1 : k + 2 + 1 = k + 3 := by omega
    have a2 : k + 3 + 1 = k + 4 := by omega
    have a3 : k + 4 + 1 = k + 5 := by omega
    have a4 : k + 5 + 1 = k + 6 := by omega
    simp [laws_markRobotS_L1, hi, inb_nat, upd_is, modify_set, w64_nat hi (by omega), w64_eq (n := k + 1) (by omega) (by omega), w64_eq (n := k + 2) (by omega) (by omega), w64_eq (n := k + 3) (by omega) (by omega), w64_eq (n := k + 4) (by omega) (by omega), w64_eq (n := k + 5) (by omega) (by omega), a0, a1, a2, a3, a4]
  obtain ⟨k', a', e1, e2, e3, e4, _⟩ := mark_only laws_markRobotS_L1 (fun _ => True) (fun _ => True) 5 a (fun _ _ => trivial) hl k h0 (by omega) st (fun k ys => by simp [laws_markRobotS_L1]) n (by unfold BIG at hn; omega)
  refine ⟨k', a', ?_, e3, by omega, by unfold sm_RobotS; omega⟩
  unfold laws_markRobotS; rw [e1]; rfl


theorem laws_markDepot_ok (a : Int × Int × (List Int) × (List (Int × Int × (List (Int × Int × Int)))) × Int × (List (Int × Int × (List (Int × Int)) × (List (Int × Int × Int)) × Int)) × (List (Int × Int × Int × Bool × Int)) × (List (Int × Int × Int × Int)) × (List Int) × (List Int) × Int) (h : sm_Depot a) (k : Int) (h0 : 0 ≤ k) (h1 : k + 8796110848000 ≤ 4611686018427387904) (n : Nat) (hn : BIG ≤ n) : ∃ k' b2 b3 b5 b6 b7 b8 b9, laws_markDepot n a.1 a.2.1 a.2.2.1 a.2.2.2.1 a.2.2.2.2.1 a.2.2.2.2.2.1 a.2.2.2.2.2.2.1 a.2.2.2.2.2.2.2.1 a.2.2.2.2.2.2.2.2.1 a.2.2.2.2.2.2.2.2.2.1 a.2.2.2.2.2.2.2.2.2.2 k = some (k', (a.1, a.2.1, b2, b3, a.2.2.2.2.1, b5, b6, b7, b8, b9, a.2.2.2.2.2.2.2.2.2.2)) ∧ k ≤ k' ∧ k' ≤ k + 8796110848000 ∧ sm_Depot (a.1, a.2.1, b2, b3, a.2.2.2.2.1, b5, b6, b7, b8, b9, a.2.2.2.2.2.2.2.2.2.2) ∧ laws_heldDepot n a.1 a.2.1 b2 b3 a.2.2.2.2.1 b5 b6 b7 b8 b9 a.2.2.2.2.2.2.2.2.2.2 k = some k' := by
  unfold sm_Depot at h
  obtain ⟨k0, b2, e0, l0, u0, s0, d0⟩ := laws_markFloor_ok (a.1, a.2.1, a.2.2.1) h.1 k (by omega) (by omega) n hn
  obtain ⟨k1, b3, e1, l1, u1, s1, d1⟩ := laws_markStock_ok a.2.2.2.1 h.2.1 k0 (by omega) (by omega) n hn
  obtain ⟨k2, b5, e2, l2, u2, s2, d2⟩ := laws_markBook_ok (a.2.2.2.2.1, a.2.2.2.2.2.1) h.2.2.1 k1 (by omega) (by omega) n hn
  obtain ⟨k3, b6, e3, l3, u3, s3, d3⟩ := laws_markRobotS_ok a.2.2.2.2.2.2.1 h.2.2.2.1 k2 (by omega) (by omega) n hn
  obtain ⟨k4, b7, e4, l4, u4, s4, d4⟩ := laws_markTaskS_ok a.2.2.2.2.2.2.2.1 h.2.2.2.2.1 k3 (by omega) (by omega) n hn
  obtain ⟨k5, b8, e5, l5, u5, s5, d5⟩ := laws_markIntS_ok a.2.2.2.2.2.2.2.2.1 h.2.2.2.2.2.1 k4 (by omega) (by omega) n hn
  obtain ⟨k6, b9, e6, l6, u6, s6, d6⟩ := laws_markIntS_ok a.2.2.2.2.2.2.2.2.2.1 h.2.2.2.2.2.2 k5 (by omega) (by omega) n hn
  refine ⟨k6, b2, b3, b5, b6, b7, b8, b9, ?_, by omega, by omega, ⟨s0, s1, s2, s3, s4, s5, s6⟩, ?_⟩
  · unfold laws_markDepot
    simp only [e0, e1, e2, e3, e4, e5, e6, Option.bind_some]
  · unfold laws_heldDepot
    rw [d0, Option.bind_some, show decide (k0 < 0) = false by simp; omega]; simp only [cond_false]
    rw [d1, Option.bind_some, show decide (k1 < 0) = false by simp; omega]; simp only [cond_false]
    rw [d2, Option.bind_some, show decide (k2 < 0) = false by simp; omega]; simp only [cond_false]
    rw [d3, Option.bind_some, show decide (k3 < 0) = false by simp; omega]; simp only [cond_false]
    rw [d4, Option.bind_some, show decide (k4 < 0) = false by simp; omega]; simp only [cond_false]
    rw [d5, Option.bind_some, show decide (k5 < 0) = false by simp; omega]; simp only [cond_false]
    rw [d6, Option.bind_some, show decide (k6 < 0) = false by simp; omega]; simp only [cond_false]


theorem laws_markDepot_only (a : Int × Int × (List Int) × (List (Int × Int × (List (Int × Int × Int)))) × Int × (List (Int × Int × (List (Int × Int)) × (List (Int × Int × Int)) × Int)) × (List (Int × Int × Int × Bool × Int)) × (List (Int × Int × Int × Int)) × (List Int) × (List Int) × Int) (h : sm_Depot a) (k : Int) (h0 : 0 ≤ k) (h1 : k + 8796110848000 ≤ 4611686018427387904) (n : Nat) (hn : BIG ≤ n) : ∃ k' b2 b3 b5 b6 b7 b8 b9, laws_markDepot n a.1 a.2.1 a.2.2.1 a.2.2.2.1 a.2.2.2.2.1 a.2.2.2.2.2.1 a.2.2.2.2.2.2.1 a.2.2.2.2.2.2.2.1 a.2.2.2.2.2.2.2.2.1 a.2.2.2.2.2.2.2.2.2.1 a.2.2.2.2.2.2.2.2.2.2 k = some (k', (a.1, a.2.1, b2, b3, a.2.2.2.2.1, b5, b6, b7, b8, b9, a.2.2.2.2.2.2.2.2.2.2)) ∧ k ≤ k' ∧ k' ≤ k + 8796110848000 ∧ sm_Depot (a.1, a.2.1, b2, b3, a.2.2.2.2.1, b5, b6, b7, b8, b9, a.2.2.2.2.2.2.2.2.2.2) := by
  unfold sm_Depot at h
  obtain ⟨k0, b2, e0, l0, u0, s0⟩ := laws_markFloor_only (a.1, a.2.1, a.2.2.1) h.1 k (by omega) (by omega) n hn
  obtain ⟨k1, b3, e1, l1, u1, s1⟩ := laws_markStock_only a.2.2.2.1 h.2.1 k0 (by omega) (by omega) n hn
  obtain ⟨k2, b5, e2, l2, u2, s2⟩ := laws_markBook_only (a.2.2.2.2.1, a.2.2.2.2.2.1) h.2.2.1 k1 (by omega) (by omega) n hn
  obtain ⟨k3, b6, e3, l3, u3, s3⟩ := laws_markRobotS_only a.2.2.2.2.2.2.1 h.2.2.2.1 k2 (by omega) (by omega) n hn
  obtain ⟨k4, b7, e4, l4, u4, s4⟩ := laws_markTaskS_only a.2.2.2.2.2.2.2.1 h.2.2.2.2.1 k3 (by omega) (by omega) n hn
  obtain ⟨k5, b8, e5, l5, u5, s5⟩ := laws_markIntS_only a.2.2.2.2.2.2.2.2.1 h.2.2.2.2.2.1 k4 (by omega) (by omega) n hn
  obtain ⟨k6, b9, e6, l6, u6, s6⟩ := laws_markIntS_only a.2.2.2.2.2.2.2.2.2.1 h.2.2.2.2.2.2 k5 (by omega) (by omega) n hn
  refine ⟨k6, b2, b3, b5, b6, b7, b8, b9, ?_, by omega, by omega, ⟨s0, s1, s2, s3, s4, s5, s6⟩⟩
  unfold laws_markDepot
  simp only [e0, e1, e2, e3, e4, e5, e6, Option.bind_some]


theorem row1 {m : Nat} (h : m ≤ 1048576) : decide (m + 1 ≤ maxRow) = true := by
  have hm : maxRow = 68719476736 := rfl
  rw [hm]; simp; omega

theorem row0 {m : Nat} (h : m ≤ 1048576) : decide (m ≤ maxRow) = true := by
  have hm : maxRow = 68719476736 := rfl
  rw [hm]; simp; omega


/-- Two loops that go alike, and end. -/
theorem iter_two {α γ : Type} (f g : α → Option (α ⊕ γ)) (I : Nat → α → Prop) (Q : γ → Prop) (m : Nat)
    (h : ∀ i x, i ≤ m → I i x → g x = f x ∧ ((∃ y, f x = some (.inl y) ∧ I (i + 1) y ∧ i < m) ∨ ∃ r, f x = some (.inr r) ∧ Q r)) :
    ∀ n, m < n → ∀ x, I 0 x → iter n g x = iter n f x ∧ ∃ r, iter n f x = some r ∧ Q r := by
  have key : ∀ d i n x, i + d = m → d < n → I i x → iter n g x = iter n f x ∧ ∃ r, iter n f x = some r ∧ Q r := by
    intro d
    induction d with
    | zero =>
      intro i n x hi hn hI
      obtain ⟨n, rfl⟩ : ∃ k, n = k + 1 := ⟨n - 1, by omega⟩
      obtain ⟨e, h1 | ⟨r, h1, h2⟩⟩ := h i x (by omega) hI
      · obtain ⟨y, _, _, hlt⟩ := h1; omega
      · exact ⟨by rw [iter_end h1 n, iter_end (e.trans h1) n], r, iter_end h1 n, h2⟩
    | succ d ih =>
      intro i n x hi hn hI
      obtain ⟨n, rfl⟩ : ∃ k, n = k + 1 := ⟨n - 1, by omega⟩
      obtain ⟨e, ⟨y, h1, h2, _⟩ | ⟨r, h1, h2⟩⟩ := h i x (by omega) hI
      · obtain ⟨j1, j2⟩ := ih (i + 1) n y (by omega) (by omega) h2
        rw [iter_go h1 n, iter_go (e.trans h1) n]
        exact ⟨j1, j2⟩
      · exact ⟨by rw [iter_end h1 n, iter_end (e.trans h1) n], r, iter_end h1 n, h2⟩
  exact fun n hn x hx => key m 0 n x (by omega) hn hx


/-- A loop that looks for the first. -/
theorem find_loop {β : Type} (f : Int → Option (Int ⊕ (Int ⊕ Int))) (xs : List β) (P : β → Bool) (hs : ∀ (i : Nat) (x : β), i < xs.length → xs[i]? = some x → f (i : Int) = some (bif P x then .inr (.inr (i : Int)) else .inl ((i + 1 : Nat) : Int)))
    (he : f (xs.length : Int) = some (.inr (.inl (xs.length : Int)))) : ∀ n, xs.length < n → iter n f 0 = some (.inl (xs.length : Int)) ∨ ∃ i, ∃ h : i < xs.length, P xs[i] = true ∧ iter n f 0 = some (.inr (i : Int)) := by
  have key : ∀ d i n, i + d = xs.length → d < n → iter n f (i : Int) = some (.inl (xs.length : Int)) ∨ ∃ j, ∃ h : j < xs.length, P xs[j] = true ∧ iter n f (i : Int) = some (.inr (j : Int)) := by
    intro d
    induction d with
    | zero =>
      intro i n hi hn
      obtain ⟨n, rfl⟩ : ∃ k, n = k + 1 := ⟨n - 1, by omega⟩
      have : i = xs.length := by omega
      subst this
      exact .inl (iter_end he n)
    | succ d ih =>
      intro i n hi hn
      obtain ⟨n, rfl⟩ : ∃ k, n = k + 1 := ⟨n - 1, by omega⟩
      have hlt : i < xs.length := by omega
      have hf := hs i xs[i] hlt (List.getElem?_eq_getElem hlt)
      cases hp : P xs[i] with
      | true => rw [hp, cond_true] at hf; exact .inr ⟨i, hlt, hp, iter_end hf n⟩
      | false => rw [hp, cond_false] at hf; rw [iter_go hf n]; exact ih (i + 1) n (by omega) (by omega)
  exact fun n hn => key xs.length 0 n (by omega) hn


abbrev Dp := Int × Int × (List Int) × (List (Int × Int × (List SIII))) × Int × (List SIILIIJLIIIJI) × (List (Int × Int × Int × Bool × Int)) × (List (Int × Int × Int × Int)) × (List Int) × (List Int) × Int
def fDp : Dp → Prop := fP fI (fP fI (fP (fSl fI) (fP (fSl (fP fI (fP fI (fSl (fP fI (fP fI fI)))))) (fP fI (fP (fSl (fP fI (fP fI (fP (fSl (fP fI fI)) (fP (fSl (fP fI (fP fI fI))) fI))))) (fP (fSl (fP fI (fP fI (fP fI (fP fB fI))))) (fP (fSl (fP fI (fP fI (fP fI fI)))) (fP (fSl fI) (fP (fSl fI) fI)))))))))


theorem in_eq : impl_in = spec_l1In := rfl
theorem l1In_ok (a b c : Int) : spec_l1In a b c = some (decide (b ≤ a) && decide (a ≤ c)) := by
  unfold spec_l1In
  by_cases h : a ≥ b <;> simp [h]


/-- A loop that asks the same of each number. -/
theorem all_loopF {α : Type} (f : α → Option (α ⊕ (α ⊕ Bool))) (st : Nat → α) (m : Nat) (P : Nat → Bool) (hs : ∀ i, i < m → f (st i) = some (bif P i then .inl (st (i + 1)) else .inr (.inr false))) (he : f (st m) = some (.inr (.inl (st m)))) :
    ∀ n, m < n → iter n f (st 0) = some (bif (List.range m).all P then .inl (st m) else .inr false) := by
  have key : ∀ d i n, i + d = m → d < n → iter n f (st i) = some (bif (List.range' i d).all P then .inl (st m) else .inr false) := by
    intro d
    induction d with
    | zero =>
      intro i n hi hn
      obtain ⟨n, rfl⟩ : ∃ k, n = k + 1 := ⟨n - 1, by omega⟩
      have : i = m := by omega
      subst this
      rw [iter_end he n]; rfl
    | succ d ih =>
      intro i n hi hn
      obtain ⟨n, rfl⟩ : ∃ k, n = k + 1 := ⟨n - 1, by omega⟩
      have hf := hs i (by omega)
      rw [List.range'_succ, List.all_cons]
      cases hp : P i with
      | true => rw [hp, cond_true] at hf; rw [iter_go hf n, ih (i + 1) n (by omega) (by omega)]; rfl
      | false => rw [hp, cond_false] at hf; rw [iter_end hf n]; rfl
  intro n hn
  rw [List.range_eq_range']
  exact key m 0 n (by omega) hn
/-- A loop that goes on as long as something holds. -/
theorem while_loop (f : Int → Option (Int ⊕ Int)) (m : Nat) (P : Nat → Bool) (hs : ∀ i, i < m → f (i : Int) = some (bif P i then .inl ((i + 1 : Nat) : Int) else .inr (i : Int))) (he : f (m : Int) = some (.inr (m : Int))) :
    ∀ n, m < n → ∃ j, j ≤ m ∧ iter n f 0 = some (j : Int) ∧ (∀ i, i < j → P i = true) ∧ (j < m → P j = false) := by
  have key : ∀ d i n, i + d = m → d < n → ∃ j, i ≤ j ∧ j ≤ m ∧ iter n f (i : Int) = some (j : Int) ∧ (∀ q, i ≤ q → q < j → P q = true) ∧ (j < m → P j = false) := by
    intro d
    induction d with
    | zero =>
      intro i n hi hn
      obtain ⟨n, rfl⟩ : ∃ k, n = k + 1 := ⟨n - 1, by omega⟩
      have : i = m := by omega
      subst this
      exact ⟨i, Nat.le_refl _, Nat.le_refl _, iter_end he n, fun q h1 h2 => by omega, fun h => by omega⟩
    | succ d ih =>
      intro i n hi hn
      obtain ⟨n, rfl⟩ : ∃ k, n = k + 1 := ⟨n - 1, by omega⟩
      have hf := hs i (by omega)
      cases hp : P i with
      | true =>
        rw [hp, cond_true] at hf
        obtain ⟨j, h1, h2, h3, h4, h5⟩ := ih (i + 1) n (by omega) (by omega)
        refine ⟨j, by omega, h2, by rw [iter_go hf n]; exact h3, fun q q1 q2 => ?_, h5⟩
        by_cases e : q = i
        · subst e; exact hp
        · exact h4 q (by omega) q2
      | false => rw [hp, cond_false] at hf; exact ⟨i, Nat.le_refl _, by omega, iter_end hf n, fun q h1 h2 => by omega, fun _ => hp⟩
  intro n hn
  obtain ⟨j, _, h2, h3, h4, h5⟩ := key m 0 n (by omega) hn
  exact ⟨j, h2, h3, fun i hi => h4 i (by omega) hi, h5⟩

theorem take_get {β : Type} {a : List β} {i j : Nat} {y : β} (h : j < (a.take i).length) (hy : (a.take i)[j]? = some y) : j < i ∧ ∃ h : j < a.length, a[j] = y := by
  rw [List.length_take] at h
  rw [List.getElem?_take, if_pos (by omega), List.getElem?_eq_getElem (by omega)] at hy
  exact ⟨by omega, by omega, Option.some.inj hy⟩


/-- Is what stands ahead smaller? -/
def prevL {β : Type} (key : β → Int) (a : List β) (i : Nat) (x : β) : Bool := match i with
  | 0 => true
  | j + 1 => match a[j]? with
    | some y => !decide (key y ≥ key x)
    | none => true
theorem prev_F {β γ : Type} (key : β → Int) (a : List β) (x : β) (i : Nat) (hi : i < a.length) (hl : a.length ≤ 1048576) (F : Bool → Option γ) :
    (bif decide ((i : Int) > 0) then (getI a (w64 ((i : Int) - 1))).bind (fun y => F (decide (key y ≥ key x))) else F false) = F (!prevL key a i x) := by
  cases i with
  | zero => rfl
  | succ j =>
    have hw : w64 (((j + 1 : Nat) : Int) - 1) = (j : Int) := by rw [w64_eq (by omega) (by omega)]; omega
    rw [show decide (((j + 1 : Nat) : Int) > 0) = true by rw [decide_eq_true_eq]; omega, cond_true, hw, getI_lt (by omega), Option.bind_some]
    simp only [prevL, List.getElem?_eq_getElem (show j < a.length by omega), Bool.not_not]
def inB (a b c : Int) : Bool := decide (b ≤ a) && decide (a ≤ c)


theorem in_ok (a b c : Int) : spec_l1In a b c = some (inB a b c) := l1In_ok a b c


def floorOk (w h : Int) (c : List Int) : Bool := inB w 1 10 && inB h 1 10 && ((c.length : Int) == w64 (w * h)) && c.all fun k => inB k 0 4
theorem spec_FloorOk_ok (w h : Int) (c : List Int) (hl : c.length ≤ 1048576) (n : Nat) (hn : BIG ≤ n) : spec_FloorOk n w h c = some (floorOk w h c) := by
  have := all_loop (spec_FloorOk_L1 c) c (fun k => inB k 0 4) (fun i x h1 h2 => by
    have hx : c[i] = x := by rw [List.getElem?_eq_getElem h1] at h2; exact Option.some.inj h2
    simp only [spec_FloorOk_L1, getI_lt h1, hx, Option.bind_some, w64_nat h1 (by omega), in_ok]
    rw [show decide ((i : Int) < (c.length : Int)) = true by simpa using h1]
    cases inB x 0 4 <;> rfl) (by simp [spec_FloorOk_L1]) n (by unfold BIG at hn; omega)
  unfold spec_FloorOk floorOk
  rw [this]
  simp only [in_ok, Option.bind_some, bne]
  cases inB w 1 10 <;> cases inB h 1 10 <;> cases ((c.length : Int) == w64 (w * h)) <;> cases (c.all fun k => inB k 0 4) <;> rfl


theorem floor_eq : impl_FloorOk = spec_FloorOk := rfl


def freeC (c : List Int) (i : Int) : Bool := inB i 0 ((c.length : Int) - 1) && (c.getD i.toNat 0 != 0)
theorem in_nat {c : List Int} {i : Int} (h : inB i 0 ((c.length : Int) - 1) = true) : ∃ m : Nat, i = (m : Int) ∧ m < c.length := by
  unfold inB at h
  simp only [Bool.and_eq_true, decide_eq_true_eq] at h
  exact ⟨i.toNat, by omega, by omega⟩


theorem impl_KindAt_ok (w h : Int) (c : List Int) (hl : c.length ≤ 1048576) (hf : floorOk w h c = true) (i : Int) (n : Nat) (hn : BIG ≤ n) : ∃ k, impl_KindAt n w h c i = some k ∧ (k != 0) = freeC c i := by
  unfold impl_KindAt impl_isCell freeC
  rw [floor_eq, spec_FloorOk_ok w h c hl n hn, hf, show w64 ((c.length : Int) - 1) = (c.length : Int) - 1 from w64_eq (by omega) (by omega)]
  simp only [in_eq, in_ok, Option.bind_some]
  cases hb : inB i 0 ((c.length : Int) - 1) with
  | false => exact ⟨0, rfl, rfl⟩
  | true =>
    obtain ⟨m, rfl, hm⟩ := in_nat hb
    exact ⟨c[m], by simp [getI_lt hm], by simp [hm]⟩


def rOk (c : List Int) (crew : List (Int × Int × Int × Bool × Int)) (i : Nat) : Bool := match crew[i]? with
  | none => false
  | some x => inB x.1 1 99 && freeC c x.2.1 && (x.2.2.1 == -1 || freeC c x.2.2.1) && inB x.2.2.2.2 0 1000000 && prevL (·.1) crew i x && (crew.take i).all fun y => !(y.2.1 == x.2.1)
def crewOk (w h : Int) (c : List Int) (crew : List (Int × Int × Int × Bool × Int)) : Bool := floorOk w h c && decide (crew.length ≤ 20) && (List.range crew.length).all (rOk c crew)

def carries (t : List (Int × Int × Int × Int)) (x : Int × Int × Int × Bool × Int) : Bool := t.any fun y => y.2.2.1 == x.1 && inB y.2.2.2 3 4
def placesOk (a : Dp) : Bool := crewOk a.1 a.2.1 a.2.2.1 a.2.2.2.2.2.2.1 && a.2.2.2.2.2.2.1.all fun x => !(x.2.2.2.1 && !carries a.2.2.2.2.2.2.2.1 x)


def stackOk (l : List SIII) (i : Nat) : Bool := match l[i]? with
  | none => false
  | some x => inB x.1 1 50 && inB x.2.1 1 1000 && inB x.2.2 0 x.2.1 && prevL (·.1) l i x
def stacksOk (l : List SIII) : Bool := (List.range l.length).all (stackOk l) && decide (l.length ≤ 8)
abbrev Pod := Int × Int × List SIII
def podAt (a : List Pod) (i : Nat) : Bool := match a[i]? with
  | none => false
  | some x => inB x.1 1 999 && inB x.2.1 0 99 && stacksOk x.2.2 && prevL (·.1) a i x && (a.take i).all fun y => !(y.2.1 == x.2.1)
def stockOk (a : List Pod) : Bool := decide (a.length ≤ 12) && (List.range a.length).all (podAt a)


theorem spec_l5Stacks_ok (l : List SIII) (hl : l.length ≤ 1048576) (n : Nat) (hn : BIG ≤ n) : spec_l5Stacks n l = some (stacksOk l) := by
  have := all_loopF (spec_l5Stacks_L1 l) (fun i => (i : Int)) l.length (stackOk l) (fun i hi => by
    have hp : (bif decide ((i : Int) > 0) then (getI l (w64 ((i : Int) - 1))).bind (fun y => some (decide (y.1 ≥ l[i].1))) else some false) = some (!prevL (·.1) l i l[i]) := prev_F (·.1) l l[i] i hi hl some
    simp only [spec_l5Stacks_L1, stackOk, getI_lt hi, List.getElem?_eq_getElem hi, Option.bind_some, in_ok, w64_nat hi (by omega), hp]
    rw [show decide ((i : Int) < (l.length : Int)) = true by simpa using hi]
    generalize l[i] = x
    generalize prevL (·.1) l i x = b4
    cases inB x.1 1 50 <;> cases inB x.2.1 1 1000 <;> cases inB x.2.2 0 x.2.1 <;> cases b4 <;> rfl) (by simp [spec_l5Stacks_L1]) n (by unfold BIG at hn; omega)
  unfold spec_l5Stacks stacksOk
  rw [show ((0 : Nat) : Int) = 0 from rfl] at this
  rw [this]
  rw [show decide ((l.length : Int) ≤ 8) = decide (l.length ≤ 8) by rw [Bool.eq_iff_iff]; simp; omega]
  cases (List.range l.length).all (stackOk l) <;> rfl
theorem spec_StockOk_in (a : List Pod) (hl : a.length ≤ 1048576) (i : Nat) (hi : i < a.length) (x : Pod) (n : Nat) (hn : BIG ≤ n) :
    iter n (spec_StockOk_L2 a (i : Int) x) 0 = some (bif (a.take i).all fun y => !(y.2.1 == x.2.1) then .inl (i : Int) else .inr false) := by
  have hlen : (a.take i).length = i := by simp; omega
  have := all_loop (spec_StockOk_L2 a (i : Int) x) (a.take i) (fun y => !(y.2.1 == x.2.1)) (fun j y h1 h2 => by
    obtain ⟨hj, hj2, hy⟩ := take_get h1 h2
    simp only [spec_StockOk_L2, getI_lt hj2, hy, Option.bind_some, w64_nat hj2 (by omega)]
    rw [show decide ((j : Int) < (i : Int)) = true by rw [decide_eq_true_eq]; omega]
    cases (y.2.1 == x.2.1) <;> rfl) (by first | (simp [spec_StockOk_L2, hlen]; done) | (simp [spec_StockOk_L2, hlen]; omega)) n (by unfold BIG at hn; omega)
  rw [hlen] at this
  exact this
theorem spec_StockOk_ok (a : List Pod) (hs : sm_PodS a) (n : Nat) (hn : BIG ≤ n) : spec_StockOk n a = some (stockOk a) := by
  have hl : a.length ≤ 1048576 := hs.1
  have := all_loopF (spec_StockOk_L1 n a) (fun i => (i : Int)) a.length (podAt a) (fun i hi => by
    have hp : (bif decide ((i : Int) > 0) then (getI a (w64 ((i : Int) - 1))).bind (fun y => some (decide (y.1 ≥ a[i].1))) else some false) = some (!prevL (·.1) a i a[i]) := prev_F (·.1) a a[i] i hi hl some
    have hst : a[i].2.2.length ≤ 1048576 := hs.2 _ (List.getElem_mem hi)
    simp only [spec_StockOk_L1, podAt, getI_lt hi, List.getElem?_eq_getElem hi, Option.bind_some, in_ok, w64_nat hi (by omega), hp, spec_l5Stacks_ok _ hst n hn, spec_StockOk_in a hl i hi a[i] n hn]
    rw [show decide ((i : Int) < (a.length : Int)) = true by simpa using hi]
    generalize a[i] = x
    generalize ((a.take i).all fun y => !(y.2.1 == x.2.1)) = b5
    generalize prevL (·.1) a i x = b4
    cases inB x.1 1 999 <;> cases inB x.2.1 0 99 <;> cases stacksOk x.2.2 <;> cases b4 <;> cases b5 <;> rfl) (by simp [spec_StockOk_L1]) n (by unfold BIG at hn; omega)
  unfold spec_StockOk stockOk
  rw [show ((0 : Nat) : Int) = 0 from rfl] at this
  rw [this, show decide ((a.length : Int) > 12) = !decide (a.length ≤ 12) by by_cases q : a.length ≤ 12 <;> simp [q] <;> omega]
  cases decide (a.length ≤ 12) <;> cases (List.range a.length).all (podAt a) <;> rfl


theorem impl_podOk_ok (p : Pod) (hl : p.2.2.length ≤ 1048576) (n : Nat) (hn : BIG ≤ n) : impl_podOk n p.1 p.2.1 p.2.2 = some (inB p.1 1 999 && inB p.2.1 0 99 && stacksOk p.2.2) := by
  have := all_loopF (impl_podOk_L1 p.2.2) (fun i => (i : Int)) p.2.2.length (stackOk p.2.2) (fun i hi => by
    have hp : (bif decide ((i : Int) > 0) then (getI p.2.2 (w64 ((i : Int) - 1))).bind (fun y => some (decide (y.1 ≥ p.2.2[i].1))) else some false) = some (!prevL (·.1) p.2.2 i p.2.2[i]) := prev_F (·.1) p.2.2 p.2.2[i] i hi hl some
    simp only [impl_podOk_L1, stackOk, getI_lt hi, List.getElem?_eq_getElem hi, Option.bind_some, in_eq, in_ok, w64_nat hi (by omega), hp]
    rw [show decide ((i : Int) < (p.2.2.length : Int)) = true by simpa using hi]
    generalize p.2.2[i] = x
    generalize prevL (·.1) p.2.2 i x = b4
    cases inB x.1 1 50 <;> cases inB x.2.1 1 1000 <;> cases inB x.2.2 0 x.2.1 <;> cases b4 <;> rfl) (by simp [impl_podOk_L1]) n (by unfold BIG at hn; omega)
  unfold impl_podOk stacksOk
  rw [show ((0 : Nat) : Int) = 0 from rfl] at this
  rw [this, show decide ((p.2.2.length : Int) > 8) = !decide (p.2.2.length ≤ 8) by by_cases q : p.2.2.length ≤ 8 <;> simp [q] <;> omega]
  simp only [in_eq, in_ok, Option.bind_some]
  cases inB p.1 1 999 <;> cases inB p.2.1 0 99 <;> cases decide (p.2.2.length ≤ 8) <;> cases (List.range p.2.2.length).all (stackOk p.2.2) <;> rfl
theorem impl_StockOk_in (a : List Pod) (hl : a.length ≤ 1048576) (i : Nat) (hi : i < a.length) (x : Pod) (n : Nat) (hn : BIG ≤ n) :
    iter n (impl_StockOk_L2 a (i : Int) x) 0 = some (bif (a.take i).all fun y => !(y.2.1 == x.2.1) then .inl (i : Int) else .inr false) := by
  have hsub : sub a (Int.toNat (0 : Int)) (Int.toNat (i : Int)) = a.take i := by simp [sub]
  have hlen : (a.take i).length = i := by simp; omega
  have := all_loop (impl_StockOk_L2 a (i : Int) x) (a.take i) (fun y => !(y.2.1 == x.2.1)) (fun j y h1 h2 => by
    obtain ⟨hj, hj2, hy⟩ := take_get h1 h2
    simp only [impl_StockOk_L2, hsub, getI_nat, h2, Option.bind_some, w64_nat hj2 (by omega), hlen]
    rw [show decide ((j : Int) < (i : Int)) = true by rw [decide_eq_true_eq]; omega]
    cases (y.2.1 == x.2.1) <;> rfl) (by simp only [impl_StockOk_L2, hsub, hlen]; simp) n (by unfold BIG at hn; omega)
  rw [hlen] at this
  exact this
theorem impl_StockOk_ok (a : List Pod) (hs : sm_PodS a) (n : Nat) (hn : BIG ≤ n) : impl_StockOk n a = some (stockOk a) := by
  have hl : a.length ≤ 1048576 := hs.1
  have := all_loopF (impl_StockOk_L1 n a) (fun i => (i : Int)) a.length (podAt a) (fun i hi => by
    have hp : (bif decide ((i : Int) > 0) then (getI a (w64 ((i : Int) - 1))).bind (fun y => some (decide (y.1 ≥ a[i].1))) else some false) = some (!prevL (·.1) a i a[i]) := prev_F (·.1) a a[i] i hi hl some
    have hst : a[i].2.2.length ≤ 1048576 := hs.2 _ (List.getElem_mem hi)
    have hr : (decide (0 ≤ (0 : Int)) && decide ((0 : Int) ≤ (i : Int)) && decide ((i : Int) ≤ (a.length : Int))) = true := by simp; omega
    simp only [impl_StockOk_L1, podAt, getI_lt hi, List.getElem?_eq_getElem hi, Option.bind_some, w64_nat hi (by omega), hp, impl_podOk_ok _ hst n hn, impl_StockOk_in a hl i hi a[i] n hn, hr]
    rw [show decide ((i : Int) < (a.length : Int)) = true by simpa using hi]
    generalize a[i] = x
    generalize ((a.take i).all fun y => !(y.2.1 == x.2.1)) = b5
    generalize prevL (·.1) a i x = b4
    cases inB x.1 1 999 <;> cases inB x.2.1 0 99 <;> cases stacksOk x.2.2 <;> cases b4 <;> cases b5 <;> rfl) (by simp [impl_StockOk_L1]) n (by unfold BIG at hn; omega)
  unfold impl_StockOk stockOk
  rw [show ((0 : Nat) : Int) = 0 from rfl] at this
  rw [this]
  rw [show decide ((a.length : Int) ≤ 12) = decide (a.length ≤ 12) by rw [Bool.eq_iff_iff]; simp; omega]
  cases decide (a.length ≤ 12) <;> cases (List.range a.length).all (podAt a) <;> rfl


def cntOf (l : List SIII) (k : Int) : Int := match l.find? fun x => x.1 == k with
  | some x => x.2.1
  | none => 0
theorem stack_lt {l : List SIII} (h : stacksOk l = true) : ∀ (i j : Nat) (hj : j < l.length) (hij : i < j), (l[i]'(by omega)).1 < l[j].1 := by
  unfold stacksOk at h
  simp only [Bool.and_eq_true, List.all_eq_true, List.mem_range] at h
  have step : ∀ j (hj : j + 1 < l.length), (l[j]'(by omega)).1 < l[j + 1].1 := by
    intro j hj
    have := h.1 (j + 1) hj
    simp only [stackOk, List.getElem?_eq_getElem hj, Bool.and_eq_true, prevL, List.getElem?_eq_getElem (show j < l.length by omega)] at this
    have := this.2
    simpa using this
  intro i j
  induction j with
  | zero => intro hj hij; omega
  | succ j ih =>
    intro hj hij
    have h1 := step j hj
    by_cases e : i = j
    · subst e; exact h1
    · have := ih (by omega) (by omega); omega
theorem stack_cnt {l : List SIII} (h : stacksOk l = true) (k : Int) : 0 ≤ cntOf l k ∧ cntOf l k ≤ 1000 := by
  unfold cntOf
  cases hf : l.find? fun x => x.1 == k with
  | none => simp
  | some x =>
    have hm := List.mem_of_find?_eq_some hf
    obtain ⟨i, hi, rfl⟩ := List.getElem_of_mem hm
    unfold stacksOk at h
    simp only [Bool.and_eq_true, List.all_eq_true, List.mem_range] at h
    have := h.1 i hi
    simp only [stackOk, List.getElem?_eq_getElem hi, Bool.and_eq_true, inB, decide_eq_true_eq] at this
    show 0 ≤ l[i].2.1 ∧ l[i].2.1 ≤ 1000
    omega
theorem cnt_at {l : List SIII} (h : stacksOk l = true) {j : Nat} (hj : j < l.length) {k : Int} (hk : l[j].1 = k) : cntOf l k = l[j].2.1 := by
  unfold cntOf
  cases hf : l.find? fun x => x.1 == k with
  | none =>
    have := List.find?_eq_none.1 hf l[j] (List.getElem_mem hj)
    simp [hk] at this
  | some x =>
    obtain ⟨i, hi, rfl⟩ := List.getElem_of_mem (List.mem_of_find?_eq_some hf)
    have hki : l[i].1 = k := by have := List.find?_some hf; simpa using this
    rcases Nat.lt_trichotomy i j with q | q | q
    · have := stack_lt h i j hj q; omega
    · subst q; rfl
    · have := stack_lt h j i hi q; omega
theorem cnt_no {l : List SIII} {k : Int} (h : ∀ x ∈ l, x.1 ≠ k) : cntOf l k = 0 := by
  unfold cntOf
  rw [List.find?_eq_none.2 fun x hx => by simpa using h x hx]
/-- How many pieces lie in the stock. -/
def countOf (a : List Pod) (k : Int) : Int := bif stockOk a then (a.map fun p => cntOf p.2.2 k).foldl (· + ·) 0 else 0
theorem pods_ok {a : List Pod} (h : stockOk a = true) : a.length ≤ 12 ∧ ∀ i (hi : i < a.length), stacksOk a[i].2.2 = true := by
  unfold stockOk at h
  simp only [Bool.and_eq_true, List.all_eq_true, List.mem_range, decide_eq_true_eq] at h
  refine ⟨h.1, fun i hi => ?_⟩
  have := h.2 i hi
  simp only [podAt, List.getElem?_eq_getElem hi, Bool.and_eq_true] at this
  exact this.1.1.2


theorem spec_l5Stack_ok (p : Pod) (hl : p.2.2.length ≤ 1048576) (k : Int) (n : Nat) (hn : BIG ≤ n) : ∃ s, spec_l5Stack n p.1 p.2.1 p.2.2 k = some s ∧ s.2.1 = cntOf p.2.2 k := by
  have hc := iter_rec (σ := Unit) (spec_l5Stack_L1 p.2.2 k) (fun i _ => ((i : Int), (0 : Int), (0 : Int), (0 : Int))) p.2.2 (fun l _ => match l.find? (fun x => x.1 == k) with | some x => .inr x | none => .inl ((p.2.2.length : Int), 0, 0, 0)) (fun _ _ => True)
    (fun s hs => by simp [spec_l5Stack_L1])
    (fun i x l s h1 h2 h3 h4 h5 => by
      have hx : p.2.2[i] = x := by rw [List.getElem?_eq_getElem h1] at h2; exact Option.some.inj h2
      cases hq : (x.1 == k) with
      | true => right; simp [spec_l5Stack_L1, h1, getI_lt h1, hx, hq]
      | false => left; exact ⟨(), by simp [spec_l5Stack_L1, h1, getI_lt h1, hx, hq, w64_nat h1 (by omega)], trivial, by simp [hq]⟩)
    n (by unfold BIG at hn; omega) () trivial
  unfold spec_l5Stack
  rw [show ((0 : Nat) : Int) = 0 from rfl] at hc
  rw [hc]
  unfold cntOf
  cases p.2.2.find? fun x => x.1 == k with
  | none => exact ⟨(k, 0, 0), rfl, rfl⟩
  | some x => exact ⟨x, rfl, rfl⟩
theorem spec_Count_ok (a : List Pod) (hs : sm_PodS a) (k : Int) (n : Nat) (hn : BIG ≤ n) : spec_Count n a k = some (countOf a k) := by
  have hl : a.length ≤ 1048576 := hs.1
  have hst := spec_StockOk_ok a hs n hn
  unfold spec_Count countOf
  cases hk : stockOk a with
  | false =>
    obtain ⟨m, rfl⟩ : ∃ m, n = m + 1 := ⟨n - 1, by unfold BIG at hn; omega⟩
    have : spec_Count_L1 (m + 1) a k ((0 : Int), (0 : Int)) = some (.inr (0, 0)) := by
      unfold spec_Count_L1
      rw [hst, hk]
      cases decide ((0 : Int) < (a.length : Int)) <;> rfl
    rw [iter_end this m]; rfl
  | true =>
    obtain ⟨h12, hp⟩ := pods_ok hk
    have hc := iter_rec (σ := Int) (spec_Count_L1 n a k) (fun i s => (s, (i : Int))) a (fun l s => ((l.map fun p => cntOf p.2.2 k).foldl (· + ·) s, (a.length : Int))) (fun i s => 0 ≤ s ∧ s ≤ 1000 * (i : Int) ∧ i ≤ 12)
      (fun s hs => by simp [spec_Count_L1])
      (fun i x l s h1 h2 h3 h4 h5 => by
        left
        have hx : a[i] = x := by rw [List.getElem?_eq_getElem h1] at h2; exact Option.some.inj h2
        have hlen : x.2.2.length ≤ 1048576 := by rw [← hx]; exact hs.2 _ (List.getElem_mem h1)
        obtain ⟨q, e, he⟩ := spec_l5Stack_ok x hlen k n hn
        have hb := stack_cnt (hx ▸ hp i h1) k
        refine ⟨s + cntOf x.2.2 k, ?_, by omega, rfl⟩
        unfold spec_Count_L1
        rw [hst, hk, show decide ((i : Int) < (a.length : Int)) = true by simpa using h1]
        simp only [cond_true, Option.bind_some, getI_lt h1, hx, e, he, w64_nat h1 (by omega)]
        rw [w64_eq (by omega) (by omega)])
      n (by unfold BIG at hn; omega) 0 ⟨by omega, by omega, by omega⟩
    rw [show ((0 : Nat) : Int) = 0 from rfl] at hc
    rw [hc]; rfl


theorem impl_stackAt_ok (p : Pod) (hl : p.2.2.length ≤ 1048576) (hs : stacksOk p.2.2 = true) (k : Int) (n : Nat) (hn : BIG ≤ n) :
    ∃ (j : Nat) (b : Bool), impl_stackAt n p.1 p.2.1 p.2.2 k = some ((j : Int), b) ∧ (b = true → ∃ h : j < p.2.2.length, cntOf p.2.2 k = p.2.2[j].2.1) ∧ (b = false → cntOf p.2.2 k = 0) := by
  obtain ⟨j, h1, h2, h3, h4⟩ := while_loop (impl_stackAt_L1 p.2.2 k) p.2.2.length (fun i => decide ((p.2.2.getD i (0, 0, 0)).1 < k)) (fun i hi => by
    simp only [impl_stackAt_L1, getI_lt hi, Option.bind_some, w64_nat hi (by omega)]
    rw [show decide ((i : Int) < (p.2.2.length : Int)) = true by simpa using hi]
    rw [show p.2.2.getD i (0, 0, 0) = p.2.2[i] by simp [hi]]
    cases decide (p.2.2[i].1 < k) <;> rfl) (by simp [impl_stackAt_L1]) n (by unfold BIG at hn; omega)
  have hlow : ∀ i (hi : i < p.2.2.length), i < j → p.2.2[i].1 < k := by
    intro i hi hij
    have := h3 i hij
    simpa [hi] using this
  unfold impl_stackAt
  rw [h2]
  by_cases hj : j < p.2.2.length
  · have hge := h4 hj
    have hge : k ≤ p.2.2[j].1 := by simpa [hj] using hge
    refine ⟨j, p.2.2[j].1 == k, ?_, fun hb => ⟨hj, cnt_at hs hj (by simpa using hb)⟩, fun hb => cnt_no fun x hx => ?_⟩
    · simp [hj, getI_lt hj]
    · obtain ⟨i, hi, rfl⟩ := List.getElem_of_mem hx
      have hne : p.2.2[j].1 ≠ k := by simpa using hb
      rcases Nat.lt_trichotomy i j with q | q | q
      · have := hlow i hi q; omega
      · subst q; exact hne
      · have := stack_lt hs j i hi q; omega
  · refine ⟨j, false, ?_, fun hb => (by cases hb), fun _ => cnt_no fun x hx => ?_⟩
    · rw [Option.bind_some, show decide ((j : Int) < (p.2.2.length : Int)) = false by simp; omega]; rfl
    · obtain ⟨i, hi, rfl⟩ := List.getElem_of_mem hx
      have := hlow i hi (by omega); omega
theorem impl_Count_ok (a : List Pod) (hs : sm_PodS a) (k : Int) (n : Nat) (hn : BIG ≤ n) : impl_Count n a k = some (countOf a k) := by
  have hl : a.length ≤ 1048576 := hs.1
  unfold impl_Count countOf
  rw [impl_StockOk_ok a hs n hn]
  cases hk : stockOk a with
  | false => rfl
  | true =>
    obtain ⟨h12, hp⟩ := pods_ok hk
    have hc := iter_rec (σ := Int) (impl_Count_L1 n a k) (fun i s => (s, (i : Int))) a (fun l s => ((l.map fun p => cntOf p.2.2 k).foldl (· + ·) s, (a.length : Int))) (fun i s => 0 ≤ s ∧ s ≤ 1000 * (i : Int) ∧ i ≤ 12)
      (fun s hs => by simp [impl_Count_L1])
      (fun i x l s h1 h2 h3 h4 h5 => by
        left
        have hx : a[i] = x := by rw [List.getElem?_eq_getElem h1] at h2; exact Option.some.inj h2
        have hlen : x.2.2.length ≤ 1048576 := by rw [← hx]; exact hs.2 _ (List.getElem_mem h1)
        obtain ⟨j, b, e, hb1, hb2⟩ := impl_stackAt_ok x hlen (hx ▸ hp i h1) k n hn
        have hb := stack_cnt (hx ▸ hp i h1) k
        refine ⟨s + cntOf x.2.2 k, ?_, by omega, rfl⟩
        unfold impl_Count_L1
        rw [show decide ((i : Int) < (a.length : Int)) = true by simpa using h1]
        simp only [cond_true, Option.bind_some, getI_lt h1, hx, e, w64_nat h1 (by omega)]
        cases b with
        | false => simp [hb2 rfl]
        | true =>
          obtain ⟨hj, hc⟩ := hb1 rfl
          simp only [cond_true, getI_lt hj, Option.bind_some, ← hc]
          rw [w64_eq (by omega) (by omega)])
      n (by unfold BIG at hn; omega) 0 ⟨by omega, by omega, by omega⟩
    rw [show ((0 : Nat) : Int) = 0 from rfl] at hc
    simp only [Option.bind_some, Bool.not_true, cond_false]
    rw [hc]; rfl


/-- A loop that asks the same of each number, with an answer where it falls. -/
theorem all_loopG {α γ : Type} (f : α → Option (α ⊕ (α ⊕ γ))) (st : Nat → α) (m : Nat) (P : Nat → Bool) (r : γ) (hs : ∀ i, i < m → f (st i) = some (bif P i then .inl (st (i + 1)) else .inr (.inr r))) (he : f (st m) = some (.inr (.inl (st m)))) :
    ∀ n, m < n → iter n f (st 0) = some (bif (List.range m).all P then .inl (st m) else .inr r) := by
  have key : ∀ d i n, i + d = m → d < n → iter n f (st i) = some (bif (List.range' i d).all P then .inl (st m) else .inr r) := by
    intro d
    induction d with
    | zero =>
      intro i n hi hn
      obtain ⟨n, rfl⟩ : ∃ k, n = k + 1 := ⟨n - 1, by omega⟩
      have : i = m := by omega
      subst this
      rw [iter_end he n]; rfl
    | succ d ih =>
      intro i n hi hn
      obtain ⟨n, rfl⟩ : ∃ k, n = k + 1 := ⟨n - 1, by omega⟩
      have hf := hs i (by omega)
      rw [List.range'_succ, List.all_cons]
      cases hp : P i with
      | true => rw [hp, cond_true] at hf; rw [iter_go hf n, ih (i + 1) n (by omega) (by omega)]; rfl
      | false => rw [hp, cond_false] at hf; rw [iter_end hf n]; rfl
  intro n hn
  rw [List.range_eq_range']
  exact key m 0 n (by omega) hn


theorem spec_l1Copy_ok (w h : Int) (c : List Int) (hl : c.length ≤ 1048576) : spec_l1Copy w h c = some (w, h, c) := by
  unfold spec_l1Copy; simp [row0 hl]


theorem impl_copyFloor_ok (w h : Int) (c : List Int) (hl : c.length ≤ 1048576) : impl_copyFloor w h c = some (w, h, c) := by
  unfold impl_copyFloor impl_copyInts; simp [row0 hl]


theorem spec_l5Copy_ok (a : List Pod) (hs : sm_PodS a) (n : Nat) (hn : BIG ≤ n) : spec_l5Copy n a = some a := by
  have hl : a.length ≤ 1048576 := hs.1
  have hc := iter_rec (σ := List Pod) (spec_l5Copy_L1 a) (fun i s => ((i : Int), s)) a (fun l s => ((a.length : Int), s ++ l)) (fun i s => s.length = i)
    (fun s hs => by simp [spec_l5Copy_L1])
    (fun i x l s h1 h2 h3 h4 h5 => by
      left
      have hx : a[i] = x := by rw [List.getElem?_eq_getElem h1] at h2; exact Option.some.inj h2
      have hst : x.2.2.length ≤ 1048576 := by rw [← hx]; exact hs.2 _ (List.getElem_mem h1)
      have hr : decide (s.length + 1 ≤ maxRow) = true := row1 (by omega)
      exact ⟨s ++ [x], by simp [spec_l5Copy_L1, h1, getI_lt h1, hx, row0 hst, hr, w64_nat h1 (by omega)], by simp [h5], by simp⟩)
    n (by unfold BIG at hn; omega) [] rfl
  unfold spec_l5Copy
  rw [show ((0 : Nat) : Int) = 0 from rfl] at hc
  rw [hc]; rfl


theorem impl_copyStock_ok (a : List Pod) (hs : sm_PodS a) (n : Nat) (hn : BIG ≤ n) : impl_copyStock n a = some a := by
  have hl : a.length ≤ 1048576 := hs.1
  have hc := iter_rec (σ := List Pod) (impl_copyStock_L1 a) (fun i s => ((i : Int), s)) a (fun l s => ((a.length : Int), s ++ l)) (fun i s => s.length = i)
    (fun s hs => by simp [impl_copyStock_L1])
    (fun i x l s h1 h2 h3 h4 h5 => by
      left
      have hx : a[i] = x := by rw [List.getElem?_eq_getElem h1] at h2; exact Option.some.inj h2
      have hst : x.2.2.length ≤ 1048576 := by rw [← hx]; exact hs.2 _ (List.getElem_mem h1)
      have hr : decide (s.length + 1 ≤ maxRow) = true := row1 (by omega)
      exact ⟨s ++ [x], by simp [impl_copyStock_L1, h1, getI_lt h1, hx, row0 hst, hr, w64_nat h1 (by omega)], by simp [h5], by simp⟩)
    n (by unfold BIG at hn; omega) [] rfl
  unfold impl_copyStock
  rw [show ((0 : Nat) : Int) = 0 from rfl] at hc
  rw [hc]; rfl


theorem CellsOf_ok (w h : Int) (c : List Int) (hl : c.length ≤ 1048576) (hf : floorOk w h c = true) (k : Int) (n : Nat) (hn : BIG ≤ n) : ∃ l : List Int, spec_CellsOf n w h c k = some l ∧ impl_CellsOf n w h c k = some l ∧ l.length ≤ c.length := by
  have hs := spec_FloorOk_ok w h c hl n hn
  obtain ⟨e1, r, e2, hr⟩ := iter_two (α := List Int × Int) (γ := List Int × Int) (spec_CellsOf_L1 n w h c k) (impl_CellsOf_L1 c k) (fun i x => x.2 = (i : Int) ∧ x.1.length ≤ i) (fun r => r.1.length ≤ c.length) c.length (fun i x hi hI => by
    obtain ⟨s, q⟩ := x
    obtain ⟨hq, hlen⟩ := hI
    dsimp only at hq hlen
    subst hq
    unfold spec_CellsOf_L1 impl_CellsOf_L1
    rw [hs, hf]
    dsimp only
    by_cases hlt : i < c.length
    case neg =>
      rw [show decide ((i : Int) < (c.length : Int)) = false by rw [decide_eq_false_iff_not]; omega]
      exact ⟨rfl, .inr ⟨_, rfl, by show s.length ≤ _; omega⟩⟩
    rw [show decide ((i : Int) < (c.length : Int)) = true by rw [decide_eq_true_eq]; omega]
    have hr : decide (s.length + 1 ≤ maxRow) = true := row1 (by omega)
    simp only [cond_true, Option.bind_some, getI_lt hlt, w64_nat hlt (by omega), List.length_singleton, hr]
    cases (c[i] == k)
    · exact ⟨by trivial, .inl ⟨_, rfl, ⟨rfl, by show s.length ≤ _; omega⟩, hlt⟩⟩
    · exact ⟨by trivial, .inl ⟨_, rfl, ⟨rfl, by show (s ++ [_]).length ≤ _; simp; omega⟩, hlt⟩⟩) n (by unfold BIG at hn; omega) ([], 0) ⟨rfl, by simp⟩
  refine ⟨r.1, ?_, ?_, hr⟩
  · unfold spec_CellsOf; rw [e2]; rfl
  · unfold impl_CellsOf; rw [floor_eq, hs, hf]
    simp only [Option.bind_some, Bool.not_true, cond_false]
    rw [e1, e2]; rfl


abbrev Dn := Int × Int × (List Int) × (List (Int × Int × (List SIII))) × Int × (List SIILIIJLIIIJI) × (List (Int × Int × Int × Bool × Int)) × (List (Int × Int × Int × Int)) × (List Int) × (List Int) × Int
def dnZero : Dn := (0, 0, [], [], 0, [], [], [], [], [], 0)
def tupDn (x : Dn × Bool) : Int × Int × (List Int) × (List (Int × Int × (List SIII))) × Int × (List SIILIIJLIIIJI) × (List (Int × Int × Int × Bool × Int)) × (List (Int × Int × Int × Int)) × (List Int) × (List Int) × Int × Bool :=
  (x.1.1, x.1.2.1, x.1.2.2.1, x.1.2.2.2.1, x.1.2.2.2.2.1, x.1.2.2.2.2.2.1, x.1.2.2.2.2.2.2.1, x.1.2.2.2.2.2.2.2.1, x.1.2.2.2.2.2.2.2.2.1, x.1.2.2.2.2.2.2.2.2.2.1, x.1.2.2.2.2.2.2.2.2.2.2, x.2)
def homeAt (c : List Int) (a : List Pod) (i : Nat) : Bool := match a[i]? with
  | some p => inB p.2.1 0 ((c.length : Int) - 1) && (c.getD p.2.1.toNat 0 == 2)
  | none => false
def heldAt (a : List Pod) (i : Nat) : Bool := match a[i]? with
  | some p => (List.range p.2.2.length).all fun k => !decide ((p.2.2.getD k (0, 0, 0)).2.2 > 0)
  | none => false
def crewTo (docks : List Int) : Nat → List (Int × Int × Int × Bool × Int)
  | 0 => []
  | i + 1 => crewTo docks i ++ [(((i + 1 : Nat) : Int), docks.getD i 0, -1, false, 0)]
theorem crewTo_len (docks : List Int) : ∀ i, (crewTo docks i).length = i
  | 0 => rfl
  | i + 1 => by simp [crewTo, crewTo_len docks i]
def startTo (a : List Pod) : Nat → List Int
  | 0 => List.replicate 51 0
  | i + 1 => (startTo a i).set (i + 1) (countOf a ((i + 1 : Nat) : Int))
theorem startTo_len (a : List Pod) : ∀ i, (startTo a i).length = 51
  | 0 => rfl
  | i + 1 => by simp [startTo, startTo_len a i]


theorem spec_DepotNew_in (a : List Pod) (i : Nat) (hi : i < a.length) (hst : a[i].2.2.length ≤ 1048576) (y : Int × Dn) (hy : y.1 = (i : Int)) (z : Dn) (n : Nat) (hn : BIG ≤ n) :
    iter n (spec_DepotNew_L2 a y) (0, z) = some (bif heldAt a i then .inl ((a[i].2.2.length : Int), z) else .inr (tupDn (dnZero, false))) := by
  have := all_loopG (spec_DepotNew_L2 a y) (fun k => ((k : Int), z)) a[i].2.2.length (fun k => !decide ((a[i].2.2.getD k (0, 0, 0)).2.2 > 0)) (tupDn (dnZero, false)) (fun k hk => by
    unfold spec_DepotNew_L2
    rw [hy]
    simp only [getI_lt hi, Option.bind_some, getI_lt hk, w64_nat hk (by omega)]
    rw [show decide ((k : Int) < (a[i].2.2.length : Int)) = true by simpa using hk]
    rw [show a[i].2.2.getD k (0, 0, 0) = a[i].2.2[k] by simp [hk]]
    cases decide (a[i].2.2[k].2.2 > 0) <;> rfl) (by
    unfold spec_DepotNew_L2
    rw [hy]
    simp [getI_lt hi]) n (by unfold BIG at hn; omega)
  rw [show ((0 : Nat) : Int) = 0 from rfl] at this
  rw [this]
  simp only [heldAt, List.getElem?_eq_getElem hi]


theorem spec_DepotNew_out (c : List Int) (hc : c.length ≤ 1048576) (a : List Pod) (hs : sm_PodS a) (z : Dn) (n : Nat) (hn : BIG ≤ n) :
    iter n (spec_DepotNew_L1 n c a) (0, z) = some (bif (List.range a.length).all (fun i => homeAt c a i && heldAt a i) then .inl ((a.length : Int), z) else .inr (tupDn (dnZero, false))) := by
  have hl : a.length ≤ 1048576 := hs.1
  have := all_loopG (spec_DepotNew_L1 n c a) (fun k => ((k : Int), z)) a.length (fun i => homeAt c a i && heldAt a i) (tupDn (dnZero, false)) (fun i hi => by
    have hst : a[i].2.2.length ≤ 1048576 := hs.2 _ (List.getElem_mem hi)
    have hin := spec_DepotNew_in a i hi hst ((i : Int), z) rfl z n hn
    unfold spec_DepotNew_L1
    dsimp only
    rw [show decide ((i : Int) < (a.length : Int)) = true by simpa using hi]
    simp only [cond_true, getI_lt hi, Option.bind_some, in_ok, w64_nat hi (by omega)]
    rw [show w64 ((c.length : Int) - 1) = (c.length : Int) - 1 from w64_eq (by omega) (by omega)]
    rw [show ((0 : Int), z.1, z.2.1, z.2.2.1, z.2.2.2.1, z.2.2.2.2.1, z.2.2.2.2.2.1, z.2.2.2.2.2.2.1, z.2.2.2.2.2.2.2.1, z.2.2.2.2.2.2.2.2.1, z.2.2.2.2.2.2.2.2.2.1, z.2.2.2.2.2.2.2.2.2.2) = ((0 : Int), z) from rfl, hin]
    simp only [homeAt, List.getElem?_eq_getElem hi]
    cases hb : inB a[i].2.1 0 ((c.length : Int) - 1) with
    | false => rfl
    | true =>
      obtain ⟨m, hm, hmlt⟩ := in_nat hb
      rw [hm]
      simp only [getI_lt hmlt, Option.bind_some, Bool.not_true, cond_false]
      rw [show c.getD (m : Int).toNat 0 = c[m] by simp [hmlt]]
      cases hq : (c[m] == 2) with
      | false => simp only [bne, hq, Bool.not_false, cond_true]; rfl
      | true =>
        simp only [bne, hq, Bool.not_true, cond_false]
        cases heldAt a i <;> rfl) (by
    unfold spec_DepotNew_L1
    simp) n (by unfold BIG at hn; omega)
  rw [show ((0 : Nat) : Int) = 0 from rfl] at this
  exact this


theorem impl_anyHeld_ok (a : List Pod) (hs : sm_PodS a) (n : Nat) (hn : BIG ≤ n) : impl_anyHeld n a = some (!(List.range a.length).all (heldAt a)) := by
  have hl : a.length ≤ 1048576 := hs.1
  have := all_loopG (impl_anyHeld_L1 n a) (fun k => (k : Int)) a.length (heldAt a) true (fun i hi => by
    have hst : a[i].2.2.length ≤ 1048576 := hs.2 _ (List.getElem_mem hi)
    have hin := all_loopG (impl_anyHeld_L2 a[i]) (fun k => (k : Int)) a[i].2.2.length (fun k => !decide ((a[i].2.2.getD k (0, 0, 0)).2.2 > 0)) true (fun k hk => by
      unfold impl_anyHeld_L2
      simp only [getI_lt hk, Option.bind_some, w64_nat hk (by omega)]
      rw [show decide ((k : Int) < (a[i].2.2.length : Int)) = true by simpa using hk]
      rw [show a[i].2.2.getD k (0, 0, 0) = a[i].2.2[k] by simp [hk]]
      cases decide (a[i].2.2[k].2.2 > 0) <;> rfl) (by simp [impl_anyHeld_L2]) n (by unfold BIG at hn; omega)
    unfold impl_anyHeld_L1
    rw [show ((0 : Nat) : Int) = 0 from rfl] at hin
    simp only [getI_lt hi, Option.bind_some, w64_nat hi (by omega), hin]
    rw [show decide ((i : Int) < (a.length : Int)) = true by simpa using hi]
    simp only [heldAt, List.getElem?_eq_getElem hi]
    cases ((List.range a[i].2.2.length).all fun k => !decide ((a[i].2.2.getD k (0, 0, 0)).2.2 > 0)) <;> rfl) (by simp [impl_anyHeld_L1]) n (by unfold BIG at hn; omega)
  unfold impl_anyHeld
  rw [show ((0 : Nat) : Int) = 0 from rfl] at this
  rw [this]
  cases (List.range a.length).all (heldAt a) <;> rfl


theorem impl_KindAt_val (w h : Int) (c : List Int) (hl : c.length ≤ 1048576) (hf : floorOk w h c = true) (i : Int) (n : Nat) (hn : BIG ≤ n) : impl_KindAt n w h c i = some (bif inB i 0 ((c.length : Int) - 1) then c.getD i.toNat 0 else 0) := by
  unfold impl_KindAt impl_isCell
  rw [floor_eq, spec_FloorOk_ok w h c hl n hn, hf, show w64 ((c.length : Int) - 1) = (c.length : Int) - 1 from w64_eq (by omega) (by omega)]
  simp only [in_eq, in_ok, Option.bind_some]
  cases hb : inB i 0 ((c.length : Int) - 1) with
  | false => rfl
  | true =>
    obtain ⟨m, rfl, hm⟩ := in_nat hb
    simp [getI_lt hm, hm]


theorem impl_DepotNew_out (w h : Int) (c : List Int) (hc : c.length ≤ 1048576) (hf : floorOk w h c = true) (a : List Pod) (hs : sm_PodS a) (z : Dn) (n : Nat) (hn : BIG ≤ n) :
    iter n (impl_DepotNew_L1 n w h c a) (0, z) = some (bif (List.range a.length).all (homeAt c a) then .inl ((a.length : Int), z) else .inr (tupDn (dnZero, false))) := by
  have hl : a.length ≤ 1048576 := hs.1
  have := all_loopG (impl_DepotNew_L1 n w h c a) (fun k => ((k : Int), z)) a.length (homeAt c a) (tupDn (dnZero, false)) (fun i hi => by
    unfold impl_DepotNew_L1
    dsimp only
    rw [show decide ((i : Int) < (a.length : Int)) = true by simpa using hi]
    simp only [cond_true, getI_lt hi, Option.bind_some, w64_nat hi (by omega), impl_KindAt_val w h c hc hf _ n hn, homeAt, List.getElem?_eq_getElem hi]
    cases inB a[i].2.1 0 ((c.length : Int) - 1) with
    | false => rfl
    | true =>
      simp only [cond_true, Bool.true_and, bne]
      cases (c.getD a[i].2.1.toNat 0 == 2) <;> rfl) (by
    unfold impl_DepotNew_L1
    simp) n (by unfold BIG at hn; omega)
  rw [show ((0 : Nat) : Int) = 0 from rfl] at this
  exact this


theorem spec_DepotNew_start (a : List Pod) (hs : sm_PodS a) (f0 f1 : Int) (c : List Int) (p : List Pod) (bn : Int) (os : List SIILIIJLIIIJI) (cr : List (Int × Int × Int × Bool × Int)) (ts : List (Int × Int × Int × Int)) (ou : List Int) (tk : Int) (n : Nat) (hn : BIG ≤ n) :
    iter n (spec_DepotNew_L3 n a) (1, f0, f1, c, p, bn, os, cr, ts, List.replicate 51 0, ou, tk) = some (51, f0, f1, c, p, bn, os, cr, ts, startTo a 50, ou, tk) := by
  have := iter_steps (γ := Int × Dn) (spec_DepotNew_L3 n a) (fun i => (((i + 1 : Nat) : Int), f0, f1, c, p, bn, os, cr, ts, startTo a i, ou, tk)) 50 (51, f0, f1, c, p, bn, os, cr, ts, startTo a 50, ou, tk) (fun i hi => by
    unfold spec_DepotNew_L3
    dsimp only
    have hin : inb (startTo a i) (((i + 1 : Nat) : Int)) = true := inb_lt (by rw [startTo_len]; omega)
    rw [show decide (((i + 1 : Nat) : Int) ≤ 50) = true by rw [decide_eq_true_eq]; omega, cond_true, spec_Count_ok a hs _ n hn, Option.bind_some, hin, cond_true, show w64 (((i + 1 : Nat) : Int) + 1) = ((i + 1 + 1 : Nat) : Int) by rw [w64_eq (by omega) (by omega)]; omega]
    rw [show Int.toNat ((i + 1 : Nat) : Int) = i + 1 by omega, upd_is]
    rfl) (by unfold spec_DepotNew_L3; simp) n (by unfold BIG at hn; omega)
  exact this


theorem impl_DepotNew_start (a : List Pod) (hs : sm_PodS a) (f0 f1 : Int) (c : List Int) (p : List Pod) (bn : Int) (os : List SIILIIJLIIIJI) (cr : List (Int × Int × Int × Bool × Int)) (ts : List (Int × Int × Int × Int)) (ou : List Int) (tk : Int) (n : Nat) (hn : BIG ≤ n) :
    iter n (impl_DepotNew_L3 n a) (1, f0, f1, c, p, bn, os, cr, ts, List.replicate 51 0, ou, tk) = some (51, f0, f1, c, p, bn, os, cr, ts, startTo a 50, ou, tk) := by
  have := iter_steps (γ := Int × Dn) (impl_DepotNew_L3 n a) (fun i => (((i + 1 : Nat) : Int), f0, f1, c, p, bn, os, cr, ts, startTo a i, ou, tk)) 50 (51, f0, f1, c, p, bn, os, cr, ts, startTo a 50, ou, tk) (fun i hi => by
    unfold impl_DepotNew_L3
    dsimp only
    have hin : inb (startTo a i) (((i + 1 : Nat) : Int)) = true := inb_lt (by rw [startTo_len]; omega)
    rw [show decide (((i + 1 : Nat) : Int) ≤ 50) = true by rw [decide_eq_true_eq]; omega, cond_true, impl_Count_ok a hs _ n hn, Option.bind_some, hin, cond_true, show w64 (((i + 1 : Nat) : Int) + 1) = ((i + 1 + 1 : Nat) : Int) by rw [w64_eq (by omega) (by omega)]; omega]
    rw [show Int.toNat ((i + 1 : Nat) : Int) = i + 1 by omega, upd_is]
    rfl) (by unfold impl_DepotNew_L3; simp) n (by unfold BIG at hn; omega)
  exact this


theorem spec_DepotNew_crew (docks : List Int) (hd : docks.length ≤ 1048576) (f0 f1 : Int) (c : List Int) (p : List Pod) (bn : Int) (os : List SIILIIJLIIIJI) (ts : List (Int × Int × Int × Int)) (sr ou : List Int) (tk : Int) (n : Nat) (hn : BIG ≤ n) :
    iter n (spec_DepotNew_L4 docks) (0, f0, f1, c, p, bn, os, [], ts, sr, ou, tk) = some (((min docks.length 20 : Nat) : Int), f0, f1, c, p, bn, os, crewTo docks (min docks.length 20), ts, sr, ou, tk) := by
  have := iter_steps (γ := Int × Dn) (spec_DepotNew_L4 docks) (fun i => ((i : Int), f0, f1, c, p, bn, os, crewTo docks i, ts, sr, ou, tk)) (min docks.length 20) (((min docks.length 20 : Nat) : Int), f0, f1, c, p, bn, os, crewTo docks (min docks.length 20), ts, sr, ou, tk) (fun i hi => by
    unfold spec_DepotNew_L4
    dsimp only
    have hlt : i < docks.length := by omega
    have hr : decide ((crewTo docks i).length + 1 ≤ maxRow) = true := row1 (by rw [crewTo_len]; omega)
    have hgo : docks[Int.toNat (i : Int)]? = some docks[i] := by simp [hlt]
    rw [show decide ((i : Int) < (docks.length : Int)) = true by rw [decide_eq_true_eq]; omega, show decide ((i : Int) < 20) = true by rw [decide_eq_true_eq]; omega]
    simp only [cond_true, Option.bind_some, inb_lt hlt, hgo, List.length_singleton, hr, w64_nat hlt (by omega)]
    simp only [crewTo]
    rw [show docks.getD i 0 = docks[i] by simp [hlt]]) (by
    unfold spec_DepotNew_L4
    dsimp only
    by_cases hlt : docks.length ≤ 20
    · rw [show min docks.length 20 = docks.length by omega]; simp
    · rw [show min docks.length 20 = 20 by omega]
      rw [show decide (((20 : Nat) : Int) < 20) = false from rfl]
      cases decide (((20 : Nat) : Int) < (docks.length : Int)) <;> rfl) n (by unfold BIG at hn; omega)
  exact this


theorem impl_DepotNew_crew (docks : List Int) (hd : docks.length ≤ 1048576) (f0 f1 : Int) (c : List Int) (p : List Pod) (bn : Int) (os : List SIILIIJLIIIJI) (ts : List (Int × Int × Int × Int)) (sr ou : List Int) (tk : Int) (n : Nat) (hn : BIG ≤ n) :
    iter n (impl_DepotNew_L2 docks) (0, f0, f1, c, p, bn, os, [], ts, sr, ou, tk) = some ((docks.length : Int), f0, f1, c, p, bn, os, crewTo docks (min docks.length 20), ts, sr, ou, tk) := by
  have := iter_steps (γ := Int × Dn) (impl_DepotNew_L2 docks) (fun i => ((i : Int), f0, f1, c, p, bn, os, crewTo docks (min i 20), ts, sr, ou, tk)) docks.length ((docks.length : Int), f0, f1, c, p, bn, os, crewTo docks (min docks.length 20), ts, sr, ou, tk) (fun i hlt => by
    unfold impl_DepotNew_L2
    dsimp only
    have hr : decide ((crewTo docks (min i 20)).length + 1 ≤ maxRow) = true := row1 (by rw [crewTo_len]; omega)
    have hgo : docks[Int.toNat (i : Int)]? = some docks[i] := by simp [hlt]
    rw [show decide ((i : Int) < (docks.length : Int)) = true by rw [decide_eq_true_eq]; omega]
    simp only [cond_true, Option.bind_some, inb_lt hlt, hgo, List.length_singleton, hr, w64_nat hlt (by omega)]
    by_cases h20 : i < 20
    · rw [show decide ((i : Int) < 20) = true by rw [decide_eq_true_eq]; omega]
      simp only [cond_true, Option.bind_some]
      rw [show min (i + 1) 20 = min i 20 + 1 by omega, crewTo, show min i 20 = i by omega, show docks.getD i 0 = docks[i] by simp [hlt]]
    · rw [show decide ((i : Int) < 20) = false by rw [decide_eq_false_iff_not]; omega]
      simp only [cond_false, Option.bind_some]
      rw [show min (i + 1) 20 = min i 20 by omega]) (by
    unfold impl_DepotNew_L2
    simp) n (by unfold BIG at hn; omega)
  exact this


theorem DepotNew_ok (w h : Int) (c : List Int) (hc : c.length ≤ 1048576) (a : List Pod) (hs : sm_PodS a) (n : Nat) (hn : BIG ≤ n) : ∃ x : Dn × Bool, spec_DepotNew n w h c a = some (tupDn x) ∧ impl_DepotNew n w h c a = some (tupDn x) ∧ sm_Depot x.1 := by
  have hz : sm_Depot dnZero := by
    unfold sm_Depot sm_Floor sm_Stock sm_Book sm_PodS sm_OrderS sm_RobotS sm_TaskS sm_IntS dnZero
    simp
  unfold spec_DepotNew impl_DepotNew
  rw [floor_eq, spec_FloorOk_ok w h c hc n hn, spec_StockOk_ok a hs n hn, impl_StockOk_ok a hs n hn, impl_anyHeld_ok a hs n hn]
  simp only [Option.bind_some]
  cases hf : floorOk w h c with
  | false => exact ⟨(dnZero, false), rfl, rfl, hz⟩
  | true =>
    cases hk : stockOk a with
    | false => exact ⟨(dnZero, false), rfl, rfl, hz⟩
    | true =>
      have hall : (List.range a.length).all (fun i => homeAt c a i && heldAt a i) = ((List.range a.length).all (heldAt a) && (List.range a.length).all (homeAt c a)) := by
        rw [Bool.eq_iff_iff]
        simp only [List.all_eq_true, Bool.and_eq_true]
        exact ⟨fun q => ⟨fun x hx => (q x hx).2, fun x hx => (q x hx).1⟩, fun q x hx => ⟨q.2 x hx, q.1 x hx⟩⟩
      have o1 := spec_DepotNew_out c hc a hs dnZero n hn
      have o2 := impl_DepotNew_out w h c hc hf a hs dnZero n hn
      rw [hall] at o1
      obtain ⟨docks, d1, d2, d3⟩ := CellsOf_ok w h c hc hf 4 n hn
      have hm : (decide (0 ≤ 51) && decide ((51 : Int) ≤ (maxRow : Int)) && decide (51 = 51)) = true := rfl
      simp only [Bool.not_true, Bool.not_false, cond_false, cond_true, Option.bind_some, spec_l1Copy_ok w h c hc, impl_copyFloor_ok w h c hc, spec_l5Copy_ok a hs n hn, impl_copyStock_ok a hs n hn, hm, d1, d2]
      simp only [dnZero] at o1 o2
      rw [o1]
      cases hh : (List.range a.length).all (heldAt a) with
      | false => exact ⟨(dnZero, false), rfl, rfl, hz⟩
      | true =>
        simp only [Bool.not_true, cond_false]
        rw [o2]
        cases ho : (List.range a.length).all (homeAt c a) with
        | false => exact ⟨(dnZero, false), rfl, rfl, hz⟩
        | true =>
          have s1 := spec_DepotNew_start a hs w h c a 1 [] [] [] (List.replicate (Int.toNat 51) 0) 0 n hn
          have c1 := spec_DepotNew_crew docks (by omega) w h c a 1 [] [] (startTo a 50) (List.replicate (Int.toNat 51) 0) 0 n hn
          have c2 := impl_DepotNew_crew docks (by omega) w h c a 1 [] [] (List.replicate (Int.toNat 51) 0) (List.replicate (Int.toNat 51) 0) 0 n hn
          have s2 := impl_DepotNew_start a hs w h c a 1 [] (crewTo docks (min docks.length 20)) [] (List.replicate (Int.toNat 51) 0) 0 n hn
          have l1 : (startTo a 50).length ≤ 1048576 := by rw [startTo_len]; omega
          have l3 : (crewTo docks (min docks.length 20)).length ≤ 1048576 := by rw [crewTo_len]; omega
          have l2 : (List.replicate (Int.toNat 51) (0 : Int)).length ≤ 1048576 := by simp
          rw [show List.replicate 51 (0 : Int) = List.replicate (Int.toNat 51) 0 from rfl] at s1 s2
          generalize startTo a 50 = st at s1 s2 c1 l1
          generalize crewTo docks (min docks.length 20) = cw at c1 c2 s2 l3
          generalize List.replicate (Int.toNat 51) (0 : Int) = ze at s1 s2 c1 c2 l2 ⊢
          refine ⟨((w, h, c, a, 1, [], cw, [], st, ze, 0), true), ?_, ?_, ?_⟩
          · simp only [Bool.and_self, cond_true, Option.bind_some]
            rw [s1, Option.bind_some, c1]
            rfl
          · simp only [cond_true, Option.bind_some]
            rw [c2, Option.bind_some, s2]
            rfl
          · exact ⟨hc, hs, ⟨Nat.zero_le _, fun y hy => by cases hy⟩, l3, Nat.zero_le _, l1, l2⟩


theorem laws_FnExactDepotNew_pure (a0_0 : Int) (a0_1 : Int) (a0_2 : List Int) (a1 : List SIILIIIJ) (h : fP fI (fP fI (fP (fSl fI) (fSl (fP fI (fP fI (fSl (fP fI (fP fI fI)))))))) (a0_0, a0_1, a0_2, a1)) :
    ∃ n, laws_FnExactDepotNew n a0_0 a0_1 a0_2 a1 = some true := by
  refine ⟨BIG, ?_⟩
  obtain ⟨g0, g1, g2, g3⟩ := h
  obtain ⟨r0, e0, q0⟩ := laws_szFloor_ok (a0_0, a0_1, a0_2) ⟨g0, g1, g2⟩ 1048576 (by omega) (by omega)
  unfold laws_FnExactDepotNew
  simp only at e0
  rw [e0, Option.bind_some]
  rcases q0 with q0 | ⟨q0, q1, hf⟩
  · rw [show decide (r0 < 0) = true by simpa using q0]; rfl
  rw [show decide (r0 < 0) = false by simp; omega, cond_false]
  obtain ⟨r1, e1, p0⟩ := laws_szStock_ok a1 g3 r0 q0 (by omega) BIG (Nat.le_refl _)
  rw [e1, Option.bind_some]
  rcases p0 with p0 | ⟨p0, p1, hs⟩
  · rw [show decide (r1 < 0) = true by simpa using p0]; rfl
  rw [show decide (r1 < 0) = false by simp; omega, cond_false]
  have tf := laws_toFloor_ok (a0_0, a0_1, a0_2) hf BIG (Nat.le_refl _)
  have ts := laws_toStock_ok a1 hs BIG (Nat.le_refl _)
  obtain ⟨x, s, i, hr⟩ := DepotNew_ok a0_0 a0_1 a0_2 hf a1 hs BIG (Nat.le_refl _)
  have ef := laws_eqFloor_ok (a0_0, a0_1, a0_2) hf BIG (Nat.le_refl _)
  have es := laws_eqStock_ok a1 hs BIG (Nat.le_refl _)
  have er := laws_eqDepot_ok x.1 hr BIG (Nat.le_refl _)
  obtain ⟨k1, b2, m1, m2, m3, m4⟩ := laws_markFloor_only (a0_0, a0_1, a0_2) hf 1 (by omega) (by omega) BIG (Nat.le_refl _)
  obtain ⟨k2, b0, n1, n2, n3, n4⟩ := laws_markStock_only a1 hs k1 (by omega) (by omega) BIG (Nat.le_refl _)
  obtain ⟨k3, c2, c3, c5, c6, c7, c8, c9, o1, o2, o3, o4, o5⟩ := laws_markDepot_ok x.1 hr 1 (by omega) (by omega) BIG (Nat.le_refl _)
  have hk : decide (k2 < 0) = false := by simp; omega
  have hk2 : decide (k3 < 0) = false := by simp; omega
  simp only at tf ef m1
  simp only [Option.bind_some, tf, ts, s, i, ef, es, m1, n1, tupDn]
  simp only [er, o1, o5, hk, hk2, Option.bind_some, Bool.not_true, cond_false, bne_self_eq_false]

end Go.Ev.N
