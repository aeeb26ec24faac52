/- FnCalm, as a plain law over native forms: what the program's function answers is what the reference's answers. Conditions: none but the lengths' and numbers' bounds. -/
import Derived.Test.YtafobglpmhfcgaaFnCalmNat
namespace Go.Ev.N
open Go Go.Ev
set_option linter.unusedVariables false
set_option linter.unusedSimpArgs false

theorem w64_eq {n : Int} (h1 : -9223372036854775808 ≤ n) (h2 : n ≤ 9223372036854775807) : w64 n = n := by
  unfold w64 IntKind.wrap
  simp only [IntKind.bits, IntKind.signed]
  simp
  split <;> omega
theorem w64_up {i : Int} {m : Nat} (h0 : 0 ≤ i) (h : i < (m : Int)) (hm : m ≤ 9223372036854775807) : w64 (i + 1) = i + 1 := w64_eq (by omega) (by omega)
theorem w64_nat {i m : Nat} (h : i < m) (hm : m ≤ 9223372036854775807) : w64 ((i : Int) + 1) = ((i + 1 : Nat) : Int) := by rw [w64_eq (by omega) (by omega)]; omega

theorem getI_nat {α : Type} (xs : List α) (i : Nat) : getI xs (i : Int) = xs[i]? := by
  unfold getI
  rw [if_pos (by omega)]
  simp
theorem getI_lt {α : Type} {xs : List α} {i : Nat} (h : i < xs.length) : getI xs (i : Int) = some xs[i] := by rw [getI_nat]; exact List.getElem?_eq_getElem h
theorem inb_nat {α : Type} (xs : List α) (i : Nat) : inb xs (i : Int) = decide (i < xs.length) := by
  unfold inb
  have : decide (0 ≤ (i : Int)) = true := by simp
  rw [this, Bool.true_and]
  simp
theorem inb_lt {α : Type} {xs : List α} {i : Nat} (h : i < xs.length) : inb xs (i : Int) = true := by rw [inb_nat]; simpa using h
theorem upd_is {α : Type} (l : List α) (n : Nat) (y : α) : upd l n y = l.set n y := upd_set l n y

/-! ### what comes in -/
def fI (x : Int) : Prop := IntKind.min .i64 ≤ x ∧ x ≤ IntKind.max .i64
def fB (_ : Bool) : Prop := True
def fStr (x : List UInt8) : Prop := List.length x ≤ maxLen
def fSl {α : Type} (p : α → Prop) (x : List α) : Prop := List.length x ≤ maxLen ∧ ∀ y, List.Mem y x → p y
def fP {α β : Type} (p : α → Prop) (q : β → Prop) (x : α × β) : Prop := p x.1 ∧ q x.2
theorem fI_b {x : Int} (h : fI x) : -9223372036854775808 ≤ x ∧ x ≤ 9223372036854775807 := by
  unfold fI IntKind.min IntKind.max at h
  simpa [IntKind.bits, IntKind.signed] using h
theorem fSl_len {α : Type} {p : α → Prop} {x : List α} (h : fSl p x) : x.length ≤ 9223372036854775807 := h.1
theorem fSl_mem {α : Type} {p : α → Prop} {x : List α} (h : fSl p x) {y : α} (hy : y ∈ x) : p y := h.2 y hy

/-! ### loops -/

section
variable {α γ σ β : Type}
theorem iter_go {f : α → Option (α ⊕ γ)} {x y : α} (h : f x = some (.inl y)) (n : Nat) : iter (n + 1) f x = iter n f y := by simp [iter, h]
theorem iter_end {f : α → Option (α ⊕ γ)} {x : α} {z : γ} (h : f x = some (.inr z)) (n : Nat) : iter (n + 1) f x = some z := by simp [iter, h]

/-- A loop that goes so many rounds. -/
theorem iter_steps (f : α → Option (α ⊕ γ)) (st : Nat → α) (m : Nat) (r : γ) (hs : ∀ i, i < m → f (st i) = some (.inl (st (i + 1)))) (he : f (st m) = some (.inr r)) : ∀ n, m < n → iter n f (st 0) = some r := by
  have key : ∀ d i n, i + d = m → d < n → iter n f (st i) = some r := by
    intro d
    induction d with
    | zero =>
      intro i n hi hn
      obtain ⟨n, rfl⟩ : ∃ k, n = k + 1 := ⟨n - 1, by omega⟩
      have : i = m := by omega
      subst this
      exact iter_end he n
    | succ d ih =>
      intro i n hi hn
      obtain ⟨n, rfl⟩ : ∃ k, n = k + 1 := ⟨n - 1, by omega⟩
      rw [iter_go (hs i (by omega)) n]
      exact ih (i + 1) n (by omega) (by omega)
  exact fun n hn => key m 0 n (by omega) hn

/-- A loop over a list, with a state: what it answers is told by recursion on what is left. -/
theorem iter_rec (f : α → Option (α ⊕ γ)) (st : Nat → σ → α) (xs : List β) (G : List β → σ → γ) (Inv : Nat → σ → Prop)
    (hend : ∀ s, Inv xs.length s → f (st xs.length s) = some (.inr (G [] s)))
    (hstep : ∀ i x l s, i < xs.length → xs[i]? = some x → xs.drop i = x :: l → xs.drop (i + 1) = l → Inv i s → (∃ s', f (st i s) = some (.inl (st (i + 1) s')) ∧ Inv (i + 1) s' ∧ G (x :: l) s = G l s') ∨ f (st i s) = some (.inr (G (x :: l) s))) :
    ∀ n, xs.length < n → ∀ s, Inv 0 s → iter n f (st 0 s) = some (G xs s) := by
  have key : ∀ d i n s, i + d = xs.length → d < n → Inv i s → iter n f (st i s) = some (G (xs.drop i) s) := by
    intro d
    induction d with
    | zero =>
      intro i n s hi hn hI
      obtain ⟨n, rfl⟩ : ∃ k, n = k + 1 := ⟨n - 1, by omega⟩
      have : i = xs.length := by omega
      subst this
      rw [iter_end (hend s hI) n, List.drop_length]
    | succ d ih =>
      intro i n s hi hn hI
      obtain ⟨n, rfl⟩ : ∃ k, n = k + 1 := ⟨n - 1, by omega⟩
      have hlt : i < xs.length := by omega
      have hd : xs.drop i = xs[i] :: xs.drop (i + 1) := List.drop_eq_getElem_cons hlt
      rcases hstep i xs[i] (xs.drop (i + 1)) s hlt (List.getElem?_eq_getElem hlt) hd rfl hI with ⟨s', h1, h2, h3⟩ | h1
      · rw [iter_go h1 n, ih (i + 1) n s' (by omega) (by omega) h2, hd, h3]
      · rw [iter_end h1 n, hd]
  intro n hn s hI
  have := key xs.length 0 n s (by omega) hn hI
  simpa using this
/-- The same where the state is the number of the round alone. -/
theorem iter_list (f : Int → Option (Int ⊕ γ)) (xs : List β) (G : List β → List β → γ) (hend : f (xs.length : Int) = some (.inr (G xs [])))
    (hstep : ∀ i x l p, i < xs.length → xs[i]? = some x → xs = p ++ x :: l → p.length = i → p = xs.take i → (f (i : Int) = some (.inl ((i + 1 : Nat) : Int)) ∧ G p (x :: l) = G (p ++ [x]) l) ∨ f (i : Int) = some (.inr (G p (x :: l)))) :
    ∀ n, xs.length < n → iter n f 0 = some (G [] xs) := by
  intro n hn
  refine iter_rec (σ := List β) f (fun i _ => (i : Int)) xs (fun l p => G p l) (fun i p => p = xs.take i) (fun s hs => ?_) (fun i x l s h1 h2 h3 h4 h5 => ?_) n hn [] (by simp)
  · have : s = xs := by rw [hs]; simp
    rw [this]; exact hend
  · have hlen : s.length = i := by rw [h5]; simp; omega
    have hx : xs = s ++ x :: l := by rw [← h3, h5, List.take_append_drop]
    rcases hstep i x l s h1 h2 hx hlen h5 with ⟨q1, q2⟩ | q1
    · refine .inl ⟨s ++ [x], q1, ?_, q2⟩
      have hxi : x = xs[i] := by rw [List.getElem?_eq_getElem h1] at h2; exact (Option.some.inj h2).symm
      rw [h5, List.take_succ_eq_append_getElem h1, hxi]
    · exact .inr q1
end

/-- A loop that asks the same of each element. -/
theorem all_loop {β : Type} (f : Int → Option (Int ⊕ (Int ⊕ Bool))) (xs : List β) (P : β → Bool) (hs : ∀ (i : Nat) (x : β), i < xs.length → xs[i]? = some x → f (i : Int) = some (bif P x then .inl ((i + 1 : Nat) : Int) else .inr (.inr false)))
    (he : f (xs.length : Int) = some (.inr (.inl (xs.length : Int)))) : ∀ n, xs.length < n → iter n f 0 = some (bif xs.all P then .inl (xs.length : Int) else .inr false) := by
  intro n hn
  refine iter_list f xs (fun p l => bif l.all P then .inl (xs.length : Int) else .inr false) ?_ ?_ n hn
  · rw [he]; simp
  · intro i x l p h1 h2 h3 h4 h5
    rw [hs i x h1 h2]
    cases hp : P x with
    | true => exact .inl ⟨by simp, by simp [hp]⟩
    | false => exact .inr (by simp [hp])

/-! ### conditions that stand as ways -/
theorem or1 (b c : Bool) : (bif b then some true else some c) = some (b || c) := by cases b <;> rfl
theorem and1 (b c : Bool) : (bif b then some c else some false) = some (b && c) := by cases b <;> rfl
theorem andn (b c : Bool) : (bif b then some false else some c) = some (!b && c) := by cases b <;> rfl
theorem orn (b c : Bool) : (bif b then some c else some true) = some (!b || c) := by cases b <;> rfl
theorem cond_some {α : Type} (b : Bool) (x y : α) : (bif b then some x else some y) = some (bif b then x else y) := by cases b <;> rfl

/-! ### copies -/

/-- A loop that copies. -/
theorem copy_ok {β : Type} (L : Int × List β → Option ((Int × List β) ⊕ (Int × List β))) (xs : List β) (z : β)
    (hL : ∀ (i : Nat) (h : i < xs.length) (out : List β), out.length = xs.length → L ((i : Int), out) = some (.inl (((i + 1 : Nat) : Int), out.set i xs[i]))) (hend : ∀ out, L ((xs.length : Int), out) = some (.inr ((xs.length : Int), out))) :
    ∀ n, xs.length < n → iter n L (0, List.replicate xs.length z) = some ((xs.length : Int), xs) := by
  intro n hn
  have := iter_rec (σ := List β) L (fun i s => ((i : Int), s)) xs (fun l s => ((xs.length : Int), s.take (xs.length - l.length) ++ l)) (fun i s => s.length = xs.length ∧ s.take i = xs.take i)
    (fun s hs => by
      rw [hend s, show s.take (xs.length - ([] : List β).length) ++ [] = s by simp [← hs.1]])
    (fun i x l s h1 h2 h3 h4 h5 => by
      left
      have hx : xs[i] = x := by rw [List.getElem?_eq_getElem h1] at h2; exact Option.some.inj h2
      refine ⟨s.set i xs[i], hL i h1 s h5.1, ⟨by simp [h5.1], ?_⟩, ?_⟩
      · rw [List.take_succ_eq_append_getElem h1, List.take_succ_eq_append_getElem (by simp [h5.1]; exact h1)]
        congr 1
        · rw [List.take_set_of_le (Nat.le_refl i), h5.2]
        · simp
      · have hl : l.length = xs.length - (i + 1) := by rw [← h4]; simp
        congr 1
        rw [List.length_cons, hl, show xs.length - (xs.length - (i + 1) + 1) = i by omega, show xs.length - (xs.length - (i + 1)) = i + 1 by omega]
        rw [List.take_succ_eq_append_getElem (by simp [h5.1]; exact h1), List.take_set_of_le (Nat.le_refl i)]
        simp [hx])
    n hn (List.replicate xs.length z) ⟨by simp, by simp⟩
  simpa using this

/-! ### the largest number of rounds -/
def BIG : Nat := 18446744073709551616
theorem maxLen_eq : maxLen = 9223372036854775807 := rfl

section
variable {β : Type}
open Classical in
/-- What one element becomes ('E': what is known of it). -/
noncomputable def mkOne (E : Int → β → Int → β → Prop) (k : Int) (x : β) : Int × β := if h : ∃ p : Int × β, E k x p.1 p.2 then h.choose else (k, x)
theorem mkOne_ok {E : Int → β → Int → β → Prop} {k : Int} {x : β} (h : ∃ k' x', E k x k' x') : E k x (mkOne E k x).1 (mkOne E k x).2 := by
  have h' : ∃ p : Int × β, E k x p.1 p.2 := let ⟨a, b, c⟩ := h; ⟨(a, b), c⟩
  unfold mkOne
  rw [dif_pos h']
  exact h'.choose_spec
noncomputable def mkAll (E : Int → β → Int → β → Prop) : Int → List β → Int × List β
  | k, [] => (k, [])
  | k, x :: l => ((mkAll E (mkOne E k x).1 l).1, (mkOne E k x).2 :: (mkAll E (mkOne E k x).1 l).2)
theorem mkAll_len (E : Int → β → Int → β → Prop) : ∀ (l : List β) (k : Int), (mkAll E k l).2.length = l.length
  | [], k => rfl
  | x :: l, k => by simp [mkAll, mkAll_len E l]

/-- A loop that marks a row. -/
theorem mark_only (L : Int × Int × List β → Option ((Int × Int × List β) ⊕ (Int × Int × List β))) (sm sm' : β → Prop) (c : Nat) (xs : List β) (hx : ∀ x ∈ xs, sm x) (hlen : xs.length ≤ 1048576)
    (k0 : Int) (h0 : 0 ≤ k0) (hb : k0 + (c : Int) * (xs.length : Int) ≤ 4611686018427387904)
    (hstep : ∀ (k : Int) (x : β), 0 ≤ k → k + (c : Int) ≤ 4611686018427387904 → sm x → ∃ k' x', k ≤ k' ∧ k' ≤ k + c ∧ sm' x' ∧
      (∀ (i : Nat) (ys : List β), i < ys.length → ys.length ≤ 1048576 → ys[i]? = some x → L (k, (i : Int), ys) = some (.inl (k', ((i + 1 : Nat) : Int), ys.set i x'))))
    (hL : ∀ (k : Int) (ys : List β), L (k, (ys.length : Int), ys) = some (.inr (k, (ys.length : Int), ys))) :
    ∀ n, xs.length < n → ∃ k' xs', iter n L (k0, 0, xs) = some (k', (xs.length : Int), xs') ∧ xs'.length = xs.length ∧ k0 ≤ k' ∧ k' ≤ k0 + (c : Int) * (xs.length : Int) ∧ (∀ x ∈ xs', sm' x) := by
  intro n hn
  let E : Int → β → Int → β → Prop := fun k x k' x' => k ≤ k' ∧ k' ≤ k + c ∧ sm' x' ∧
      (∀ (i : Nat) (ys : List β), i < ys.length → ys.length ≤ 1048576 → ys[i]? = some x → L (k, (i : Int), ys) = some (.inl (k', ((i + 1 : Nat) : Int), ys.set i x')))
  have hone : ∀ k x, 0 ≤ k → k + (c : Int) ≤ 4611686018427387904 → sm x → E k x (mkOne E k x).1 (mkOne E k x).2 := fun k x h1 h2 h3 => mkOne_ok (hstep k x h1 h2 h3)
  have bnd : ∀ (l : List β) (k : Int), (∀ x ∈ l, sm x) → 0 ≤ k → k + (c : Int) * (l.length : Int) ≤ 4611686018427387904 → k ≤ (mkAll E k l).1 ∧ (mkAll E k l).1 ≤ k + (c : Int) * (l.length : Int) ∧ ∀ y ∈ (mkAll E k l).2, sm' y := by
    intro l
    induction l with
    | nil => intro k _ h1 h2; simp [mkAll]
    | cons x l ih =>
      intro k hs h1 h2
      have hc : (c : Int) * ((x :: l).length : Int) = c + (c : Int) * (l.length : Int) := by simp [Int.mul_add]; omega
      rw [hc] at h2
      have hcl : 0 ≤ (c : Int) * (l.length : Int) := Int.mul_nonneg (by omega) (by omega)
      obtain ⟨e1, e2, e3, _⟩ := hone k x h1 (by omega) (hs x (by simp))
      obtain ⟨i1, i2, i3⟩ := ih (mkOne E k x).1 (fun y hy => hs y (by simp [hy])) (by omega) (by omega)
      refine ⟨?_, ?_, ?_⟩
      · show k ≤ (mkAll E (mkOne E k x).1 l).1; omega
      · show (mkAll E (mkOne E k x).1 l).1 ≤ _
        rw [hc]; omega
      · intro y hy
        rcases List.mem_cons.1 (show y ∈ (mkOne E k x).2 :: (mkAll E (mkOne E k x).1 l).2 from hy) with rfl | hy
        · exact e3
        · exact i3 y hy
  obtain ⟨b1, b2, b3⟩ := bnd xs k0 hx h0 hb
  have hdrop : ∀ i x l, xs.drop i = x :: l → sm x ∧ ∀ y ∈ l, sm y := by
    intro i x l hd
    have : ∀ y ∈ x :: l, sm y := fun y hy => hx y (List.mem_of_mem_drop (hd ▸ hy))
    exact ⟨this x (by simp), fun y hy => this y (by simp [hy])⟩
  refine ⟨(mkAll E k0 xs).1, (mkAll E k0 xs).2, ?_, mkAll_len E xs k0, b1, b2, b3⟩
  have := iter_rec (σ := Int × List β) L (fun i s => (s.1, (i : Int), s.2)) xs (fun l s => ((mkAll E s.1 l).1, (xs.length : Int), s.2.take (xs.length - l.length) ++ (mkAll E s.1 l).2))
      (fun i s => s.2.length = xs.length ∧ s.2.drop i = xs.drop i ∧ 0 ≤ s.1 ∧ s.1 + (c : Int) * ((xs.length - i : Nat) : Int) ≤ 4611686018427387904)
      (fun s hs => by
        have := hL s.1 s.2
        rw [hs.1] at this
        rw [this]
        simp [mkAll, ← hs.1])
      (fun i x l s h1 h2 h3 h4 h5 => by
        left
        obtain ⟨q1, q2, q3, q4⟩ := h5
        have hll : l.length = xs.length - (i + 1) := by rw [← h4]; simp
        have hsub : xs.length - i = (xs.length - (i + 1)) + 1 := by omega
        have hc : (c : Int) * ((xs.length - i : Nat) : Int) = c + (c : Int) * ((xs.length - (i + 1) : Nat) : Int) := by rw [hsub]; simp [Int.mul_add]; omega
        rw [hc] at q4
        have hcl : 0 ≤ (c : Int) * ((xs.length - (i + 1) : Nat) : Int) := Int.mul_nonneg (by omega) (by omega)
        obtain ⟨e1, e2, e3, e4⟩ := hone s.1 x q3 (by omega) (hdrop i x l h3).1
        have hsi : s.2[i]? = some x := by
          have := congrArg (fun l => l[0]?) (q2.trans h3)
          simpa using this
        refine ⟨((mkOne E s.1 x).1, s.2.set i (mkOne E s.1 x).2), e4 i s.2 (by omega) (by omega) hsi, ⟨by simp [q1], ?_, by omega, by omega⟩, ?_⟩
        · show (s.2.set i (mkOne E s.1 x).2).drop (i + 1) = _
          rw [List.drop_set_of_lt (by omega)]
          have := congrArg (List.drop 1) q2
          simpa using this
        · show (((mkAll E (mkOne E s.1 x).1 l).1, (xs.length : Int), s.2.take (xs.length - (l.length + 1)) ++ (mkOne E s.1 x).2 :: (mkAll E (mkOne E s.1 x).1 l).2) : Int × Int × List β) = ((mkAll E (mkOne E s.1 x).1 l).1, (xs.length : Int), (s.2.set i (mkOne E s.1 x).2).take (xs.length - l.length) ++ (mkAll E (mkOne E s.1 x).1 l).2)
          rw [hll, show xs.length - (xs.length - (i + 1) + 1) = i by omega, show xs.length - (xs.length - (i + 1)) = i + 1 by omega]
          rw [List.take_succ_eq_append_getElem (by simp [q1]; exact h1), List.take_set_of_le (Nat.le_refl i)]
          simp)
      n hn (k0, xs) ⟨rfl, rfl, h0, by simpa using hb⟩
  simpa using this

/-- A loop that marks a row, and one that reads the marks. 'c': how much an element counts at most. -/
theorem mark_loop {γ : Type} (L : Int × Int × List β → Option ((Int × Int × List β) ⊕ (Int × Int × List β))) (H : List β → Int × Int → Option ((Int × Int) ⊕ ((Int × Int) ⊕ γ))) (sm sm' : β → Prop) (c : Nat) (xs : List β) (hx : ∀ x ∈ xs, sm x) (hlen : xs.length ≤ 1048576)
    (k0 : Int) (h0 : 0 ≤ k0) (hb : k0 + (c : Int) * (xs.length : Int) ≤ 4611686018427387904)
    (hstep : ∀ (k : Int) (x : β), 0 ≤ k → k + (c : Int) ≤ 4611686018427387904 → sm x → ∃ k' x', k ≤ k' ∧ k' ≤ k + c ∧ sm' x' ∧
      (∀ (i : Nat) (ys : List β), i < ys.length → ys.length ≤ 1048576 → ys[i]? = some x → L (k, (i : Int), ys) = some (.inl (k', ((i + 1 : Nat) : Int), ys.set i x'))) ∧
      (∀ (i : Nat) (ys : List β), i < ys.length → ys.length ≤ 1048576 → ys[i]? = some x' → H ys (k, (i : Int)) = some (.inl (k', ((i + 1 : Nat) : Int)))))
    (hL : ∀ (k : Int) (ys : List β), L (k, (ys.length : Int), ys) = some (.inr (k, (ys.length : Int), ys))) (hH : ∀ (k : Int) (ys : List β), H ys (k, (ys.length : Int)) = some (.inr (.inl (k, (ys.length : Int))))) :
    ∀ n, xs.length < n → ∃ k' xs', iter n L (k0, 0, xs) = some (k', (xs.length : Int), xs') ∧ xs'.length = xs.length ∧ k0 ≤ k' ∧ k' ≤ k0 + (c : Int) * (xs.length : Int) ∧ (∀ x ∈ xs', sm' x) ∧ iter n (H xs') (k0, 0) = some (.inl (k', (xs.length : Int))) := by
  intro n hn
  let E : Int → β → Int → β → Prop := fun k x k' x' => k ≤ k' ∧ k' ≤ k + c ∧ sm' x' ∧
      (∀ (i : Nat) (ys : List β), i < ys.length → ys.length ≤ 1048576 → ys[i]? = some x → L (k, (i : Int), ys) = some (.inl (k', ((i + 1 : Nat) : Int), ys.set i x'))) ∧
      (∀ (i : Nat) (ys : List β), i < ys.length → ys.length ≤ 1048576 → ys[i]? = some x' → H ys (k, (i : Int)) = some (.inl (k', ((i + 1 : Nat) : Int))))
  have hone : ∀ k x, 0 ≤ k → k + (c : Int) ≤ 4611686018427387904 → sm x → E k x (mkOne E k x).1 (mkOne E k x).2 := fun k x h1 h2 h3 => mkOne_ok (hstep k x h1 h2 h3)
  have bnd : ∀ (l : List β) (k : Int), (∀ x ∈ l, sm x) → 0 ≤ k → k + (c : Int) * (l.length : Int) ≤ 4611686018427387904 → k ≤ (mkAll E k l).1 ∧ (mkAll E k l).1 ≤ k + (c : Int) * (l.length : Int) ∧ ∀ y ∈ (mkAll E k l).2, sm' y := by
    intro l
    induction l with
    | nil => intro k _ h1 h2; simp [mkAll]
    | cons x l ih =>
      intro k hs h1 h2
      have hc : (c : Int) * ((x :: l).length : Int) = c + (c : Int) * (l.length : Int) := by simp [Int.mul_add]; omega
      rw [hc] at h2
      have hcl : 0 ≤ (c : Int) * (l.length : Int) := Int.mul_nonneg (by omega) (by omega)
      obtain ⟨e1, e2, e3, _, _⟩ := hone k x h1 (by omega) (hs x (by simp))
      obtain ⟨i1, i2, i3⟩ := ih (mkOne E k x).1 (fun y hy => hs y (by simp [hy])) (by omega) (by omega)
      refine ⟨?_, ?_, ?_⟩
      · show k ≤ (mkAll E (mkOne E k x).1 l).1; omega
      · show (mkAll E (mkOne E k x).1 l).1 ≤ _
        rw [hc]; omega
      · intro y hy
        rcases List.mem_cons.1 (show y ∈ (mkOne E k x).2 :: (mkAll E (mkOne E k x).1 l).2 from hy) with rfl | hy
        · exact e3
        · exact i3 y hy
  obtain ⟨b1, b2, b3⟩ := bnd xs k0 hx h0 hb
  have hdrop : ∀ i x l, xs.drop i = x :: l → sm x ∧ ∀ y ∈ l, sm y := by
    intro i x l hd
    have : ∀ y ∈ x :: l, sm y := fun y hy => hx y (List.mem_of_mem_drop (hd ▸ hy))
    exact ⟨this x (by simp), fun y hy => this y (by simp [hy])⟩
  refine ⟨(mkAll E k0 xs).1, (mkAll E k0 xs).2, ?_, mkAll_len E xs k0, b1, b2, b3, ?_⟩
  · have := iter_rec (σ := Int × List β) L (fun i s => (s.1, (i : Int), s.2)) xs (fun l s => ((mkAll E s.1 l).1, (xs.length : Int), s.2.take (xs.length - l.length) ++ (mkAll E s.1 l).2))
      (fun i s => s.2.length = xs.length ∧ s.2.drop i = xs.drop i ∧ 0 ≤ s.1 ∧ s.1 + (c : Int) * ((xs.length - i : Nat) : Int) ≤ 4611686018427387904)
      (fun s hs => by
        have := hL s.1 s.2
        rw [hs.1] at this
        rw [this]
        simp [mkAll, ← hs.1])
      (fun i x l s h1 h2 h3 h4 h5 => by
        left
        obtain ⟨q1, q2, q3, q4⟩ := h5
        have hll : l.length = xs.length - (i + 1) := by rw [← h4]; simp
        have hsub : xs.length - i = (xs.length - (i + 1)) + 1 := by omega
        have hc : (c : Int) * ((xs.length - i : Nat) : Int) = c + (c : Int) * ((xs.length - (i + 1) : Nat) : Int) := by rw [hsub]; simp [Int.mul_add]; omega
        rw [hc] at q4
        have hcl : 0 ≤ (c : Int) * ((xs.length - (i + 1) : Nat) : Int) := Int.mul_nonneg (by omega) (by omega)
        obtain ⟨e1, e2, e3, e4, e5⟩ := hone s.1 x q3 (by omega) (hdrop i x l h3).1
        have hsi : s.2[i]? = some x := by
          have := congrArg (fun l => l[0]?) (q2.trans h3)
          simpa using this
        refine ⟨((mkOne E s.1 x).1, s.2.set i (mkOne E s.1 x).2), e4 i s.2 (by omega) (by omega) hsi, ⟨by simp [q1], ?_, by omega, by omega⟩, ?_⟩
        · show (s.2.set i (mkOne E s.1 x).2).drop (i + 1) = _
          rw [List.drop_set_of_lt (by omega)]
          have := congrArg (List.drop 1) q2
          simpa using this
        · show (((mkAll E (mkOne E s.1 x).1 l).1, (xs.length : Int), s.2.take (xs.length - (l.length + 1)) ++ (mkOne E s.1 x).2 :: (mkAll E (mkOne E s.1 x).1 l).2) : Int × Int × List β) = ((mkAll E (mkOne E s.1 x).1 l).1, (xs.length : Int), (s.2.set i (mkOne E s.1 x).2).take (xs.length - l.length) ++ (mkAll E (mkOne E s.1 x).1 l).2)
          rw [hll, show xs.length - (xs.length - (i + 1) + 1) = i by omega, show xs.length - (xs.length - (i + 1)) = i + 1 by omega]
          rw [List.take_succ_eq_append_getElem (by simp [q1]; exact h1), List.take_set_of_le (Nat.le_refl i)]
          simp)
      n hn (k0, xs) ⟨rfl, rfl, h0, by simpa using hb⟩
    simpa using this
  · have hxl : (mkAll E k0 xs).2.length = xs.length := mkAll_len E xs k0
    have := iter_rec (σ := Int) (H (mkAll E k0 xs).2) (fun i k => (k, (i : Int))) xs (fun l k => (.inl ((mkAll E k l).1, (xs.length : Int)) : (Int × Int) ⊕ γ))
      (fun i k => (mkAll E k0 xs).2.drop i = (mkAll E k (xs.drop i)).2 ∧ 0 ≤ k ∧ k + (c : Int) * ((xs.length - i : Nat) : Int) ≤ 4611686018427387904)
      (fun k hk => by
        have := hH k (mkAll E k0 xs).2
        rw [hxl] at this
        rw [this]; simp [mkAll])
      (fun i x l k h1 h2 h3 h4 h5 => by
        left
        obtain ⟨q2, q3, q4⟩ := h5
        have hsub : xs.length - i = (xs.length - (i + 1)) + 1 := by omega
        have hc : (c : Int) * ((xs.length - i : Nat) : Int) = c + (c : Int) * ((xs.length - (i + 1) : Nat) : Int) := by rw [hsub]; simp [Int.mul_add]; omega
        rw [hc] at q4
        have hcl : 0 ≤ (c : Int) * ((xs.length - (i + 1) : Nat) : Int) := Int.mul_nonneg (by omega) (by omega)
        obtain ⟨e1, e2, e3, e4, e5⟩ := hone k x q3 (by omega) (hdrop i x l h3).1
        rw [h3] at q2
        have q2 : (mkAll E k0 xs).2.drop i = (mkOne E k x).2 :: (mkAll E (mkOne E k x).1 l).2 := q2
        have hsi : (mkAll E k0 xs).2[i]? = some (mkOne E k x).2 := by
          have := congrArg (fun l => l[0]?) q2
          simpa using this
        refine ⟨(mkOne E k x).1, e5 i _ (by omega) (by omega) hsi, ⟨?_, by omega, by omega⟩, rfl⟩
        have := congrArg (List.drop 1) q2
        rw [h4]
        simpa using this)
      n hn k0 ⟨rfl, h0, by simpa using hb⟩
    simpa using this

/-- A loop that counts how much is left. -/
theorem sz_loop (L : Int × Int → Option ((Int × Int) ⊕ ((Int × Int) ⊕ Int))) (xs : List β) (sm : β → Prop)
    (hstep : ∀ (i : Nat) (x : β) (left : Int), i < xs.length → xs[i]? = some x → 0 ≤ left → left ≤ 1048576 → (∃ r, L (left, (i : Int)) = some (.inl (r, ((i + 1 : Nat) : Int))) ∧ 0 ≤ r ∧ r ≤ left ∧ sm x) ∨ ∃ r, L (left, (i : Int)) = some (.inr (.inr r)) ∧ r < 0)
    (hend : ∀ left, L (left, (xs.length : Int)) = some (.inr (.inl (left, (xs.length : Int))))) : ∀ n, xs.length < n → ∀ left : Int, 0 ≤ left → left ≤ 1048576 →
    (∃ r, iter n L (left, 0) = some (.inr r) ∧ r < 0) ∨ ∃ r, iter n L (left, 0) = some (.inl (r, (xs.length : Int))) ∧ 0 ≤ r ∧ r ≤ left ∧ ∀ x ∈ xs, sm x := by
  have key : ∀ d i n (left : Int), i + d = xs.length → d < n → 0 ≤ left → left ≤ 1048576 → (∃ r, iter n L (left, (i : Int)) = some (.inr r) ∧ r < 0) ∨ ∃ r, iter n L (left, (i : Int)) = some (.inl (r, (xs.length : Int))) ∧ 0 ≤ r ∧ r ≤ left ∧ ∀ x ∈ xs.drop i, sm x := by
    intro d
    induction d with
    | zero =>
      intro i n left hi hn h0 h1
      obtain ⟨n, rfl⟩ : ∃ k, n = k + 1 := ⟨n - 1, by omega⟩
      have : i = xs.length := by omega
      subst this
      exact .inr ⟨left, iter_end (hend left) n, h0, Int.le_refl _, by simp⟩
    | succ d ih =>
      intro i n left hi hn h0 h1
      obtain ⟨n, rfl⟩ : ∃ k, n = k + 1 := ⟨n - 1, by omega⟩
      have hlt : i < xs.length := by omega
      rcases hstep i xs[i] left hlt (List.getElem?_eq_getElem hlt) h0 h1 with ⟨r, e, r0, r1, hs⟩ | ⟨r, e, r0⟩
      · rw [iter_go e n]
        rcases ih (i + 1) n r (by omega) (by omega) r0 (by omega) with ⟨q, e2, q0⟩ | ⟨q, e2, q0, q1, q2⟩
        · exact .inl ⟨q, e2, q0⟩
        · refine .inr ⟨q, e2, q0, by omega, ?_⟩
          rw [List.drop_eq_getElem_cons hlt]
          intro x hx
          rcases List.mem_cons.1 hx with rfl | hx
          · exact hs
          · exact q2 x hx
      · exact .inl ⟨r, iter_end e n, r0⟩
  intro n hn left h0 h1
  have := key xs.length 0 n left (by omega) hn h0 h1
  simpa using this
end

theorem make_ok (m : Nat) (h : m ≤ 1048576) : (decide (0 ≤ (m : Int)) && decide ((m : Int) ≤ (maxRow : Int)) && decide ((m : Int) = (m : Int))) = true := by
  have hm : maxRow = 68719476736 := rfl
  have h2 : decide ((m : Int) ≤ (maxRow : Int)) = true := by rw [hm]; simp; omega
  rw [h2]; simp
theorem modify_set {α : Type} (xs : List α) (i : Nat) (f : α → α) (h : i < xs.length) : List.modify xs i f = xs.set i (f xs[i]) := by
  apply List.ext_getElem
  · simp
  · intro j h1 h2
    rw [List.getElem_modify, List.getElem_set]
    by_cases e : i = j
    · subst e; simp
    · simp [e]


def sm_ItemS (a : List (Int × Int)) : Prop := a.length ≤ 1048576

def sm_PickS (a : List (Int × Int × Int)) : Prop := a.length ≤ 1048576

def sm_Order (a : Int × Int × (List (Int × Int)) × (List (Int × Int × Int)) × Int) : Prop := sm_ItemS a.2.2.1 ∧ sm_PickS a.2.2.2.1

def sm_OrderS (a : List (Int × Int × (List (Int × Int)) × (List (Int × Int × Int)) × Int)) : Prop := a.length ≤ 1048576 ∧ ∀ y ∈ a, sm_Order y

def sm_Book (a : Int × (List (Int × Int × (List (Int × Int)) × (List (Int × Int × Int)) × Int))) : Prop := sm_OrderS a.2

def sm_IntS (a : List Int) : Prop := a.length ≤ 1048576

def sm_Floor (a : Int × Int × (List Int)) : Prop := sm_IntS a.2.2

def sm_StackS (a : List (Int × Int × Int)) : Prop := a.length ≤ 1048576

def sm_Pod (a : Int × Int × (List (Int × Int × Int))) : Prop := sm_StackS a.2.2

def sm_PodS (a : List (Int × Int × (List (Int × Int × Int)))) : Prop := a.length ≤ 1048576 ∧ ∀ y ∈ a, sm_Pod y

def sm_Stock (a : (List (Int × Int × (List (Int × Int × Int))))) : Prop := sm_PodS a

def sm_RobotS (a : List (Int × Int × Int × Bool × Int)) : Prop := a.length ≤ 1048576

def sm_TaskS (a : List (Int × Int × Int × Int)) : Prop := a.length ≤ 1048576

def sm_Depot (a : Int × Int × (List Int) × (List (Int × Int × (List (Int × Int × Int)))) × Int × (List (Int × Int × (List (Int × Int)) × (List (Int × Int × Int)) × Int)) × (List (Int × Int × Int × Bool × Int)) × (List (Int × Int × Int × Int)) × (List Int) × (List Int) × Int) : Prop := sm_Floor (a.1, a.2.1, a.2.2.1) ∧ sm_Stock a.2.2.2.1 ∧ sm_Book (a.2.2.2.2.1, a.2.2.2.2.2.1) ∧ sm_RobotS a.2.2.2.2.2.2.1 ∧ sm_TaskS a.2.2.2.2.2.2.2.1 ∧ sm_IntS a.2.2.2.2.2.2.2.2.1 ∧ sm_IntS a.2.2.2.2.2.2.2.2.2.1

def sm_WordS (a : List (Bool × Int × Int)) : Prop := a.length ≤ 1048576

def sm_Link (a : (List Int) × Int × Bool × Int × Int × Int × (List Int) × (List (Bool × Int × Int))) : Prop := sm_IntS a.1 ∧ sm_IntS a.2.2.2.2.2.2.1 ∧ sm_WordS a.2.2.2.2.2.2.2

def sm_Act (a : Int × Int × (List (Int × Int)) × Int × Int × Int × Int) : Prop := sm_ItemS a.2.2.1

def sm_BoolS (a : List Bool) : Prop := a.length ≤ 1048576

theorem row1 {m : Nat} (h : m ≤ 1048576) : decide (m + 1 ≤ maxRow) = true := by
  have hm : maxRow = 68719476736 := rfl
  rw [hm]; simp; omega

theorem row0 {m : Nat} (h : m ≤ 1048576) : decide (m ≤ maxRow) = true := by
  have hm : maxRow = 68719476736 := rfl
  rw [hm]; simp; omega


/-- Two loops that go alike, and end. -/
theorem iter_two {α γ : Type} (f g : α → Option (α ⊕ γ)) (I : Nat → α → Prop) (Q : γ → Prop) (m : Nat)
    (h : ∀ i x, i ≤ m → I i x → g x = f x ∧ ((∃ y, f x = some (.inl y) ∧ I (i + 1) y ∧ i < m) ∨ ∃ r, f x = some (.inr r) ∧ Q r)) :
    ∀ n, m < n → ∀ x, I 0 x → iter n g x = iter n f x ∧ ∃ r, iter n f x = some r ∧ Q r := by
  have key : ∀ d i n x, i + d = m → d < n → I i x → iter n g x = iter n f x ∧ ∃ r, iter n f x = some r ∧ Q r := by
    intro d
    induction d with
    | zero =>
      intro i n x hi hn hI
      obtain ⟨n, rfl⟩ : ∃ k, n = k + 1 := ⟨n - 1, by omega⟩
      obtain ⟨e, h1 | ⟨r, h1, h2⟩⟩ := h i x (by omega) hI
      · obtain ⟨y, _, _, hlt⟩ := h1; omega
      · exact ⟨by rw [iter_end h1 n, iter_end (e.trans h1) n], r, iter_end h1 n, h2⟩
    | succ d ih =>
      intro i n x hi hn hI
      obtain ⟨n, rfl⟩ : ∃ k, n = k + 1 := ⟨n - 1, by omega⟩
      obtain ⟨e, ⟨y, h1, h2, _⟩ | ⟨r, h1, h2⟩⟩ := h i x (by omega) hI
      · obtain ⟨j1, j2⟩ := ih (i + 1) n y (by omega) (by omega) h2
        rw [iter_go h1 n, iter_go (e.trans h1) n]
        exact ⟨j1, j2⟩
      · exact ⟨by rw [iter_end h1 n, iter_end (e.trans h1) n], r, iter_end h1 n, h2⟩
  exact fun n hn x hx => key m 0 n x (by omega) hn hx


theorem in_eq : impl_in = spec_l1In := rfl
theorem l1In_ok (a b c : Int) : spec_l1In a b c = some (decide (b ≤ a) && decide (a ≤ c)) := by
  unfold spec_l1In
  by_cases h : a ≥ b <;> simp [h]


theorem whats_eq : impl_whatsOk = spec_l10Whats := rfl
def whatOk (x : Int) : Bool := decide (0 ≤ x) && decide (x ≤ 9999)
theorem l10Whats_ok (a : List Int) (h : a.length ≤ 1048576) (n : Nat) (hn : BIG ≤ n) : spec_l10Whats n a = some (a.all whatOk) := by
  unfold spec_l10Whats
  rw [all_loop (spec_l10Whats_L1 a) a whatOk (fun i x hi hx => by
    unfold spec_l10Whats_L1
    rw [show decide ((i : Int) < (a.length : Int)) = true by simp only [decide_eq_true_eq]; omega, cond_true, getI_nat, hx, w64_nat hi (by omega)]
    simp only [Option.bind_some, l1In_ok, whatOk]
    cases decide (0 ≤ x) <;> cases decide (x ≤ 9999) <;> rfl) (by unfold spec_l10Whats_L1; simp) n (by unfold BIG at hn; omega)]
  cases a.all whatOk <;> rfl


def wordOk (w : Bool × Int × Int) : Bool := decide (1 ≤ w.2.1) && decide (w.2.1 ≤ 1000001) && (decide (0 ≤ w.2.2) && decide (w.2.2 ≤ 9999)) && (!w.1 || w.2.2 == 0)
theorem air_eq : impl_airOk_L1 = spec_LinkOk_L1 := rfl
theorem air_loop (a : List (Bool × Int × Int)) (h : a.length ≤ 1048576) (n : Nat) (hn : BIG ≤ n) : iter n (spec_LinkOk_L1 a) 0 = some (bif a.all wordOk then .inl (a.length : Int) else .inr false) :=
  all_loop (spec_LinkOk_L1 a) a wordOk (fun i x hi hx => by
    unfold spec_LinkOk_L1
    rw [show decide ((i : Int) < (a.length : Int)) = true by simp only [decide_eq_true_eq]; omega, cond_true, getI_nat, hx, w64_nat hi (by omega)]
    simp only [Option.bind_some, l1In_ok, wordOk, bne]
    cases decide (1 ≤ x.2.1) <;> cases decide (x.2.1 ≤ 1000001) <;> cases decide (0 ≤ x.2.2) <;> cases decide (x.2.2 ≤ 9999) <;> cases x.1 <;> cases (x.2.2 == 0) <;> rfl) (by unfold spec_LinkOk_L1; simp) n (by unfold BIG at hn; omega)


abbrev Lk := List Int × Int × Bool × Int × Int × Int × List Int × List (Bool × Int × Int)
def linkOk (a : Lk) : Bool :=
  decide (a.1.length ≤ 40) && decide (a.2.2.2.2.2.2.1.length ≤ 10000) && decide (a.2.2.2.2.2.2.2.length ≤ 30) && a.1.all whatOk && a.2.2.2.2.2.2.1.all whatOk && a.2.2.2.2.2.2.2.all wordOk &&
  (decide (0 ≤ a.2.1) && decide (a.2.1 ≤ 1000000)) && (decide (0 ≤ a.2.2.2.2.1) && decide (a.2.2.2.2.1 ≤ 10000000)) && (decide (0 ≤ a.2.2.2.1) && decide (a.2.2.2.1 ≤ 10000000)) &&
  (a.2.2.2.2.2.1 == a.2.1 || a.2.2.2.2.2.1 == a.2.1 + 1) && ((a.2.2.2.2.2.2.1.length : Int) == a.2.2.2.2.2.1 - 1) && (!a.2.2.1 || decide (0 < a.1.length))
theorem spec_LinkOk_ok (a : Lk) (h1 : a.1.length ≤ 1048576) (h2 : a.2.2.2.2.2.2.1.length ≤ 1048576) (h3 : a.2.2.2.2.2.2.2.length ≤ 1048576) (n : Nat) (hn : BIG ≤ n) :
    spec_LinkOk n a.1 a.2.1 a.2.2.1 a.2.2.2.1 a.2.2.2.2.1 a.2.2.2.2.2.1 a.2.2.2.2.2.2.1 a.2.2.2.2.2.2.2 = some (linkOk a) := by
  obtain ⟨q, sq, b, du, nw, wt, hd, air⟩ := a
  dsimp only at h1 h2 h3 ⊢
  unfold spec_LinkOk linkOk
  rw [air_loop air h3 n hn]
  simp only [l1In_ok, l10Whats_ok q h1 n hn, l10Whats_ok hd h2 n hn, Option.bind_some, or1, and1, andn, orn]
  by_cases c1 : q.length ≤ 40
  case neg => rw [show decide ((q.length : Int) > 40) = true by simp; omega]; simp [c1]
  rw [show decide ((q.length : Int) > 40) = false by simp; omega]
  by_cases c2 : hd.length ≤ 10000
  case neg => rw [show decide ((hd.length : Int) > 10000) = true by simp; omega]; simp [c2]
  rw [show decide ((hd.length : Int) > 10000) = false by simp; omega]
  by_cases c3 : air.length ≤ 30
  case neg => rw [show decide ((air.length : Int) > 30) = true by simp; omega]; simp [c3]
  rw [show decide ((air.length : Int) > 30) = false by simp; omega]
  by_cases c4 : 0 ≤ sq ∧ sq ≤ 1000000
  case neg =>
    have : (decide (0 ≤ sq) && decide (sq ≤ 1000000)) = false := by rw [← Bool.not_eq_true]; simpa using c4
    simp [this]
  have e1 : w64 (sq + 1) = sq + 1 := w64_eq (by omega) (by omega)
  rw [e1]
  have e2 : ((bif (wt == sq) then bif ((hd.length : Int) == w64 (wt - 1)) then bif (!b) then some true else some (decide ((q.length : Int) > 0)) else some false else
      bif (wt == sq + 1) then bif ((hd.length : Int) == w64 (wt - 1)) then bif (!b) then some true else some (decide ((q.length : Int) > 0)) else some false else some false) : Option Bool) =
      some ((wt == sq || wt == sq + 1) && ((hd.length : Int) == wt - 1) && (!b || decide (0 < q.length))) := by
    rw [show decide ((q.length : Int) > 0) = decide (0 < q.length) by rw [Bool.eq_iff_iff]; simp]
    by_cases hw : wt = sq ∨ wt = sq + 1
    · have e3 : w64 (wt - 1) = wt - 1 := w64_eq (by omega) (by omega)
      rw [e3]
      cases (wt == sq) <;> cases (wt == sq + 1) <;> cases ((hd.length : Int) == wt - 1) <;> cases b <;> rfl
    · have f1 : (wt == sq) = false := by rw [← Bool.not_eq_true]; simp; omega
      have f2 : (wt == sq + 1) = false := by rw [← Bool.not_eq_true]; simp; omega
      rw [f1, f2]; rfl
  simp only [or1, and1] at e2
  simp only [c1, c2, c3, decide_true, Bool.true_and]
  have c4' : (decide (0 ≤ sq) && decide (sq ≤ 1000000)) = true := by simpa using c4
  rw [c4']
  generalize (decide (0 ≤ nw) && decide (nw ≤ 10000000)) = b1
  generalize (decide (0 ≤ du) && decide (du ≤ 10000000)) = b2
  generalize q.all whatOk = b3
  generalize hd.all whatOk = b4
  generalize air.all wordOk = b5
  rw [show decide ((q.length : Int) > 0) = decide (0 < q.length) by rw [Bool.eq_iff_iff]; simp] at e2 ⊢
  cases b1 <;> cases b2 <;> cases b3 <;> cases b4 <;> cases b5 <;> first | (simp; done) | (simp; exact e2)


theorem impl_LinkOk_ok (a : Lk) (h1 : a.1.length ≤ 1048576) (h2 : a.2.2.2.2.2.2.1.length ≤ 1048576) (h3 : a.2.2.2.2.2.2.2.length ≤ 1048576) (hw : fI a.2.2.2.2.2.1) (n : Nat) (hn : BIG ≤ n) :
    impl_LinkOk n a.1 a.2.1 a.2.2.1 a.2.2.2.1 a.2.2.2.2.1 a.2.2.2.2.2.1 a.2.2.2.2.2.2.1 a.2.2.2.2.2.2.2 = some (linkOk a) := by
  obtain ⟨q, sq, b, du, nw, wt, hd, air⟩ := a
  dsimp only at h1 h2 h3 hw ⊢
  have hb := fI_b hw
  have ha : impl_airOk n air = some (air.all wordOk && decide (air.length ≤ 30)) := by
    unfold impl_airOk
    rw [air_eq, air_loop air h3 n hn]
    rw [show decide ((air.length : Int) ≤ 30) = decide (air.length ≤ 30) by rw [Bool.eq_iff_iff]; simp; omega]
    cases air.all wordOk <;> rfl
  unfold impl_LinkOk linkOk
  simp only [in_eq, whats_eq, l1In_ok, l10Whats_ok q h1 n hn, l10Whats_ok hd h2 n hn, ha, Option.bind_some, or1, and1, andn, orn]
  by_cases c1 : q.length ≤ 40
  case neg => rw [show decide ((q.length : Int) > 40) = true by simp; omega]; simp [c1]
  rw [show decide ((q.length : Int) > 40) = false by simp; omega]
  by_cases c2 : hd.length ≤ 10000
  case neg => rw [show decide ((hd.length : Int) > 10000) = true by simp; omega]; simp [c2]
  rw [show decide ((hd.length : Int) > 10000) = false by simp; omega]
  by_cases c4 : 0 ≤ sq ∧ sq ≤ 1000000
  case neg =>
    have : (decide (0 ≤ sq) && decide (sq ≤ 1000000)) = false := by rw [← Bool.not_eq_true]; simpa using c4
    simp [this]
  have c4' : (decide (0 ≤ sq) && decide (sq ≤ 1000000)) = true := by simpa using c4
  have e2 : ((decide (0 ≤ wt) && decide (wt ≤ 1000000)) && (decide (0 ≤ w64 (wt - sq)) && decide (w64 (wt - sq) ≤ 1) && (((hd.length : Int) == w64 (wt - 1)) && (!b || decide ((q.length : Int) > 0))))) =
      ((wt == sq || wt == sq + 1) && ((hd.length : Int) == wt - 1) && (!b || decide (0 < q.length))) := by
    rw [show decide ((q.length : Int) > 0) = decide (0 < q.length) by rw [Bool.eq_iff_iff]; simp]
    by_cases hr : 0 ≤ wt ∧ wt ≤ 1000000
    · have e3 : w64 (wt - 1) = wt - 1 := w64_eq (by omega) (by omega)
      have e4 : w64 (wt - sq) = wt - sq := w64_eq (by omega) (by omega)
      rw [e3, e4, show (decide (0 ≤ wt) && decide (wt ≤ 1000000)) = true by simpa using hr]
      have e5 : (decide (0 ≤ wt - sq) && decide (wt - sq ≤ 1)) = (wt == sq || wt == sq + 1) := by
        rw [Bool.eq_iff_iff]; simp; omega
      rw [e5]
      cases (wt == sq || wt == sq + 1) <;> cases ((hd.length : Int) == wt - 1) <;> rfl
    · rw [show (decide (0 ≤ wt) && decide (wt ≤ 1000000)) = false by rw [← Bool.not_eq_true]; simpa using hr]
      have e6 : ((wt == sq || wt == sq + 1) && ((hd.length : Int) == wt - 1)) = false := by
        rw [← Bool.not_eq_true]; simp; omega
      rw [e6]; rfl
  simp only [c1, c2, decide_true, Bool.true_and]
  rw [c4']
  generalize (decide (0 ≤ nw) && decide (nw ≤ 10000000)) = b1 at e2 ⊢
  generalize (decide (0 ≤ du) && decide (du ≤ 10000000)) = b2 at e2 ⊢
  generalize q.all whatOk = b3
  generalize hd.all whatOk = b4
  generalize air.all wordOk = b5
  generalize decide (air.length ≤ 30) = b6
  rw [Option.some.injEq]
  cases b1 <;> cases b2 <;> cases b3 <;> cases b4 <;> cases b5 <;> cases b6 <;> first | (simp; done) | (simp; simpa using e2)


theorem spec_l10Copy_ok (a : Lk) (h : sm_Link a) : spec_l10Copy a.1 a.2.1 a.2.2.1 a.2.2.2.1 a.2.2.2.2.1 a.2.2.2.2.2.1 a.2.2.2.2.2.2.1 a.2.2.2.2.2.2.2 = some a := by
  obtain ⟨h1, h2, h3⟩ := h
  unfold spec_l10Copy
  simp [row0 h1, row0 h2, row0 h3]


theorem impl_copyLink_ok (a : Lk) (h : sm_Link a) : impl_copyLink a.1 a.2.1 a.2.2.1 a.2.2.2.1 a.2.2.2.2.1 a.2.2.2.2.2.1 a.2.2.2.2.2.2.1 a.2.2.2.2.2.2.2 = some a := by
  obtain ⟨h1, h2, h3⟩ := h
  unfold impl_copyLink impl_copyInts
  simp [row0 h1, row0 h2, row0 h3]


/-- What Tell answers: the link, and whether it was taken. -/
def tellOf (a : Lk) (c : Int) : Lk × Bool := bif linkOk a && decide (0 ≤ c) && decide (c ≤ 9999) && decide (a.1.length < 40) then ((a.1 ++ [c], a.2), true) else (a, false)
def tup9 (x : Lk × Bool) : (List Int) × Int × Bool × Int × Int × Int × (List Int) × (List SBII) × Bool := (x.1.1, x.1.2.1, x.1.2.2.1, x.1.2.2.2.1, x.1.2.2.2.2.1, x.1.2.2.2.2.2.1, x.1.2.2.2.2.2.2.1, x.1.2.2.2.2.2.2.2, x.2)
theorem tellOf_sm (a : Lk) (h : sm_Link a) (c : Int) : sm_Link (tellOf a c).1 := by
  obtain ⟨h1, h2, h3⟩ := h
  unfold tellOf
  by_cases hl : a.1.length < 40
  · cases linkOk a && decide (0 ≤ c) && decide (c ≤ 9999) && decide (a.1.length < 40)
    · exact ⟨h1, h2, h3⟩
    · exact ⟨by show (a.1 ++ [c]).length ≤ _; simp; omega, h2, h3⟩
  · rw [show decide (a.1.length < 40) = false by simpa using hl]
    simp
    exact ⟨h1, h2, h3⟩
theorem linkOk_len {a : Lk} (h : linkOk a = true) : a.1.length ≤ 40 := by
  unfold linkOk at h
  simp only [Bool.and_eq_true, decide_eq_true_eq] at h
  omega


theorem spec_Tell_ok (a : Lk) (h : sm_Link a) (c : Int) (n : Nat) (hn : BIG ≤ n) : spec_Tell n a.1 a.2.1 a.2.2.1 a.2.2.2.1 a.2.2.2.2.1 a.2.2.2.2.2.1 a.2.2.2.2.2.2.1 a.2.2.2.2.2.2.2 c = some (tup9 (tellOf a c)) := by
  unfold spec_Tell tellOf
  rw [spec_l10Copy_ok a h, spec_LinkOk_ok a h.1 h.2.1 h.2.2 n hn]
  simp only [Option.bind_some, l1In_ok]
  have hl : decide (a.1.length + 1 ≤ maxRow) = true := row1 h.1
  cases hk : linkOk a with
  | false => simp [tup9]
  | true =>
    have h40 := linkOk_len hk
    by_cases c1 : 0 ≤ c ∧ c ≤ 9999
    · rw [show (decide (0 ≤ c) && decide (c ≤ 9999)) = true by simpa using c1]
      by_cases c2 : a.1.length < 40
      · have e : ((a.1.length : Int) == 40) = false := by rw [← Bool.not_eq_true]; simp; omega
        simp [tup9, e, hl, c1.1, c1.2, c2]
      · have e : ((a.1.length : Int) == 40) = true := by simp; omega
        simp [tup9, e, c2]
    · have e : (decide (0 ≤ c) && decide (c ≤ 9999)) = false := by rw [← Bool.not_eq_true]; simpa using c1
      rw [e]
      have e2 : (true && decide (0 ≤ c) && decide (c ≤ 9999) && decide (a.1.length < 40)) = false := by rw [Bool.true_and, e]; rfl
      rw [e2]; simp [tup9]


theorem impl_Tell_ok (a : Lk) (h : sm_Link a) (hw : fI a.2.2.2.2.2.1) (c : Int) (n : Nat) (hn : BIG ≤ n) : impl_Tell n a.1 a.2.1 a.2.2.1 a.2.2.2.1 a.2.2.2.2.1 a.2.2.2.2.2.1 a.2.2.2.2.2.2.1 a.2.2.2.2.2.2.2 c = some (tup9 (tellOf a c)) := by
  unfold impl_Tell tellOf
  rw [impl_copyLink_ok a h, impl_LinkOk_ok a h.1 h.2.1 h.2.2 hw n hn]
  simp only [Option.bind_some, in_eq, l1In_ok]
  have hl : decide (a.1.length + 1 ≤ maxRow) = true := row1 h.1
  cases hk : linkOk a with
  | false => simp [tup9]
  | true =>
    have h40 := linkOk_len hk
    by_cases c1 : 0 ≤ c ∧ c ≤ 9999
    · rw [show (decide (0 ≤ c) && decide (c ≤ 9999)) = true by simpa using c1]
      by_cases c2 : a.1.length < 40
      · have e : decide ((a.1.length : Int) ≥ 40) = false := by simp; omega
        simp [tup9, e, hl, c1.1, c1.2, c2]
      · have e : decide ((a.1.length : Int) ≥ 40) = true := by simp; omega
        simp [tup9, e, c2]
    · have e : (decide (0 ≤ c) && decide (c ≤ 9999)) = false := by rw [← Bool.not_eq_true]; simpa using c1
      rw [e]
      have e2 : (true && decide (0 ≤ c) && decide (c ≤ 9999) && decide (a.1.length < 40)) = false := by rw [Bool.true_and, e]; rfl
      rw [e2]; simp [tup9]


theorem sub_le {α : Type} (xs : List α) (lo hi : Nat) : (sub xs lo hi).length ≤ xs.length := by
  unfold sub; simp; omega


theorem spec_l10Says_ok (q : List Int) (sq : Int) (b : Bool) (du nw wt : Int) (hd : List Int) (air : List SBII) (w0 : Bool) (w1 w2 : Int) :
    spec_l10Says q sq b du nw wt hd air w0 w1 w2 = some (q, sq, b, du, nw, wt, hd, bif decide (air.length < 30) then air ++ [(w0, w1, w2)] else air) := by
  unfold spec_l10Says
  by_cases h : air.length < 30
  · rw [show decide ((air.length : Int) < 30) = true by simp; omega, show decide (air.length < 30) = true by simpa using h]
    have := row1 (m := air.length) (by omega)
    simp [this]
  · rw [show decide ((air.length : Int) < 30) = false by simp; omega, show decide (air.length < 30) = false by simpa using h]
    rfl
theorem airs_len (air : List SBII) (w : SBII) : (bif decide (air.length < 30) then air ++ [w] else air).length ≤ air.length + 1 := by
  cases decide (air.length < 30) <;> simp


theorem say_eq : impl_Link_say = spec_l10Says := rfl


theorem spec_l10Tick_ok (q : List Int) (sq : Int) (b : Bool) (du nw wt : Int) (hd : List Int) (air : List SBII) (hb : b = true → 0 < q.length) :
    ∃ sq' b' du' nw' air', spec_l10Tick q sq b du nw wt hd air = some (q, sq', b', du', nw', wt, hd, air') ∧ air'.length ≤ air.length + 1 := by
  unfold spec_l10Tick
  simp only [spec_l10Says_ok]
  have h1 : ∀ nw', ∃ sq' b' du' nw2 air', ((bif !b then bif decide ((q.length : Int) > 0) then some (decide (sq < 1000000)) else some false else some false).bind fun x2 =>
      bif x2 then bif inb q 0 then (q[Int.toNat 0]?).bind fun x3 => some (q, w64 (sq + 1), true, w64 (nw' + 3), nw', wt, hd, bif decide (air.length < 30) then air ++ [(false, w64 (sq + 1), x3)] else air) else none
      else (bif b then some (decide (nw' ≥ du)) else some false).bind fun x5 =>
        bif x5 then bif inb q 0 then (q[Int.toNat 0]?).bind fun x6 => some (q, sq, b, w64 (nw' + 3), nw', wt, hd, bif decide (air.length < 30) then air ++ [(false, sq, x6)] else air) else none
        else some (q, sq, b, du, nw', wt, hd, air)) = (some (q, sq', b', du', nw2, wt, hd, air') : Option Lk) ∧ air'.length ≤ air.length + 1 := by
    intro nw'
    cases q with
    | nil =>
      have hbf : b = false := by cases b with | false => rfl | true => simp at hb
      subst hbf
      exact ⟨sq, false, du, nw', air, by simp, by omega⟩
    | cons x q =>
      have hin : inb (x :: q) 0 = true := by rw [show (0 : Int) = ((0 : Nat) : Int) from rfl, inb_nat]; simp
      simp only [hin]
      cases b with
      | false =>
        cases hs : decide (sq < 1000000) with
        | true => exact ⟨w64 (sq + 1), true, w64 (nw' + 3), nw', _, by first | (simp; done) | (simp; rfl), airs_len air (false, w64 (sq + 1), x)⟩
        | false => exact ⟨sq, false, du, nw', air, by simp, by omega⟩
      | true =>
        cases hs : decide (nw' ≥ du) with
        | true => exact ⟨sq, true, w64 (nw' + 3), nw', _, by first | (simp; done) | (simp; rfl), airs_len air (false, sq, x)⟩
        | false => exact ⟨sq, true, du, nw', air, by simp, by omega⟩
  cases decide (nw < 9999997) with
  | true => exact h1 _
  | false => exact h1 _


theorem tick_eq (q : List Int) (sq : Int) (b : Bool) (du nw wt : Int) (hd : List Int) (air : List SBII) : impl_Link_tick q sq b du nw wt hd air = spec_l10Tick q sq b du nw wt hd air := by
  unfold impl_Link_tick spec_l10Tick
  simp only [say_eq, spec_l10Says_ok]
  cases decide (nw < 9999997) <;> cases b <;> simp only [cond_true, cond_false, Option.bind_some, Bool.not_true, Bool.not_false]
  · cases decide ((q.length : Int) > 0) <;> cases decide (sq < 1000000) <;> rfl
  · cases decide (nw ≥ du) <;> rfl
  · cases decide ((q.length : Int) > 0) <;> cases decide (sq < 1000000) <;> rfl
  · cases decide (w64 (nw + 1) ≥ du) <;> rfl


theorem spec_l10Hear_ok (q : List Int) (sq : Int) (b : Bool) (du nw wt : Int) (hd : List Int) (air : List SBII) (w0 : Bool) (w1 w2 : Int) (hb : b = true → 0 < q.length) (h1 : q.length ≤ 1048576) (h2 : hd.length ≤ 1048570) :
    ∃ q' b' wt' hd' air', spec_l10Hear q sq b du nw wt hd air w0 w1 w2 = some (q', sq, b', du, nw, wt', hd', air') ∧ q'.length ≤ q.length ∧ hd'.length ≤ hd.length + 1 ∧ air'.length ≤ air.length + 1 := by
  unfold spec_l10Hear
  simp only [spec_l10Says_ok]
  cases w0 with
  | true =>
    cases b with
    | false => exact ⟨q, false, wt, hd, air, by simp, by omega, by omega, by omega⟩
    | true =>
      cases hq : (w1 == sq) with
      | false => exact ⟨q, true, wt, hd, air, by simp [hq], by omega, by omega, by omega⟩
      | true =>
        have hpos := hb rfl
        have hr := row0 (m := (sub q (Int.toNat 1) (Int.toNat (q.length : Int))).length) (Nat.le_trans (sub_le _ _ _) h1)
        have hc : (decide (0 ≤ 1) && decide ((1 : Int) ≤ (q.length : Int)) && decide ((q.length : Int) ≤ (q.length : Int))) = true := by simp; omega
        refine ⟨sub q (Int.toNat 1) (Int.toNat (q.length : Int)), false, wt, hd, air, ?_, sub_le _ _ _, by omega, by omega⟩
        simp only [cond_true, Option.bind_some, hq, hc, List.length_nil, Nat.zero_add, hr, List.nil_append]
  | false =>
    have hr := row1 (m := hd.length) (by omega)
    have fin : ∀ (wt' : Int) (hd' : List Int), hd'.length ≤ hd.length + 1 → ∃ q' b' wt2 hd2 air', (bif decide (w1 < wt') then some (q, sq, b, du, nw, wt', hd', bif decide (air.length < 30) then air ++ [(true, w1, 0)] else air) else some (q, sq, b, du, nw, wt', hd', air)) = (some (q', sq, b', du, nw, wt2, hd2, air') : Option Lk) ∧ q'.length ≤ q.length ∧ hd2.length ≤ hd.length + 1 ∧ air'.length ≤ air.length + 1 := by
      intro wt' hd' hl
      cases decide (w1 < wt') with
      | true => exact ⟨q, b, wt', hd', _, rfl, Nat.le_refl _, hl, airs_len air (true, w1, 0)⟩
      | false => exact ⟨q, b, wt', hd', air, rfl, Nat.le_refl _, hl, by omega⟩
    cases hq : (w1 == wt) with
    | false =>
      simp only [cond_false, Option.bind_some]
      exact fin wt hd (by omega)
    | true =>
      cases hl : decide ((hd.length : Int) < 10000) with
      | false =>
        simp only [cond_false, cond_true, Option.bind_some]
        exact fin wt hd (by omega)
      | true =>
        simp only [cond_false, cond_true, Option.bind_some, List.length_singleton, hr]
        exact fin (w64 (wt + 1)) (hd ++ [w2]) (by simp)


/-- The air without one word. -/
def cut (air : List SBII) (i : Int) : List SBII := sub air (Int.toNat (0 : Int)) (Int.toNat i) ++ sub air (Int.toNat (w64 (i + 1))) (Int.toNat (air.length : Int))
theorem cut_len (air : List SBII) (h : air.length ≤ 1048576) (i : Nat) (hi : i < air.length) : (cut air (i : Int)).length ≤ air.length := by
  unfold cut
  rw [w64_nat hi (by omega)]
  unfold sub
  simp; omega
theorem cut_ok (air : List SBII) (h : air.length ≤ 1048576) (i : Nat) (hi : i < air.length) :
    (decide (0 ≤ (0 : Int)) && decide ((0 : Int) ≤ (i : Int)) && decide ((i : Int) ≤ (air.length : Int))) = true ∧ decide ((sub air (Int.toNat (0 : Int)) (Int.toNat (i : Int))).length ≤ maxRow) = true ∧
    (decide (0 ≤ w64 ((i : Int) + 1)) && decide (w64 ((i : Int) + 1) ≤ (air.length : Int)) && decide ((air.length : Int) ≤ (air.length : Int))) = true ∧
    decide ((sub air (Int.toNat (0 : Int)) (Int.toNat (i : Int))).length + (sub air (Int.toNat (w64 ((i : Int) + 1))) (Int.toNat (air.length : Int))).length ≤ maxRow) = true := by
  refine ⟨by simp; omega, row0 (Nat.le_trans (sub_le _ _ _) h), by rw [w64_nat hi (by omega)]; simp; omega, ?_⟩
  have := cut_len air h i hi
  unfold cut at this
  rw [List.length_append] at this
  exact row0 (by omega)


theorem impl_Link_drop_ok (q : List Int) (sq : Int) (b : Bool) (du nw wt : Int) (hd : List Int) (air : List SBII) (h : air.length ≤ 1048576) (i : Nat) (hi : i < air.length) :
    impl_Link_drop q sq b du nw wt hd air (i : Int) = some (air[i].1, air[i].2.1, air[i].2.2, q, sq, b, du, nw, wt, hd, cut air (i : Int)) := by
  obtain ⟨c1, c2, c3, c4⟩ := cut_ok air h i hi
  unfold impl_Link_drop
  simp only [inb_lt hi, c1, c2, c3, c4, cond_true]
  simp [hi, cut]


theorem impl_Link_hear_ok (q : List Int) (sq : Int) (b : Bool) (du nw wt : Int) (hd : List Int) (air : List SBII) (h : air.length ≤ 1048576) (i : Nat) (hi : i < air.length) :
    impl_Link_hear q sq b du nw wt hd air (i : Int) = spec_l10Hear q sq b du nw wt hd (cut air (i : Int)) air[i].1 air[i].2.1 air[i].2.2 := by
  unfold impl_Link_hear
  rw [impl_Link_drop_ok q sq b du nw wt hd air h i hi]
  unfold spec_l10Hear impl_copyInts
  simp only [Option.bind_some, say_eq, spec_l10Says_ok, List.length_nil, Nat.zero_add, List.nil_append]
  generalize cut air (i : Int) = air'
  generalize air[i] = w
  obtain ⟨w0, w1, w2⟩ := w
  dsimp only
  cases w0
  · cases b <;> cases (w1 == wt) <;> cases decide ((hd.length : Int) < 10000) <;> first | rfl | (cases decide (hd.length + [w2].length ≤ maxRow) <;> rfl)
  · cases b
    · rfl
    · cases (w1 == sq)
      · rfl
      · cases (decide (0 ≤ 1) && decide ((1 : Int) ≤ (q.length : Int)) && decide ((q.length : Int) ≤ (q.length : Int)))
        · rfl
        · simp only [cond_true, Option.bind_some]
          cases decide ((sub q (Int.toNat 1) (Int.toNat (q.length : Int))).length ≤ maxRow) <;> rfl


theorem linkOk_more {a : Lk} (h : linkOk a = true) : a.2.2.2.2.2.2.1.length ≤ 10000 ∧ a.2.2.2.2.2.2.2.length ≤ 30 ∧ (a.2.2.1 = true → 0 < a.1.length) := by
  unfold linkOk at h
  simp only [Bool.and_eq_true, decide_eq_true_eq, Bool.or_eq_true, Bool.not_eq_true'] at h
  obtain ⟨q, sq, b, du, nw, wt, hd, air⟩ := a
  dsimp only at h ⊢
  refine ⟨by omega, by omega, fun hb => ?_⟩
  subst hb
  simp at h
  omega
theorem spec_l10Do_ok (a : Lk) (hk : linkOk a = true) (c i : Int) : ∃ (x : Lk) (t : Bool), spec_l10Do a.1 a.2.1 a.2.2.1 a.2.2.2.1 a.2.2.2.2.1 a.2.2.2.2.2.1 a.2.2.2.2.2.2.1 a.2.2.2.2.2.2.2 c i = some (t, x) ∧ sm_Link x := by
  have h1 := linkOk_len hk
  obtain ⟨h2, h3, hb⟩ := linkOk_more hk
  obtain ⟨q, sq, b, du, nw, wt, hd, air⟩ := a
  dsimp only at h1 h2 h3 hb ⊢
  have same : sm_Link (q, sq, b, du, nw, wt, hd, air) := ⟨by show q.length ≤ _; omega, by show hd.length ≤ _; omega, by show air.length ≤ _; omega⟩
  unfold spec_l10Do
  cases c1 : (c == 1) with
  | true =>
    obtain ⟨sq', b', du', nw', air', e, hl⟩ := spec_l10Tick_ok q sq b du nw wt hd air hb
    exact ⟨_, true, by simp only [cond_true, e, Option.bind_some]; rfl, by show q.length ≤ _; omega, by show hd.length ≤ _; omega, by show air'.length ≤ _; omega⟩
  | false =>
    simp only [cond_false, l1In_ok, Option.bind_some]
    have hw : w64 ((air.length : Int) - 1) = (air.length : Int) - 1 := w64_eq (by omega) (by omega)
    rw [hw]
    cases c2 : (decide (2 ≤ c) && decide (c ≤ 4)) with
    | false => exact ⟨_, false, by first | rfl | (simp only [Bool.not_false, cond_true, Option.bind_some]; done) | (simp only [Bool.not_false, cond_true, Option.bind_some]; rfl), same⟩
    | true =>
      cases c3 : (decide (0 ≤ i) && decide (i ≤ (air.length : Int) - 1)) with
      | false => exact ⟨_, false, by first | rfl | (simp only [Bool.not_false, Bool.not_true, cond_true, cond_false, Option.bind_some]; done) | (simp only [Bool.not_false, Bool.not_true, cond_true, cond_false, Option.bind_some]; rfl), same⟩
      | true =>
        have c3' : 0 ≤ i ∧ i ≤ (air.length : Int) - 1 := by simpa using c3
        obtain ⟨m, rfl⟩ : ∃ m : Nat, i = (m : Int) := ⟨i.toNat, by omega⟩
        have hm : m < air.length := by omega
        obtain ⟨d1, d2, d3, d4⟩ := cut_ok air (by omega) m hm
        have hcl := cut_len air (by omega) m hm
        cases c4 : (c == 4) with
        | true =>
          cases c5 : ((air.length : Int) == 30) with
          | true => exact ⟨_, false, by first | rfl | (simp only [Bool.not_true, cond_true, cond_false, Option.bind_some, c5]; done) | (simp only [Bool.not_true, cond_true, cond_false, Option.bind_some, c5]; rfl), same⟩
          | false =>
            have hr := row1 (m := air.length) (by omega)
            refine ⟨(q, sq, b, du, nw, wt, hd, air ++ [(air[m].1, air[m].2.1, air[m].2.2)]), true, ?_, ⟨by show q.length ≤ _; omega, by show hd.length ≤ _; omega, by show (air ++ [_]).length ≤ _; simp; omega⟩⟩
            have hgo : air[(m : Int).toNat]? = some air[m] := by simp [hm]
            simp only [Bool.not_true, cond_true, cond_false, Option.bind_some, inb_lt hm, c5, List.length_singleton, hr, hgo]
        | false =>
          have hgo : air[(m : Int).toNat]? = some air[m] := by simp [hm]
          simp only [Bool.not_true, cond_true, cond_false, Option.bind_some, inb_lt hm, hgo, d1, d2, d3, d4, List.length_nil, Nat.zero_add, List.nil_append]
          have hcut : sub air (Int.toNat (0 : Int)) (Int.toNat (m : Int)) ++ sub air (Int.toNat (w64 ((m : Int) + 1))) (Int.toNat (air.length : Int)) = cut air (m : Int) := rfl
          rw [hcut]
          cases c6 : (c == 2) with
          | false => exact ⟨_, true, by simp only [cond_false, Option.bind_some]; rfl, by show q.length ≤ _; omega, by show hd.length ≤ _; omega, by show (cut air (m : Int)).length ≤ _; omega⟩
          | true =>
            obtain ⟨q', b', wt', hd', air', e, l1, l2, l3⟩ := spec_l10Hear_ok q sq b du nw wt hd (cut air (m : Int)) air[m].1 air[m].2.1 air[m].2.2 hb (by omega) (by omega)
            exact ⟨_, true, by simp only [cond_true, e, Option.bind_some]; rfl, by show q'.length ≤ _; omega, by show hd'.length ≤ _; omega, by show air'.length ≤ _; omega⟩


def fU8 (x : Int) : Prop := IntKind.min .u8 ≤ x ∧ x ≤ IntKind.max .u8


theorem andI_255 (x : Int) : 0 ≤ andI .i64 x 255 ∧ andI .i64 x 255 ≤ 255 := by
  unfold andI
  have h : (BitVec.ofInt (IntKind.bits .i64) x &&& BitVec.ofInt (IntKind.bits .i64) 255).toNat ≤ 255 := by
    rw [BitVec.toNat_and]
    have : (BitVec.ofInt (IntKind.bits .i64) 255).toNat = 255 := by decide
    rw [this]
    exact Nat.and_le_right
  generalize (BitVec.ofInt (IntKind.bits .i64) x &&& BitVec.ofInt (IntKind.bits .i64) 255).toNat = m at h
  have : IntKind.wrap .i64 (m : Int) = (m : Int) := w64_eq (by omega) (by omega)
  rw [this]
  omega


theorem l1Byte_ok (b : List Int) (i h : Int) (hi : 0 ≤ i) (hb : b.length ≤ 1048576) : ∃ x i' h' : Int, spec_l1Byte b i h = some (x, b, i', h') ∧ 0 ≤ x ∧ x ≤ 255 ∧ 0 ≤ i' := by
  unfold spec_l1Byte
  rw [show decide ((0 : Nat) ≤ 33) = true from rfl, show decide ((0 : Nat) ≤ 47) = true from rfl]
  simp only [cond_true]
  by_cases hl : i < (b.length : Int)
  · obtain ⟨j, rfl⟩ : ∃ j : Nat, i = (j : Int) := ⟨i.toNat, by omega⟩
    have hj : j < b.length := by omega
    rw [show decide ((j : Int) < (b.length : Int)) = true by simpa using hl, cond_true, getI_lt hj]
    simp only [Option.bind_some]
    refine ⟨_, _, _, rfl, (andI_255 _).1, (andI_255 _).2, ?_⟩
    rw [w64_nat hj (by omega)]; omega
  · rw [show decide (i < (b.length : Int)) = false by simpa using hl, cond_false]
    simp only [Option.bind_some]
    exact ⟨_, _, _, rfl, (andI_255 _).1, (andI_255 _).2, hi⟩


theorem l1Below_ok (b : List Int) (i h : Int) (hi : 0 ≤ i) (hb : b.length ≤ 1048576) (n : Int) : ∃ x i' h' : Int, spec_l1Below b i h n = some (x, b, i', h') ∧ 0 ≤ i' ∧ 0 ≤ x ∧ (x < n ∨ n ≤ 0 ∧ x = 0) := by
  unfold spec_l1Below
  by_cases h0 : n ≤ 0
  · rw [show decide (n ≤ 0) = true by simpa using h0, cond_true]
    exact ⟨0, i, h, rfl, hi, by omega, .inr ⟨h0, rfl⟩⟩
  rw [show decide (n ≤ 0) = false by simpa using h0, cond_false]
  have hz : (n == 0) = false := by rw [← Bool.not_eq_true]; simp; omega
  rw [hz]
  have fin : ∀ x : Int, 0 ≤ x → 0 ≤ Int.tmod x n ∧ Int.tmod x n < n := fun x hx => by
    rw [Int.tmod_eq_emod_of_nonneg hx]
    exact ⟨Int.emod_nonneg _ (by omega), Int.emod_lt_of_pos _ (by omega)⟩
  obtain ⟨x, i1, h1, e1, x0, x1, j1⟩ := l1Byte_ok b i h hi hb
  rw [e1]
  simp only [Option.bind_some, cond_false]
  by_cases h2 : n ≤ 256
  · rw [show decide (n ≤ 256) = true by simpa using h2, cond_true]
    exact ⟨_, _, _, rfl, j1, (fin x x0).1, .inl (fin x x0).2⟩
  rw [show decide (n ≤ 256) = false by simpa using h2, cond_false]
  obtain ⟨y, i2, h2', e2, y0, y1, j2⟩ := l1Byte_ok b i1 h1 j1 hb
  rw [e2]
  simp only [Option.bind_some]
  obtain ⟨z, i3, h3', e3, z0, z1, j3⟩ := l1Byte_ok b i2 h2' j2 hb
  rw [e3]
  simp only [Option.bind_some]
  rw [w64_eq (n := x * 65536) (by omega) (by omega), w64_eq (n := y * 256) (by omega) (by omega), w64_eq (n := x * 65536 + y * 256) (by omega) (by omega), w64_eq (n := x * 65536 + y * 256 + z) (by omega) (by omega)]
  exact ⟨_, _, _, rfl, j3, (fin _ (by omega)).1, .inl (fin _ (by omega)).2⟩


theorem l1New_ok (a : List Int) (ha : a.length ≤ 1048576) (n : Nat) (hn : BIG ≤ n) : ∃ h : Int, spec_l1New n a = some (a, 0, h) := by
  obtain ⟨_, r, e, _⟩ := iter_two (α := Int × Int) (γ := Int × Int) (spec_l1New_L1 a) (spec_l1New_L1 a) (fun i x => x.2 = (i : Int)) (fun _ => True) a.length (fun i x hi hI => by
    refine ⟨rfl, ?_⟩
    obtain ⟨h, k⟩ := x
    dsimp only at hI
    subst hI
    unfold spec_l1New_L1
    dsimp only
    by_cases hl : i < a.length
    · rw [show decide ((i : Int) < (a.length : Int)) = true by simp; omega, cond_true]
      simp only [Option.bind_some]
      cases decide ((i : Int) < 4000) with
      | false => exact .inr ⟨_, rfl, trivial⟩
      | true =>
        rw [cond_true, getI_lt hl]
        exact .inl ⟨_, rfl, w64_nat hl (by omega), hl⟩
    · rw [show decide ((i : Int) < (a.length : Int)) = false by simp; omega]
      exact .inr ⟨_, rfl, trivial⟩) n (by unfold BIG at hn; omega) (w64 (275275 + (a.length : Int)), 0) rfl
  unfold spec_l1New
  rw [e]
  exact ⟨r.1, rfl⟩


theorem l1Size_ok (a : List Int) (ha : a.length ≤ 1048576) (m : Int) (hm : 0 ≤ m) : ∃ r : Int, spec_l1Size a m = some r ∧ 0 ≤ r ∧ r ≤ m := by
  unfold spec_l1Size
  have e : Int.tdiv (a.length : Int) 12 = ((a.length / 12 : Nat) : Int) := by rw [Int.tdiv_eq_ediv_of_nonneg (by omega)]; omega
  rw [e, w64_eq (n := ((a.length / 12 : Nat) : Int)) (by omega) (by omega), w64_eq (n := 3 + ((a.length / 12 : Nat) : Int)) (by omega) (by omega)]
  by_cases h : 3 + ((a.length / 12 : Nat) : Int) > m
  · rw [show decide (3 + ((a.length / 12 : Nat) : Int) > m) = true by simpa using h]
    exact ⟨m, rfl, hm, Int.le_refl _⟩
  · rw [show decide (3 + ((a.length / 12 : Nat) : Int) > m) = false by simpa using h]
    exact ⟨_, rfl, by omega, by omega⟩

/-- What holds of a link behind anything that may be, and what was told. -/
structure LI (m : Nat) (q : List Int) (sq : Int) (b : Bool) (du nw wt : Int) (hd : List Int) (air : List SBII) (told : List Int) : Prop where
  ac : ∃ ac : Nat, ac ≤ told.length ∧ q = told.drop ac ∧ sq = (ac : Int) + (if b then 1 else 0)
  bz : b = true → 0 < q.length
  ql : q.length ≤ 40
  hde : hd = told.take hd.length
  hdl : hd.length ≤ told.length
  wte : wt = (hd.length : Int) + 1
  sw : wt = sq ∨ wt = sq + 1
  sf : b = false → wt = sq + 1
  airs : ∀ w ∈ air, (w.1 = false → 1 ≤ w.2.1 ∧ w.2.1 ≤ sq ∧ told[(w.2.1 - 1).toNat]? = some w.2.2) ∧ (w.1 = true → 1 ≤ w.2.1 ∧ w.2.1 < wt ∧ w.2.2 = 0)
  al : air.length ≤ 30
  tl : told.length ≤ m
  tw : ∀ x ∈ told, 0 ≤ x ∧ x ≤ 9999
  nws : 0 ≤ nw ∧ nw ≤ (m : Int)
  dus : 0 ≤ du ∧ du ≤ (m : Int) + 3
  dn : du ≤ nw + 3
  mm : m ≤ 1000

theorem LI.more {m : Nat} {q : List Int} {sq : Int} {b : Bool} {du nw wt : Int} {hd : List Int} {air : List SBII} {told : List Int} (h : LI m q sq b du nw wt hd air told) (hm : m + 1 ≤ 1000) : LI (m + 1) q sq b du nw wt hd air told :=
  { h with tl := Nat.le_succ_of_le h.tl, nws := ⟨h.nws.1, by have := h.nws.2; omega⟩, dus := ⟨h.dus.1, by have := h.dus.2; omega⟩, mm := hm }
theorem LI.sq {m : Nat} {q : List Int} {sq : Int} {b : Bool} {du nw wt : Int} {hd : List Int} {air : List SBII} {told : List Int} (h : LI m q sq b du nw wt hd air told) : 0 ≤ sq ∧ sq ≤ (told.length : Int) := by
  obtain ⟨ac, h1, h2, h3⟩ := h.ac
  have hb := h.bz
  cases b with
  | false => simp at h3; omega
  | true =>
    have := hb rfl
    rw [h2] at this
    simp at this h3
    omega
theorem LI.said {m : Nat} {q : List Int} {sq : Int} {b : Bool} {du nw wt : Int} {hd : List Int} {air : List SBII} {told : List Int} (h : LI m q sq b du nw wt hd air told) (w : SBII)
    (hw : (w.1 = false → 1 ≤ w.2.1 ∧ w.2.1 ≤ sq ∧ told[(w.2.1 - 1).toNat]? = some w.2.2) ∧ (w.1 = true → 1 ≤ w.2.1 ∧ w.2.1 < wt ∧ w.2.2 = 0)) : LI m q sq b du nw wt hd (bif decide (air.length < 30) then air ++ [w] else air) told := by
  by_cases hl : air.length < 30
  · rw [show decide (air.length < 30) = true by simpa using hl, cond_true]
    exact { h with
      airs := fun x hx => by
        rcases List.mem_append.1 hx with hx | hx
        · exact h.airs x hx
        · rw [List.mem_singleton.1 hx]; exact hw
      al := by simp; omega }
  · rw [show decide (air.length < 30) = false by simpa using hl, cond_false]
    exact h
theorem cut_mem (air : List SBII) (i : Int) (x : SBII) (h : x ∈ cut air i) : x ∈ air := by
  unfold cut sub at h
  rcases List.mem_append.1 h with h | h
  · exact List.mem_of_mem_drop (List.mem_of_mem_take h)
  · exact List.mem_of_mem_drop (List.mem_of_mem_take h)
theorem LI.cutted {m : Nat} {q : List Int} {sq : Int} {b : Bool} {du nw wt : Int} {hd : List Int} {air : List SBII} {told : List Int} (h : LI m q sq b du nw wt hd air told) (i : Nat) (hi : i < air.length) : LI m q sq b du nw wt hd (cut air (i : Int)) told :=
  { h with
    airs := fun x hx => h.airs x (cut_mem air _ x hx)
    al := Nat.le_trans (cut_len air (by have := h.al; omega) i hi) h.al }


theorem LI.tick {m : Nat} {q : List Int} {sq : Int} {b : Bool} {du nw wt : Int} {hd : List Int} {air : List SBII} {told : List Int} (h : LI m q sq b du nw wt hd air told) (hm : m + 1 ≤ 1000) :
    ∃ sq' b' du' nw' air', spec_l10Tick q sq b du nw wt hd air = some (q, sq', b', du', nw', wt, hd, air') ∧ LI (m + 1) q sq' b' du' nw' wt hd air' told := by
  have hs := h.sq
  have htl := h.tl
  have hnw := h.nws
  unfold spec_l10Tick
  simp only [spec_l10Says_ok]
  rw [show decide (nw < 9999997) = true by simp; omega, cond_true]
  simp only [Option.bind_some]
  rw [w64_eq (n := nw + 1) (by omega) (by omega)]
  have h' : LI (m + 1) q sq b du (nw + 1) wt hd air told := { h.more hm with nws := ⟨by omega, by omega⟩, dn := by have := h.dn; omega }
  obtain ⟨ac, a1, a2, a3⟩ := h.ac
  cases hq : q with
  | nil =>
    have hb : b = false := by
      cases b with
      | false => rfl
      | true => have := h.bz rfl; rw [hq] at this; simp at this
    rw [hb] at h' ⊢
    rw [hq] at h'
    exact ⟨sq, false, du, nw + 1, air, by simp, h'⟩
  | cons x q2 =>
    have hin : inb (x :: q2) 0 = true := by rw [show (0 : Int) = ((0 : Nat) : Int) from rfl, inb_nat]; simp
    have hacl : ac < told.length := by
      have : q.length = told.length - ac := by rw [a2]; simp
      rw [hq] at this; simp at this; omega
    have hx : told[ac]? = some x := by
      have : (told.drop ac)[0]? = some x := by rw [← a2, hq]; rfl
      simpa using this
    simp only [hin]
    cases b with
    | false =>
      simp at a3
      rw [w64_eq (n := sq + 1) (by omega) (by omega), w64_eq (n := nw + 1 + 3) (by omega) (by omega)]
      have hnew : LI (m + 1) q (sq + 1) true (nw + 1 + 3) (nw + 1) wt hd air told := { h' with
        ac := ⟨ac, a1, a2, by simp; omega⟩
        bz := fun _ => by rw [hq]; simp
        sw := .inl (h.sf rfl)
        sf := fun hh => by cases hh
        airs := fun w hw => ⟨fun h0 => by obtain ⟨b1, b2, b3⟩ := (h.airs w hw).1 h0; exact ⟨b1, by omega, b3⟩, (h.airs w hw).2⟩
        dus := ⟨by omega, by omega⟩
        dn := Int.le_refl _ }
      have := hnew.said (false, sq + 1, x) ⟨fun _ => ⟨by show 1 ≤ sq + 1; omega, Int.le_refl _, by show told[(sq + 1 - 1).toNat]? = some x; rw [show (sq + 1 - 1).toNat = ac by omega]; exact hx⟩, fun hh => by cases hh⟩
      rw [hq] at this
      refine ⟨_, _, _, _, _, ?_, this⟩
      have e : decide (sq < 1000000) = true := by have := h.mm; simp; omega
      simp [e]
    | true =>
      simp at a3
      by_cases hd' : nw + 1 ≥ du
      · rw [w64_eq (n := nw + 1 + 3) (by omega) (by omega)]
        have hnew : LI (m + 1) q sq true (nw + 1 + 3) (nw + 1) wt hd air told := { h' with dus := ⟨by omega, by omega⟩, dn := Int.le_refl _ }
        have := hnew.said (false, sq, x) ⟨fun _ => ⟨by show 1 ≤ sq; omega, Int.le_refl _, by show told[(sq - 1).toNat]? = some x; rw [show (sq - 1).toNat = ac by omega]; exact hx⟩, fun hh => by cases hh⟩
        rw [hq] at this
        refine ⟨_, _, _, _, _, ?_, this⟩
        have e : decide (nw + 1 ≥ du) = true := by simpa using hd'
        simp [e]
      · rw [hq] at h'
        refine ⟨sq, true, du, nw + 1, air, ?_, h'⟩
        have e : decide (nw + 1 ≥ du) = false := by simpa using hd'
        simp [e]


theorem LI.hear {m : Nat} {q : List Int} {sq : Int} {b : Bool} {du nw wt : Int} {hd : List Int} {air : List SBII} {told : List Int} (h : LI m q sq b du nw wt hd air told) (w : SBII)
    (hw : (w.1 = false → 1 ≤ w.2.1 ∧ w.2.1 ≤ sq ∧ told[(w.2.1 - 1).toNat]? = some w.2.2) ∧ (w.1 = true → 1 ≤ w.2.1 ∧ w.2.1 < wt ∧ w.2.2 = 0)) :
    ∃ q' b' wt' hd' air', spec_l10Hear q sq b du nw wt hd air w.1 w.2.1 w.2.2 = some (q', sq, b', du, nw, wt', hd', air') ∧ LI m q' sq b' du nw wt' hd' air' told ∧ (air' = air ∨ w.1 = false ∧ air' = air ++ [(true, w.2.1, 0)]) := by
  obtain ⟨w0, w1, w2⟩ := w
  dsimp only at hw ⊢
  have hs := h.sq
  have htl := h.tl
  have hmm := h.mm
  unfold spec_l10Hear
  simp only [spec_l10Says_ok]
  cases w0 with
  | true =>
    obtain ⟨x1, x2, x3⟩ := hw.2 rfl
    cases hb : b with
    | false =>
      subst hb
      exact ⟨q, false, wt, hd, air, by simp, h, .inl rfl⟩
    | true =>
      subst hb
      cases hq : (w1 == sq) with
      | false => exact ⟨q, true, wt, hd, air, by simp [hq], h, .inl rfl⟩
      | true =>
        have hq : w1 = sq := by simpa using hq
        have hpos := h.bz rfl
        have hr := row0 (m := (sub q (Int.toNat 1) (Int.toNat (q.length : Int))).length) (Nat.le_trans (sub_le _ _ _) (by have := h.ql; omega))
        have hc : (decide (0 ≤ 1) && decide ((1 : Int) ≤ (q.length : Int)) && decide ((q.length : Int) ≤ (q.length : Int))) = true := by simp; omega
        obtain ⟨ac, a1, a2, a3⟩ := h.ac
        simp at a3
        have hsub : sub q (Int.toNat 1) (Int.toNat (q.length : Int)) = told.drop (ac + 1) := by
          unfold sub
          rw [show Int.toNat 1 = 1 from rfl, show Int.toNat (q.length : Int) = q.length by omega, List.take_of_length_le (by simp), a2, List.drop_drop]
        have hql : q.length = told.length - ac := by rw [a2]; simp
        refine ⟨sub q (Int.toNat 1) (Int.toNat (q.length : Int)), false, wt, hd, air, ?_, ?_, .inl rfl⟩
        · simp only [cond_true, Option.bind_some, hc, List.length_nil, Nat.zero_add, hr, List.nil_append]
        · exact { h with
            ac := ⟨ac + 1, by omega, hsub, by simp; omega⟩
            bz := fun hh => by cases hh
            ql := Nat.le_trans (sub_le _ _ _) h.ql
            sf := fun _ => by
              have := h.sw
              omega }
  | false =>
    obtain ⟨x1, x2, x3⟩ := hw.1 rfl
    have hr := row1 (m := hd.length) (by have := h.hdl; omega)
    have fin : ∀ (wt' : Int) (hd' : List Int), LI m q sq b du nw wt' hd' air told → 1 ≤ w1 → ∃ q' b' wt2 hd2 air', (bif decide (w1 < wt') then some (q, sq, b, du, nw, wt', hd', bif decide (air.length < 30) then air ++ [(true, w1, 0)] else air) else some (q, sq, b, du, nw, wt', hd', air)) = (some (q', sq, b', du, nw, wt2, hd2, air') : Option Lk) ∧ LI m q' sq b' du nw wt2 hd2 air' told ∧ (air' = air ∨ True ∧ air' = air ++ [(true, w1, 0)]) := by
      intro wt' hd' hL h1
      by_cases hlt : w1 < wt'
      · rw [show decide (w1 < wt') = true by simpa using hlt]
        exact ⟨q, b, wt', hd', _, rfl, hL.said (true, w1, 0) ⟨fun hh => (by cases hh), fun _ => ⟨h1, hlt, rfl⟩⟩, by cases decide (air.length < 30) <;> simp⟩
      · rw [show decide (w1 < wt') = false by simpa using hlt]
        exact ⟨q, b, wt', hd', air, rfl, hL, .inl rfl⟩
    cases hq : (w1 == wt) with
    | false =>
      simp only [cond_false, Option.bind_some]
      exact fin wt hd h x1
    | true =>
      have hq : w1 = wt := by simpa using hq
      have hwt := h.wte
      by_cases hl : (hd.length : Int) < 10000
      · rw [show decide ((hd.length : Int) < 10000) = true by simpa using hl]
        simp only [cond_false, cond_true, Option.bind_some, List.length_singleton, hr]
        rw [w64_eq (n := wt + 1) (by omega) (by omega)]
        have hidx : (w1 - 1).toNat = hd.length := by omega
        rw [hidx] at x3
        have hlt : hd.length < told.length := (List.getElem?_eq_some_iff.1 x3).1
        refine fin (wt + 1) (hd ++ [w2]) { h with
          hde := by
            rw [List.length_append, List.length_singleton, List.take_add_one, x3, ← h.hde]
            rfl
          hdl := by rw [List.length_append, List.length_singleton]; omega
          wte := by rw [List.length_append, List.length_singleton]; omega
          sw := by have := h.sw; omega
          sf := fun hh => by have := h.sf hh; omega
          airs := fun w hw => ⟨(h.airs w hw).1, fun h0 => by obtain ⟨b1, b2, b3⟩ := (h.airs w hw).2 h0; exact ⟨b1, by omega, b3⟩⟩ } x1
      · rw [show decide ((hd.length : Int) < 10000) = false by simpa using hl]
        simp only [cond_false, cond_true, Option.bind_some]
        exact fin wt hd h x1


theorem LI.do1 {m : Nat} {q : List Int} {sq : Int} {b : Bool} {du nw wt : Int} {hd : List Int} {air : List SBII} {told : List Int} (h : LI m q sq b du nw wt hd air told) (hm : m + 1 ≤ 1000) (c i : Int) :
    ∃ t q' sq' b' du' nw' wt' hd' air', spec_l10Do q sq b du nw wt hd air c i = some (t, q', sq', b', du', nw', wt', hd', air') ∧ LI (m + 1) q' sq' b' du' nw' wt' hd' air' told := by
  have hal := h.al
  have same := h.more hm
  unfold spec_l10Do
  cases c1 : (c == 1) with
  | true =>
    obtain ⟨sq', b', du', nw', air', e, hL⟩ := h.tick hm
    exact ⟨true, _, _, _, _, _, _, _, _, by simp only [cond_true, e, Option.bind_some], hL⟩
  | false =>
    simp only [cond_false, l1In_ok, Option.bind_some]
    have hw : w64 ((air.length : Int) - 1) = (air.length : Int) - 1 := w64_eq (by omega) (by omega)
    rw [hw]
    cases c2 : (decide (2 ≤ c) && decide (c ≤ 4)) with
    | false => exact ⟨false, _, _, _, _, _, _, _, _, by simp only [Bool.not_false, cond_true, Option.bind_some], same⟩
    | true =>
      cases c3 : (decide (0 ≤ i) && decide (i ≤ (air.length : Int) - 1)) with
      | false => exact ⟨false, _, _, _, _, _, _, _, _, by simp only [Bool.not_false, Bool.not_true, cond_true, cond_false, Option.bind_some], same⟩
      | true =>
        have c3' : 0 ≤ i ∧ i ≤ (air.length : Int) - 1 := by simpa using c3
        obtain ⟨k, rfl⟩ : ∃ k : Nat, i = (k : Int) := ⟨i.toNat, by omega⟩
        have hk : k < air.length := by omega
        obtain ⟨d1, d2, d3, d4⟩ := cut_ok air (by omega) k hk
        have hgo : air[(k : Int).toNat]? = some air[k] := by simp [hk]
        have hwk := h.airs air[k] (List.getElem_mem hk)
        cases c4 : (c == 4) with
        | true =>
          cases c5 : ((air.length : Int) == 30) with
          | true => exact ⟨false, _, _, _, _, _, _, _, _, by simp only [Bool.not_true, cond_true, cond_false, Option.bind_some, c5], same⟩
          | false =>
            have hr := row1 (m := air.length) (by omega)
            have h30 : air.length < 30 := by
              have : ¬ ((air.length : Int) = 30) := by simpa using c5
              omega
            have := same.said (air[k].1, air[k].2.1, air[k].2.2) hwk
            rw [show decide (air.length < 30) = true by simpa using h30, cond_true] at this
            refine ⟨true, q, sq, b, du, nw, wt, hd, air ++ [(air[k].1, air[k].2.1, air[k].2.2)], ?_, this⟩
            simp only [Bool.not_true, cond_true, cond_false, Option.bind_some, inb_lt hk, c5, List.length_singleton, hr, hgo]
        | false =>
          simp only [Bool.not_true, cond_true, cond_false, Option.bind_some, inb_lt hk, hgo, d1, d2, d3, d4, List.length_nil, Nat.zero_add, List.nil_append]
          have hcut : sub air (Int.toNat (0 : Int)) (Int.toNat (k : Int)) ++ sub air (Int.toNat (w64 ((k : Int) + 1))) (Int.toNat (air.length : Int)) = cut air (k : Int) := rfl
          rw [hcut]
          have hL := same.cutted k hk
          cases c6 : (c == 2) with
          | false => exact ⟨true, _, _, _, _, _, _, _, _, by simp only [cond_false, Option.bind_some], hL⟩
          | true =>
            obtain ⟨q', b', wt', hd', air', e, hL2, _⟩ := hL.hear air[k] hwk
            exact ⟨true, _, _, _, _, _, _, _, _, by simp only [cond_true, e, Option.bind_some], hL2⟩
theorem LI.ok {m : Nat} {q : List Int} {sq : Int} {b : Bool} {du nw wt : Int} {hd : List Int} {air : List SBII} {told : List Int} (h : LI m q sq b du nw wt hd air told) : linkOk (q, sq, b, du, nw, wt, hd, air) = true := by
  have hs := h.sq
  have htl := h.tl
  have hmm := h.mm
  have hnw := h.nws
  have hdu := h.dus
  have hhl := h.hdl
  have hwt := h.wte
  have hsw := h.sw
  have hal := h.al
  have hql := h.ql
  obtain ⟨ac, a1, a2, a3⟩ := h.ac
  have w1 : ∀ x ∈ told, whatOk x = true := fun x hx => by
    obtain ⟨b1, b2⟩ := h.tw x hx
    unfold whatOk
    simp; omega
  have e1 : q.all whatOk = true := List.all_eq_true.2 fun x hx => w1 x (by rw [a2] at hx; exact List.mem_of_mem_drop hx)
  have e2 : hd.all whatOk = true := List.all_eq_true.2 fun x hx => w1 x (by rw [h.hde] at hx; exact List.mem_of_mem_take hx)
  have e3 : air.all wordOk = true := List.all_eq_true.2 fun w hw => by
    obtain ⟨b1, b2⟩ := h.airs w hw
    unfold wordOk
    cases hb : w.1 with
    | false =>
      obtain ⟨c1, c2, c3⟩ := b1 hb
      obtain ⟨d1, d2⟩ := h.tw _ (List.mem_of_getElem? c3)
      simp; omega
    | true =>
      obtain ⟨c1, c2, c3⟩ := b2 hb
      simp [c3]; omega
  have e4 : (!b || decide (0 < q.length)) = true := by
    cases b with
    | false => rfl
    | true => simpa using h.bz rfl
  have e5 : (wt == sq || wt == sq + 1) = true := by simpa using hsw
  have e6 : ((hd.length : Int) == wt - 1) = true := by simp; omega
  unfold linkOk
  dsimp only
  simp only [e1, e2, e3, e4, e5, e6, Bool.and_true, Bool.and_eq_true, decide_eq_true_eq]
  omega
theorem LI.tell {m : Nat} {q : List Int} {sq : Int} {b : Bool} {du nw wt : Int} {hd : List Int} {air : List SBII} {told : List Int} (h : LI m q sq b du nw wt hd air told) (hm : m + 1 ≤ 1000) (c : Int) (hc : 0 ≤ c ∧ c ≤ 9999) (hq : q.length < 40) : LI (m + 1) (q ++ [c]) sq b du nw wt hd air (told ++ [c]) := by
  obtain ⟨ac, a1, a2, a3⟩ := h.ac
  have h' := h.more hm
  have hhl := h.hdl
  exact { h' with
    ac := ⟨ac, by rw [List.length_append]; omega, by rw [List.drop_append_of_le_length a1, ← a2], a3⟩
    bz := fun _ => by simp
    ql := by rw [List.length_append, List.length_singleton]; omega
    hde := by rw [List.take_append_of_le_length hhl]; exact h.hde
    hdl := by rw [List.length_append]; omega
    airs := fun w hw => ⟨fun h0 => by
      obtain ⟨b1, b2, b3⟩ := (h.airs w hw).1 h0
      exact ⟨b1, b2, by rw [List.getElem?_append_left (List.getElem?_eq_some_iff.1 b3).1]; exact b3⟩, (h.airs w hw).2⟩
    tl := by have := h.tl; rw [List.length_append, List.length_singleton]; omega
    tw := fun x hx => by
      rcases List.mem_append.1 hx with hx | hx
      · exact h.tw x hx
      · rw [List.mem_singleton.1 hx]; exact hc }


theorem bind_ex {α β : Type} {E : Option α} {k : α → Option β} {Q : α → Prop} {R : β → Prop} (h : ∃ y, E = some y ∧ Q y) (hk : ∀ y, Q y → ∃ z, k y = some z ∧ R z) : ∃ z, E.bind k = some z ∧ R z := by
  obtain ⟨y, rfl, hy⟩ := h
  exact hk y hy
theorem pick5 {α : Type} (Q : α → Prop) (b0 b1 b2 b3 b4 b5 : Bool) (T K L D H : Option α) (hT : ∃ y, T = some y ∧ Q y) (hK : ∃ y, K = some y ∧ Q y) (hL : ∃ y, L = some y ∧ Q y) (hD : ∃ y, D = some y ∧ Q y) (hH : ∃ y, H = some y ∧ Q y) :
    ∃ y, ((bif b0 then some b0 else some b1).bind fun x6 => bif x6 then T else (bif b2 then some b2 else some b3).bind fun x9 => bif x9 then K else bif b4 then L else bif b5 then D else H) = some y ∧ Q y := by
  cases b0 <;> cases b1 <;> cases b2 <;> cases b3 <;> cases b4 <;> cases b5 <;> assumption
abbrev Dl := (List Int) × (List Int) × Int × Int × (List Int) × Int × Bool × Int × Int × Int × (List Int) × (List SBII)
/-- What holds of a draw's round: the cursor, the link. -/
def DI (m : Nat) (a : List Int) (x : Dl) : Prop := x.2.1 = a ∧ 0 ≤ x.2.2.1 ∧ LI m x.2.2.2.2.1 x.2.2.2.2.2.1 x.2.2.2.2.2.2.1 x.2.2.2.2.2.2.2.1 x.2.2.2.2.2.2.2.2.1 x.2.2.2.2.2.2.2.2.2.1 x.2.2.2.2.2.2.2.2.2.2.1 x.2.2.2.2.2.2.2.2.2.2.2 x.1
theorem draw_step (n : Nat) (hn : BIG ≤ n) (a : List Int) (ha : a.length ≤ 1048576) (m : Nat) (hm : m + 1 ≤ 1000) (M : Int) (hM : 0 < M ∧ M ≤ 1000) (told : List Int) (ci ch : Int) (q : List Int) (sq : Int) (b : Bool) (du nw wt : Int) (hd : List Int) (air : List SBII)
    (hci : 0 ≤ ci) (h : LI m q sq b du nw wt hd air told) : ∃ y : Dl, spec_l10Draw_L1 n (told, M, a, ci, ch, q, sq, b, du, nw, wt, hd, air) = some (.inl (y.1, M - 1, y.2)) ∧ DI (m + 1) a y := by
  have key : ∃ z, spec_l10Draw_L1 n (told, M, a, ci, ch, q, sq, b, du, nw, wt, hd, air) = some z ∧ ∃ y : Dl, z = .inl (y.1, M - 1, y.2) ∧ DI (m + 1) a y := by
    unfold spec_l10Draw_L1
    dsimp only
    rw [show decide (M > 0) = true by simpa using hM.1, cond_true]
    refine bind_ex (Q := DI (m + 1) a) ?_ fun y hy => ⟨_, rfl, y, ?_, hy⟩
    case refine_2 => rw [w64_eq (n := M - 1) (by omega) (by omega)]
    obtain ⟨v, i5, h5, e5, j5, v0, v1⟩ := l1Below_ok a ci ch hci ha 8
    rw [e5, Option.bind_some]
    dsimp only
    have hdo : ∀ (c i : Int) (i6 h6 : Int), 0 ≤ i6 → ∃ y : Dl, ((spec_l10Do q sq b du nw wt hd air c i).bind fun x10 => some (told, a, i6, h6, x10.2.1, x10.2.2.1, x10.2.2.2.1, x10.2.2.2.2.1, x10.2.2.2.2.2.1, x10.2.2.2.2.2.2.1, x10.2.2.2.2.2.2.2.1, x10.2.2.2.2.2.2.2.2)) = some y ∧ DI (m + 1) a y := by
      intro c i i6 h6 j6
      obtain ⟨t, q', sq', b', du', nw', wt', hd', air', e, hL⟩ := h.do1 hm c i
      rw [e]
      exact ⟨_, rfl, rfl, j6, hL⟩
    refine pick5 (DI (m + 1) a) (v == 0) (v == 1) (v == 2) (v == 3) (v == 4) (v == 5) _ _ _ _ _ ?_ ?_ ?_ ?_ ?_
    · obtain ⟨c, i6, h6, e6, j6, c0, c1⟩ := l1Below_ok a i5 h5 j5 ha 50
      rw [e6, Option.bind_some]
      dsimp only
      have htl := h.tl
      have hs : sm_Link (q, sq, b, du, nw, wt, hd, air) := ⟨by show q.length ≤ _; have := h.ql; omega, by show hd.length ≤ _; have := h.hdl; omega, by show air.length ≤ _; have := h.al; omega⟩
      have et := spec_Tell_ok (q, sq, b, du, nw, wt, hd, air) hs c n hn
      dsimp only at et
      rw [et, Option.bind_some]
      unfold tellOf
      rw [h.ok]
      dsimp only
      by_cases hq : q.length < 40
      · rw [show (true && decide (0 ≤ c) && decide (c ≤ 9999) && decide (q.length < 40)) = true by simp; omega]
        have hr := row1 (m := told.length) (by omega)
        simp only [tup9, cond_true, List.length_singleton, hr]
        exact ⟨_, rfl, rfl, j6, h.tell hm c ⟨c0, by omega⟩ hq⟩
      · rw [show (true && decide (0 ≤ c) && decide (c ≤ 9999) && decide (q.length < 40)) = false by rw [show decide (q.length < 40) = false by simpa using hq]; simp]
        simp only [tup9, cond_false]
        exact ⟨_, rfl, rfl, j6, h.more hm⟩
    · exact hdo 1 0 i5 h5 j5
    · obtain ⟨c, i6, h6, e6, j6, _⟩ := l1Below_ok a i5 h5 j5 ha 4
      rw [e6, Option.bind_some]
      exact hdo 3 c i6 h6 j6
    · obtain ⟨c, i6, h6, e6, j6, _⟩ := l1Below_ok a i5 h5 j5 ha 4
      rw [e6, Option.bind_some]
      exact hdo 4 c i6 h6 j6
    · obtain ⟨c, i6, h6, e6, j6, _⟩ := l1Below_ok a i5 h5 j5 ha 4
      rw [e6, Option.bind_some]
      exact hdo 2 c i6 h6 j6
  obtain ⟨z, e, y, rfl, hy⟩ := key
  exact ⟨y, e, hy⟩
theorem l10Draw_ok (n : Nat) (hn : BIG ≤ n) (a : List Int) (ha : a.length ≤ 1048576) (ci ch : Int) (hci : 0 ≤ ci) (M : Int) (hM : M ≤ 101) :
    ∃ q sq b du nw wt hd air told i' h', spec_l10Draw n a ci ch M = some (q, sq, b, du, nw, wt, hd, air, told, a, i', h') ∧ LI 200 q sq b du nw wt hd air told := by
  unfold spec_l10Draw spec_LinkNew
  obtain ⟨v, i5, h5, e5, j5, v0, v1⟩ := l1Below_ok a ci ch hci ha M
  rw [Option.bind_some, e5, Option.bind_some]
  dsimp only
  obtain ⟨k, rfl⟩ : ∃ k : Nat, v = (k : Int) := ⟨v.toNat, by omega⟩
  have hk : k ≤ 100 := by omega
  have h0 : LI 0 [] 0 false 0 0 1 [] [] [] := {
    ac := ⟨0, by simp, by simp, by simp⟩
    bz := fun h => by cases h
    ql := by simp
    hde := by simp
    hdl := by simp
    wte := by simp
    sw := .inr rfl
    sf := fun _ => rfl
    airs := fun w hw => by cases hw
    al := by simp
    tl := by simp
    tw := fun x hx => by cases hx
    nws := ⟨by omega, by omega⟩
    dus := ⟨by omega, by omega⟩
    dn := by omega
    mm := by omega }
  obtain ⟨_, r, e, hr⟩ := iter_two (spec_l10Draw_L1 n) (spec_l10Draw_L1 n) (fun i x => x.2.1 = (k : Int) - (i : Int) ∧ i ≤ k ∧ DI i a (x.1, x.2.2)) (fun r => DI k a (r.1, r.2.2)) k (fun i x hi hI => by
    refine ⟨rfl, ?_⟩
    obtain ⟨told, c, b0, ci, ch, q, sq, b, du, nw, wt, hd, air⟩ := x
    obtain ⟨h1, h2, h3, h4, h5⟩ := hI
    dsimp only at h1 h3 h4 h5
    subst h1; subst h3
    by_cases hik : i < k
    · left
      obtain ⟨y, e, hy⟩ := draw_step n hn b0 ha i (by omega) ((k : Int) - (i : Int)) ⟨by omega, by omega⟩ told ci ch q sq b du nw wt hd air h4 h5
      exact ⟨_, e, ⟨by show (k : Int) - (i : Int) - 1 = _; omega, hik, hy⟩, hik⟩
    · right
      have : i = k := by omega
      subst this
      refine ⟨_, by unfold spec_l10Draw_L1; rw [show decide ((i : Int) - (i : Int) > 0) = false by simp]; rfl, rfl, h4, h5⟩) n (by unfold BIG at hn; omega)
    (([] : List Int), (k : Int), a, i5, h5, ([] : List Int), 0, false, 0, 0, 1, ([] : List Int), ([] : List SBII)) ⟨by show (k : Int) = (k : Int) - ((0 : Nat) : Int); omega, by omega, rfl, j5, h0⟩
  rw [e, Option.bind_some]
  obtain ⟨told, c, b0, ci2, ch2, q, sq, b, du, nw, wt, hd, air⟩ := r
  obtain ⟨h1, h2, h3⟩ := hr
  dsimp only at h1 h2 h3
  subst h1
  refine ⟨_, _, _, _, _, _, _, _, _, _, _, rfl, ?_⟩
  have key : ∀ d m, m + d = 200 → LI m q sq b du nw wt hd air told → LI 200 q sq b du nw wt hd air told := by
    intro d
    induction d with
    | zero => intro m hm h; have : m = 200 := by omega
              subst this; exact h
    | succ d ih => intro m hm h; exact ih (m + 1) (by omega) (h.more (by omega))
  exact key (200 - k) k (by omega) h3


theorem DrawLink_ok (n : Nat) (hn : BIG ≤ n) (a : List Int) (ha : a.length ≤ 1048576) : ∃ q sq b du nw wt hd air told, spec_DrawLink n a = some (q, sq, b, du, nw, wt, hd, air, told) ∧ LI 200 q sq b du nw wt hd air told := by
  unfold spec_DrawLink
  obtain ⟨h, e1⟩ := l1New_ok a ha n hn
  obtain ⟨r, e2, r0, r1⟩ := l1Size_ok a ha 80 (by omega)
  rw [e1, Option.bind_some, e2, Option.bind_some, w64_eq (n := 20 + r) (by omega) (by omega)]
  obtain ⟨q, sq, b, du, nw, wt, hd, air, told, i', h', e3, hL⟩ := l10Draw_ok n hn a ha 0 h (Int.le_refl _) (20 + r) (by omega)
  dsimp only
  rw [e3]
  exact ⟨_, _, _, _, _, _, _, _, _, rfl, hL⟩


theorem sameInts_self (a : List Int) (ha : a.length ≤ 1048576) (n : Nat) (hn : BIG ≤ n) : laws_sameInts n a a = some true := by
  unfold laws_sameInts
  rw [bne_self_eq_false, cond_false]
  rw [all_loop (laws_sameInts_L1 a a) a (fun _ => true) (fun i x hi hx => by
    unfold laws_sameInts_L1
    rw [show decide ((i : Int) < (a.length : Int)) = true by simp only [decide_eq_true_eq]; omega, cond_true, getI_nat, hx, w64_nat hi (by omega)]
    simp) (by unfold laws_sameInts_L1; simp) n (by unfold BIG at hn; omega)]
  rw [show a.all (fun _ => true) = true from List.all_eq_true.2 fun _ _ => rfl]
  rfl


abbrev LT (m : Nat) (a : Lk) (told : List Int) : Prop := LI m a.1 a.2.1 a.2.2.1 a.2.2.2.1 a.2.2.2.2.1 a.2.2.2.2.2.1 a.2.2.2.2.2.2.1 a.2.2.2.2.2.2.2 told
theorem LI.upto {m : Nat} {q : List Int} {sq : Int} {b : Bool} {du nw wt : Int} {hd : List Int} {air : List SBII} {told : List Int} (h : LI m q sq b du nw wt hd air told) (m' : Nat) (h1 : m ≤ m') (h2 : m' ≤ 1000) : LI m' q sq b du nw wt hd air told :=
  { h with tl := Nat.le_trans h.tl h1, nws := ⟨h.nws.1, by have := h.nws.2; omega⟩, dus := ⟨h.dus.1, by have := h.dus.2; omega⟩, mm := h2 }


/-- How many hearings the air can still want. -/
def mu : List SBII → Nat
  | [] => 0
  | w :: air => (bif w.1 then 1 else 2) + mu air
theorem mu_app : ∀ (x y : List SBII), mu (x ++ y) = mu x + mu y
  | [], y => by simp [mu]
  | w :: x, y => by simp only [List.cons_append, mu, mu_app x y]; omega
theorem mu_le : ∀ x : List SBII, mu x ≤ 2 * x.length
  | [] => by simp [mu]
  | w :: x => by
    have := mu_le x
    simp only [mu, List.length_cons]
    cases w.1 <;> simp <;> omega
theorem cut_0 (w : SBII) (air : List SBII) : cut (w :: air) 0 = air := by
  unfold cut sub
  rw [show w64 ((0 : Int) + 1) = 1 by decide]
  simp
theorem hear_step (m : Nat) (a : Lk) (told : List Int) (h : LT m a told) (hp : 0 < a.2.2.2.2.2.2.2.length) : ∃ b : Lk, impl_Link_hear a.1 a.2.1 a.2.2.1 a.2.2.2.1 a.2.2.2.2.1 a.2.2.2.2.2.1 a.2.2.2.2.2.2.1 a.2.2.2.2.2.2.2 0 = some b ∧ LT m b told ∧ mu b.2.2.2.2.2.2.2 + 1 ≤ mu a.2.2.2.2.2.2.2 := by
  obtain ⟨q, sq, b, du, nw, wt, hd, air⟩ := a
  have h : LI m q sq b du nw wt hd air told := h
  dsimp only at hp ⊢
  have hal := h.al
  have e := impl_Link_hear_ok q sq b du nw wt hd air (by omega) 0 hp
  have hL := h.cutted 0 hp
  rw [show ((0 : Nat) : Int) = 0 from rfl] at e hL
  cases air with
  | nil => simp at hp
  | cons w air =>
    have hw := h.airs w List.mem_cons_self
    rw [e]
    obtain ⟨q', b', wt', hd', air', e2, hL2, ha⟩ := hL.hear w hw
    refine ⟨_, e2, hL2, ?_⟩
    rw [cut_0] at ha
    dsimp only at ha ⊢
    rcases ha with ha | ⟨h0, ha⟩
    · rw [ha]
      simp only [mu]
      cases w.1 <;> simp <;> omega
    · have h0 : w.1 = false := h0
      rw [ha, mu_app]
      simp only [mu, h0, cond_true, cond_false]
      omega


theorem calm_in_rest (n : Nat) (hn : BIG ≤ n) (m : Nat) (a : Lk) (told : List Int) (h : LT m a told) : ∃ r : Int × Lk, iter n impl_Calm_L2 (0, a) = some r ∧ LT m r.2 told ∧ r.2.2.2.2.2.2.2.2 = [] := by
  have h60 : mu a.2.2.2.2.2.2.2 + 0 ≤ 60 := by
    have := mu_le a.2.2.2.2.2.2.2
    have := h.al
    omega
  obtain ⟨_, r, e, hr⟩ := iter_two (α := Int × Lk) (γ := Int × Lk) impl_Calm_L2 impl_Calm_L2 (fun i x => x.1 = (i : Int) ∧ LT m x.2 told ∧ mu x.2.2.2.2.2.2.2.2 + i ≤ 60) (fun r => LT m r.2 told ∧ r.2.2.2.2.2.2.2.2 = []) 60 (fun i x hi hI => by
    refine ⟨rfl, ?_⟩
    obtain ⟨k, c⟩ := x
    obtain ⟨hk, hc, hmu⟩ := hI
    dsimp only at hk hc hmu
    subst hk
    by_cases hp : 0 < c.2.2.2.2.2.2.2.length
    · left
      obtain ⟨b, e1, hb, hmb⟩ := hear_step m c told hc hp
      have hi60 : i < 60 := by omega
      refine ⟨(((i + 1 : Nat) : Int), b), ?_, ⟨rfl, hb, by show mu b.2.2.2.2.2.2.2 + (i + 1) ≤ 60; omega⟩, hi60⟩
      unfold impl_Calm_L2
      dsimp only
      rw [show decide ((i : Int) < 60) = true by simp; omega, show decide ((c.2.2.2.2.2.2.2.length : Int) > 0) = true by simp only [decide_eq_true_eq]; omega]
      simp only [cond_true, Option.bind_some, e1]
      rw [w64_nat (m := 60) hi60 (by omega)]
    · right
      have he : c.2.2.2.2.2.2.2 = [] := List.eq_nil_of_length_eq_zero (by omega)
      refine ⟨((i : Int), c), ?_, hc, he⟩
      unfold impl_Calm_L2
      dsimp only
      rw [show decide ((c.2.2.2.2.2.2.2.length : Int) > 0) = false by rw [decide_eq_false_iff_not]; omega]
      cases decide ((i : Int) < 60) <;> rfl) n (by unfold BIG at hn; omega) (0, a) ⟨rfl, h, h60⟩
  exact ⟨r, e, hr⟩
/-- A word that is said into empty air is heard, and what says so is heard. -/
theorem calm_in_one (n : Nat) (hn : BIG ≤ n) (m : Nat) (x : Int) (q2 : List Int) (sq du nw wt : Int) (hd told : List Int) (h : LI m (x :: q2) sq true du nw wt hd [(false, sq, x)] told) :
    ∃ (wt' : Int) (hd' : List Int), iter n impl_Calm_L2 (0, x :: q2, sq, true, du, nw, wt, hd, [(false, sq, x)]) = some (2, q2, sq, false, du, nw, wt', hd', []) ∧ LI m q2 sq false du nw wt' hd' [] told := by
  have hs := h.sq
  have htl := h.tl
  have hmm := h.mm
  have hhl := h.hdl
  have hwt := h.wte
  have hsw := h.sw
  have hql := h.ql
  obtain ⟨k, rfl⟩ : ∃ k, n = k + 3 := ⟨n - 3, by unfold BIG at hn; omega⟩
  have c1 : cut [(false, sq, x)] 0 = [] := cut_0 _ _
  have c2 : cut [(true, sq, (0 : Int))] 0 = [] := cut_0 _ _
  have e1 := impl_Link_hear_ok (x :: q2) sq true du nw wt hd [(false, sq, x)] (by simp) 0 (by simp)
  rw [show ((0 : Nat) : Int) = 0 from rfl, c1] at e1
  have hL1 := h.cutted 0 (by simp)
  rw [show ((0 : Nat) : Int) = 0 from rfl, c1] at hL1
  obtain ⟨q', b', wt', hd', air', f1, hL2, _⟩ := hL1.hear (false, sq, x) (h.airs _ (by simp))
  have g1 : ∃ (wt2 : Int) (hd2 : List Int), spec_l10Hear (x :: q2) sq true du nw wt hd [] false sq x = some (x :: q2, sq, true, du, nw, wt2, hd2, [(true, sq, 0)]) := by
    unfold spec_l10Hear
    simp only [spec_l10Says_ok]
    have hr := row1 (m := hd.length) (by omega)
    cases hq : (sq == wt) with
    | true =>
      have hq' : sq = wt := by simpa using hq
      rw [show decide ((hd.length : Int) < 10000) = true by simp; omega]
      simp only [cond_true, cond_false, Option.bind_some, List.length_singleton, hr]
      rw [w64_eq (n := wt + 1) (by omega) (by omega), show decide (sq < wt + 1) = true by simp; omega]
      exact ⟨_, _, rfl⟩
    | false =>
      have hq' : sq ≠ wt := by simpa using hq
      simp only [cond_false, Option.bind_some]
      rw [show decide (sq < wt) = true by simp; omega]
      exact ⟨_, _, rfl⟩
  obtain ⟨wt2, hd2, g1⟩ := g1
  rw [g1] at f1
  injection f1 with f1
  simp only [Prod.mk.injEq] at f1
  obtain ⟨rfl, _, rfl, _, _, rfl, rfl, rfl⟩ := f1
  have hL3 := hL2.cutted 0 (by simp)
  rw [show ((0 : Nat) : Int) = 0 from rfl, c2] at hL3
  obtain ⟨q3, b3, wt3, hd3, air3, f2, hL4, _⟩ := hL3.hear (true, sq, 0) (hL2.airs _ (by simp))
  have e2 := impl_Link_hear_ok (x :: q2) sq true du nw wt2 hd2 [(true, sq, 0)] (by simp) 0 (by simp)
  rw [show ((0 : Nat) : Int) = 0 from rfl, c2] at e2
  have g2 : spec_l10Hear (x :: q2) sq true du nw wt2 hd2 [] true sq 0 = some (q2, sq, false, du, nw, wt2, hd2, []) := by
    unfold spec_l10Hear
    have hc : (decide (0 ≤ 1) && decide ((1 : Int) ≤ ((x :: q2).length : Int)) && decide (((x :: q2).length : Int) ≤ ((x :: q2).length : Int))) = true := by simp; omega
    have hsub : sub (x :: q2) (Int.toNat 1) (Int.toNat ((x :: q2).length : Int)) = q2 := by
      unfold sub
      simp
    have hr : decide (q2.length ≤ maxRow) = true := row0 (by simp at hql; omega)
    rw [hsub, hc]
    simp only [cond_true, Option.bind_some, beq_self_eq_true, List.length_nil, Nat.zero_add, hr, List.nil_append]
  rw [g2] at f2
  injection f2 with f2
  simp only [Prod.mk.injEq] at f2
  obtain ⟨rfl, _, rfl, _, _, rfl, rfl, rfl⟩ := f2
  refine ⟨wt2, hd2, ?_, hL4⟩
  rw [iter_go (y := ((1 : Int), x :: q2, sq, true, du, nw, wt2, hd2, [(true, sq, (0 : Int))])) ?_ (k + 2), iter_go (y := ((2 : Int), q2, sq, false, du, nw, wt2, hd2, ([] : List SBII))) ?_ (k + 1), iter_end ?_ k]
  · unfold impl_Calm_L2; rfl
  · unfold impl_Calm_L2
    dsimp only
    rw [e2]
    dsimp only [List.getElem_cons_zero]
    rw [g2]
    rfl
  · unfold impl_Calm_L2
    dsimp only
    rw [e1]
    dsimp only [List.getElem_cons_zero]
    rw [g1]
    rfl


def left (a : Lk) : Nat := bif a.2.2.1 then a.1.length + (a.2.2.2.1 - a.2.2.2.2.1 - 1).toNat else a.1.length
theorem left_le (m : Nat) (a : Lk) (told : List Int) (h : LT m a told) : left a ≤ 42 := by
  have h1 := h.ql
  have h2 := h.dn
  unfold left
  cases a.2.2.1 <;> simp <;> omega
theorem calm_none (n : Nat) (hn : BIG ≤ n) (k : Int) (c : Lk) (h : c.2.2.2.2.2.2.2 = []) : iter n impl_Calm_L2 (k, c) = some (k, c) := by
  obtain ⟨j, rfl⟩ : ∃ j, n = j + 1 := ⟨n - 1, by unfold BIG at hn; omega⟩
  refine iter_end ?_ j
  unfold impl_Calm_L2
  dsimp only
  rw [h]
  cases decide (k < 60) <;> (obtain ⟨q, sq, b, du, nw, wt, hd, air⟩ := c; dsimp only at h; subst h; rfl)
theorem calm_round (n : Nat) (hn : BIG ≤ n) (m : Nat) (hm : m + 1 ≤ 1000) (a : Lk) (told : List Int) (h : LT m a told) (he : a.2.2.2.2.2.2.2 = []) (hq : 0 < a.1.length) :
    ∃ (b : Lk) (r : Int × Lk), spec_l10Tick a.1 a.2.1 a.2.2.1 a.2.2.2.1 a.2.2.2.2.1 a.2.2.2.2.2.1 a.2.2.2.2.2.2.1 a.2.2.2.2.2.2.2 = some b ∧ iter n impl_Calm_L2 (0, b) = some r ∧ LT (m + 1) r.2 told ∧ r.2.2.2.2.2.2.2.2 = [] ∧ left r.2 + 1 ≤ left a := by
  obtain ⟨q, sq, b, du, nw, wt, hd, air⟩ := a
  have h : LI m q sq b du nw wt hd air told := h
  dsimp only at he hq ⊢
  subst he
  have hs := h.sq
  have htl := h.tl
  have hmm := h.mm
  have hnw := h.nws
  obtain ⟨sq', b', du', nw', air', e, hL⟩ := h.tick hm
  cases q with
  | nil => simp at hq
  | cons x q2 =>
    have hin : inb (x :: q2) 0 = true := by rw [show (0 : Int) = ((0 : Nat) : Int) from rfl, inb_nat]; simp
    have hn1 : w64 (nw + 1) = nw + 1 := w64_eq (by omega) (by omega)
    have hn4 : w64 (nw + 1 + 3) = nw + 1 + 3 := w64_eq (by omega) (by omega)
    have hs1 : w64 (sq + 1) = sq + 1 := w64_eq (by omega) (by omega)
    have sent : ∀ (sq2 du2 : Int), spec_l10Tick (x :: q2) sq b du nw wt hd [] = some (x :: q2, sq2, true, du2, nw + 1, wt, hd, [(false, sq2, x)]) → (x :: q2).length ≤ left ((x :: q2), sq, b, du, nw, wt, hd, []) →
        ∃ (b_1 : Lk) (r : Int × Lk), spec_l10Tick (x :: q2) sq b du nw wt hd [] = some b_1 ∧ iter n impl_Calm_L2 (0, b_1) = some r ∧ LT (m + 1) r.2 told ∧ r.2.2.2.2.2.2.2.2 = [] ∧ left r.2 + 1 ≤ left ((x :: q2), sq, b, du, nw, wt, hd, []) := by
      intro sq2 du2 e1 hl
      have e2 := e
      rw [e1] at e2
      injection e2 with e2
      simp only [Prod.mk.injEq] at e2
      obtain ⟨_, rfl, rfl, rfl, rfl, _, _, rfl⟩ := e2
      obtain ⟨wt', hd', f, hL2⟩ := calm_in_one n hn (m + 1) x q2 sq2 du2 (nw + 1) wt hd told hL
      refine ⟨_, _, e1, f, hL2, rfl, ?_⟩
      refine Nat.le_trans ?_ hl
      simp [left]
    cases b with
    | false =>
      refine sent (sq + 1) (nw + 1 + 3) ?_ (by simp [left])
      unfold spec_l10Tick
      simp only [spec_l10Says_ok]
      rw [show decide (nw < 9999997) = true by simp; omega]
      have e8 : decide (sq < 1000000) = true := by simp; omega
      simp [hin, hn1, hn4, hs1, e8]
    | true =>
      by_cases hdu : nw + 1 ≥ du
      · refine sent sq (nw + 1 + 3) ?_ (by simp [left])
        unfold spec_l10Tick
        simp only [spec_l10Says_ok]
        rw [show decide (nw < 9999997) = true by simp; omega]
        have e9 : decide (nw + 1 ≥ du) = true := by simpa using hdu
        simp [hin, hn1, hn4, e9]
      · have e1 : spec_l10Tick (x :: q2) sq true du nw wt hd [] = some (x :: q2, sq, true, du, nw + 1, wt, hd, []) := by
          unfold spec_l10Tick
          simp only [spec_l10Says_ok]
          rw [show decide (nw < 9999997) = true by simp; omega]
          have e9 : decide (nw + 1 ≥ du) = false := by simpa using hdu
          simp [hin, hn1, e9]
        have e2 := e
        rw [e1] at e2
        injection e2 with e2
        simp only [Prod.mk.injEq] at e2
        obtain ⟨_, rfl, rfl, rfl, rfl, _, _, rfl⟩ := e2
        refine ⟨_, _, e1, calm_none n hn 0 _ rfl, hL, rfl, ?_⟩
        simp only [left, cond_true]
        omega
theorem calm_rest (n : Nat) (hn : BIG ≤ n) (m : Nat) (hm : m + 200 ≤ 1000) (a : Lk) (told : List Int) (h : LT m a told) :
    ∃ a' : Lk, impl_Calm n a.1 a.2.1 a.2.2.1 a.2.2.2.1 a.2.2.2.2.1 a.2.2.2.2.2.1 a.2.2.2.2.2.2.1 a.2.2.2.2.2.2.2 = some a' ∧ LT (m + 200) a' told ∧ a'.1 = [] ∧ a'.2.2.2.2.2.2.2 = [] := by
  have htl := h.tl
  have hhl := h.hdl
  have hs : sm_Link a := ⟨by show a.1.length ≤ _; have := h.ql; omega, by show a.2.2.2.2.2.2.1.length ≤ _; omega, by show a.2.2.2.2.2.2.2.length ≤ _; have := h.al; omega⟩
  have hwt : fI a.2.2.2.2.2.1 := by
    have := h.wte
    unfold fI IntKind.min IntKind.max
    simp [IntKind.bits, IntKind.signed]
    omega
  have hok : linkOk a = true := h.ok
  unfold impl_Calm
  rw [impl_copyLink_ok a hs, impl_LinkOk_ok a hs.1 hs.2.1 hs.2.2 hwt n hn, hok]
  simp only [Option.bind_some, Bool.not_true, cond_false]
  rw [show ((0 : Int), a.1, a.2.1, a.2.2.1, a.2.2.2.1, a.2.2.2.2.1, a.2.2.2.2.2.1, a.2.2.2.2.2.2.1, a.2.2.2.2.2.2.2) = ((0 : Int), a) from rfl]
  obtain ⟨_, r, e, hr1, hr2, hr3⟩ := iter_two (α := Int × Lk) (γ := Int × Lk) (impl_Calm_L1 n) (impl_Calm_L1 n) (fun i x => x.1 = (i : Int) ∧ LT (m + i) x.2 told ∧ (i = 0 ∨ x.2.2.2.2.2.2.2.2 = [] ∧ left x.2 + i ≤ 60)) (fun r => LT (m + 200) r.2 told ∧ r.2.1 = [] ∧ r.2.2.2.2.2.2.2.2 = []) 200 (fun i x hi hI => by
    refine ⟨rfl, ?_⟩
    obtain ⟨k, c⟩ := x
    obtain ⟨hk, hc, hz⟩ := hI
    dsimp only at hk hc hz
    subst hk
    have go : ∀ (b : Lk) (r : Int × Lk), i < 200 → (0 < c.1.length ∨ 0 < c.2.2.2.2.2.2.2.length) → spec_l10Tick c.1 c.2.1 c.2.2.1 c.2.2.2.1 c.2.2.2.2.1 c.2.2.2.2.2.1 c.2.2.2.2.2.2.1 c.2.2.2.2.2.2.2 = some b → iter n impl_Calm_L2 (0, b) = some r →
        impl_Calm_L1 n ((i : Int), c) = some (.inl (((i + 1 : Nat) : Int), r.2)) := by
      intro b r hi2 hcc e1 e2
      unfold impl_Calm_L1
      dsimp only
      rw [show decide ((i : Int) < 200) = true by simp; omega, tick_eq, e1]
      have ec : (bif decide ((c.1.length : Int) > 0) then some true else some (decide ((c.2.2.2.2.2.2.2.length : Int) > 0))) = some true := by
        rcases hcc with hcc | hcc
        · rw [show decide ((c.1.length : Int) > 0) = true by simp only [decide_eq_true_eq]; omega]; rfl
        · rw [show decide ((c.2.2.2.2.2.2.2.length : Int) > 0) = true by simp only [decide_eq_true_eq]; omega]
          cases decide ((c.1.length : Int) > 0) <;> rfl
      simp only [cond_true, ec, Option.bind_some]
      rw [show ((0 : Int), b.1, b.2.1, b.2.2.1, b.2.2.2.1, b.2.2.2.2.1, b.2.2.2.2.2.1, b.2.2.2.2.2.2.1, b.2.2.2.2.2.2.2) = ((0 : Int), b) from rfl, e2, Option.bind_some, w64_nat (m := 200) hi2 (by omega)]
    have stop : c.1 = [] → c.2.2.2.2.2.2.2 = [] → ∃ r, impl_Calm_L1 n ((i : Int), c) = some (.inr r) ∧ LT (m + 200) r.2 told ∧ r.2.1 = [] ∧ r.2.2.2.2.2.2.2.2 = [] := by
      intro q1 q2
      refine ⟨((i : Int), c), ?_, LI.upto hc (m + 200) (by omega) (by omega), q1, q2⟩
      unfold impl_Calm_L1
      dsimp only
      rw [q1, q2]
      obtain ⟨q, sq, b, du, nw, wt, hd, air⟩ := c
      dsimp only at q1 q2
      subst q1; subst q2
      cases decide ((i : Int) < 200) <;> rfl
    rcases hz with rfl | ⟨he, hl⟩
    · by_cases hcc : 0 < c.1.length ∨ 0 < c.2.2.2.2.2.2.2.length
      · left
        obtain ⟨sq', b', du', nw', air', e1, hL⟩ := LI.tick hc (by omega)
        obtain ⟨r, e2, hr, hre⟩ := calm_in_rest n hn (m + 0 + 1) (c.1, sq', b', du', nw', c.2.2.2.2.2.1, c.2.2.2.2.2.2.1, air') told hL
        refine ⟨_, go _ r (by omega) hcc e1 e2, ⟨rfl, hr, .inr ⟨hre, ?_⟩⟩, by omega⟩
        have := left_le _ _ _ hr
        show left r.2 + 1 ≤ 60
        omega
      · exact .inr (stop (List.eq_nil_of_length_eq_zero (by omega)) (List.eq_nil_of_length_eq_zero (by omega)))
    · by_cases hq : 0 < c.1.length
      · left
        obtain ⟨b, r, e1, e2, h1, h2, h3⟩ := calm_round n hn (m + i) (by omega) c told hc he hq
        refine ⟨_, go b r (by omega) (.inl hq) e1 e2, ⟨rfl, h1, .inr ⟨h2, ?_⟩⟩, by omega⟩
        show left r.2 + (i + 1) ≤ 60
        omega
      · exact .inr (stop (List.eq_nil_of_length_eq_zero (by omega)) he)) n (by unfold BIG at hn; omega) (0, a) ⟨rfl, h, .inl rfl⟩
  rw [e]
  exact ⟨r.2, rfl, hr1, hr2, hr3⟩
theorem LI.all {m : Nat} {sq : Int} {b : Bool} {du nw wt : Int} {hd : List Int} {air : List SBII} {told : List Int} (h : LI m [] sq b du nw wt hd air told) : hd = told := by
  obtain ⟨ac, a1, a2, a3⟩ := h.ac
  have hb : b = false := by
    cases b with
    | false => rfl
    | true => have := h.bz rfl; simp at this
  have hac : told.length ≤ ac := by have := congrArg List.length a2.symm; simp at this; omega
  have h1 := h.sf hb
  have h2 := h.wte
  subst hb
  simp at a3
  have hlen : hd.length = told.length := by omega
  have := h.hde
  rw [hlen, List.take_length] at this
  exact this


theorem laws_FnCalm_pure (a : List Int) (h : (fSl fU8) a) : ∃ n, laws_FnCalm n a = some true := by
  refine ⟨BIG, ?_⟩
  have hB : BIG ≤ BIG := Nat.le_refl _
  unfold laws_FnCalm laws_big
  rw [Option.bind_some]
  by_cases hbig : (a.length : Int) > 1048576
  · rw [show decide ((a.length : Int) > 1048576) = true by simpa using hbig]; rfl
  rw [show decide ((a.length : Int) > 1048576) = false by simpa using hbig, cond_false]
  have ha : a.length ≤ 1048576 := by omega
  obtain ⟨q, sq, b, du, nw, wt, hd, air, told, e, hL⟩ := DrawLink_ok BIG hB a ha
  rw [e, Option.bind_some]
  dsimp only
  obtain ⟨x, e1, hx, x1, x2⟩ := calm_rest BIG hB 200 (by omega) (q, sq, b, du, nw, wt, hd, air) told hL
  dsimp only at e1
  rw [e1, Option.bind_some]
  obtain ⟨q1, sq1, b1, du1, nw1, wt1, hd1, air1⟩ := x
  dsimp only at x1 x2
  subst x1; subst x2
  have hx : LI 400 [] sq1 b1 du1 nw1 wt1 hd1 [] told := hx
  have hall := hx.all
  have htl := hx.tl
  subst hall
  dsimp only
  rw [sameInts_self hd1 (by omega) BIG hB]
  have hs : sm_Link ([], sq1, b1, du1, nw1, wt1, hd1, []) := ⟨by show ([] : List Int).length ≤ _; simp, by show hd1.length ≤ _; omega, by show ([] : List SBII).length ≤ _; simp⟩
  have hwt : fI wt1 := by
    have := hx.wte
    unfold fI IntKind.min IntKind.max
    simp [IntKind.bits, IntKind.signed]
    omega
  have e2 := impl_LinkOk_ok ([], sq1, b1, du1, nw1, wt1, hd1, []) hs.1 hs.2.1 hs.2.2 hwt BIG hB
  dsimp only at e2
  rw [hx.ok] at e2
  have e3 := impl_Tell_ok ([], sq1, b1, du1, nw1, wt1, hd1, []) hs hwt 77 BIG hB
  dsimp only at e3
  rw [e2, e3]
  unfold tellOf
  rw [hx.ok]
  have hL2 := hx.tell (by omega) 77 ⟨by omega, by omega⟩ (by simp)
  obtain ⟨y, e4, hy, y1, y2⟩ := calm_rest BIG hB 401 (by omega) ([77], sq1, b1, du1, nw1, wt1, hd1, []) (hd1 ++ [77]) hL2
  obtain ⟨q3, sq3, b3, du3, nw3, wt3, hd3, air3⟩ := y
  dsimp only at y1 y2 e4
  subst y1; subst y2
  have hy : LI 601 [] sq3 b3 du3 nw3 wt3 hd3 [] (hd1 ++ [77]) := hy
  have hall := hy.all
  subst hall
  have hlen : (hd1 ++ [(77 : Int)]).length = hd1.length + 1 := by simp
  have f1 : (((hd1 ++ [(77 : Int)]).length : Int) == w64 ((hd1.length : Int) + 1)) = true := by
    rw [w64_eq (by omega) (by omega), hlen]; simp
  have f2 : inb (hd1 ++ [(77 : Int)]) (hd1.length : Int) = true := inb_lt (by omega)
  have f3 : (hd1 ++ [(77 : Int)])[hd1.length]? = some 77 := by simp
  simp only [Option.bind_some, Bool.not_true, cond_false, List.length_nil, show (((0 : Nat) : Int) != 0) = false from rfl, tup9, List.nil_append, show (true && decide ((0 : Int) ≤ 77) && decide ((77 : Int) ≤ 9999) && decide ((0 : Nat) < 40)) = true from rfl, cond_true, e4, f1, f2, Int.toNat_natCast, f3]
  rfl

end Go.Ev.N
