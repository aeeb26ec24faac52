/- FnExactRecord, as a plain law over native forms: what the program's function answers is what the reference's answers. Conditions: none but the lengths' and numbers' bounds. -/
import Derived.Test.YtcilnijdhaidjaaDoorFnExactRecordNat
namespace Go.Ev.N
open Go Go.Ev
set_option linter.unusedVariables false
set_option linter.unusedSimpArgs false

theorem w64_eq {n : Int} (h1 : -9223372036854775808 ≤ n) (h2 : n ≤ 9223372036854775807) : w64 n = n := by
  unfold w64 IntKind.wrap
  simp only [IntKind.bits, IntKind.signed]
  simp
  split <;> omega
theorem w64_up {i : Int} {m : Nat} (h0 : 0 ≤ i) (h : i < (m : Int)) (hm : m ≤ 9223372036854775807) : w64 (i + 1) = i + 1 := w64_eq (by omega) (by omega)
theorem w64_nat {i m : Nat} (h : i < m) (hm : m ≤ 9223372036854775807) : w64 ((i : Int) + 1) = ((i + 1 : Nat) : Int) := by rw [w64_eq (by omega) (by omega)]; omega

theorem getI_nat {α : Type} (xs : List α) (i : Nat) : getI xs (i : Int) = xs[i]? := by
  unfold getI
  rw [if_pos (by omega)]
  simp
theorem getI_lt {α : Type} {xs : List α} {i : Nat} (h : i < xs.length) : getI xs (i : Int) = some xs[i] := by rw [getI_nat]; exact List.getElem?_eq_getElem h
theorem inb_nat {α : Type} (xs : List α) (i : Nat) : inb xs (i : Int) = decide (i < xs.length) := by
  unfold inb
  have : decide (0 ≤ (i : Int)) = true := by simp
  rw [this, Bool.true_and]
  simp
theorem inb_lt {α : Type} {xs : List α} {i : Nat} (h : i < xs.length) : inb xs (i : Int) = true := by rw [inb_nat]; simpa using h
theorem upd_is {α : Type} (l : List α) (n : Nat) (y : α) : upd l n y = l.set n y := upd_set l n y

/-! ### what comes in -/
def fI (x : Int) : Prop := IntKind.min .i64 ≤ x ∧ x ≤ IntKind.max .i64
def fB (_ : Bool) : Prop := True
def fStr (x : List UInt8) : Prop := List.length x ≤ maxLen
def fSl {α : Type} (p : α → Prop) (x : List α) : Prop := List.length x ≤ maxLen ∧ ∀ y, List.Mem y x → p y
def fP {α β : Type} (p : α → Prop) (q : β → Prop) (x : α × β) : Prop := p x.1 ∧ q x.2
theorem fI_b {x : Int} (h : fI x) : -9223372036854775808 ≤ x ∧ x ≤ 9223372036854775807 := by
  unfold fI IntKind.min IntKind.max at h
  simpa [IntKind.bits, IntKind.signed] using h
theorem fSl_len {α : Type} {p : α → Prop} {x : List α} (h : fSl p x) : x.length ≤ 9223372036854775807 := h.1
theorem fSl_mem {α : Type} {p : α → Prop} {x : List α} (h : fSl p x) {y : α} (hy : y ∈ x) : p y := h.2 y hy

/-! ### loops -/

section
variable {α γ σ β : Type}
theorem iter_go {f : α → Option (α ⊕ γ)} {x y : α} (h : f x = some (.inl y)) (n : Nat) : iter (n + 1) f x = iter n f y := by simp [iter, h]
theorem iter_end {f : α → Option (α ⊕ γ)} {x : α} {z : γ} (h : f x = some (.inr z)) (n : Nat) : iter (n + 1) f x = some z := by simp [iter, h]

/-- A loop that goes so many rounds. -/
theorem iter_steps (f : α → Option (α ⊕ γ)) (st : Nat → α) (m : Nat) (r : γ) (hs : ∀ i, i < m → f (st i) = some (.inl (st (i + 1)))) (he : f (st m) = some (.inr r)) : ∀ n, m < n → iter n f (st 0) = some r := by
  have key : ∀ d i n, i + d = m → d < n → iter n f (st i) = some r := by
    intro d
    induction d with
    | zero =>
      intro i n hi hn
      obtain ⟨n, rfl⟩ : ∃ k, n = k + 1 := ⟨n - 1, by omega⟩
      have : i = m := by omega
      subst this
      exact iter_end he n
    | succ d ih =>
      intro i n hi hn
      obtain ⟨n, rfl⟩ : ∃ k, n = k + 1 := ⟨n - 1, by omega⟩
      rw [iter_go (hs i (by omega)) n]
      exact ih (i + 1) n (by omega) (by omega)
  exact fun n hn => key m 0 n (by omega) hn

/-- A loop over a list, with a state: what it answers is told by recursion on what is left. -/
theorem iter_rec (f : α → Option (α ⊕ γ)) (st : Nat → σ → α) (xs : List β) (G : List β → σ → γ) (Inv : Nat → σ → Prop)
    (hend : ∀ s, Inv xs.length s → f (st xs.length s) = some (.inr (G [] s)))
    (hstep : ∀ i x l s, i < xs.length → xs[i]? = some x → xs.drop i = x :: l → xs.drop (i + 1) = l → Inv i s → (∃ s', f (st i s) = some (.inl (st (i + 1) s')) ∧ Inv (i + 1) s' ∧ G (x :: l) s = G l s') ∨ f (st i s) = some (.inr (G (x :: l) s))) :
    ∀ n, xs.length < n → ∀ s, Inv 0 s → iter n f (st 0 s) = some (G xs s) := by
  have key : ∀ d i n s, i + d = xs.length → d < n → Inv i s → iter n f (st i s) = some (G (xs.drop i) s) := by
    intro d
    induction d with
    | zero =>
      intro i n s hi hn hI
      obtain ⟨n, rfl⟩ : ∃ k, n = k + 1 := ⟨n - 1, by omega⟩
      have : i = xs.length := by omega
      subst this
      rw [iter_end (hend s hI) n, List.drop_length]
    | succ d ih =>
      intro i n s hi hn hI
      obtain ⟨n, rfl⟩ : ∃ k, n = k + 1 := ⟨n - 1, by omega⟩
      have hlt : i < xs.length := by omega
      have hd : xs.drop i = xs[i] :: xs.drop (i + 1) := List.drop_eq_getElem_cons hlt
      rcases hstep i xs[i] (xs.drop (i + 1)) s hlt (List.getElem?_eq_getElem hlt) hd rfl hI with ⟨s', h1, h2, h3⟩ | h1
      · rw [iter_go h1 n, ih (i + 1) n s' (by omega) (by omega) h2, hd, h3]
      · rw [iter_end h1 n, hd]
  intro n hn s hI
  have := key xs.length 0 n s (by omega) hn hI
  simpa using this
/-- The same where the state is the number of the round alone. -/
theorem iter_list (f : Int → Option (Int ⊕ γ)) (xs : List β) (G : List β → List β → γ) (hend : f (xs.length : Int) = some (.inr (G xs [])))
    (hstep : ∀ i x l p, i < xs.length → xs[i]? = some x → xs = p ++ x :: l → p.length = i → p = xs.take i → (f (i : Int) = some (.inl ((i + 1 : Nat) : Int)) ∧ G p (x :: l) = G (p ++ [x]) l) ∨ f (i : Int) = some (.inr (G p (x :: l)))) :
    ∀ n, xs.length < n → iter n f 0 = some (G [] xs) := by
  intro n hn
  refine iter_rec (σ := List β) f (fun i _ => (i : Int)) xs (fun l p => G p l) (fun i p => p = xs.take i) (fun s hs => ?_) (fun i x l s h1 h2 h3 h4 h5 => ?_) n hn [] (by simp)
  · have : s = xs := by rw [hs]; simp
    rw [this]; exact hend
  · have hlen : s.length = i := by rw [h5]; simp; omega
    have hx : xs = s ++ x :: l := by rw [← h3, h5, List.take_append_drop]
    rcases hstep i x l s h1 h2 hx hlen h5 with ⟨q1, q2⟩ | q1
    · refine .inl ⟨s ++ [x], q1, ?_, q2⟩
      have hxi : x = xs[i] := by rw [List.getElem?_eq_getElem h1] at h2; exact (Option.some.inj h2).symm
      rw [h5, List.take_succ_eq_append_getElem h1, hxi]
    · exact .inr q1
end

/-- A loop that asks the same of each element. -/
theorem all_loop {β : Type} (f : Int → Option (Int ⊕ (Int ⊕ Bool))) (xs : List β) (P : β → Bool) (hs : ∀ (i : Nat) (x : β), i < xs.length → xs[i]? = some x → f (i : Int) = some (bif P x then .inl ((i + 1 : Nat) : Int) else .inr (.inr false)))
    (he : f (xs.length : Int) = some (.inr (.inl (xs.length : Int)))) : ∀ n, xs.length < n → iter n f 0 = some (bif xs.all P then .inl (xs.length : Int) else .inr false) := by
  intro n hn
  refine iter_list f xs (fun p l => bif l.all P then .inl (xs.length : Int) else .inr false) ?_ ?_ n hn
  · rw [he]; simp
  · intro i x l p h1 h2 h3 h4 h5
    rw [hs i x h1 h2]
    cases hp : P x with
    | true => exact .inl ⟨by simp, by simp [hp]⟩
    | false => exact .inr (by simp [hp])

/-! ### conditions that stand as ways -/
theorem or1 (b c : Bool) : (bif b then some true else some c) = some (b || c) := by cases b <;> rfl
theorem and1 (b c : Bool) : (bif b then some c else some false) = some (b && c) := by cases b <;> rfl
theorem andn (b c : Bool) : (bif b then some false else some c) = some (!b && c) := by cases b <;> rfl
theorem orn (b c : Bool) : (bif b then some c else some true) = some (!b || c) := by cases b <;> rfl
theorem cond_some {α : Type} (b : Bool) (x y : α) : (bif b then some x else some y) = some (bif b then x else y) := by cases b <;> rfl

/-! ### copies -/

/-- A loop that copies. -/
theorem copy_ok {β : Type} (L : Int × List β → Option ((Int × List β) ⊕ (Int × List β))) (xs : List β) (z : β)
    (hL : ∀ (i : Nat) (h : i < xs.length) (out : List β), out.length = xs.length → L ((i : Int), out) = some (.inl (((i + 1 : Nat) : Int), out.set i xs[i]))) (hend : ∀ out, L ((xs.length : Int), out) = some (.inr ((xs.length : Int), out))) :
    ∀ n, xs.length < n → iter n L (0, List.replicate xs.length z) = some ((xs.length : Int), xs) := by
  intro n hn
  have := iter_rec (σ := List β) L (fun i s => ((i : Int), s)) xs (fun l s => ((xs.length : Int), s.take (xs.length - l.length) ++ l)) (fun i s => s.length = xs.length ∧ s.take i = xs.take i)
    (fun s hs => by
      rw [hend s, show s.take (xs.length - ([] : List β).length) ++ [] = s by simp [← hs.1]])
    (fun i x l s h1 h2 h3 h4 h5 => by
      left
      have hx : xs[i] = x := by rw [List.getElem?_eq_getElem h1] at h2; exact Option.some.inj h2
      refine ⟨s.set i xs[i], hL i h1 s h5.1, ⟨by simp [h5.1], ?_⟩, ?_⟩
      · rw [List.take_succ_eq_append_getElem h1, List.take_succ_eq_append_getElem (by simp [h5.1]; exact h1)]
        congr 1
        · rw [List.take_set_of_le (Nat.le_refl i), h5.2]
        · simp
      · have hl : l.length = xs.length - (i + 1) := by rw [← h4]; simp
        congr 1
        rw [List.length_cons, hl, show xs.length - (xs.length - (i + 1) + 1) = i by omega, show xs.length - (xs.length - (i + 1)) = i + 1 by omega]
        rw [List.take_succ_eq_append_getElem (by simp [h5.1]; exact h1), List.take_set_of_le (Nat.le_refl i)]
        simp [hx])
    n hn (List.replicate xs.length z) ⟨by simp, by simp⟩
  simpa using this

/-! ### the largest number of rounds -/
def BIG : Nat := 18446744073709551616
theorem maxLen_eq : maxLen = 9223372036854775807 := rfl

section
variable {β : Type}
open Classical in
/-- What one element becomes ('E': what is known of it). -/
noncomputable def mkOne (E : Int → β → Int → β → Prop) (k : Int) (x : β) : Int × β := if h : ∃ p : Int × β, E k x p.1 p.2 then h.choose else (k, x)
theorem mkOne_ok {E : Int → β → Int → β → Prop} {k : Int} {x : β} (h : ∃ k' x', E k x k' x') : E k x (mkOne E k x).1 (mkOne E k x).2 := by
  have h' : ∃ p : Int × β, E k x p.1 p.2 := let ⟨a, b, c⟩ := h; ⟨(a, b), c⟩
  unfold mkOne
  rw [dif_pos h']
  exact h'.choose_spec
noncomputable def mkAll (E : Int → β → Int → β → Prop) : Int → List β → Int × List β
  | k, [] => (k, [])
  | k, x :: l => ((mkAll E (mkOne E k x).1 l).1, (mkOne E k x).2 :: (mkAll E (mkOne E k x).1 l).2)
theorem mkAll_len (E : Int → β → Int → β → Prop) : ∀ (l : List β) (k : Int), (mkAll E k l).2.length = l.length
  | [], k => rfl
  | x :: l, k => by simp [mkAll, mkAll_len E l]

/-- A loop that marks a row. -/
theorem mark_only (L : Int × Int × List β → Option ((Int × Int × List β) ⊕ (Int × Int × List β))) (sm sm' : β → Prop) (c : Nat) (xs : List β) (hx : ∀ x ∈ xs, sm x) (hlen : xs.length ≤ 1048576)
    (k0 : Int) (h0 : 0 ≤ k0) (hb : k0 + (c : Int) * (xs.length : Int) ≤ 4611686018427387904)
    (hstep : ∀ (k : Int) (x : β), 0 ≤ k → k + (c : Int) ≤ 4611686018427387904 → sm x → ∃ k' x', k ≤ k' ∧ k' ≤ k + c ∧ sm' x' ∧
      (∀ (i : Nat) (ys : List β), i < ys.length → ys.length ≤ 1048576 → ys[i]? = some x → L (k, (i : Int), ys) = some (.inl (k', ((i + 1 : Nat) : Int), ys.set i x'))))
    (hL : ∀ (k : Int) (ys : List β), L (k, (ys.length : Int), ys) = some (.inr (k, (ys.length : Int), ys))) :
    ∀ n, xs.length < n → ∃ k' xs', iter n L (k0, 0, xs) = some (k', (xs.length : Int), xs') ∧ xs'.length = xs.length ∧ k0 ≤ k' ∧ k' ≤ k0 + (c : Int) * (xs.length : Int) ∧ (∀ x ∈ xs', sm' x) := by
  intro n hn
  let E : Int → β → Int → β → Prop := fun k x k' x' => k ≤ k' ∧ k' ≤ k + c ∧ sm' x' ∧
      (∀ (i : Nat) (ys : List β), i < ys.length → ys.length ≤ 1048576 → ys[i]? = some x → L (k, (i : Int), ys) = some (.inl (k', ((i + 1 : Nat) : Int), ys.set i x')))
  have hone : ∀ k x, 0 ≤ k → k + (c : Int) ≤ 4611686018427387904 → sm x → E k x (mkOne E k x).1 (mkOne E k x).2 := fun k x h1 h2 h3 => mkOne_ok (hstep k x h1 h2 h3)
  have bnd : ∀ (l : List β) (k : Int), (∀ x ∈ l, sm x) → 0 ≤ k → k + (c : Int) * (l.length : Int) ≤ 4611686018427387904 → k ≤ (mkAll E k l).1 ∧ (mkAll E k l).1 ≤ k + (c : Int) * (l.length : Int) ∧ ∀ y ∈ (mkAll E k l).2, sm' y := by
    intro l
    induction l with
    | nil => intro k _ h1 h2; simp [mkAll]
    | cons x l ih =>
      intro k hs h1 h2
      have hc : (c : Int) * ((x :: l).length : Int) = c + (c : Int) * (l.length : Int) := by simp [Int.mul_add]; omega
      rw [hc] at h2
      have hcl : 0 ≤ (c : Int) * (l.length : Int) := Int.mul_nonneg (by omega) (by omega)
      obtain ⟨e1, e2, e3, _⟩ := hone k x h1 (by omega) (hs x (by simp))
      obtain ⟨i1, i2, i3⟩ := ih (mkOne E k x).1 (fun y hy => hs y (by simp [hy])) (by omega) (by omega)
      refine ⟨?_, ?_, ?_⟩
      · show k ≤ (mkAll E (mkOne E k x).1 l).1; omega
      · show (mkAll E (mkOne E k x).1 l).1 ≤ _
        rw [hc]; omega
      · intro y hy
        rcases List.mem_cons.1 (show y ∈ (mkOne E k x).2 :: (mkAll E (mkOne E k x).1 l).2 from hy) with rfl | hy
        · exact e3
        · exact i3 y hy
  obtain ⟨b1, b2, b3⟩ := bnd xs k0 hx h0 hb
  have hdrop : ∀ i x l, xs.drop i = x :: l → sm x ∧ ∀ y ∈ l, sm y := by
    intro i x l hd
    have : ∀ y ∈ x :: l, sm y := fun y hy => hx y (List.mem_of_mem_drop (hd ▸ hy))
    exact ⟨this x (by simp), fun y hy => this y (by simp [hy])⟩
  refine ⟨(mkAll E k0 xs).1, (mkAll E k0 xs).2, ?_, mkAll_len E xs k0, b1, b2, b3⟩
  have := iter_rec (σ := Int × List β) L (fun i s => (s.1, (i : Int), s.2)) xs (fun l s => ((mkAll E s.1 l).1, (xs.length : Int), s.2.take (xs.length - l.length) ++ (mkAll E s.1 l).2))
      (fun i s => s.2.length = xs.length ∧ s.2.drop i = xs.drop i ∧ 0 ≤ s.1 ∧ s.1 + (c : Int) * ((xs.length - i : Nat) : Int) ≤ 4611686018427387904)
      (fun s hs => by
        have := hL s.1 s.2
        rw [hs.1] at this
        rw [this]
        simp [mkAll, ← hs.1])
      (fun i x l s h1 h2 h3 h4 h5 => by
        left
        obtain ⟨q1, q2, q3, q4⟩ := h5
        have hll : l.length = xs.length - (i + 1) := by rw [← h4]; simp
        have hsub : xs.length - i = (xs.length - (i + 1)) + 1 := by omega
        have hc : (c : Int) * ((xs.length - i : Nat) : Int) = c + (c : Int) * ((xs.length - (i + 1) : Nat) : Int) := by rw [hsub]; simp [Int.mul_add]; omega
        rw [hc] at q4
        have hcl : 0 ≤ (c : Int) * ((xs.length - (i + 1) : Nat) : Int) := Int.mul_nonneg (by omega) (by omega)
        obtain ⟨e1, e2, e3, e4⟩ := hone s.1 x q3 (by omega) (hdrop i x l h3).1
        have hsi : s.2[i]? = some x := by
          have := congrArg (fun l => l[0]?) (q2.trans h3)
          simpa using this
        refine ⟨((mkOne E s.1 x).1, s.2.set i (mkOne E s.1 x).2), e4 i s.2 (by omega) (by omega) hsi, ⟨by simp [q1], ?_, by omega, by omega⟩, ?_⟩
        · show (s.2.set i (mkOne E s.1 x).2).drop (i + 1) = _
          rw [List.drop_set_of_lt (by omega)]
          have := congrArg (List.drop 1) q2
          simpa using this
        · show (((mkAll E (mkOne E s.1 x).1 l).1, (xs.length : Int), s.2.take (xs.length - (l.length + 1)) ++ (mkOne E s.1 x).2 :: (mkAll E (mkOne E s.1 x).1 l).2) : Int × Int × List β) = ((mkAll E (mkOne E s.1 x).1 l).1, (xs.length : Int), (s.2.set i (mkOne E s.1 x).2).take (xs.length - l.length) ++ (mkAll E (mkOne E s.1 x).1 l).2)
          rw [hll, show xs.length - (xs.length - (i + 1) + 1) = i by omega, show xs.length - (xs.length - (i + 1)) = i + 1 by omega]
          rw [List.take_succ_eq_append_getElem (by simp [q1]; exact h1), List.take_set_of_le (Nat.le_refl i)]
          simp)
      n hn (k0, xs) ⟨rfl, rfl, h0, by simpa using hb⟩
  simpa using this

/-- A loop that marks a row, and one that reads the marks. 'c': how much an element counts at most. -/
theorem mark_loop {γ : Type} (L : Int × Int × List β → Option ((Int × Int × List β) ⊕ (Int × Int × List β))) (H : List β → Int × Int → Option ((Int × Int) ⊕ ((Int × Int) ⊕ γ))) (sm sm' : β → Prop) (c : Nat) (xs : List β) (hx : ∀ x ∈ xs, sm x) (hlen : xs.length ≤ 1048576)
    (k0 : Int) (h0 : 0 ≤ k0) (hb : k0 + (c : Int) * (xs.length : Int) ≤ 4611686018427387904)
    (hstep : ∀ (k : Int) (x : β), 0 ≤ k → k + (c : Int) ≤ 4611686018427387904 → sm x → ∃ k' x', k ≤ k' ∧ k' ≤ k + c ∧ sm' x' ∧
      (∀ (i : Nat) (ys : List β), i < ys.length → ys.length ≤ 1048576 → ys[i]? = some x → L (k, (i : Int), ys) = some (.inl (k', ((i + 1 : Nat) : Int), ys.set i x'))) ∧
      (∀ (i : Nat) (ys : List β), i < ys.length → ys.length ≤ 1048576 → ys[i]? = some x' → H ys (k, (i : Int)) = some (.inl (k', ((i + 1 : Nat) : Int)))))
    (hL : ∀ (k : Int) (ys : List β), L (k, (ys.length : Int), ys) = some (.inr (k, (ys.length : Int), ys))) (hH : ∀ (k : Int) (ys : List β), H ys (k, (ys.length : Int)) = some (.inr (.inl (k, (ys.length : Int))))) :
    ∀ n, xs.length < n → ∃ k' xs', iter n L (k0, 0, xs) = some (k', (xs.length : Int), xs') ∧ xs'.length = xs.length ∧ k0 ≤ k' ∧ k' ≤ k0 + (c : Int) * (xs.length : Int) ∧ (∀ x ∈ xs', sm' x) ∧ iter n (H xs') (k0, 0) = some (.inl (k', (xs.length : Int))) := by
  intro n hn
  let E : Int → β → Int → β → Prop := fun k x k' x' => k ≤ k' ∧ k' ≤ k + c ∧ sm' x' ∧
      (∀ (i : Nat) (ys : List β), i < ys.length → ys.length ≤ 1048576 → ys[i]? = some x → L (k, (i : Int), ys) = some (.inl (k', ((i + 1 : Nat) : Int), ys.set i x'))) ∧
      (∀ (i : Nat) (ys : List β), i < ys.length → ys.length ≤ 1048576 → ys[i]? = some x' → H ys (k, (i : Int)) = some (.inl (k', ((i + 1 : Nat) : Int))))
  have hone : ∀ k x, 0 ≤ k → k + (c : Int) ≤ 4611686018427387904 → sm x → E k x (mkOne E k x).1 (mkOne E k x).2 := fun k x h1 h2 h3 => mkOne_ok (hstep k x h1 h2 h3)
  have bnd : ∀ (l : List β) (k : Int), (∀ x ∈ l, sm x) → 0 ≤ k → k + (c : Int) * (l.length : Int) ≤ 4611686018427387904 → k ≤ (mkAll E k l).1 ∧ (mkAll E k l).1 ≤ k + (c : Int) * (l.length : Int) ∧ ∀ y ∈ (mkAll E k l).2, sm' y := by
    intro l
    induction l with
    | nil => intro k _ h1 h2; simp [mkAll]
    | cons x l ih =>
      intro k hs h1 h2
      have hc : (c : Int) * ((x :: l).length : Int) = c + (c : Int) * (l.length : Int) := by simp [Int.mul_add]; omega
      rw [hc] at h2
      have hcl : 0 ≤ (c : Int) * (l.length : Int) := Int.mul_nonneg (by omega) (by omega)
      obtain ⟨e1, e2, e3, _, _⟩ := hone k x h1 (by omega) (hs x (by simp))
      obtain ⟨i1, i2, i3⟩ := ih (mkOne E k x).1 (fun y hy => hs y (by simp [hy])) (by omega) (by omega)
      refine ⟨?_, ?_, ?_⟩
      · show k ≤ (mkAll E (mkOne E k x).1 l).1; omega
      · show (mkAll E (mkOne E k x).1 l).1 ≤ _
        rw [hc]; omega
      · intro y hy
        rcases List.mem_cons.1 (show y ∈ (mkOne E k x).2 :: (mkAll E (mkOne E k x).1 l).2 from hy) with rfl | hy
        · exact e3
        · exact i3 y hy
  obtain ⟨b1, b2, b3⟩ := bnd xs k0 hx h0 hb
  have hdrop : ∀ i x l, xs.drop i = x :: l → sm x ∧ ∀ y ∈ l, sm y := by
    intro i x l hd
    have : ∀ y ∈ x :: l, sm y := fun y hy => hx y (List.mem_of_mem_drop (hd ▸ hy))
    exact ⟨this x (by simp), fun y hy => this y (by simp [hy])⟩
  refine ⟨(mkAll E k0 xs).1, (mkAll E k0 xs).2, ?_, mkAll_len E xs k0, b1, b2, b3, ?_⟩
  · have := iter_rec (σ := Int × List β) L (fun i s => (s.1, (i : Int), s.2)) xs (fun l s => ((mkAll E s.1 l).1, (xs.length : Int), s.2.take (xs.length - l.length) ++ (mkAll E s.1 l).2))
      (fun i s => s.2.length = xs.length ∧ s.2.drop i = xs.drop i ∧ 0 ≤ s.1 ∧ s.1 + (c : Int) * ((xs.length - i : Nat) : Int) ≤ 4611686018427387904)
      (fun s hs => by
        have := hL s.1 s.2
        rw [hs.1] at this
        rw [this]
        simp [mkAll, ← hs.1])
      (fun i x l s h1 h2 h3 h4 h5 => by
        left
        obtain ⟨q1, q2, q3, q4⟩ := h5
        have hll : l.length = xs.length - (i + 1) := by rw [← h4]; simp
        have hsub : xs.length - i = (xs.length - (i + 1)) + 1 := by omega
        have hc : (c : Int) * ((xs.length - i : Nat) : Int) = c + (c : Int) * ((xs.length - (i + 1) : Nat) : Int) := by rw [hsub]; simp [Int.mul_add]; omega
        rw [hc] at q4
        have hcl : 0 ≤ (c : Int) * ((xs.length - (i + 1) : Nat) : Int) := Int.mul_nonneg (by omega) (by omega)
        obtain ⟨e1, e2, e3, e4, e5⟩ := hone s.1 x q3 (by omega) (hdrop i x l h3).1
        have hsi : s.2[i]? = some x := by
          have := congrArg (fun l => l[0]?) (q2.trans h3)
          simpa using this
        refine ⟨((mkOne E s.1 x).1, s.2.set i (mkOne E s.1 x).2), e4 i s.2 (by omega) (by omega) hsi, ⟨by simp [q1], ?_, by omega, by omega⟩, ?_⟩
        · show (s.2.set i (mkOne E s.1 x).2).drop (i + 1) = _
          rw [List.drop_set_of_lt (by omega)]
          have := congrArg (List.drop 1) q2
          simpa using this
        · show (((mkAll E (mkOne E s.1 x).1 l).1, (xs.length : Int), s.2.take (xs.length - (l.length + 1)) ++ (mkOne E s.1 x).2 :: (mkAll E (mkOne E s.1 x).1 l).2) : Int × Int × List β) = ((mkAll E (mkOne E s.1 x).1 l).1, (xs.length : Int), (s.2.set i (mkOne E s.1 x).2).take (xs.length - l.length) ++ (mkAll E (mkOne E s.1 x).1 l).2)
          rw [hll, show xs.length - (xs.length - (i + 1) + 1) = i by omega, show xs.length - (xs.length - (i + 1)) = i + 1 by omega]
          rw [List.take_succ_eq_append_getElem (by simp [q1]; exact h1), List.take_set_of_le (Nat.le_refl i)]
          simp)
      n hn (k0, xs) ⟨rfl, rfl, h0, by simpa using hb⟩
    simpa using this
  · have hxl : (mkAll E k0 xs).2.length = xs.length := mkAll_len E xs k0
    have := iter_rec (σ := Int) (H (mkAll E k0 xs).2) (fun i k => (k, (i : Int))) xs (fun l k => (.inl ((mkAll E k l).1, (xs.length : Int)) : (Int × Int) ⊕ γ))
      (fun i k => (mkAll E k0 xs).2.drop i = (mkAll E k (xs.drop i)).2 ∧ 0 ≤ k ∧ k + (c : Int) * ((xs.length - i : Nat) : Int) ≤ 4611686018427387904)
      (fun k hk => by
        have := hH k (mkAll E k0 xs).2
        rw [hxl] at this
        rw [this]; simp [mkAll])
      (fun i x l k h1 h2 h3 h4 h5 => by
        left
        obtain ⟨q2, q3, q4⟩ := h5
        have hsub : xs.length - i = (xs.length - (i + 1)) + 1 := by omega
        have hc : (c : Int) * ((xs.length - i : Nat) : Int) = c + (c : Int) * ((xs.length - (i + 1) : Nat) : Int) := by rw [hsub]; simp [Int.mul_add]; omega
        rw [hc] at q4
        have hcl : 0 ≤ (c : Int) * ((xs.length - (i + 1) : Nat) : Int) := Int.mul_nonneg (by omega) (by omega)
        obtain ⟨e1, e2, e3, e4, e5⟩ := hone k x q3 (by omega) (hdrop i x l h3).1
        rw [h3] at q2
        have q2 : (mkAll E k0 xs).2.drop i = (mkOne E k x).2 :: (mkAll E (mkOne E k x).1 l).2 := q2
        have hsi : (mkAll E k0 xs).2[i]? = some (mkOne E k x).2 := by
          have := congrArg (fun l => l[0]?) q2
          simpa using this
        refine ⟨(mkOne E k x).1, e5 i _ (by omega) (by omega) hsi, ⟨?_, by omega, by omega⟩, rfl⟩
        have := congrArg (List.drop 1) q2
        rw [h4]
        simpa using this)
      n hn k0 ⟨rfl, h0, by simpa using hb⟩
    simpa using this

/-- A loop that counts how much is left. -/
theorem sz_loop (L : Int × Int → Option ((Int × Int) ⊕ ((Int × Int) ⊕ Int))) (xs : List β) (sm : β → Prop)
    (hstep : ∀ (i : Nat) (x : β) (left : Int), i < xs.length → xs[i]? = some x → 0 ≤ left → left ≤ 1048576 → (∃ r, L (left, (i : Int)) = some (.inl (r, ((i + 1 : Nat) : Int))) ∧ 0 ≤ r ∧ r ≤ left ∧ sm x) ∨ ∃ r, L (left, (i : Int)) = some (.inr (.inr r)) ∧ r < 0)
    (hend : ∀ left, L (left, (xs.length : Int)) = some (.inr (.inl (left, (xs.length : Int))))) : ∀ n, xs.length < n → ∀ left : Int, 0 ≤ left → left ≤ 1048576 →
    (∃ r, iter n L (left, 0) = some (.inr r) ∧ r < 0) ∨ ∃ r, iter n L (left, 0) = some (.inl (r, (xs.length : Int))) ∧ 0 ≤ r ∧ r ≤ left ∧ ∀ x ∈ xs, sm x := by
  have key : ∀ d i n (left : Int), i + d = xs.length → d < n → 0 ≤ left → left ≤ 1048576 → (∃ r, iter n L (left, (i : Int)) = some (.inr r) ∧ r < 0) ∨ ∃ r, iter n L (left, (i : Int)) = some (.inl (r, (xs.length : Int))) ∧ 0 ≤ r ∧ r ≤ left ∧ ∀ x ∈ xs.drop i, sm x := by
    intro d
    induction d with
    | zero =>
      intro i n left hi hn h0 h1
      obtain ⟨n, rfl⟩ : ∃ k, n = k + 1 := ⟨n - 1, by omega⟩
      have : i = xs.length := by omega
      subst this
      exact .inr ⟨left, iter_end (hend left) n, h0, Int.le_refl _, by simp⟩
    | succ d ih =>
      intro i n left hi hn h0 h1
      obtain ⟨n, rfl⟩ : ∃ k, n = k + 1 := ⟨n - 1, by omega⟩
      have hlt : i < xs.length := by omega
      rcases hstep i xs[i] left hlt (List.getElem?_eq_getElem hlt) h0 h1 with ⟨r, e, r0, r1, hs⟩ | ⟨r, e, r0⟩
      · rw [iter_go e n]
        rcases ih (i + 1) n r (by omega) (by omega) r0 (by omega) with ⟨q, e2, q0⟩ | ⟨q, e2, q0, q1, q2⟩
        · exact .inl ⟨q, e2, q0⟩
        · refine .inr ⟨q, e2, q0, by omega, ?_⟩
          rw [List.drop_eq_getElem_cons hlt]
          intro x hx
          rcases List.mem_cons.1 hx with rfl | hx
          · exact hs
          · exact q2 x hx
      · exact .inl ⟨r, iter_end e n, r0⟩
  intro n hn left h0 h1
  have := key xs.length 0 n left (by omega) hn h0 h1
  simpa using this
end

theorem make_ok (m : Nat) (h : m ≤ 1048576) : (decide (0 ≤ (m : Int)) && decide ((m : Int) ≤ (maxRow : Int)) && decide ((m : Int) = (m : Int))) = true := by
  have hm : maxRow = 68719476736 := rfl
  have h2 : decide ((m : Int) ≤ (maxRow : Int)) = true := by rw [hm]; simp; omega
  rw [h2]; simp
theorem modify_set {α : Type} (xs : List α) (i : Nat) (f : α → α) (h : i < xs.length) : List.modify xs i f = xs.set i (f xs[i]) := by
  apply List.ext_getElem
  · simp
  · intro j h1 h2
    rw [List.getElem_modify, List.getElem_set]
    by_cases e : i = j
    · subst e; simp
    · simp [e]


def sm_ItemS (a : List (Int × Int)) : Prop := a.length ≤ 1048576

def sm_PickS (a : List (Int × Int × Int)) : Prop := a.length ≤ 1048576

def sm_Order (a : Int × Int × (List (Int × Int)) × (List (Int × Int × Int)) × Int) : Prop := sm_ItemS a.2.2.1 ∧ sm_PickS a.2.2.2.1

def sm_OrderS (a : List (Int × Int × (List (Int × Int)) × (List (Int × Int × Int)) × Int)) : Prop := a.length ≤ 1048576 ∧ ∀ y ∈ a, sm_Order y

def sm_Book (a : Int × (List (Int × Int × (List (Int × Int)) × (List (Int × Int × Int)) × Int))) : Prop := sm_OrderS a.2

theorem laws_toItemS_ok (a : List (Int × Int)) (h : sm_ItemS a) (n : Nat) (hn : BIG ≤ n) : laws_toItemS n a = some a := by
  have hl : a.length ≤ 1048576 := h
  have hc := copy_ok (laws_toItemS_L1 a) a ((0, 0) : Int × Int) (fun i hi out ho => by
    simp [laws_toItemS_L1, hi, getI_lt hi, laws_toItem, inb_lt (xs := out) (by omega : i < out.length), w64_nat hi (by omega), upd_is]) (fun out => by
    simp [laws_toItemS_L1]) n (by unfold BIG at hn; omega)
  unfold laws_toItemS
  rw [make_ok a.length hl, cond_true, show Int.toNat (a.length : Int) = a.length by simp, hc]
  rfl


theorem laws_eqItemS_ok (a : List (Int × Int)) (h : sm_ItemS a) (n : Nat) (hn : BIG ≤ n) : laws_eqItemS n a a = some true := by
  have hl : a.length ≤ 1048576 := h
  have hc := iter_steps (laws_eqItemS_L1 a a) (fun i => (i : Int)) a.length (.inl (a.length : Int)) (fun i hi => by
    simp [laws_eqItemS_L1, hi, getI_lt hi, laws_eqItem, w64_nat hi (by omega)]) (by simp [laws_eqItemS_L1]) n (by unfold BIG at hn; omega)
  unfold laws_eqItemS
  rw [show ((a.length : Int) != (a.length : Int)) = false by simp, cond_false]
  rw [show ((0 : Nat) : Int) = 0 from rfl] at hc
  rw [hc]; rfl


theorem laws_szItemS_ok (a : List (Int × Int)) (hf : (fSl (fP fI fI)) a) (left : Int) (h0 : 0 ≤ left) (h1 : left ≤ 1048576) : ∃ r, laws_szItemS a left = some r ∧ (r < 0 ∨ (0 ≤ r ∧ r ≤ left ∧ sm_ItemS a)) := by
  have hm := fSl_len hf
  unfold laws_szItemS sm_ItemS
  rw [w64_eq (n := left - (a.length : Int)) (by omega) (by omega)]
  by_cases hl : left - (a.length : Int) < 0
  · rw [show decide (left - (a.length : Int) < 0) = true by simpa using hl]; exact ⟨_, rfl, .inl (by omega)⟩
  · rw [show decide (left - (a.length : Int) < 0) = false by simpa using hl]; exact ⟨_, rfl, .inr ⟨by omega, by omega, by omega⟩⟩


def sm_IntS (a : List Int) : Prop := a.length ≤ 1048576

def sm_Floor (a : Int × Int × (List Int)) : Prop := sm_IntS a.2.2

def sm_StackS (a : List (Int × Int × Int)) : Prop := a.length ≤ 1048576

def sm_Pod (a : Int × Int × (List (Int × Int × Int))) : Prop := sm_StackS a.2.2

def sm_PodS (a : List (Int × Int × (List (Int × Int × Int)))) : Prop := a.length ≤ 1048576 ∧ ∀ y ∈ a, sm_Pod y

def sm_Stock (a : (List (Int × Int × (List (Int × Int × Int))))) : Prop := sm_PodS a

def sm_RobotS (a : List (Int × Int × Int × Bool × Int)) : Prop := a.length ≤ 1048576

def sm_TaskS (a : List (Int × Int × Int × Int)) : Prop := a.length ≤ 1048576

def sm_Depot (a : Int × Int × (List Int) × (List (Int × Int × (List (Int × Int × Int)))) × Int × (List (Int × Int × (List (Int × Int)) × (List (Int × Int × Int)) × Int)) × (List (Int × Int × Int × Bool × Int)) × (List (Int × Int × Int × Int)) × (List Int) × (List Int) × Int) : Prop := sm_Floor (a.1, a.2.1, a.2.2.1) ∧ sm_Stock a.2.2.2.1 ∧ sm_Book (a.2.2.2.2.1, a.2.2.2.2.2.1) ∧ sm_RobotS a.2.2.2.2.2.2.1 ∧ sm_TaskS a.2.2.2.2.2.2.2.1 ∧ sm_IntS a.2.2.2.2.2.2.2.2.1 ∧ sm_IntS a.2.2.2.2.2.2.2.2.2.1

def sm_WordS (a : List (Bool × Int × Int)) : Prop := a.length ≤ 1048576

def sm_Link (a : (List Int) × Int × Bool × Int × Int × Int × (List Int) × (List (Bool × Int × Int))) : Prop := sm_IntS a.1 ∧ sm_IntS a.2.2.2.2.2.2.1 ∧ sm_WordS a.2.2.2.2.2.2.2

def sm_Act (a : Int × Int × (List (Int × Int)) × Int × Int × Int × Int) : Prop := sm_ItemS a.2.2.1

theorem laws_toAct_ok (a : Int × Int × (List (Int × Int)) × Int × Int × Int × Int) (h : sm_Act a) (n : Nat) (hn : BIG ≤ n) : laws_toAct n a.1 a.2.1 a.2.2.1 a.2.2.2.1 a.2.2.2.2.1 a.2.2.2.2.2.1 a.2.2.2.2.2.2 = some a := by
  unfold laws_toAct
  unfold sm_Act at h
  simp [laws_toItemS_ok a.2.2.1 h n hn]


theorem laws_eqAct_ok (a : Int × Int × (List (Int × Int)) × Int × Int × Int × Int) (h : sm_Act a) (n : Nat) (hn : BIG ≤ n) : laws_eqAct n a.1 a.2.1 a.2.2.1 a.2.2.2.1 a.2.2.2.2.1 a.2.2.2.2.2.1 a.2.2.2.2.2.2 a.1 a.2.1 a.2.2.1 a.2.2.2.1 a.2.2.2.2.1 a.2.2.2.2.2.1 a.2.2.2.2.2.2 = some true := by
  unfold laws_eqAct
  unfold sm_Act at h
  simp [laws_eqItemS_ok a.2.2.1 h n hn]


theorem laws_szAct_ok (a : Int × Int × (List (Int × Int)) × Int × Int × Int × Int) (hf : (fP fI (fP fI (fP (fSl (fP fI fI)) (fP fI (fP fI (fP fI fI)))))) a) (left : Int) (h0 : 0 ≤ left) (h1 : left ≤ 1048576) : ∃ r, laws_szAct a.1 a.2.1 a.2.2.1 a.2.2.2.1 a.2.2.2.2.1 a.2.2.2.2.2.1 a.2.2.2.2.2.2 left = some r ∧ (r < 0 ∨ (0 ≤ r ∧ r ≤ left ∧ sm_Act a)) := by
  unfold laws_szAct sm_Act
  obtain ⟨r0, e0, q0⟩ := laws_szItemS_ok a.2.2.1 hf.2.2.1 left h0 h1
  rw [e0]; simp only [Option.bind_some]
  rcases q0 with q0 | ⟨p0, s0, t0⟩
  · rw [show decide (r0 < 0) = true by simpa using q0]; exact ⟨_, rfl, .inl (by omega)⟩
  rw [show decide (r0 < 0) = false by simp; omega]; simp only [cond_false]
  exact ⟨_, rfl, .inr ⟨by omega, by omega, t0⟩⟩


def sm_BoolS (a : List Bool) : Prop := a.length ≤ 1048576

theorem in_eq : impl_in = spec_l1In := rfl
theorem l1In_ok (a b c : Int) : spec_l1In a b c = some (decide (b ≤ a) && decide (a ≤ c)) := by
  unfold spec_l1In
  by_cases h : a ≥ b <;> simp [h]


theorem itemsOk_eq (n : Nat) (a : List (Int × Int)) : impl_ItemsOk n a = spec_ItemsOk n a := by
  have h : impl_ItemsOk_L1 a = spec_ItemsOk_L1 a := by
    funext i
    unfold impl_ItemsOk_L1 spec_ItemsOk_L1
    rw [in_eq]
    cases decide (i < (a.length : Int)) with
    | false => rfl
    | true =>
      cases hg : getI a i with
      | none => simp [hg]
      | some x => simp [hg]
  unfold impl_ItemsOk spec_ItemsOk
  rw [h]
theorem iter_total {γ : Type} (f : Int → Option (Int ⊕ γ)) (m : Nat) (hs : ∀ i : Nat, i < m → f (i : Int) = some (.inl ((i + 1 : Nat) : Int)) ∨ ∃ r, f (i : Int) = some (.inr r)) (he : ∃ r, f (m : Int) = some (.inr r)) : ∀ n, m < n → ∃ r, iter n f 0 = some r := by
  have key : ∀ d i n, i + d = m → d < n → ∃ r, iter n f (i : Int) = some r := by
    intro d
    induction d with
    | zero =>
      intro i n hi hn
      obtain ⟨n, rfl⟩ : ∃ k, n = k + 1 := ⟨n - 1, by omega⟩
      have : i = m := by omega
      subst this
      obtain ⟨r, hr⟩ := he
      exact ⟨r, iter_end hr n⟩
    | succ d ih =>
      intro i n hi hn
      obtain ⟨n, rfl⟩ : ∃ k, n = k + 1 := ⟨n - 1, by omega⟩
      rcases hs i (by omega) with h | ⟨r, h⟩
      · rw [iter_go h n]; exact ih (i + 1) n (by omega) (by omega)
      · exact ⟨r, iter_end h n⟩
  intro n hn
  exact key m 0 n (by omega) hn
theorem itemsOk_some (n : Nat) (hn : BIG ≤ n) (a : List (Int × Int)) (ha : a.length ≤ 1048576) : ∃ b, spec_ItemsOk n a = some b := by
  obtain ⟨r, hr⟩ := iter_total (spec_ItemsOk_L1 a) a.length (fun i hi => by
    unfold spec_ItemsOk_L1
    rw [show decide ((i : Int) < (a.length : Int)) = true by simp only [decide_eq_true_eq]; omega, cond_true, getI_lt hi, w64_nat hi (by omega)]
    simp only [Option.bind_some, l1In_ok]
    by_cases h0 : i = 0
    · subst h0
      simp
      cases decide (1 ≤ (a[0]).1) <;> cases decide ((a[0]).1 ≤ 50) <;> cases decide (1 ≤ (a[0]).2) <;> cases decide ((a[0]).2 ≤ 1000) <;> simp
    · obtain ⟨j, rfl⟩ : ∃ j, i = j + 1 := ⟨i - 1, by omega⟩
      have e : w64 (((j + 1 : Nat) : Int) - 1) = (j : Int) := by rw [w64_eq (by omega) (by omega)]; omega
      rw [e, getI_lt (by omega : j < a.length)]
      simp only [Option.bind_some]
      have e2 : decide (((j + 1 : Nat) : Int) > 0) = true := by simp only [decide_eq_true_eq]; omega
      rw [e2]
      generalize (decide (1 ≤ (a[j + 1]).1) && decide ((a[j + 1]).1 ≤ 50)) = b1
      generalize (decide (1 ≤ (a[j + 1]).2) && decide ((a[j + 1]).2 ≤ 1000)) = b2
      generalize decide ((a[j]).1 ≥ (a[j + 1]).1) = b3
      cases b1 <;> cases b2 <;> cases b3 <;> simp) (by unfold spec_ItemsOk_L1; simp) n (by unfold BIG at hn; omega)
  unfold spec_ItemsOk
  rw [hr]
  cases r with
  | inl k => exact ⟨_, rfl⟩
  | inr b => exact ⟨_, rfl⟩


theorem actOk_eq (n : Nat) (hn : BIG ≤ n) (a : Int × Int × List (Int × Int) × Int × Int × Int × Int) (ha : a.2.2.1.length ≤ 1048576) : ∃ b, spec_ActOk n a.1 a.2.1 a.2.2.1 a.2.2.2.1 a.2.2.2.2.1 a.2.2.2.2.2.1 a.2.2.2.2.2.2 = some b ∧ impl_ActOk n a.1 a.2.1 a.2.2.1 a.2.2.2.1 a.2.2.2.2.1 a.2.2.2.2.2.1 a.2.2.2.2.2.2 = some b := by
  obtain ⟨k, d, l, i, p, s, m⟩ := a
  obtain ⟨b, hb⟩ := itemsOk_some n hn l ha
  dsimp only
  unfold spec_ActOk impl_ActOk impl_orderAct spec_l14Only
  simp only [in_eq, itemsOk_eq, hb, l1In_ok, Option.bind_some]
  rw [show (((l.length : Int)) == 0) = decide (l.length = 0) by rw [Bool.eq_iff_iff]; simp]
  generalize hi : (i == 0) = bi
  generalize hp : (p == 0) = bp
  generalize hs : (s == 0) = bs
  generalize hm : (m == 0) = bm
  generalize hd : (d == 0) = bd
  generalize hl : decide ((l.length : Int) > 0) = bl
  generalize hl0 : decide (l.length = 0) = bl0
  generalize (decide (0 ≤ d) && decide (d ≤ 99)) = c1
  generalize (decide (1 ≤ i) && decide (i ≤ 999999)) = c2
  generalize (decide (1 ≤ p) && decide (p ≤ 999)) = c3
  generalize (decide (1 ≤ s) && decide (s ≤ 50)) = c4
  generalize (decide (1 ≤ m) && decide (m ≤ 1000)) = c5
  generalize (decide (1 ≤ m) && decide (m ≤ 50)) = c6
  clear hi hp hs hm hd hl hl0 hb
  cases (k == 1) with
  | true => cases bi <;> cases bp <;> cases bs <;> cases bm <;> cases b <;> cases bl <;> cases c1 <;> cases bd <;> cases bl0 <;> exact ⟨_, rfl, rfl⟩
  | false =>
    cases (k == 2) with
    | true => cases bd <;> cases bl0 <;> cases bp <;> cases bs <;> cases bm <;> cases c2 <;> exact ⟨_, rfl, rfl⟩
    | false =>
      cases (k == 3) with
      | true => cases bd <;> cases bl0 <;> cases bi <;> cases c3 <;> cases c4 <;> cases c5 <;> exact ⟨_, rfl, rfl⟩
      | false =>
        cases (k == 4) with
        | true => cases bd <;> cases bl0 <;> cases bi <;> cases bp <;> cases bs <;> cases c6 <;> exact ⟨_, rfl, rfl⟩
        | false => exact ⟨_, rfl, by cases bd <;> rfl⟩


theorem digit_ok (u : Nat) (h : u < 10) : bytesOf [(IntKind.wrap .u8 (w64 (48 + (u : Int))))] = [UInt8.ofNat (48 + u)] := by
  rw [w64_eq (by omega) (by omega)]
  have : IntKind.wrap .u8 (48 + (u : Int)) = 48 + (u : Int) := by
    unfold IntKind.wrap
    simp only [IntKind.bits, IntKind.signed]
    simp
    omega
  rw [this]
  unfold bytesOf
  simp only [List.map_cons, List.map_nil, List.cons.injEq, and_true]
  congr 1
theorem digits_len (u : Nat) (h : u ≤ 9223372036854775807) : (Go.Lib.decDigits u).length ≤ 21 := by
  have := Go.Lib.itoa_length_le (u : Int) (by omega) (by omega)
  rwa [Go.Lib.itoa_nonneg] at this
theorem text_nat : ∀ (u n : Nat), u < n → u ≤ 9223372036854775807 → spec_l14Text n (u : Int) = some (Go.Lib.decDigits u) := by
  intro u
  induction u using Nat.strongRecOn with
  | _ u ih =>
    intro n hn hu
    obtain ⟨m, rfl⟩ : ∃ m, n = m + 1 := ⟨n - 1, by omega⟩
    show (bif (decide ((u : Int) < 0)) then _ else bif (decide ((u : Int) < 10)) then _ else _) = _
    rw [show decide ((u : Int) < 0) = false by simp, cond_false]
    by_cases h : u < 10
    · rw [show decide ((u : Int) < 10) = true by simp; omega, cond_true, digit_ok u h, Go.Lib.decDigits, dif_pos h]
    · rw [show decide ((u : Int) < 10) = false by simp; omega, cond_false]
      have e1 : Int.tdiv (u : Int) 10 = ((u / 10 : Nat) : Int) := by rw [Int.tdiv_eq_ediv_of_nonneg (by omega)]; omega
      have e2 : Int.tmod (u : Int) 10 = ((u % 10 : Nat) : Int) := by rw [Int.tmod_eq_emod_of_nonneg (by omega)]; omega
      rw [e1, e2, w64_eq (by omega) (by omega), ih (u / 10) (by omega) m (by omega) (by omega), digit_ok (u % 10) (by omega)]
      simp only [Option.bind_some, List.length_cons, List.length_nil]
      have := digits_len (u / 10) (by omega)
      rw [show decide ((Go.Lib.decDigits (u / 10)).length + (0 + 1) ≤ 4611686018427387904) = true by simp; omega, cond_true]
      conv => rhs; rw [Go.Lib.decDigits, dif_neg h]
def tx (x : Int) : List UInt8 := Go.Lib.decDigits x.toNat
theorem tx_len (x : Int) (h0 : 0 ≤ x) (h : x ≤ 9223372036854775807) : (tx x).length ≤ 21 := digits_len _ (by omega)
theorem text_ok (x : Int) (h0 : 0 ≤ x) (h : x ≤ 9223372036854775807) (n : Nat) (hn : BIG ≤ n) : spec_l14Text n x = some (tx x) := by
  obtain ⟨u, rfl⟩ : ∃ u : Nat, x = u := ⟨x.toNat, by omega⟩
  exact text_nat u n (by unfold BIG at hn; omega) (by omega)

theorem itoaN_ok (x : Int) (h0 : 0 ≤ x) (h : x ≤ 9223372036854775807) : itoaN x = some (tx x) := by
  unfold itoaN
  rw [show (decide (-9223372036854775808 ≤ x) && decide (x ≤ 9223372036854775807)) = true by simp; omega, cond_true]
  obtain ⟨u, rfl⟩ : ∃ u : Nat, x = u := ⟨x.toNat, by omega⟩
  rw [Go.Lib.itoa_nonneg]; rfl
theorem le_big {a b : Nat} (h : a + b ≤ 1000000000) : decide (a + b ≤ 4611686018427387904) = true := by simp; omega


def itemText (x : Int × Int) : List UInt8 := 32 :: (tx x.1 ++ 58 :: tx x.2)
def itemIn (x : Int × Int) : Prop := 1 ≤ x.1 ∧ x.1 ≤ 50 ∧ 1 ≤ x.2 ∧ x.2 ≤ 1000
theorem itemsOk_in (n : Nat) (hn : BIG ≤ n) (a : List (Int × Int)) (ha : a.length ≤ 1048576) (h : spec_ItemsOk n a = some true) : (∀ x ∈ a, itemIn x) := by
  have key : ∀ P : Nat → Bool, (∀ i : Nat, i < a.length → spec_ItemsOk_L1 a (i : Int) = some (bif P i then .inl ((i + 1 : Nat) : Int) else .inr (.inr false))) → ∀ i, i < a.length → P i = true := by
    intro P hP i hi
    have hl := all_loop (spec_ItemsOk_L1 a) (List.range a.length) P (fun i x h1 h2 => by
      have hx : x = i := by
        rw [List.getElem?_range (by simpa using h1)] at h2
        exact (Option.some.inj h2).symm
      subst hx
      exact hP _ (by simpa using h1)) (by unfold spec_ItemsOk_L1; simp) n (by unfold BIG at hn; simp; omega)
    unfold spec_ItemsOk at h
    rw [hl] at h
    cases hall : (List.range a.length).all P with
    | false => rw [hall] at h; simp at h
    | true => exact List.all_eq_true.1 hall i (by simpa using hi)
  intro x hx
  obtain ⟨i, hi, rfl⟩ := List.getElem_of_mem hx
  have := key (fun i => match a[i]? with
    | some x => (decide (1 ≤ x.1) && decide (x.1 ≤ 50)) && (decide (1 ≤ x.2) && decide (x.2 ≤ 1000)) && (match i with
      | 0 => true
      | j + 1 => match a[j]? with
        | some y => !decide (y.1 ≥ x.1)
        | none => true)
    | none => true) (fun i hi => by
    unfold spec_ItemsOk_L1
    rw [show decide ((i : Int) < (a.length : Int)) = true by simp only [decide_eq_true_eq]; omega, cond_true, getI_lt hi, w64_nat hi (by omega), List.getElem?_eq_getElem hi]
    simp only [Option.bind_some, l1In_ok]
    by_cases h0 : i = 0
    · subst h0
      simp
      cases decide (1 ≤ (a[0]).1) <;> cases decide ((a[0]).1 ≤ 50) <;> cases decide (1 ≤ (a[0]).2) <;> cases decide ((a[0]).2 ≤ 1000) <;> simp
    · obtain ⟨j, rfl⟩ : ∃ j, i = j + 1 := ⟨i - 1, by omega⟩
      have e : w64 (((j + 1 : Nat) : Int) - 1) = (j : Int) := by rw [w64_eq (by omega) (by omega)]; omega
      rw [e, getI_lt (by omega : j < a.length)]
      simp only [Option.bind_some]
      rw [List.getElem?_eq_getElem (by omega : j < a.length)]
      dsimp only
      have e2 : decide (((j + 1 : Nat) : Int) > 0) = true := by simp only [decide_eq_true_eq]; omega
      rw [e2]
      generalize (decide (1 ≤ (a[j + 1]).1) && decide ((a[j + 1]).1 ≤ 50)) = b1
      generalize (decide (1 ≤ (a[j + 1]).2) && decide ((a[j + 1]).2 ≤ 1000)) = b2
      generalize decide ((a[j]).1 ≥ (a[j + 1]).1) = b3
      cases b1 <;> cases b2 <;> cases b3 <;> simp) i hi
  rw [List.getElem?_eq_getElem hi] at this
  simp only [Bool.and_eq_true, decide_eq_true_eq] at this
  exact ⟨this.1.1.1, this.1.1.2, this.1.2.1, this.1.2.2⟩
theorem itemText_len (x : Int × Int) (h : itemIn x) : (itemText x).length ≤ 50 := by
  obtain ⟨h1, h2, h3, h4⟩ := h
  have := tx_len x.1 (by omega) (by omega)
  have := tx_len x.2 (by omega) (by omega)
  unfold itemText
  simp
  omega
theorem items_loop (L : List UInt8 × Int → Option ((List UInt8 × Int) ⊕ (List UInt8 × Int))) (a : List (Int × Int)) (ha : a.length ≤ 1048576)
    (hL : ∀ (i : Nat) (h : i < a.length) (s : List UInt8), s.length ≤ 100 + 50 * i → L (s, (i : Int)) = some (.inl (s ++ itemText a[i], ((i + 1 : Nat) : Int)))) (hin : ∀ x ∈ a, itemIn x) (hend : ∀ s, L (s, (a.length : Int)) = some (.inr (s, (a.length : Int)))) (n : Nat) (hn : BIG ≤ n) (s : List UInt8) (hs : s.length ≤ 100) :
    iter n L (s, 0) = some (s ++ a.flatMap itemText, (a.length : Int)) := by
  have := iter_rec (σ := List UInt8) L (fun i s => (s, (i : Int))) a (fun l s => (s ++ l.flatMap itemText, (a.length : Int))) (fun i s => s.length ≤ 100 + 50 * i)
    (fun s hs => by rw [hend s]; simp) (fun i x l s h1 h2 h3 h4 h5 => by
      left
      have hx : a[i] = x := by rw [List.getElem?_eq_getElem h1] at h2; exact Option.some.inj h2
      refine ⟨s ++ itemText a[i], hL i h1 s h5, ?_, ?_⟩
      · have := itemText_len a[i] (hin _ (List.getElem_mem h1))
        rw [List.length_append]; omega
      · rw [hx]; simp) n (by unfold BIG at hn; omega) s (by simpa using hs)
  simpa using this
theorem items_len : ∀ (a : List (Int × Int)), (∀ x ∈ a, itemIn x) → (a.flatMap itemText).length ≤ 50 * a.length
  | [], _ => by simp
  | x :: a, h => by
    have h1 := itemText_len x (h x List.mem_cons_self)
    have h2 := items_len a (fun y hy => h y (List.mem_cons_of_mem _ hy))
    rw [List.flatMap_cons, List.length_append, List.length_cons]
    omega


theorem actOk_in (n : Nat) (k d : Int) (l : List (Int × Int)) (i p s m : Int) (h : spec_ActOk n k d l i p s m = some true) (hb : ∃ b, spec_ItemsOk n l = some b) :
    (k == 1) = true ∧ (0 ≤ d ∧ d ≤ 99) ∧ spec_ItemsOk n l = some true ∨ (k == 1) = false ∧ (k == 2) = true ∧ (1 ≤ i ∧ i ≤ 999999) ∨
    (k == 1) = false ∧ (k == 2) = false ∧ (k == 3) = true ∧ (1 ≤ p ∧ p ≤ 999) ∧ (1 ≤ s ∧ s ≤ 50) ∧ (1 ≤ m ∧ m ≤ 1000) ∨ (k == 1) = false ∧ (k == 2) = false ∧ (k == 3) = false ∧ (1 ≤ m ∧ m ≤ 50) := by
  obtain ⟨b, hb⟩ := hb
  unfold spec_ActOk spec_l14Only at h
  simp only [hb, l1In_ok, Option.bind_some] at h
  rw [hb]
  have two : ∀ {x y z : Int}, (decide (x ≤ y) && decide (y ≤ z)) = true → x ≤ y ∧ y ≤ z := fun h => by simpa using h
  generalize hi : (i == 0) = bi at h
  generalize hp : (p == 0) = bp at h
  generalize hs : (s == 0) = bs at h
  generalize hm : (m == 0) = bm at h
  generalize hd : (d == 0) = bd at h
  generalize hl : decide ((l.length : Int) > 0) = bl at h
  generalize hl0 : ((l.length : Int) == 0) = bl0 at h
  generalize g1 : (decide (0 ≤ d) && decide (d ≤ 99)) = c1 at h
  generalize g2 : (decide (1 ≤ i) && decide (i ≤ 999999)) = c2 at h
  generalize g3 : (decide (1 ≤ p) && decide (p ≤ 999)) = c3 at h
  generalize g4 : (decide (1 ≤ s) && decide (s ≤ 50)) = c4 at h
  generalize g5 : (decide (1 ≤ m) && decide (m ≤ 1000)) = c5 at h
  generalize g6 : (decide (1 ≤ m) && decide (m ≤ 50)) = c6 at h
  cases h1 : (k == 1) with
  | true =>
    rw [h1] at h
    left
    have : b = true ∧ c1 = true := by
      clear g1 g2 g3 g4 g5 g6 hi hp hs hm hd hl hl0 hb h1
      revert h
      cases bi <;> cases bp <;> cases bs <;> cases bm <;> cases b <;> cases bl <;> cases c1 <;> intro h <;> first | exact ⟨rfl, rfl⟩ | (cases h)
    rw [this.2] at g1
    exact ⟨rfl, two g1, by rw [this.1]⟩
  | false =>
    rw [h1] at h
    right
    cases h2 : (k == 2) with
    | true =>
      rw [h2] at h
      left
      have : c2 = true := by
        clear g1 g2 g3 g4 g5 g6 hi hp hs hm hd hl hl0 hb h1 h2
        revert h
        cases bd <;> cases bl0 <;> cases bp <;> cases bs <;> cases bm <;> cases c2 <;> intro h <;> first | rfl | (cases h)
      rw [this] at g2
      exact ⟨rfl, rfl, two g2⟩
    | false =>
      rw [h2] at h
      right
      cases h3 : (k == 3) with
      | true =>
        rw [h3] at h
        left
        have : c3 = true ∧ c4 = true ∧ c5 = true := by
          clear g1 g2 g3 g4 g5 g6 hi hp hs hm hd hl hl0 hb h1 h2 h3
          revert h
          cases bd <;> cases bl0 <;> cases bi <;> cases c3 <;> cases c4 <;> cases c5 <;> intro h <;> first | exact ⟨rfl, rfl, rfl⟩ | (cases h)
        rw [this.1] at g3; rw [this.2.1] at g4; rw [this.2.2] at g5
        exact ⟨rfl, rfl, rfl, two g3, two g4, two g5⟩
      | false =>
        rw [h3] at h
        right
        have : c6 = true := by
          clear g1 g2 g3 g4 g5 g6 hi hp hs hm hd hl hl0 hb h1 h2 h3
          revert h
          cases (k == 4) <;> cases bd <;> cases bl0 <;> cases bi <;> cases bp <;> cases bs <;> cases c6 <;> intro h <;> first | rfl | (cases h)
        rw [this] at g6
        exact ⟨rfl, rfl, rfl, two g6⟩


theorem actText_eq (n : Nat) (hn : BIG ≤ n) (a : Int × Int × List (Int × Int) × Int × Int × Int × Int) (ha : a.2.2.1.length ≤ 1048576) :
    ∃ t, spec_ActText n a.1 a.2.1 a.2.2.1 a.2.2.2.1 a.2.2.2.2.1 a.2.2.2.2.2.1 a.2.2.2.2.2.2 = some t ∧ impl_ActText n a.1 a.2.1 a.2.2.1 a.2.2.2.1 a.2.2.2.2.1 a.2.2.2.2.2.1 a.2.2.2.2.2.2 = some t ∧ t.length ≤ 100000000 := by
  obtain ⟨b, h1, h2⟩ := actOk_eq n hn a ha
  obtain ⟨k, d, l, i, p, s, m⟩ := a
  dsimp only at ha h1 h2 ⊢
  unfold spec_ActText impl_ActText
  rw [h1, h2]
  simp only [Option.bind_some]
  cases b with
  | false => exact ⟨[], rfl, rfl, by simp⟩
  | true =>
    simp only [Bool.not_true, cond_false]
    rcases actOk_in n k d l i p s m h1 (itemsOk_some n hn l ha) with ⟨k1, hd, hI⟩ | ⟨k1, k2, hi⟩ | ⟨k1, k2, k3, hp, hs, hm⟩ | ⟨k1, k2, k3, hm⟩
    · simp only [k1, cond_true]
      have hin := itemsOk_in n hn l ha hI
      have ld := tx_len d (by omega) (by omega)
      rw [text_ok d (by omega) (by omega) n hn, itoaN_ok d (by omega) (by omega)]
      simp only [Option.bind_some]
      rw [le_big (by simp; omega)]
      simp only [cond_true]
      have one := fun L hL he => items_loop L l ha hL hin he n hn ([111, 114, 100, 101, 114, 32] ++ tx d) (by simp; omega)
      rw [one (spec_ActText_L1 n l) (fun j hj st hst => by
        obtain ⟨q1, q2, q3, q4⟩ := hin _ (List.getElem_mem hj)
        have l1 := tx_len (l[j]).1 (by omega) (by omega)
        have l2 := tx_len (l[j]).2 (by omega) (by omega)
        unfold spec_ActText_L1
        dsimp only
        rw [show decide ((j : Int) < (l.length : Int)) = true by simp only [decide_eq_true_eq]; omega, cond_true, getI_lt hj, w64_nat hj (by omega)]
        simp only [Option.bind_some]
        rw [text_ok _ (by omega) (by omega) n hn, text_ok _ (by omega) (by omega) n hn]
        simp only [Option.bind_some]
        rw [le_big (by simp; omega), le_big (by simp; omega), le_big (by simp; omega), le_big (by simp; omega)]
        simp only [cond_true, itemText]
        simp) (fun st => by unfold spec_ActText_L1; simp),
        one (impl_ActText_L1 l) (fun j hj st hst => by
        obtain ⟨q1, q2, q3, q4⟩ := hin _ (List.getElem_mem hj)
        have l1 := tx_len (l[j]).1 (by omega) (by omega)
        have l2 := tx_len (l[j]).2 (by omega) (by omega)
        unfold impl_ActText_L1
        dsimp only
        rw [show decide ((j : Int) < (l.length : Int)) = true by simp only [decide_eq_true_eq]; omega, cond_true, getI_lt hj, w64_nat hj (by omega)]
        simp only [Option.bind_some]
        rw [itoaN_ok _ (by omega) (by omega), itoaN_ok _ (by omega) (by omega)]
        simp only [Option.bind_some]
        rw [le_big (by simp; omega), le_big (by simp; omega), le_big (by simp; omega), le_big (by simp; omega)]
        simp only [cond_true, itemText]
        simp) (fun st => by unfold impl_ActText_L1; simp)]
      have := items_len l hin
      exact ⟨_, rfl, rfl, by simp only [List.length_append, List.length_cons, List.length_nil]; omega⟩
    · simp only [k1, k2, cond_true, cond_false]
      have li := tx_len i (by omega) (by omega)
      rw [text_ok i (by omega) (by omega) n hn, itoaN_ok i (by omega) (by omega)]
      simp only [Option.bind_some]
      rw [le_big (by simp; omega)]
      exact ⟨_, rfl, rfl, by simp; omega⟩
    · simp only [k1, k2, k3, cond_true, cond_false]
      have l1 := tx_len p (by omega) (by omega)
      have l2 := tx_len s (by omega) (by omega)
      have l3 := tx_len m (by omega) (by omega)
      rw [text_ok p (by omega) (by omega) n hn, text_ok s (by omega) (by omega) n hn, text_ok m (by omega) (by omega) n hn, itoaN_ok p (by omega) (by omega), itoaN_ok s (by omega) (by omega), itoaN_ok m (by omega) (by omega)]
      simp only [Option.bind_some]
      rw [le_big (by simp; omega), le_big (by simp; omega), le_big (by simp; omega), le_big (by simp; omega), le_big (by simp; omega)]
      exact ⟨_, rfl, rfl, by simp; omega⟩
    · simp only [k1, k2, k3, cond_true, cond_false]
      have l3 := tx_len m (by omega) (by omega)
      rw [text_ok m (by omega) (by omega) n hn, itoaN_ok m (by omega) (by omega)]
      simp only [Option.bind_some]
      rw [le_big (by simp; omega)]
      exact ⟨_, rfl, rfl, by simp; omega⟩


theorem checkOf_ok (t : List UInt8) (ht : t.length ≤ 100000000) (n : Nat) (hn : BIG ≤ n) : ∃ c : Nat, c < 9973 ∧ spec_CheckOf n t = some (c : Int) ∧ impl_CheckOf n t = some (c : Int) := by
  have hL : impl_CheckOf_L1 t = spec_CheckOf_L1 t := by
    funext x
    unfold impl_CheckOf_L1 spec_CheckOf_L1
    rw [Int.mul_comm]
  have hl := iter_rec (σ := Nat) (spec_CheckOf_L1 t) (fun i s => ((s : Int), (i : Int))) t (fun l s => (((l.foldl (fun (s : Nat) (x : UInt8) => (s * 31 + x.toNat) % 9973) s : Nat) : Int), (t.length : Int))) (fun i s => s < 9973)
    (fun s hs => by unfold spec_CheckOf_L1; simp) (fun i x l s h1 h2 h3 h4 h5 => by
      left
      refine ⟨(s * 31 + x.toNat) % 9973, ?_, Nat.mod_lt _ (by decide), rfl⟩
      unfold spec_CheckOf_L1
      dsimp only
      have hx : x.toNat < 256 := x.toNat_lt
      rw [show decide ((i : Int) < (t.length : Int)) = true by simp only [decide_eq_true_eq]; omega, cond_true, getI_nat, h2, w64_nat h1 (by omega)]
      simp only [Option.bind_some]
      rw [w64_eq (n := (s : Int) * 31) (by omega) (by omega), w64_eq (n := (x.toNat : Int)) (by omega) (by omega), w64_eq (n := (s : Int) * 31 + (x.toNat : Int)) (by omega) (by omega), Int.tmod_eq_emod_of_nonneg (by omega)]
      rfl) n (by unfold BIG at hn; omega) 0 (by omega)
  have hr : ∀ (l : List UInt8) (s : Nat), s < 9973 → l.foldl (fun (s : Nat) (x : UInt8) => (s * 31 + x.toNat) % 9973) s < 9973 := by
    intro l
    induction l with
    | nil => intro s h; exact h
    | cons x l ih => intro s h; exact ih _ (Nat.mod_lt _ (by decide))
  refine ⟨_, hr t 0 (by omega), ?_, ?_⟩
  · unfold spec_CheckOf
    have hl' : iter n (spec_CheckOf_L1 t) (0, 0) = _ := hl
    rw [hl']; rfl
  · unfold impl_CheckOf
    rw [hL]
    have hl' : iter n (spec_CheckOf_L1 t) (0, 0) = _ := hl
    rw [hl']; rfl


theorem tx_digit (u : Nat) (h : u < 10) : tx (u : Int) = [UInt8.ofNat (48 + u)] := by
  unfold tx
  rw [Int.toNat_natCast, Go.Lib.decDigits_one h]
theorem four (c : Nat) (h : c < 10000) : (Go.Lib.decDigits c).length ≤ 4 ∧ 1 ≤ (Go.Lib.decDigits c).length ∧ sub (([48, 48, 48] : List UInt8) ++ Go.Lib.decDigits c) ((Go.Lib.decDigits c).length - 1) (3 + (Go.Lib.decDigits c).length) = [UInt8.ofNat (48 + c / 1000), UInt8.ofNat (48 + c / 100 % 10), UInt8.ofNat (48 + c / 10 % 10), UInt8.ofNat (48 + c % 10)] := by
  have z : (48 : UInt8) = UInt8.ofNat (48 + 0) := rfl
  by_cases h1 : c < 10
  · rw [Go.Lib.decDigits_one h1]
    refine ⟨by simp, by simp, ?_⟩
    rw [show c / 1000 = 0 by omega, show c / 100 % 10 = 0 by omega, show c / 10 % 10 = 0 by omega, show c % 10 = c by omega]
    rfl
  by_cases h2 : c < 100
  · rw [Go.Lib.decDigits_two h1 h2]
    refine ⟨by simp, by simp, ?_⟩
    rw [show c / 1000 = 0 by omega, show c / 100 % 10 = 0 by omega, show c / 10 % 10 = c / 10 by omega]
    rfl
  by_cases h3 : c < 1000
  · rw [Go.Lib.decDigits, dif_neg h1, Go.Lib.decDigits_two (by omega) (by omega)]
    refine ⟨by simp, by simp, ?_⟩
    rw [show c / 1000 = 0 by omega, show c / 100 % 10 = c / 10 / 10 by omega, show c / 10 % 10 = c / 10 % 10 by omega]
    rfl
  · rw [Go.Lib.decDigits, dif_neg h1, Go.Lib.decDigits, dif_neg (by omega), Go.Lib.decDigits_two (by omega) (by omega)]
    refine ⟨by simp, by simp, ?_⟩
    rw [show c / 1000 = c / 10 / 10 / 10 by omega, show c / 100 % 10 = c / 10 / 10 % 10 by omega]
    rfl


theorem record_eq (n : Nat) (hn : BIG ≤ n) (a : Int × Int × List (Int × Int) × Int × Int × Int × Int) (ha : a.2.2.1.length ≤ 1048576) :
    ∃ t, spec_Record n a.1 a.2.1 a.2.2.1 a.2.2.2.1 a.2.2.2.2.1 a.2.2.2.2.2.1 a.2.2.2.2.2.2 = some t ∧ impl_Record n a.1 a.2.1 a.2.2.1 a.2.2.2.1 a.2.2.2.2.1 a.2.2.2.2.2.1 a.2.2.2.2.2.2 = some t := by
  obtain ⟨t, h1, h2, h3⟩ := actText_eq n hn a ha
  unfold spec_Record impl_Record
  rw [h1, h2]
  simp only [Option.bind_some]
  cases hb : (t == ([] : List UInt8)) with
  | true => exact ⟨[], rfl, rfl⟩
  | false =>
    simp only [cond_false]
    obtain ⟨c, hc, c1, c2⟩ := checkOf_ok t h3 n hn
    rw [c1, c2]
    simp only [Option.bind_some]
    have f := four c (by omega)
    obtain ⟨f1, f2, f3⟩ := f
    have e1 : Int.tdiv (c : Int) 1000 = ((c / 1000 : Nat) : Int) := by rw [Int.tdiv_eq_ediv_of_nonneg (by omega)]; omega
    have e2 : Int.tdiv (c : Int) 100 = ((c / 100 : Nat) : Int) := by rw [Int.tdiv_eq_ediv_of_nonneg (by omega)]; omega
    have e3 : Int.tdiv (c : Int) 10 = ((c / 10 : Nat) : Int) := by rw [Int.tdiv_eq_ediv_of_nonneg (by omega)]; omega
    have w1 := w64_eq (n := ((c / 1000 : Nat) : Int)) (by omega) (by omega)
    have w2 := w64_eq (n := ((c / 100 : Nat) : Int)) (by omega) (by omega)
    have w3 := w64_eq (n := ((c / 10 : Nat) : Int)) (by omega) (by omega)
    have m2 : Int.tmod ((c / 100 : Nat) : Int) 10 = ((c / 100 % 10 : Nat) : Int) := by rw [Int.tmod_eq_emod_of_nonneg (by omega)]; omega
    have m3 : Int.tmod ((c / 10 : Nat) : Int) 10 = ((c / 10 % 10 : Nat) : Int) := by rw [Int.tmod_eq_emod_of_nonneg (by omega)]; omega
    have m4 : Int.tmod (c : Int) 10 = ((c % 10 : Nat) : Int) := by rw [Int.tmod_eq_emod_of_nonneg (by omega)]; omega
    rw [e1, e2, e3, w1, w2, w3, m2, m3, m4, text_ok _ (by omega) (by omega) n hn, text_ok _ (by omega) (by omega) n hn, text_ok _ (by omega) (by omega) n hn, text_ok _ (by omega) (by omega) n hn, itoaN_ok _ (by omega) (by omega)]
    simp only [Option.bind_some]
    rw [tx_digit _ (by omega), tx_digit _ (by omega), tx_digit _ (by omega), tx_digit _ (by omega)]
    have hx : tx (c : Int) = Go.Lib.decDigits c := rfl
    rw [hx]
    generalize hD : Go.Lib.decDigits c = D at f1 f2 f3 ⊢
    have hlen : (([48, 48, 48] : List UInt8) ++ D).length = 3 + D.length := by simp; omega
    rw [hlen]
    rw [w64_eq (n := ((3 + D.length : Nat) : Int) - 4) (by omega) (by omega)]
    rw [show (decide (0 ≤ ((3 + D.length : Nat) : Int) - 4) && decide (((3 + D.length : Nat) : Int) - 4 ≤ ((3 + D.length : Nat) : Int)) && decide (((3 + D.length : Nat) : Int) ≤ ((3 + D.length : Nat) : Int))) = true by simp; omega]
    rw [show Int.toNat (((3 + D.length : Nat) : Int) - 4) = D.length - 1 by omega, show Int.toNat ((3 + D.length : Nat) : Int) = 3 + D.length by omega, f3]
    refine ⟨t ++ [42] ++ [UInt8.ofNat (48 + c / 1000), UInt8.ofNat (48 + c / 100 % 10), UInt8.ofNat (48 + c / 10 % 10), UInt8.ofNat (48 + c % 10)] ++ [10], ?_, ?_⟩
    · rw [le_big (by simp; omega), le_big (by simp; omega), le_big (by simp; omega), le_big (by simp; omega), le_big (by simp; omega), le_big (by simp; omega)]
      simp
    · rw [le_big (by simp; omega), le_big (by simp; omega), le_big (by simp; omega), le_big (by simp; omega)]
      simp


theorem laws_FnExactRecord_pure (k d : Int) (l : List (Int × Int)) (i p s m : Int) (h : (fP fI (fP fI (fP (fSl (fP fI fI)) (fP fI (fP fI (fP fI fI)))))) (k, d, l, i, p, s, m)) : ∃ n, laws_FnExactRecord n k d l i p s m = some true := by
  refine ⟨BIG, ?_⟩
  have hB : BIG ≤ BIG := Nat.le_refl _
  unfold laws_FnExactRecord
  obtain ⟨r, e, q⟩ := laws_szAct_ok (k, d, l, i, p, s, m) h 1048576 (by omega) (by omega)
  dsimp only at e q
  rw [e]; simp only [Option.bind_some]
  rcases q with q | ⟨q1, q2, q3⟩
  · rw [show decide (r < 0) = true by simpa using q]; rfl
  rw [show decide (r < 0) = false by simp; omega]; simp only [cond_false]
  have hto := laws_toAct_ok (k, d, l, i, p, s, m) q3 BIG hB
  have heq := laws_eqAct_ok (k, d, l, i, p, s, m) q3 BIG hB
  obtain ⟨t, h1, h2⟩ := record_eq BIG hB (k, d, l, i, p, s, m) q3
  dsimp only at hto heq h1 h2
  simp [hto, heq, h1, h2]

end Go.Ev.N
