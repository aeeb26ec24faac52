/- FnExactDrive, as a plain law over native forms: what the program's function answers is what the reference's answers. Conditions: none but the lengths' and numbers' bounds. -/
import Derived.Test.YtpanenmecamlnaaFnExactDriveNat
namespace Go.Ev.N
open Go Go.Ev
set_option linter.unusedVariables false
set_option linter.unusedSimpArgs false

theorem w64_eq {n : Int} (h1 : -9223372036854775808 ≤ n) (h2 : n ≤ 9223372036854775807) : w64 n = n := by
  unfold w64 IntKind.wrap
  simp only [IntKind.bits, IntKind.signed]
  simp
  split <;> omega
theorem w64_up {i : Int} {m : Nat} (h0 : 0 ≤ i) (h : i < (m : Int)) (hm : m ≤ 9223372036854775807) : w64 (i + 1) = i + 1 := w64_eq (by omega) (by omega)
theorem w64_nat {i m : Nat} (h : i < m) (hm : m ≤ 9223372036854775807) : w64 ((i : Int) + 1) = ((i + 1 : Nat) : Int) := by rw [w64_eq (by omega) (by omega)]; omega

theorem getI_nat {α : Type} (xs : List α) (i : Nat) : getI xs (i : Int) = xs[i]? := by
  unfold getI
  rw [if_pos (by omega)]
  simp
theorem getI_lt {α : Type} {xs : List α} {i : Nat} (h : i < xs.length) : getI xs (i : Int) = some xs[i] := by rw [getI_nat]; exact List.getElem?_eq_getElem h
theorem inb_nat {α : Type} (xs : List α) (i : Nat) : inb xs (i : Int) = decide (i < xs.length) := by
  unfold inb
  have : decide (0 ≤ (i : Int)) = true := by simp
  rw [this, Bool.true_and]
  simp
theorem inb_lt {α : Type} {xs : List α} {i : Nat} (h : i < xs.length) : inb xs (i : Int) = true := by rw [inb_nat]; simpa using h
theorem upd_is {α : Type} (l : List α) (n : Nat) (y : α) : upd l n y = l.set n y := upd_set l n y

/-! ### what comes in -/
def fI (x : Int) : Prop := IntKind.min .i64 ≤ x ∧ x ≤ IntKind.max .i64
def fB (_ : Bool) : Prop := True
def fStr (x : List UInt8) : Prop := List.length x ≤ maxLen
def fSl {α : Type} (p : α → Prop) (x : List α) : Prop := List.length x ≤ maxLen ∧ ∀ y, List.Mem y x → p y
def fP {α β : Type} (p : α → Prop) (q : β → Prop) (x : α × β) : Prop := p x.1 ∧ q x.2
theorem fI_b {x : Int} (h : fI x) : -9223372036854775808 ≤ x ∧ x ≤ 9223372036854775807 := by
  unfold fI IntKind.min IntKind.max at h
  simpa [IntKind.bits, IntKind.signed] using h
theorem fSl_len {α : Type} {p : α → Prop} {x : List α} (h : fSl p x) : x.length ≤ 9223372036854775807 := h.1
theorem fSl_mem {α : Type} {p : α → Prop} {x : List α} (h : fSl p x) {y : α} (hy : y ∈ x) : p y := h.2 y hy

/-! ### loops -/

section
variable {α γ σ β : Type}
theorem iter_go {f : α → Option (α ⊕ γ)} {x y : α} (h : f x = some (.inl y)) (n : Nat) : iter (n + 1) f x = iter n f y := by simp [iter, h]
theorem iter_end {f : α → Option (α ⊕ γ)} {x : α} {z : γ} (h : f x = some (.inr z)) (n : Nat) : iter (n + 1) f x = some z := by simp [iter, h]

/-- A loop that goes so many rounds. -/
theorem iter_steps (f : α → Option (α ⊕ γ)) (st : Nat → α) (m : Nat) (r : γ) (hs : ∀ i, i < m → f (st i) = some (.inl (st (i + 1)))) (he : f (st m) = some (.inr r)) : ∀ n, m < n → iter n f (st 0) = some r := by
  have key : ∀ d i n, i + d = m → d < n → iter n f (st i) = some r := by
    intro d
    induction d with
    | zero =>
      intro i n hi hn
      obtain ⟨n, rfl⟩ : ∃ k, n = k + 1 := ⟨n - 1, by omega⟩
      have : i = m := by omega
      subst this
      exact iter_end he n
    | succ d ih =>
      intro i n hi hn
      obtain ⟨n, rfl⟩ : ∃ k, n = k + 1 := ⟨n - 1, by omega⟩
      rw [iter_go (hs i (by omega)) n]
      exact ih (i + 1) n (by omega) (by omega)
  exact fun n hn => key m 0 n (by omega) hn

/-- A loop over a list, with a state: what it answers is told by recursion on what is left. -/
theorem iter_rec (f : α → Option (α ⊕ γ)) (st : Nat → σ → α) (xs : List β) (G : List β → σ → γ) (Inv : Nat → σ → Prop)
    (hend : ∀ s, Inv xs.length s → f (st xs.length s) = some (.inr (G [] s)))
    (hstep : ∀ i x l s, i < xs.length → xs[i]? = some x → xs.drop i = x :: l → xs.drop (i + 1) = l → Inv i s → (∃ s', f (st i s) = some (.inl (st (i + 1) s')) ∧ Inv (i + 1) s' ∧ G (x :: l) s = G l s') ∨ f (st i s) = some (.inr (G (x :: l) s))) :
    ∀ n, xs.length < n → ∀ s, Inv 0 s → iter n f (st 0 s) = some (G xs s) := by
  have key : ∀ d i n s, i + d = xs.length → d < n → Inv i s → iter n f (st i s) = some (G (xs.drop i) s) := by
    intro d
    induction d with
    | zero =>
      intro i n s hi hn hI
      obtain ⟨n, rfl⟩ : ∃ k, n = k + 1 := ⟨n - 1, by omega⟩
      have : i = xs.length := by omega
      subst this
      rw [iter_end (hend s hI) n, List.drop_length]
    | succ d ih =>
      intro i n s hi hn hI
      obtain ⟨n, rfl⟩ : ∃ k, n = k + 1 := ⟨n - 1, by omega⟩
      have hlt : i < xs.length := by omega
      have hd : xs.drop i = xs[i] :: xs.drop (i + 1) := List.drop_eq_getElem_cons hlt
      rcases hstep i xs[i] (xs.drop (i + 1)) s hlt (List.getElem?_eq_getElem hlt) hd rfl hI with ⟨s', h1, h2, h3⟩ | h1
      · rw [iter_go h1 n, ih (i + 1) n s' (by omega) (by omega) h2, hd, h3]
      · rw [iter_end h1 n, hd]
  intro n hn s hI
  have := key xs.length 0 n s (by omega) hn hI
  simpa using this
/-- The same where the state is the number of the round alone. -/
theorem iter_list (f : Int → Option (Int ⊕ γ)) (xs : List β) (G : List β → List β → γ) (hend : f (xs.length : Int) = some (.inr (G xs [])))
    (hstep : ∀ i x l p, i < xs.length → xs[i]? = some x → xs = p ++ x :: l → p.length = i → p = xs.take i → (f (i : Int) = some (.inl ((i + 1 : Nat) : Int)) ∧ G p (x :: l) = G (p ++ [x]) l) ∨ f (i : Int) = some (.inr (G p (x :: l)))) :
    ∀ n, xs.length < n → iter n f 0 = some (G [] xs) := by
  intro n hn
  refine iter_rec (σ := List β) f (fun i _ => (i : Int)) xs (fun l p => G p l) (fun i p => p = xs.take i) (fun s hs => ?_) (fun i x l s h1 h2 h3 h4 h5 => ?_) n hn [] (by simp)
  · have : s = xs := by rw [hs]; simp
    rw [this]; exact hend
  · have hlen : s.length = i := by rw [h5]; simp; omega
    have hx : xs = s ++ x :: l := by rw [← h3, h5, List.take_append_drop]
    rcases hstep i x l s h1 h2 hx hlen h5 with ⟨q1, q2⟩ | q1
    · refine .inl ⟨s ++ [x], q1, ?_, q2⟩
      have hxi : x = xs[i] := by rw [List.getElem?_eq_getElem h1] at h2; exact (Option.some.inj h2).symm
      rw [h5, List.take_succ_eq_append_getElem h1, hxi]
    · exact .inr q1
end

/-- A loop that asks the same of each element. -/
theorem all_loop {β : Type} (f : Int → Option (Int ⊕ (Int ⊕ Bool))) (xs : List β) (P : β → Bool) (hs : ∀ (i : Nat) (x : β), i < xs.length → xs[i]? = some x → f (i : Int) = some (bif P x then .inl ((i + 1 : Nat) : Int) else .inr (.inr false)))
    (he : f (xs.length : Int) = some (.inr (.inl (xs.length : Int)))) : ∀ n, xs.length < n → iter n f 0 = some (bif xs.all P then .inl (xs.length : Int) else .inr false) := by
  intro n hn
  refine iter_list f xs (fun p l => bif l.all P then .inl (xs.length : Int) else .inr false) ?_ ?_ n hn
  · rw [he]; simp
  · intro i x l p h1 h2 h3 h4 h5
    rw [hs i x h1 h2]
    cases hp : P x with
    | true => exact .inl ⟨by simp, by simp [hp]⟩
    | false => exact .inr (by simp [hp])

/-! ### conditions that stand as ways -/
theorem or1 (b c : Bool) : (bif b then some true else some c) = some (b || c) := by cases b <;> rfl
theorem and1 (b c : Bool) : (bif b then some c else some false) = some (b && c) := by cases b <;> rfl
theorem andn (b c : Bool) : (bif b then some false else some c) = some (!b && c) := by cases b <;> rfl
theorem orn (b c : Bool) : (bif b then some c else some true) = some (!b || c) := by cases b <;> rfl
theorem cond_some {α : Type} (b : Bool) (x y : α) : (bif b then some x else some y) = some (bif b then x else y) := by cases b <;> rfl

/-! ### copies -/

/-- A loop that copies. -/
theorem copy_ok {β : Type} (L : Int × List β → Option ((Int × List β) ⊕ (Int × List β))) (xs : List β) (z : β)
    (hL : ∀ (i : Nat) (h : i < xs.length) (out : List β), out.length = xs.length → L ((i : Int), out) = some (.inl (((i + 1 : Nat) : Int), out.set i xs[i]))) (hend : ∀ out, L ((xs.length : Int), out) = some (.inr ((xs.length : Int), out))) :
    ∀ n, xs.length < n → iter n L (0, List.replicate xs.length z) = some ((xs.length : Int), xs) := by
  intro n hn
  have := iter_rec (σ := List β) L (fun i s => ((i : Int), s)) xs (fun l s => ((xs.length : Int), s.take (xs.length - l.length) ++ l)) (fun i s => s.length = xs.length ∧ s.take i = xs.take i)
    (fun s hs => by
      rw [hend s, show s.take (xs.length - ([] : List β).length) ++ [] = s by simp [← hs.1]])
    (fun i x l s h1 h2 h3 h4 h5 => by
      left
      have hx : xs[i] = x := by rw [List.getElem?_eq_getElem h1] at h2; exact Option.some.inj h2
      refine ⟨s.set i xs[i], hL i h1 s h5.1, ⟨by simp [h5.1], ?_⟩, ?_⟩
      · rw [List.take_succ_eq_append_getElem h1, List.take_succ_eq_append_getElem (by simp [h5.1]; exact h1)]
        congr 1
        · rw [List.take_set_of_le (Nat.le_refl i), h5.2]
        · simp
      · have hl : l.length = xs.length - (i + 1) := by rw [← h4]; simp
        congr 1
        rw [List.length_cons, hl, show xs.length - (xs.length - (i + 1) + 1) = i by omega, show xs.length - (xs.length - (i + 1)) = i + 1 by omega]
        rw [List.take_succ_eq_append_getElem (by simp [h5.1]; exact h1), List.take_set_of_le (Nat.le_refl i)]
        simp [hx])
    n hn (List.replicate xs.length z) ⟨by simp, by simp⟩
  simpa using this

/-! ### the largest number of rounds -/
def BIG : Nat := 18446744073709551616
theorem maxLen_eq : maxLen = 9223372036854775807 := rfl

section
variable {β : Type}
open Classical in
/-- What one element becomes ('E': what is known of it). -/
noncomputable def mkOne (E : Int → β → Int → β → Prop) (k : Int) (x : β) : Int × β := if h : ∃ p : Int × β, E k x p.1 p.2 then h.choose else (k, x)
theorem mkOne_ok {E : Int → β → Int → β → Prop} {k : Int} {x : β} (h : ∃ k' x', E k x k' x') : E k x (mkOne E k x).1 (mkOne E k x).2 := by
  have h' : ∃ p : Int × β, E k x p.1 p.2 := let ⟨a, b, c⟩ := h; ⟨(a, b), c⟩
  unfold mkOne
  rw [dif_pos h']
  exact h'.choose_spec
noncomputable def mkAll (E : Int → β → Int → β → Prop) : Int → List β → Int × List β
  | k, [] => (k, [])
  | k, x :: l => ((mkAll E (mkOne E k x).1 l).1, (mkOne E k x).2 :: (mkAll E (mkOne E k x).1 l).2)
theorem mkAll_len (E : Int → β → Int → β → Prop) : ∀ (l : List β) (k : Int), (mkAll E k l).2.length = l.length
  | [], k => rfl
  | x :: l, k => by simp [mkAll, mkAll_len E l]

/-- A loop that marks a row. -/
theorem mark_only (L : Int × Int × List β → Option ((Int × Int × List β) ⊕ (Int × Int × List β))) (sm sm' : β → Prop) (c : Nat) (xs : List β) (hx : ∀ x ∈ xs, sm x) (hlen : xs.length ≤ 1048576)
    (k0 : Int) (h0 : 0 ≤ k0) (hb : k0 + (c : Int) * (xs.length : Int) ≤ 4611686018427387904)
    (hstep : ∀ (k : Int) (x : β), 0 ≤ k → k + (c : Int) ≤ 4611686018427387904 → sm x → ∃ k' x', k ≤ k' ∧ k' ≤ k + c ∧ sm' x' ∧
      (∀ (i : Nat) (ys : List β), i < ys.length → ys.length ≤ 1048576 → ys[i]? = some x → L (k, (i : Int), ys) = some (.inl (k', ((i + 1 : Nat) : Int), ys.set i x'))))
    (hL : ∀ (k : Int) (ys : List β), L (k, (ys.length : Int), ys) = some (.inr (k, (ys.length : Int), ys))) :
    ∀ n, xs.length < n → ∃ k' xs', iter n L (k0, 0, xs) = some (k', (xs.length : Int), xs') ∧ xs'.length = xs.length ∧ k0 ≤ k' ∧ k' ≤ k0 + (c : Int) * (xs.length : Int) ∧ (∀ x ∈ xs', sm' x) := by
  intro n hn
  let E : Int → β → Int → β → Prop := fun k x k' x' => k ≤ k' ∧ k' ≤ k + c ∧ sm' x' ∧
      (∀ (i : Nat) (ys : List β), i < ys.length → ys.length ≤ 1048576 → ys[i]? = some x → L (k, (i : Int), ys) = some (.inl (k', ((i + 1 : Nat) : Int), ys.set i x')))
  have hone : ∀ k x, 0 ≤ k → k + (c : Int) ≤ 4611686018427387904 → sm x → E k x (mkOne E k x).1 (mkOne E k x).2 := fun k x h1 h2 h3 => mkOne_ok (hstep k x h1 h2 h3)
  have bnd : ∀ (l : List β) (k : Int), (∀ x ∈ l, sm x) → 0 ≤ k → k + (c : Int) * (l.length : Int) ≤ 4611686018427387904 → k ≤ (mkAll E k l).1 ∧ (mkAll E k l).1 ≤ k + (c : Int) * (l.length : Int) ∧ ∀ y ∈ (mkAll E k l).2, sm' y := by
    intro l
    induction l with
    | nil => intro k _ h1 h2; simp [mkAll]
    | cons x l ih =>
      intro k hs h1 h2
      have hc : (c : Int) * ((x :: l).length : Int) = c + (c : Int) * (l.length : Int) := by simp [Int.mul_add]; omega
      rw [hc] at h2
      have hcl : 0 ≤ (c : Int) * (l.length : Int) := Int.mul_nonneg (by omega) (by omega)
      obtain ⟨e1, e2, e3, _⟩ := hone k x h1 (by omega) (hs x (by simp))
      obtain ⟨i1, i2, i3⟩ := ih (mkOne E k x).1 (fun y hy => hs y (by simp [hy])) (by omega) (by omega)
      refine ⟨?_, ?_, ?_⟩
      · show k ≤ (mkAll E (mkOne E k x).1 l).1; omega
      · show (mkAll E (mkOne E k x).1 l).1 ≤ _
        rw [hc]; omega
      · intro y hy
        rcases List.mem_cons.1 (show y ∈ (mkOne E k x).2 :: (mkAll E (mkOne E k x).1 l).2 from hy) with rfl | hy
        · exact e3
        · exact i3 y hy
  obtain ⟨b1, b2, b3⟩ := bnd xs k0 hx h0 hb
  have hdrop : ∀ i x l, xs.drop i = x :: l → sm x ∧ ∀ y ∈ l, sm y := by
    intro i x l hd
    have : ∀ y ∈ x :: l, sm y := fun y hy => hx y (List.mem_of_mem_drop (hd ▸ hy))
    exact ⟨this x (by simp), fun y hy => this y (by simp [hy])⟩
  refine ⟨(mkAll E k0 xs).1, (mkAll E k0 xs).2, ?_, mkAll_len E xs k0, b1, b2, b3⟩
  have := iter_rec (σ := Int × List β) L (fun i s => (s.1, (i : Int), s.2)) xs (fun l s => ((mkAll E s.1 l).1, (xs.length : Int), s.2.take (xs.length - l.length) ++ (mkAll E s.1 l).2))
      (fun i s => s.2.length = xs.length ∧ s.2.drop i = xs.drop i ∧ 0 ≤ s.1 ∧ s.1 + (c : Int) * ((xs.length - i : Nat) : Int) ≤ 4611686018427387904)
      (fun s hs => by
        have := hL s.1 s.2
        rw [hs.1] at this
        rw [this]
        simp [mkAll, ← hs.1])
      (fun i x l s h1 h2 h3 h4 h5 => by
        left
        obtain ⟨q1, q2, q3, q4⟩ := h5
        have hll : l.length = xs.length - (i + 1) := by rw [← h4]; simp
        have hsub : xs.length - i = (xs.length - (i + 1)) + 1 := by omega
        have hc : (c : Int) * ((xs.length - i : Nat) : Int) = c + (c : Int) * ((xs.length - (i + 1) : Nat) : Int) := by rw [hsub]; simp [Int.mul_add]; omega
        rw [hc] at q4
        have hcl : 0 ≤ (c : Int) * ((xs.length - (i + 1) : Nat) : Int) := Int.mul_nonneg (by omega) (by omega)
        obtain ⟨e1, e2, e3, e4⟩ := hone s.1 x q3 (by omega) (hdrop i x l h3).1
        have hsi : s.2[i]? = some x := by
          have := congrArg (fun l => l[0]?) (q2.trans h3)
          simpa using this
        refine ⟨((mkOne E s.1 x).1, s.2.set i (mkOne E s.1 x).2), e4 i s.2 (by omega) (by omega) hsi, ⟨by simp [q1], ?_, by omega, by omega⟩, ?_⟩
        · show (s.2.set i (mkOne E s.1 x).2).drop (i + 1) = _
          rw [List.drop_set_of_lt (by omega)]
          have := congrArg (List.drop 1) q2
          simpa using this
        · show (((mkAll E (mkOne E s.1 x).1 l).1, (xs.length : Int), s.2.take (xs.length - (l.length + 1)) ++ (mkOne E s.1 x).2 :: (mkAll E (mkOne E s.1 x).1 l).2) : Int × Int × List β) = ((mkAll E (mkOne E s.1 x).1 l).1, (xs.length : Int), (s.2.set i (mkOne E s.1 x).2).take (xs.length - l.length) ++ (mkAll E (mkOne E s.1 x).1 l).2)
          rw [hll, show xs.length - (xs.length - (i + 1) + 1) = i by omega, show xs.length - (xs.length - (i + 1)) = i + 1 by omega]
          rw [List.take_succ_eq_append_getElem (by simp [q1]; exact h1), List.take_set_of_le (Nat.le_refl i)]
          simp)
      n hn (k0, xs) ⟨rfl, rfl, h0, by simpa using hb⟩
  simpa using this

/-- A loop that marks a row, and one that reads the marks. 'c': how much an element counts at most. -/
theorem mark_loop {γ : Type} (L : Int × Int × List β → Option ((Int × Int × List β) ⊕ (Int × Int × List β))) (H : List β → Int × Int → Option ((Int × Int) ⊕ ((Int × Int) ⊕ γ))) (sm sm' : β → Prop) (c : Nat) (xs : List β) (hx : ∀ x ∈ xs, sm x) (hlen : xs.length ≤ 1048576)
    (k0 : Int) (h0 : 0 ≤ k0) (hb : k0 + (c : Int) * (xs.length : Int) ≤ 4611686018427387904)
    (hstep : ∀ (k : Int) (x : β), 0 ≤ k → k + (c : Int) ≤ 4611686018427387904 → sm x → ∃ k' x', k ≤ k' ∧ k' ≤ k + c ∧ sm' x' ∧
      (∀ (i : Nat) (ys : List β), i < ys.length → ys.length ≤ 1048576 → ys[i]? = some x → L (k, (i : Int), ys) = some (.inl (k', ((i + 1 : Nat) : Int), ys.set i x'))) ∧
      (∀ (i : Nat) (ys : List β), i < ys.length → ys.length ≤ 1048576 → ys[i]? = some x' → H ys (k, (i : Int)) = some (.inl (k', ((i + 1 : Nat) : Int)))))
    (hL : ∀ (k : Int) (ys : List β), L (k, (ys.length : Int), ys) = some (.inr (k, (ys.length : Int), ys))) (hH : ∀ (k : Int) (ys : List β), H ys (k, (ys.length : Int)) = some (.inr (.inl (k, (ys.length : Int))))) :
    ∀ n, xs.length < n → ∃ k' xs', iter n L (k0, 0, xs) = some (k', (xs.length : Int), xs') ∧ xs'.length = xs.length ∧ k0 ≤ k' ∧ k' ≤ k0 + (c : Int) * (xs.length : Int) ∧ (∀ x ∈ xs', sm' x) ∧ iter n (H xs') (k0, 0) = some (.inl (k', (xs.length : Int))) := by
  intro n hn
  let E : Int → β → Int → β → Prop := fun k x k' x' => k ≤ k' ∧ k' ≤ k + c ∧ sm' x' ∧
      (∀ (i : Nat) (ys : List β), i < ys.length → ys.length ≤ 1048576 → ys[i]? = some x → L (k, (i : Int), ys) = some (.inl (k', ((i + 1 : Nat) : Int), ys.set i x'))) ∧
      (∀ (i : Nat) (ys : List β), i < ys.length → ys.length ≤ 1048576 → ys[i]? = some x' → H ys (k, (i : Int)) = some (.inl (k', ((i + 1 : Nat) : Int))))
  have hone : ∀ k x, 0 ≤ k → k + (c : Int) ≤ 4611686018427387904 → sm x → E k x (mkOne E k x).1 (mkOne E k x).2 := fun k x h1 h2 h3 => mkOne_ok (hstep k x h1 h2 h3)
  have bnd : ∀ (l : List β) (k : Int), (∀ x ∈ l, sm x) → 0 ≤ k → k + (c : Int) * (l.length : Int) ≤ 4611686018427387904 → k ≤ (mkAll E k l).1 ∧ (mkAll E k l).1 ≤ k + (c : Int) * (l.length : Int) ∧ ∀ y ∈ (mkAll E k l).2, sm' y := by
    intro l
    induction l with
    | nil => intro k _ h1 h2; simp [mkAll]
    | cons x l ih =>
      intro k hs h1 h2
      have hc : (c : Int) * ((x :: l).length : Int) = c + (c : Int) * (l.length : Int) := by simp [Int.mul_add]; omega
      rw [hc] at h2
      have hcl : 0 ≤ (c : Int) * (l.length : Int) := Int.mul_nonneg (by omega) (by omega)
      obtain ⟨e1, e2, e3, _, _⟩ := hone k x h1 (by omega) (hs x (by simp))
      obtain ⟨i1, i2, i3⟩ := ih (mkOne E k x).1 (fun y hy => hs y (by simp [hy])) (by omega) (by omega)
      refine ⟨?_, ?_, ?_⟩
      · show k ≤ (mkAll E (mkOne E k x).1 l).1; omega
      · show (mkAll E (mkOne E k x).1 l).1 ≤ _
        rw [hc]; omega
      · intro y hy
        rcases List.mem_cons.1 (show y ∈ (mkOne E k x).2 :: (mkAll E (mkOne E k x).1 l).2 from hy) with rfl | hy
        · exact e3
        · exact i3 y hy
  obtain ⟨b1, b2, b3⟩ := bnd xs k0 hx h0 hb
  have hdrop : ∀ i x l, xs.drop i = x :: l → sm x ∧ ∀ y ∈ l, sm y := by
    intro i x l hd
    have : ∀ y ∈ x :: l, sm y := fun y hy => hx y (List.mem_of_mem_drop (hd ▸ hy))
    exact ⟨this x (by simp), fun y hy => this y (by simp [hy])⟩
  refine ⟨(mkAll E k0 xs).1, (mkAll E k0 xs).2, ?_, mkAll_len E xs k0, b1, b2, b3, ?_⟩
  · have := iter_rec (σ := Int × List β) L (fun i s => (s.1, (i : Int), s.2)) xs (fun l s => ((mkAll E s.1 l).1, (xs.length : Int), s.2.take (xs.length - l.length) ++ (mkAll E s.1 l).2))
      (fun i s => s.2.length = xs.length ∧ s.2.drop i = xs.drop i ∧ 0 ≤ s.1 ∧ s.1 + (c : Int) * ((xs.length - i : Nat) : Int) ≤ 4611686018427387904)
      (fun s hs => by
        have := hL s.1 s.2
        rw [hs.1] at this
        rw [this]
        simp [mkAll, ← hs.1])
      (fun i x l s h1 h2 h3 h4 h5 => by
        left
        obtain ⟨q1, q2, q3, q4⟩ := h5
        have hll : l.length = xs.length - (i + 1) := by rw [← h4]; simp
        have hsub : xs.length - i = (xs.length - (i + 1)) + 1 := by omega
        have hc : (c : Int) * ((xs.length - i : Nat) : Int) = c + (c : Int) * ((xs.length - (i + 1) : Nat) : Int) := by rw [hsub]; simp [Int.mul_add]; omega
        rw [hc] at q4
        have hcl : 0 ≤ (c : Int) * ((xs.length - (i + 1) : Nat) : Int) := Int.mul_nonneg (by omega) (by omega)
        obtain ⟨e1, e2, e3, e4, e5⟩ := hone s.1 x q3 (by omega) (hdrop i x l h3).1
        have hsi : s.2[i]? = some x := by
          have := congrArg (fun l => l[0]?) (q2.trans h3)
          simpa using this
        refine ⟨((mkOne E s.1 x).1, s.2.set i (mkOne E s.1 x).2), e4 i s.2 (by omega) (by omega) hsi, ⟨by simp [q1], ?_, by omega, by omega⟩, ?_⟩
        · show (s.2.set i (mkOne E s.1 x).2).drop (i + 1) = _
          rw [List.drop_set_of_lt (by omega)]
          have := congrArg (List.drop 1) q2
          simpa using this
        · show (((mkAll E (mkOne E s.1 x).1 l).1, (xs.length : Int), s.2.take (xs.length - (l.length + 1)) ++ (mkOne E s.1 x).2 :: (mkAll E (mkOne E s.1 x).1 l).2) : Int × Int × List β) = ((mkAll E (mkOne E s.1 x).1 l).1, (xs.length : Int), (s.2.set i (mkOne E s.1 x).2).take (xs.length - l.length) ++ (mkAll E (mkOne E s.1 x).1 l).2)
          rw [hll, show xs.length - (xs.length - (i + 1) + 1) = i by omega, show xs.length - (xs.length - (i + 1)) = i + 1 by omega]
          rw [List.take_succ_eq_append_getElem (by simp [q1]; exact h1), List.take_set_of_le (Nat.le_refl i)]
          simp)
      n hn (k0, xs) ⟨rfl, rfl, h0, by simpa using hb⟩
    simpa using this
  · have hxl : (mkAll E k0 xs).2.length = xs.length := mkAll_len E xs k0
    have := iter_rec (σ := Int) (H (mkAll E k0 xs).2) (fun i k => (k, (i : Int))) xs (fun l k => (.inl ((mkAll E k l).1, (xs.length : Int)) : (Int × Int) ⊕ γ))
      (fun i k => (mkAll E k0 xs).2.drop i = (mkAll E k (xs.drop i)).2 ∧ 0 ≤ k ∧ k + (c : Int) * ((xs.length - i : Nat) : Int) ≤ 4611686018427387904)
      (fun k hk => by
        have := hH k (mkAll E k0 xs).2
        rw [hxl] at this
        rw [this]; simp [mkAll])
      (fun i x l k h1 h2 h3 h4 h5 => by
        left
        obtain ⟨q2, q3, q4⟩ := h5
        have hsub : xs.length - i = (xs.length - (i + 1)) + 1 := by omega
        have hc : (c : Int) * ((xs.length - i : Nat) : Int) = c + (c : Int) * ((xs.length - (i + 1) : Nat) : Int) := by rw [hsub]; simp [Int.mul_add]; omega
        rw [hc] at q4
        have hcl : 0 ≤ (c : Int) * ((xs.length - (i + 1) : Nat) : Int) := Int.mul_nonneg (by omega) (by omega)
        obtain ⟨e1, e2, e3, e4, e5⟩ := hone k x q3 (by omega) (hdrop i x l h3).1
        rw [h3] at q2
        have q2 : (mkAll E k0 xs).2.drop i = (mkOne E k x).2 :: (mkAll E (mkOne E k x).1 l).2 := q2
        have hsi : (mkAll E k0 xs).2[i]? = some (mkOne E k x).2 := by
          have := congrArg (fun l => l[0]?) q2
          simpa using this
        refine ⟨(mkOne E k x).1, e5 i _ (by omega) (by omega) hsi, ⟨?_, by omega, by omega⟩, rfl⟩
        have := congrArg (List.drop 1) q2
        rw [h4]
        simpa using this)
      n hn k0 ⟨rfl, h0, by simpa using hb⟩
    simpa using this

/-- A loop that counts how much is left. -/
theorem sz_loop (L : Int × Int → Option ((Int × Int) ⊕ ((Int × Int) ⊕ Int))) (xs : List β) (sm : β → Prop)
    (hstep : ∀ (i : Nat) (x : β) (left : Int), i < xs.length → xs[i]? = some x → 0 ≤ left → left ≤ 1048576 → (∃ r, L (left, (i : Int)) = some (.inl (r, ((i + 1 : Nat) : Int))) ∧ 0 ≤ r ∧ r ≤ left ∧ sm x) ∨ ∃ r, L (left, (i : Int)) = some (.inr (.inr r)) ∧ r < 0)
    (hend : ∀ left, L (left, (xs.length : Int)) = some (.inr (.inl (left, (xs.length : Int))))) : ∀ n, xs.length < n → ∀ left : Int, 0 ≤ left → left ≤ 1048576 →
    (∃ r, iter n L (left, 0) = some (.inr r) ∧ r < 0) ∨ ∃ r, iter n L (left, 0) = some (.inl (r, (xs.length : Int))) ∧ 0 ≤ r ∧ r ≤ left ∧ ∀ x ∈ xs, sm x := by
  have key : ∀ d i n (left : Int), i + d = xs.length → d < n → 0 ≤ left → left ≤ 1048576 → (∃ r, iter n L (left, (i : Int)) = some (.inr r) ∧ r < 0) ∨ ∃ r, iter n L (left, (i : Int)) = some (.inl (r, (xs.length : Int))) ∧ 0 ≤ r ∧ r ≤ left ∧ ∀ x ∈ xs.drop i, sm x := by
    intro d
    induction d with
    | zero =>
      intro i n left hi hn h0 h1
      obtain ⟨n, rfl⟩ : ∃ k, n = k + 1 := ⟨n - 1, by omega⟩
      have : i = xs.length := by omega
      subst this
      exact .inr ⟨left, iter_end (hend left) n, h0, Int.le_refl _, by simp⟩
    | succ d ih =>
      intro i n left hi hn h0 h1
      obtain ⟨n, rfl⟩ : ∃ k, n = k + 1 := ⟨n - 1, by omega⟩
      have hlt : i < xs.length := by omega
      rcases hstep i xs[i] left hlt (List.getElem?_eq_getElem hlt) h0 h1 with ⟨r, e, r0, r1, hs⟩ | ⟨r, e, r0⟩
      · rw [iter_go e n]
        rcases ih (i + 1) n r (by omega) (by omega) r0 (by omega) with ⟨q, e2, q0⟩ | ⟨q, e2, q0, q1, q2⟩
        · exact .inl ⟨q, e2, q0⟩
        · refine .inr ⟨q, e2, q0, by omega, ?_⟩
          rw [List.drop_eq_getElem_cons hlt]
          intro x hx
          rcases List.mem_cons.1 hx with rfl | hx
          · exact hs
          · exact q2 x hx
      · exact .inl ⟨r, iter_end e n, r0⟩
  intro n hn left h0 h1
  have := key xs.length 0 n left (by omega) hn h0 h1
  simpa using this
end

theorem make_ok (m : Nat) (h : m ≤ 1048576) : (decide (0 ≤ (m : Int)) && decide ((m : Int) ≤ (maxRow : Int)) && decide ((m : Int) = (m : Int))) = true := by
  have hm : maxRow = 68719476736 := rfl
  have h2 : decide ((m : Int) ≤ (maxRow : Int)) = true := by rw [hm]; simp; omega
  rw [h2]; simp
theorem modify_set {α : Type} (xs : List α) (i : Nat) (f : α → α) (h : i < xs.length) : List.modify xs i f = xs.set i (f xs[i]) := by
  apply List.ext_getElem
  · simp
  · intro j h1 h2
    rw [List.getElem_modify, List.getElem_set]
    by_cases e : i = j
    · subst e; simp
    · simp [e]


def sm_ItemS (a : List (Int × Int)) : Prop := a.length ≤ 1048576

def sm_PickS (a : List (Int × Int × Int)) : Prop := a.length ≤ 1048576

def sm_Order (a : Int × Int × (List (Int × Int)) × (List (Int × Int × Int)) × Int) : Prop := sm_ItemS a.2.2.1 ∧ sm_PickS a.2.2.2.1

def sm_OrderS (a : List (Int × Int × (List (Int × Int)) × (List (Int × Int × Int)) × Int)) : Prop := a.length ≤ 1048576 ∧ ∀ y ∈ a, sm_Order y

def sm_Book (a : Int × (List (Int × Int × (List (Int × Int)) × (List (Int × Int × Int)) × Int))) : Prop := sm_OrderS a.2

def sm_IntS (a : List Int) : Prop := a.length ≤ 1048576

def sm_Floor (a : Int × Int × (List Int)) : Prop := sm_IntS a.2.2

def sm_StackS (a : List (Int × Int × Int)) : Prop := a.length ≤ 1048576

def sm_Pod (a : Int × Int × (List (Int × Int × Int))) : Prop := sm_StackS a.2.2

def sm_PodS (a : List (Int × Int × (List (Int × Int × Int)))) : Prop := a.length ≤ 1048576 ∧ ∀ y ∈ a, sm_Pod y

def sm_Stock (a : (List (Int × Int × (List (Int × Int × Int))))) : Prop := sm_PodS a

def sm_RobotS (a : List (Int × Int × Int × Bool × Int)) : Prop := a.length ≤ 1048576

def sm_TaskS (a : List (Int × Int × Int × Int)) : Prop := a.length ≤ 1048576

def sm_Depot (a : Int × Int × (List Int) × (List (Int × Int × (List (Int × Int × Int)))) × Int × (List (Int × Int × (List (Int × Int)) × (List (Int × Int × Int)) × Int)) × (List (Int × Int × Int × Bool × Int)) × (List (Int × Int × Int × Int)) × (List Int) × (List Int) × Int) : Prop := sm_Floor (a.1, a.2.1, a.2.2.1) ∧ sm_Stock a.2.2.2.1 ∧ sm_Book (a.2.2.2.2.1, a.2.2.2.2.2.1) ∧ sm_RobotS a.2.2.2.2.2.2.1 ∧ sm_TaskS a.2.2.2.2.2.2.2.1 ∧ sm_IntS a.2.2.2.2.2.2.2.2.1 ∧ sm_IntS a.2.2.2.2.2.2.2.2.2.1

theorem laws_toIntS_ok (a : List Int) (h : sm_IntS a) (n : Nat) (hn : BIG ≤ n) : laws_toIntS n a = some a := by
  have hl : a.length ≤ 1048576 := h
  have hc := copy_ok (laws_toIntS_L1 a) a (0 : Int) (fun i hi out ho => by
    simp [laws_toIntS_L1, hi, getI_lt hi, inb_lt (xs := out) (by omega : i < out.length), w64_nat hi (by omega), upd_is]) (fun out => by
    simp [laws_toIntS_L1]) n (by unfold BIG at hn; omega)
  unfold laws_toIntS
  rw [make_ok a.length hl, cond_true, show Int.toNat (a.length : Int) = a.length by simp, hc]
  rfl


theorem laws_toFloor_ok (a : Int × Int × (List Int)) (h : sm_Floor a) (n : Nat) (hn : BIG ≤ n) : laws_toFloor n a.1 a.2.1 a.2.2 = some a := by
  unfold laws_toFloor
  unfold sm_Floor at h
  simp [laws_toIntS_ok a.2.2 h n hn]


theorem laws_toRobotS_ok (a : List (Int × Int × Int × Bool × Int)) (h : sm_RobotS a) (n : Nat) (hn : BIG ≤ n) : laws_toRobotS n a = some a := by
  have hl : a.length ≤ 1048576 := h
  have hc := copy_ok (laws_toRobotS_L1 a) a ((0, 0, 0, false, 0) : Int × Int × Int × Bool × Int) (fun i hi out ho => by
    simp [laws_toRobotS_L1, hi, getI_lt hi, laws_toRobot, inb_lt (xs := out) (by omega : i < out.length), w64_nat hi (by omega), upd_is]) (fun out => by
    simp [laws_toRobotS_L1]) n (by unfold BIG at hn; omega)
  unfold laws_toRobotS
  rw [make_ok a.length hl, cond_true, show Int.toNat (a.length : Int) = a.length by simp, hc]
  rfl


theorem laws_eqIntS_ok (a : List Int) (h : sm_IntS a) (n : Nat) (hn : BIG ≤ n) : laws_eqIntS n a a = some true := by
  have hl : a.length ≤ 1048576 := h
  have hc := iter_steps (laws_eqIntS_L1 a a) (fun i => (i : Int)) a.length (.inl (a.length : Int)) (fun i hi => by
    simp [laws_eqIntS_L1, hi, getI_lt hi, w64_nat hi (by omega)]) (by simp [laws_eqIntS_L1]) n (by unfold BIG at hn; omega)
  unfold laws_eqIntS
  rw [show ((a.length : Int) != (a.length : Int)) = false by simp, cond_false]
  rw [show ((0 : Nat) : Int) = 0 from rfl] at hc
  rw [hc]; rfl


theorem laws_eqFloor_ok (a : Int × Int × (List Int)) (h : sm_Floor a) (n : Nat) (hn : BIG ≤ n) : laws_eqFloor n a.1 a.2.1 a.2.2 a.1 a.2.1 a.2.2 = some true := by
  unfold laws_eqFloor
  unfold sm_Floor at h
  simp [laws_eqIntS_ok a.2.2 h n hn]


theorem laws_eqRobotS_ok (a : List (Int × Int × Int × Bool × Int)) (h : sm_RobotS a) (n : Nat) (hn : BIG ≤ n) : laws_eqRobotS n a a = some true := by
  have hl : a.length ≤ 1048576 := h
  have hc := iter_steps (laws_eqRobotS_L1 a a) (fun i => (i : Int)) a.length (.inl (a.length : Int)) (fun i hi => by
    simp [laws_eqRobotS_L1, hi, getI_lt hi, laws_eqRobot, w64_nat hi (by omega)]) (by simp [laws_eqRobotS_L1]) n (by unfold BIG at hn; omega)
  unfold laws_eqRobotS
  rw [show ((a.length : Int) != (a.length : Int)) = false by simp, cond_false]
  rw [show ((0 : Nat) : Int) = 0 from rfl] at hc
  rw [hc]; rfl


theorem laws_szIntS_ok (a : List Int) (hf : (fSl fI) a) (left : Int) (h0 : 0 ≤ left) (h1 : left ≤ 1048576) : ∃ r, laws_szIntS a left = some r ∧ (r < 0 ∨ (0 ≤ r ∧ r ≤ left ∧ sm_IntS a)) := by
  have hm := fSl_len hf
  unfold laws_szIntS sm_IntS
  rw [w64_eq (n := left - (a.length : Int)) (by omega) (by omega)]
  by_cases hl : left - (a.length : Int) < 0
  · rw [show decide (left - (a.length : Int) < 0) = true by simpa using hl]; exact ⟨_, rfl, .inl (by omega)⟩
  · rw [show decide (left - (a.length : Int) < 0) = false by simpa using hl]; exact ⟨_, rfl, .inr ⟨by omega, by omega, by omega⟩⟩


theorem laws_szFloor_ok (a : Int × Int × (List Int)) (hf : (fP fI (fP fI (fSl fI))) a) (left : Int) (h0 : 0 ≤ left) (h1 : left ≤ 1048576) : ∃ r, laws_szFloor a.1 a.2.1 a.2.2 left = some r ∧ (r < 0 ∨ (0 ≤ r ∧ r ≤ left ∧ sm_Floor a)) := by
  unfold laws_szFloor sm_Floor
  obtain ⟨r0, e0, q0⟩ := laws_szIntS_ok a.2.2 hf.2.2 left h0 h1
  rw [e0]; simp only [Option.bind_some]
  rcases q0 with q0 | ⟨p0, s0, t0⟩
  · rw [show decide (r0 < 0) = true by simpa using q0]; exact ⟨_, rfl, .inl (by omega)⟩
  rw [show decide (r0 < 0) = false by simp; omega]; simp only [cond_false]
  exact ⟨_, rfl, .inr ⟨by omega, by omega, t0⟩⟩


theorem laws_szRobotS_ok (a : List (Int × Int × Int × Bool × Int)) (hf : (fSl (fP fI (fP fI (fP fI (fP fB fI))))) a) (left : Int) (h0 : 0 ≤ left) (h1 : left ≤ 1048576) : ∃ r, laws_szRobotS a left = some r ∧ (r < 0 ∨ (0 ≤ r ∧ r ≤ left ∧ sm_RobotS a)) := by
  have hm := fSl_len hf
  unfold laws_szRobotS sm_RobotS
  rw [w64_eq (n := left - (a.length : Int)) (by omega) (by omega)]
  by_cases hl : left - (a.length : Int) < 0
  · rw [show decide (left - (a.length : Int) < 0) = true by simpa using hl]; exact ⟨_, rfl, .inl (by omega)⟩
  · rw [show decide (left - (a.length : Int) < 0) = false by simpa using hl]; exact ⟨_, rfl, .inr ⟨by omega, by omega, by omega⟩⟩


theorem laws_markIntS_only (a : List Int) (h : sm_IntS a) (k : Int) (h0 : 0 ≤ k) (h1 : k + 1048576 ≤ 4611686018427387904) (n : Nat) (hn : BIG ≤ n) : ∃ k' a', laws_markIntS n a k = some (k', a') ∧ k ≤ k' ∧ k' ≤ k + 1048576 ∧ sm_IntS a' := by
  have hl : a.length ≤ 1048576 := h
  have st : ∀ (k : Int) (x : Int), 0 ≤ k → k + ((1 : Nat) : Int) ≤ 4611686018427387904 → True → ∃ k' x', k ≤ k' ∧ k' ≤ k + ((1 : Nat) : Int) ∧ True ∧ (∀ (i : Nat) (ys : List Int), i < ys.length → ys.length ≤ 1048576 → ys[i]? = some x → laws_markIntS_L1 (k, (i : Int), ys) = some (.inl (k', ((i + 1 : Nat) : Int), ys.set i x'))) := by
    intro k x h0 h1 _
    refine ⟨k + 1, k, by omega, by omega, trivial, fun i ys hi hy hx => ?_⟩
    have hx' : ys[i] = x := by rw [List.getElem?_eq_getElem hi] at hx; exact Option.some.inj hx
    have a0 : k + 1 + 1 = k + 2 := by omega
    have a1 : k + 2 + 1 = k + 3 := by omega
    have a2 : k + 3 + 1 = k + 4 := by omega
    have a3 : k + 4 + 1 = k + 5 := by omega
    simp [laws_markIntS_L1, hi, inb_nat, upd_is, modify_set, w64_nat hi (by omega), w64_eq (n := k + 1) (by omega) (by omega), a0, a1, a2, a3]
  obtain ⟨k', a', e1, e2, e3, e4, _⟩ := mark_only laws_markIntS_L1 (fun _ => True) (fun _ => True) 1 a (fun _ _ => trivial) hl k h0 (by omega) st (fun k ys => by simp [laws_markIntS_L1]) n (by unfold BIG at hn; omega)
  refine ⟨k', a', ?_, e3, by omega, by unfold sm_IntS; omega⟩
  unfold laws_markIntS; rw [e1]; rfl


def sm_WordS (a : List (Bool × Int × Int)) : Prop := a.length ≤ 1048576

def sm_Link (a : (List Int) × Int × Bool × Int × Int × Int × (List Int) × (List (Bool × Int × Int))) : Prop := sm_IntS a.1 ∧ sm_IntS a.2.2.2.2.2.2.1 ∧ sm_WordS a.2.2.2.2.2.2.2

def sm_Act (a : Int × Int × (List (Int × Int)) × Int × Int × Int × Int) : Prop := sm_ItemS a.2.2.1

def sm_BoolS (a : List Bool) : Prop := a.length ≤ 1048576

theorem laws_eqBoolS_ok (a : List Bool) (h : sm_BoolS a) (n : Nat) (hn : BIG ≤ n) : laws_eqBoolS n a a = some true := by
  have hl : a.length ≤ 1048576 := h
  have hc := iter_steps (laws_eqBoolS_L1 a a) (fun i => (i : Int)) a.length (.inl (a.length : Int)) (fun i hi => by
    simp [laws_eqBoolS_L1, hi, getI_lt hi, w64_nat hi (by omega)]) (by simp [laws_eqBoolS_L1]) n (by unfold BIG at hn; omega)
  unfold laws_eqBoolS
  rw [show ((a.length : Int) != (a.length : Int)) = false by simp, cond_false]
  rw [show ((0 : Nat) : Int) = 0 from rfl] at hc
  rw [hc]; rfl


theorem laws_markBoolS_ok (a : List Bool) (h : sm_BoolS a) (k : Int) (h0 : 0 ≤ k) (h1 : k + 1048576 ≤ 4611686018427387904) (n : Nat) (hn : BIG ≤ n) : ∃ k' a', laws_markBoolS n a k = some (k', a') ∧ k ≤ k' ∧ k' ≤ k + 1048576 ∧ sm_BoolS a' ∧ laws_heldBoolS n a' k = some k' := by
  have hl : a.length ≤ 1048576 := h
  have st : ∀ (k : Int) (x : Bool), 0 ≤ k → k + ((1 : Nat) : Int) ≤ 4611686018427387904 → True → ∃ k' x', k ≤ k' ∧ k' ≤ k + ((1 : Nat) : Int) ∧ True ∧ (∀ (i : Nat) (ys : List Bool), i < ys.length → ys.length ≤ 1048576 → ys[i]? = some x → laws_markBoolS_L1 (k, (i : Int), ys) = some (.inl (k', ((i + 1 : Nat) : Int), ys.set i x'))) ∧ (∀ (i : Nat) (ys : List Bool), i < ys.length → ys.length ≤ 1048576 → ys[i]? = some x' → laws_heldBoolS_L1 ys (k, (i : Int)) = some (.inl (k', ((i + 1 : Nat) : Int)))) := by
    intro k x h0 h1 _
    refine ⟨k + 1, (Int.tmod k 3 == 0), by omega, by omega, trivial, fun i ys hi hy hx => ?_, fun i ys hi hy hx => ?_⟩
    · have hx' : ys[i] = x := by rw [List.getElem?_eq_getElem hi] at hx; exact Option.some.inj hx
      have a0 : k + 1 + 1 = k + 2 := by omega
      have a1 : k + 2 + 1 = k + 3 := by omega
      have a2 : k + 3 + 1 = k + 4 := by omega
      have a3 : k + 4 + 1 = k + 5 := by omega
      simp [laws_markBoolS_L1, hi, inb_nat, upd_is, modify_set, w64_nat hi (by omega), w64_eq (n := k + 1) (by omega) (by omega), a0, a1, a2, a3]
    · have hx' : ys[i] = (Int.tmod k 3 == 0) := by rw [List.getElem?_eq_getElem hi] at hx; exact Option.some.inj hx
      have a0 : k + 1 + 1 = k + 2 := by omega
      have a1 : k + 2 + 1 = k + 3 := by omega
      have a2 : k + 3 + 1 = k + 4 := by omega
      have a3 : k + 4 + 1 = k + 5 := by omega
      simp [laws_heldBoolS_L1, hi, getI_lt hi, hx', w64_nat hi (by omega), w64_eq (n := k + 1) (by omega) (by omega), a0, a1, a2, a3]
  obtain ⟨k', a', e1, e2, e3, e4, _, e5⟩ := mark_loop (γ := Int) laws_markBoolS_L1 laws_heldBoolS_L1 (fun _ => True) (fun _ => True) 1 a (fun _ _ => trivial) hl k h0 (by omega) st (fun k ys => by simp [laws_markBoolS_L1]) (fun k ys => by simp [laws_heldBoolS_L1]) n (by unfold BIG at hn; omega)
  refine ⟨k', a', ?_, e3, by omega, by unfold sm_BoolS; omega, ?_⟩
  · unfold laws_markBoolS; rw [e1]; rfl
  · unfold laws_heldBoolS; rw [e5]; rfl


theorem laws_markBoolS_only (a : List Bool) (h : sm_BoolS a) (k : Int) (h0 : 0 ≤ k) (h1 : k + 1048576 ≤ 4611686018427387904) (n : Nat) (hn : BIG ≤ n) : ∃ k' a', laws_markBoolS n a k = some (k', a') ∧ k ≤ k' ∧ k' ≤ k + 1048576 ∧ sm_BoolS a' := by
  have hl : a.length ≤ 1048576 := h
  have st : ∀ (k : Int) (x : Bool), 0 ≤ k → k + ((1 : Nat) : Int) ≤ 4611686018427387904 → True → ∃ k' x', k ≤ k' ∧ k' ≤ k + ((1 : Nat) : Int) ∧ True ∧ (∀ (i : Nat) (ys : List Bool), i < ys.length → ys.length ≤ 1048576 → ys[i]? = some x → laws_markBoolS_L1 (k, (i : Int), ys) = some (.inl (k', ((i + 1 : Nat) : Int), ys.set i x'))) := by
    intro k x h0 h1 _
    refine ⟨k + 1, (Int.tmod k 3 == 0), by omega, by omega, trivial, fun i ys hi hy hx => ?_⟩
    have hx' : ys[i] = x := by rw [List.getElem?_eq_getElem hi] at hx; exact Option.some.inj hx
    have a0 : k + 1 + 1 = k + 2 := by omega
    have a1 : k + 2 + 1 = k + 3 := by omega
    have a2 : k + 3 + 1 = k + 4 := by omega
    have a3 : k + 4 + 1 = k + 5 := by omega
    simp [laws_markBoolS_L1, hi, inb_nat, upd_is, modify_set, w64_nat hi (by omega), w64_eq (n := k + 1) (by omega) (by omega), a0, a1, a2, a3]
  obtain ⟨k', a', e1, e2, e3, e4, _⟩ := mark_only laws_markBoolS_L1 (fun _ => True) (fun _ => True) 1 a (fun _ _ => trivial) hl k h0 (by omega) st (fun k ys => by simp [laws_markBoolS_L1]) n (by unfold BIG at hn; omega)
  refine ⟨k', a', ?_, e3, by omega, by unfold sm_BoolS; omega⟩
  unfold laws_markBoolS; rw [e1]; rfl


theorem laws_markFloor_only (a : Int × Int × (List Int)) (h : sm_Floor a) (k : Int) (h0 : 0 ≤ k) (h1 : k + 1048576 ≤ 4611686018427387904) (n : Nat) (hn : BIG ≤ n) : ∃ k' b2, laws_markFloor n a.1 a.2.1 a.2.2 k = some (k', (a.1, a.2.1, b2)) ∧ k ≤ k' ∧ k' ≤ k + 1048576 ∧ sm_Floor (a.1, a.2.1, b2) := by
  unfold sm_Floor at h
  obtain ⟨k0, b2, e0, l0, u0, s0⟩ := laws_markIntS_only a.2.2 h k (by omega) (by omega) n hn
  refine ⟨k0, b2, ?_, by omega, by omega, s0⟩
  unfold laws_markFloor
  simp only [e0, Option.bind_some]


theorem laws_markRobotS_ok (a : List (Int × Int × Int × Bool × Int)) (h : sm_RobotS a) (k : Int) (h0 : 0 ≤ k) (h1 : k + 5242880 ≤ 4611686018427387904) (n : Nat) (hn : BIG ≤ n) : ∃ k' a', laws_markRobotS n a k = some (k', a') ∧ k ≤ k' ∧ k' ≤ k + 5242880 ∧ sm_RobotS a' ∧ laws_heldRobotS n a' k = some k' := by
  have hl : a.length ≤ 1048576 := h
  have st : ∀ (k : Int) (x : Int × Int × Int × Bool × Int), 0 ≤ k → k + ((5 : Nat) : Int) ≤ 4611686018427387904 → True → ∃ k' x', k ≤ k' ∧ k' ≤ k + ((5 : Nat) : Int) ∧ True ∧ (∀ (i : Nat) (ys : List (Int × Int × Int × Bool × Int)), i < ys.length → ys.length ≤ 1048576 → ys[i]? = some x → laws_markRobotS_L1 (k, (i : Int), ys) = some (.inl (k', ((i + 1 : Nat) : Int), ys.set i x'))) ∧ (∀ (i : Nat) (ys : List (Int × Int × Int × Bool × Int)), i < ys.length → ys.length ≤ 1048576 → ys[i]? = some x' → laws_heldRobotS_L1 ys (k, (i : Int)) = some (.inl (k', ((i + 1 : Nat) : Int)))) := by
    intro k x h0 h1 _
    refine ⟨k + 5, (k, (k + 1), (k + 2), (Int.tmod (k + 3) 3 == 0), (k + 4)), by omega, by omega, trivial, fun i ys hi hy hx => ?_, fun i ys hi hy hx => ?_⟩
    · have hx' : ys[i] = x := by rw [List.getElem?_eq_getElem hi] at hx; exact Option.some.inj hx
      have a0 : k + 1 + 1 = k + 2 := by omega
      have a1 : k + 2 + 1 = k + 3 := by omega
      have a2 : k + 3 + 1 = k + 4 := by omega
      have a3 : k + 4 + 1 = k + 5 := by omega
      have a4 : k + 5 + 1 = k + 6 := by omega
      simp [laws_markRobotS_L1, hi, inb_nat, upd_is, modify_set, w64_nat hi (by omega), w64_eq (n := k + 1) (by omega) (by omega), w64_eq (n := k + 2) (by omega) (by omega), w64_eq (n := k + 3) (by omega) (by omega), w64_eq (n := k + 4) (by omega) (by omega), w64_eq (n := k + 5) (by omega) (by omega), a0, a1, a2, a3, a4]
    · have hx' : ys[i] = (k, (k + 1), (k + 2), (Int.tmod (k + 3) 3 == 0), (k + 4)) := by rw [List.getElem?_eq_getElem hi] at hx; exact Option.some.inj hx
      have a0 : k + 1 + 1 = k + 2 := by omega
      have a1 : k + 2 + 1 = k + 3 := by omega
      have a2 : k + 3 + 1 = k + 4 := by omega
      have a3 : k + 4 + 1 = k + 5 := by omega
      have a4 : k + 5 + 1 = k + 6 := by omega
      simp [laws_heldRobotS_L1, hi, getI_lt hi, hx', w64_nat hi (by omega), w64_eq (n := k + 1) (by omega) (by omega), w64_eq (n := k + 2) (by omega) (by omega), w64_eq (n := k + 3) (by omega) (by omega), w64_eq (n := k + 4) (by omega) (by omega), w64_eq (n := k + 5) (by omega) (by omega), a0, a1, a2, a3, a4]
  obtain ⟨k', a', e1, e2, e3, e4, _, e5⟩ := mark_loop (γ := Int) laws_markRobotS_L1 laws_heldRobotS_L1 (fun _ => True) (fun _ => True) 5 a (fun _ _ => trivial) hl k h0 (by omega) st (fun k ys => by simp [laws_markRobotS_L1]) (fun k ys => by simp [laws_heldRobotS_L1]) n (by unfold BIG at hn; omega)
  refine ⟨k', a', ?_, e3, by omega, by unfold sm_RobotS; omega, ?_⟩
  · unfold laws_markRobotS; rw [e1]; rfl
  · unfold laws_heldRobotS; rw [e5]; rfl


theorem laws_markRobotS_only (a : List (Int × Int × Int × Bool × Int)) (h : sm_RobotS a) (k : Int) (h0 : 0 ≤ k) (h1 : k + 5242880 ≤ 4611686018427387904) (n : Nat) (hn : BIG ≤ n) : ∃ k' a', laws_markRobotS n a k = some (k', a') ∧ k ≤ k' ∧ k' ≤ k + 5242880 ∧ sm_RobotS a' := by
  have hl : a.length ≤ 1048576 := h
  have st : ∀ (k : Int) (x : Int × Int × Int × Bool × Int), 0 ≤ k → k + ((5 : Nat) : Int) ≤ 4611686018427387904 → True → ∃ k' x', k ≤ k' ∧ k' ≤ k + ((5 : Nat) : Int) ∧ True ∧ (∀ (i : Nat) (ys : List (Int × Int × Int × Bool × Int)), i < ys.length → ys.length ≤ 1048576 → ys[i]? = some x → laws_markRobotS_L1 (k, (i : Int), ys) = some (.inl (k', ((i + 1 : Nat) : Int), ys.set i x'))) := by
    intro k x h0 h1 _
    refine ⟨k + 5, (k, (k + 1), (k + 2), (Int.tmod (k + 3) 3 == 0), (k + 4)), by omega, by omega, trivial, fun i ys hi hy hx => ?_⟩
    have hx' : ys[i] = x := by rw [List.getElem?_eq_getElem hi] at hx; exact Option.some.inj hx
    have a0 : k + 1 + 1 = k + 2 := by omega
    have a1 : k + 2 + 1 = k + 3 := by omega
    have a2 : k + 3 + 1 = k + 4 := by omega
    have a3 : k + 4 + 1 = k + 5 := by omega
    have a4 : k + 5 + 1 = k + 6 := by omega
    simp [laws_markRobotS_L1, hi, inb_nat, upd_is, modify_set, w64_nat hi (by omega), w64_eq (n := k + 1) (by omega) (by omega), w64_eq (n := k + 2) (by omega) (by omega), w64_eq (n := k + 3) (by omega) (by omega), w64_eq (n := k + 4) (by omega) (by omega), w64_eq (n := k + 5) (by omega) (by omega), a0, a1, a2, a3, a4]
  obtain ⟨k', a', e1, e2, e3, e4, _⟩ := mark_only laws_markRobotS_L1 (fun _ => True) (fun _ => True) 5 a (fun _ _ => trivial) hl k h0 (by omega) st (fun k ys => by simp [laws_markRobotS_L1]) n (by unfold BIG at hn; omega)
  refine ⟨k', a', ?_, e3, by omega, by unfold sm_RobotS; omega⟩
  unfold laws_markRobotS; rw [e1]; rfl


theorem row1 {m : Nat} (h : m ≤ 1048576) : decide (m + 1 ≤ maxRow) = true := by
  have hm : maxRow = 68719476736 := rfl
  rw [hm]; simp; omega

theorem row0 {m : Nat} (h : m ≤ 1048576) : decide (m ≤ maxRow) = true := by
  have hm : maxRow = 68719476736 := rfl
  rw [hm]; simp; omega


/-- Two loops that go alike, and end. -/
theorem iter_two {α γ : Type} (f g : α → Option (α ⊕ γ)) (I : Nat → α → Prop) (Q : γ → Prop) (m : Nat)
    (h : ∀ i x, i ≤ m → I i x → g x = f x ∧ ((∃ y, f x = some (.inl y) ∧ I (i + 1) y ∧ i < m) ∨ ∃ r, f x = some (.inr r) ∧ Q r)) :
    ∀ n, m < n → ∀ x, I 0 x → iter n g x = iter n f x ∧ ∃ r, iter n f x = some r ∧ Q r := by
  have key : ∀ d i n x, i + d = m → d < n → I i x → iter n g x = iter n f x ∧ ∃ r, iter n f x = some r ∧ Q r := by
    intro d
    induction d with
    | zero =>
      intro i n x hi hn hI
      obtain ⟨n, rfl⟩ : ∃ k, n = k + 1 := ⟨n - 1, by omega⟩
      obtain ⟨e, h1 | ⟨r, h1, h2⟩⟩ := h i x (by omega) hI
      · obtain ⟨y, _, _, hlt⟩ := h1; omega
      · exact ⟨by rw [iter_end h1 n, iter_end (e.trans h1) n], r, iter_end h1 n, h2⟩
    | succ d ih =>
      intro i n x hi hn hI
      obtain ⟨n, rfl⟩ : ∃ k, n = k + 1 := ⟨n - 1, by omega⟩
      obtain ⟨e, ⟨y, h1, h2, _⟩ | ⟨r, h1, h2⟩⟩ := h i x (by omega) hI
      · obtain ⟨j1, j2⟩ := ih (i + 1) n y (by omega) (by omega) h2
        rw [iter_go h1 n, iter_go (e.trans h1) n]
        exact ⟨j1, j2⟩
      · exact ⟨by rw [iter_end h1 n, iter_end (e.trans h1) n], r, iter_end h1 n, h2⟩
  exact fun n hn x hx => key m 0 n x (by omega) hn hx


/-- A loop that looks for the first. -/
theorem find_loop {β : Type} (f : Int → Option (Int ⊕ (Int ⊕ Int))) (xs : List β) (P : β → Bool) (hs : ∀ (i : Nat) (x : β), i < xs.length → xs[i]? = some x → f (i : Int) = some (bif P x then .inr (.inr (i : Int)) else .inl ((i + 1 : Nat) : Int)))
    (he : f (xs.length : Int) = some (.inr (.inl (xs.length : Int)))) : ∀ n, xs.length < n → iter n f 0 = some (.inl (xs.length : Int)) ∨ ∃ i, ∃ h : i < xs.length, P xs[i] = true ∧ iter n f 0 = some (.inr (i : Int)) := by
  have key : ∀ d i n, i + d = xs.length → d < n → iter n f (i : Int) = some (.inl (xs.length : Int)) ∨ ∃ j, ∃ h : j < xs.length, P xs[j] = true ∧ iter n f (i : Int) = some (.inr (j : Int)) := by
    intro d
    induction d with
    | zero =>
      intro i n hi hn
      obtain ⟨n, rfl⟩ : ∃ k, n = k + 1 := ⟨n - 1, by omega⟩
      have : i = xs.length := by omega
      subst this
      exact .inl (iter_end he n)
    | succ d ih =>
      intro i n hi hn
      obtain ⟨n, rfl⟩ : ∃ k, n = k + 1 := ⟨n - 1, by omega⟩
      have hlt : i < xs.length := by omega
      have hf := hs i xs[i] hlt (List.getElem?_eq_getElem hlt)
      cases hp : P xs[i] with
      | true => rw [hp, cond_true] at hf; exact .inr ⟨i, hlt, hp, iter_end hf n⟩
      | false => rw [hp, cond_false] at hf; rw [iter_go hf n]; exact ih (i + 1) n (by omega) (by omega)
  exact fun n hn => key xs.length 0 n (by omega) hn


abbrev Dp := Int × Int × (List Int) × (List (Int × Int × (List SIII))) × Int × (List SIILIIJLIIIJI) × (List (Int × Int × Int × Bool × Int)) × (List (Int × Int × Int × Int)) × (List Int) × (List Int) × Int
def fDp : Dp → Prop := fP fI (fP fI (fP (fSl fI) (fP (fSl (fP fI (fP fI (fSl (fP fI (fP fI fI)))))) (fP fI (fP (fSl (fP fI (fP fI (fP (fSl (fP fI fI)) (fP (fSl (fP fI (fP fI fI))) fI))))) (fP (fSl (fP fI (fP fI (fP fI (fP fB fI))))) (fP (fSl (fP fI (fP fI (fP fI fI)))) (fP (fSl fI) (fP (fSl fI) fI)))))))))


theorem in_eq : impl_in = spec_l1In := rfl

theorem l1In_ok (a b c : Int) : spec_l1In a b c = some (decide (b ≤ a) && decide (a ≤ c)) := by
  unfold spec_l1In
  by_cases h : a ≥ b <;> simp [h]


theorem iter_total {γ : Type} (f : Int → Option (Int ⊕ γ)) (m : Nat) (hs : ∀ i : Nat, i < m → f (i : Int) = some (.inl ((i + 1 : Nat) : Int)) ∨ ∃ r, f (i : Int) = some (.inr r)) (he : ∃ r, f (m : Int) = some (.inr r)) : ∀ n, m < n → ∃ r, iter n f 0 = some r := by
  have key : ∀ d i n, i + d = m → d < n → ∃ r, iter n f (i : Int) = some r := by
    intro d
    induction d with
    | zero =>
      intro i n hi hn
      obtain ⟨n, rfl⟩ : ∃ k, n = k + 1 := ⟨n - 1, by omega⟩
      have : i = m := by omega
      subst this
      obtain ⟨r, hr⟩ := he
      exact ⟨r, iter_end hr n⟩
    | succ d ih =>
      intro i n hi hn
      obtain ⟨n, rfl⟩ : ∃ k, n = k + 1 := ⟨n - 1, by omega⟩
      rcases hs i (by omega) with h | ⟨r, h⟩
      · rw [iter_go h n]; exact ih (i + 1) n (by omega) (by omega)
      · exact ⟨r, iter_end h n⟩
  intro n hn
  exact key m 0 n (by omega) hn

/-- A loop that asks the same of each number. -/
theorem all_loopF {α : Type} (f : α → Option (α ⊕ (α ⊕ Bool))) (st : Nat → α) (m : Nat) (P : Nat → Bool) (hs : ∀ i, i < m → f (st i) = some (bif P i then .inl (st (i + 1)) else .inr (.inr false))) (he : f (st m) = some (.inr (.inl (st m)))) :
    ∀ n, m < n → iter n f (st 0) = some (bif (List.range m).all P then .inl (st m) else .inr false) := by
  have key : ∀ d i n, i + d = m → d < n → iter n f (st i) = some (bif (List.range' i d).all P then .inl (st m) else .inr false) := by
    intro d
    induction d with
    | zero =>
      intro i n hi hn
      obtain ⟨n, rfl⟩ : ∃ k, n = k + 1 := ⟨n - 1, by omega⟩
      have : i = m := by omega
      subst this
      rw [iter_end he n]; rfl
    | succ d ih =>
      intro i n hi hn
      obtain ⟨n, rfl⟩ : ∃ k, n = k + 1 := ⟨n - 1, by omega⟩
      have hf := hs i (by omega)
      rw [List.range'_succ, List.all_cons]
      cases hp : P i with
      | true => rw [hp, cond_true] at hf; rw [iter_go hf n, ih (i + 1) n (by omega) (by omega)]; rfl
      | false => rw [hp, cond_false] at hf; rw [iter_end hf n]; rfl
  intro n hn
  rw [List.range_eq_range']
  exact key m 0 n (by omega) hn
/-- A loop that goes on as long as something holds. -/
theorem while_loop (f : Int → Option (Int ⊕ Int)) (m : Nat) (P : Nat → Bool) (hs : ∀ i, i < m → f (i : Int) = some (bif P i then .inl ((i + 1 : Nat) : Int) else .inr (i : Int))) (he : f (m : Int) = some (.inr (m : Int))) :
    ∀ n, m < n → ∃ j, j ≤ m ∧ iter n f 0 = some (j : Int) ∧ (∀ i, i < j → P i = true) ∧ (j < m → P j = false) := by
  have key : ∀ d i n, i + d = m → d < n → ∃ j, i ≤ j ∧ j ≤ m ∧ iter n f (i : Int) = some (j : Int) ∧ (∀ q, i ≤ q → q < j → P q = true) ∧ (j < m → P j = false) := by
    intro d
    induction d with
    | zero =>
      intro i n hi hn
      obtain ⟨n, rfl⟩ : ∃ k, n = k + 1 := ⟨n - 1, by omega⟩
      have : i = m := by omega
      subst this
      exact ⟨i, Nat.le_refl _, Nat.le_refl _, iter_end he n, fun q h1 h2 => by omega, fun h => by omega⟩
    | succ d ih =>
      intro i n hi hn
      obtain ⟨n, rfl⟩ : ∃ k, n = k + 1 := ⟨n - 1, by omega⟩
      have hf := hs i (by omega)
      cases hp : P i with
      | true =>
        rw [hp, cond_true] at hf
        obtain ⟨j, h1, h2, h3, h4, h5⟩ := ih (i + 1) n (by omega) (by omega)
        refine ⟨j, by omega, h2, by rw [iter_go hf n]; exact h3, fun q q1 q2 => ?_, h5⟩
        by_cases e : q = i
        · subst e; exact hp
        · exact h4 q (by omega) q2
      | false => rw [hp, cond_false] at hf; exact ⟨i, Nat.le_refl _, by omega, iter_end hf n, fun q h1 h2 => by omega, fun _ => hp⟩
  intro n hn
  obtain ⟨j, _, h2, h3, h4, h5⟩ := key m 0 n (by omega) hn
  exact ⟨j, h2, h3, fun i hi => h4 i (by omega) hi, h5⟩

theorem take_get {β : Type} {a : List β} {i j : Nat} {y : β} (h : j < (a.take i).length) (hy : (a.take i)[j]? = some y) : j < i ∧ ∃ h : j < a.length, a[j] = y := by
  rw [List.length_take] at h
  rw [List.getElem?_take, if_pos (by omega), List.getElem?_eq_getElem (by omega)] at hy
  exact ⟨by omega, by omega, Option.some.inj hy⟩


/-- Is what stands ahead smaller? -/
def prevL {β : Type} (key : β → Int) (a : List β) (i : Nat) (x : β) : Bool := match i with
  | 0 => true
  | j + 1 => match a[j]? with
    | some y => !decide (key y ≥ key x)
    | none => true
theorem prev_F {β γ : Type} (key : β → Int) (a : List β) (x : β) (i : Nat) (hi : i < a.length) (hl : a.length ≤ 1048576) (F : Bool → Option γ) :
    (bif decide ((i : Int) > 0) then (getI a (w64 ((i : Int) - 1))).bind (fun y => F (decide (key y ≥ key x))) else F false) = F (!prevL key a i x) := by
  cases i with
  | zero => rfl
  | succ j =>
    have hw : w64 (((j + 1 : Nat) : Int) - 1) = (j : Int) := by rw [w64_eq (by omega) (by omega)]; omega
    rw [show decide (((j + 1 : Nat) : Int) > 0) = true by rw [decide_eq_true_eq]; omega, cond_true, hw, getI_lt (by omega), Option.bind_some]
    simp only [prevL, List.getElem?_eq_getElem (show j < a.length by omega), Bool.not_not]
def inB (a b c : Int) : Bool := decide (b ≤ a) && decide (a ≤ c)


theorem in_ok (a b c : Int) : spec_l1In a b c = some (inB a b c) := l1In_ok a b c


def floorOk (w h : Int) (c : List Int) : Bool := inB w 1 10 && inB h 1 10 && ((c.length : Int) == w64 (w * h)) && c.all fun k => inB k 0 4
theorem spec_FloorOk_ok (w h : Int) (c : List Int) (hl : c.length ≤ 1048576) (n : Nat) (hn : BIG ≤ n) : spec_FloorOk n w h c = some (floorOk w h c) := by
  have := all_loop (spec_FloorOk_L1 c) c (fun k => inB k 0 4) (fun i x h1 h2 => by
    have hx : c[i] = x := by rw [List.getElem?_eq_getElem h1] at h2; exact Option.some.inj h2
    simp only [spec_FloorOk_L1, getI_lt h1, hx, Option.bind_some, w64_nat h1 (by omega), in_ok]
    rw [show decide ((i : Int) < (c.length : Int)) = true by simpa using h1]
    cases inB x 0 4 <;> rfl) (by simp [spec_FloorOk_L1]) n (by unfold BIG at hn; omega)
  unfold spec_FloorOk floorOk
  rw [this]
  simp only [in_ok, Option.bind_some, bne]
  cases inB w 1 10 <;> cases inB h 1 10 <;> cases ((c.length : Int) == w64 (w * h)) <;> cases (c.all fun k => inB k 0 4) <;> rfl


theorem floor_eq : impl_FloorOk = spec_FloorOk := rfl


def freeC (c : List Int) (i : Int) : Bool := inB i 0 ((c.length : Int) - 1) && (c.getD i.toNat 0 != 0)
theorem in_nat {c : List Int} {i : Int} (h : inB i 0 ((c.length : Int) - 1) = true) : ∃ m : Nat, i = (m : Int) ∧ m < c.length := by
  unfold inB at h
  simp only [Bool.and_eq_true, decide_eq_true_eq] at h
  exact ⟨i.toNat, by omega, by omega⟩


theorem spec_l7Free_ok (w h : Int) (c : List Int) (hl : c.length ≤ 1048576) (i : Int) : spec_l7Free w h c i = some (freeC c i) := by
  unfold spec_l7Free freeC
  rw [show w64 ((c.length : Int) - 1) = (c.length : Int) - 1 from w64_eq (by omega) (by omega)]
  simp only [in_ok, Option.bind_some]
  cases hb : inB i 0 ((c.length : Int) - 1) with
  | false => rfl
  | true =>
    obtain ⟨m, rfl, hm⟩ := in_nat hb
    simp [getI_lt hm, hm]


theorem impl_KindAt_ok (w h : Int) (c : List Int) (hl : c.length ≤ 1048576) (hf : floorOk w h c = true) (i : Int) (n : Nat) (hn : BIG ≤ n) : ∃ k, impl_KindAt n w h c i = some k ∧ (k != 0) = freeC c i := by
  unfold impl_KindAt impl_isCell freeC
  rw [floor_eq, spec_FloorOk_ok w h c hl n hn, hf, show w64 ((c.length : Int) - 1) = (c.length : Int) - 1 from w64_eq (by omega) (by omega)]
  simp only [in_eq, in_ok, Option.bind_some]
  cases hb : inB i 0 ((c.length : Int) - 1) with
  | false => exact ⟨0, rfl, rfl⟩
  | true =>
    obtain ⟨m, rfl, hm⟩ := in_nat hb
    exact ⟨c[m], by simp [getI_lt hm], by simp [hm]⟩


theorem impl_standsOk_ok (w h : Int) (c : List Int) (hl : c.length ≤ 1048576) (hf : floorOk w h c = true) (x : SIIIBI) (n : Nat) (hn : BIG ≤ n) : impl_standsOk n w h c x.1 x.2.1 x.2.2.1 x.2.2.2.1 x.2.2.2.2 = some (freeC c x.2.1 && (x.2.2.1 == -1 || freeC c x.2.2.1)) := by
  unfold impl_standsOk
  obtain ⟨k1, e1, q1⟩ := impl_KindAt_ok w h c hl hf x.2.1 n hn
  obtain ⟨k2, e2, q2⟩ := impl_KindAt_ok w h c hl hf x.2.2.1 n hn
  simp only [e1, e2, Option.bind_some, q1, q2]
  cases freeC c x.2.1 <;> cases (x.2.2.1 == -1) <;> cases freeC c x.2.2.1 <;> rfl


def rOk (c : List Int) (crew : List (Int × Int × Int × Bool × Int)) (i : Nat) : Bool := match crew[i]? with
  | none => false
  | some x => inB x.1 1 99 && freeC c x.2.1 && (x.2.2.1 == -1 || freeC c x.2.2.1) && inB x.2.2.2.2 0 1000000 && prevL (·.1) crew i x && (crew.take i).all fun y => !(y.2.1 == x.2.1)
def crewOk (w h : Int) (c : List Int) (crew : List (Int × Int × Int × Bool × Int)) : Bool := floorOk w h c && decide (crew.length ≤ 20) && (List.range crew.length).all (rOk c crew)

theorem spec_CrewOk_in (crew : List (Int × Int × Int × Bool × Int)) (hl : crew.length ≤ 1048576) (i : Nat) (hi : i < crew.length) (x : Int × Int × Int × Bool × Int) (n : Nat) (hn : BIG ≤ n) :
    iter n (spec_CrewOk_L2 crew (i : Int) x) 0 = some (bif (crew.take i).all fun y => !(y.2.1 == x.2.1) then .inl (i : Int) else .inr false) := by
  have hlen : (crew.take i).length = i := by simp; omega
  have := all_loop (spec_CrewOk_L2 crew (i : Int) x) (crew.take i) (fun y => !(y.2.1 == x.2.1)) (fun j y h1 h2 => by
    obtain ⟨hj, hj2, hy⟩ := take_get h1 h2
    simp only [spec_CrewOk_L2, getI_lt hj2, hy, Option.bind_some, w64_nat hj2 (by omega)]
    rw [show decide ((j : Int) < (i : Int)) = true by rw [decide_eq_true_eq]; omega]
    cases (y.2.1 == x.2.1) <;> rfl) (by first | (simp [spec_CrewOk_L2, hlen]; done) | (simp [spec_CrewOk_L2, hlen]; omega)) n (by unfold BIG at hn; omega)
  rw [hlen] at this
  exact this
theorem spec_CrewOk_ok (w h : Int) (c : List Int) (hc : c.length ≤ 1048576) (crew : List (Int × Int × Int × Bool × Int)) (hl : crew.length ≤ 1048576) (n : Nat) (hn : BIG ≤ n) : spec_CrewOk n w h c crew = some (crewOk w h c crew) := by
  have := all_loopF (spec_CrewOk_L1 n w h c crew) (fun i => (i : Int)) crew.length (rOk c crew) (fun i hi => by
    have hp : (bif decide ((i : Int) > 0) then (getI crew (w64 ((i : Int) - 1))).bind (fun y => some (decide (y.1 ≥ crew[i].1))) else some false) = some (!prevL (·.1) crew i crew[i]) := prev_F (·.1) crew crew[i] i hi hl some
    simp only [spec_CrewOk_L1, rOk, getI_lt hi, List.getElem?_eq_getElem hi, Option.bind_some, in_ok, spec_l7Free_ok w h c hc, w64_nat hi (by omega), hp, spec_CrewOk_in crew hl i hi crew[i] n hn, bne]
    rw [show decide ((i : Int) < (crew.length : Int)) = true by simpa using hi]
    generalize crew[i] = x
    generalize ((crew.take i).all fun y => !(y.2.1 == x.2.1)) = b6
    generalize prevL (·.1) crew i x = b5
    generalize inB x.2.2.2.2 0 1000000 = b4
    generalize (x.2.2.1 == -1) = b3
    generalize freeC c x.2.2.1 = b7
    generalize freeC c x.2.1 = b2
    generalize inB x.1 1 99 = b1
    cases b1 <;> cases b2 <;> cases b3 <;> cases b4 <;> cases b5 <;> cases b6 <;> cases b7 <;> rfl) (by simp [spec_CrewOk_L1]) n (by unfold BIG at hn; omega)
  unfold spec_CrewOk crewOk
  rw [show ((0 : Nat) : Int) = 0 from rfl] at this
  rw [this, spec_FloorOk_ok w h c hc n hn]
  rw [show decide ((crew.length : Int) > 20) = !decide (crew.length ≤ 20) by by_cases q : crew.length ≤ 20 <;> simp [q] <;> omega]
  cases floorOk w h c <;> cases decide (crew.length ≤ 20) <;> cases (List.range crew.length).all (rOk c crew) <;> rfl


theorem impl_CrewOk_in (crew : List (Int × Int × Int × Bool × Int)) (hl : crew.length ≤ 1048576) (i : Nat) (hi : i < crew.length) (x : Int × Int × Int × Bool × Int) (n : Nat) (hn : BIG ≤ n) :
    iter n (impl_CrewOk_L2 crew (i : Int) x) 0 = some (bif (crew.take i).all fun y => !(y.2.1 == x.2.1) then .inl (i : Int) else .inr false) := by
  have hsub : sub crew (Int.toNat (0 : Int)) (Int.toNat (i : Int)) = crew.take i := by simp [sub]
  have hlen : (crew.take i).length = i := by simp; omega
  have := all_loop (impl_CrewOk_L2 crew (i : Int) x) (crew.take i) (fun y => !(y.2.1 == x.2.1)) (fun j y h1 h2 => by
    obtain ⟨hj, hj2, hy⟩ := take_get h1 h2
    simp only [impl_CrewOk_L2, hsub, getI_nat, h2, Option.bind_some, w64_nat hj2 (by omega), hlen]
    rw [show decide ((j : Int) < (i : Int)) = true by rw [decide_eq_true_eq]; omega]
    cases (y.2.1 == x.2.1) <;> rfl) (by simp only [impl_CrewOk_L2, hsub, hlen]; simp) n (by unfold BIG at hn; omega)
  rw [hlen] at this
  exact this
theorem impl_CrewOk_ok (w h : Int) (c : List Int) (hc : c.length ≤ 1048576) (crew : List (Int × Int × Int × Bool × Int)) (hl : crew.length ≤ 1048576) (n : Nat) (hn : BIG ≤ n) : impl_CrewOk n w h c crew = some (crewOk w h c crew) := by
  unfold impl_CrewOk crewOk
  rw [floor_eq, spec_FloorOk_ok w h c hc n hn]
  rw [show decide ((crew.length : Int) > 20) = !decide (crew.length ≤ 20) by by_cases q : crew.length ≤ 20 <;> simp [q] <;> omega]
  cases hf : floorOk w h c with
  | false => rfl
  | true =>
    have := all_loopF (impl_CrewOk_L1 n w h c crew) (fun i => (i : Int)) crew.length (rOk c crew) (fun i hi => by
      have hp : ∀ C : Option Bool, (bif decide ((i : Int) > 0) then (getI crew (w64 ((i : Int) - 1))).bind (fun y => bif decide (y.1 ≥ crew[i].1) then some true else C) else C) = bif !prevL (·.1) crew i crew[i] then some true else C := fun C => prev_F (·.1) crew crew[i] i hi hl fun b => bif b then some true else C
      have hr : (decide (0 ≤ (0 : Int)) && decide ((0 : Int) ≤ (i : Int)) && decide ((i : Int) ≤ (crew.length : Int))) = true := by simp; omega
      simp only [impl_CrewOk_L1, rOk, getI_lt hi, List.getElem?_eq_getElem hi, Option.bind_some, in_eq, in_ok, impl_standsOk_ok w h c hc hf _ n hn, w64_nat hi (by omega), hp, impl_CrewOk_in crew hl i hi crew[i] n hn, hr]
      rw [show decide ((i : Int) < (crew.length : Int)) = true by simpa using hi]
      generalize crew[i] = x
      generalize ((crew.take i).all fun y => !(y.2.1 == x.2.1)) = b6
      generalize prevL (·.1) crew i x = b5
      generalize inB x.2.2.2.2 0 1000000 = b4
      generalize (x.2.2.1 == -1) = b3
      generalize freeC c x.2.2.1 = b7
      generalize freeC c x.2.1 = b2
      generalize inB x.1 1 99 = b1
      cases b1 <;> cases b2 <;> cases b3 <;> cases b4 <;> cases b5 <;> cases b6 <;> cases b7 <;> rfl) (by simp [impl_CrewOk_L1]) n (by unfold BIG at hn; omega)
    rw [show ((0 : Nat) : Int) = 0 from rfl] at this
    rw [this]
    cases decide (crew.length ≤ 20) <;> cases (List.range crew.length).all (rOk c crew) <;> rfl


def carries (t : List (Int × Int × Int × Int)) (x : Int × Int × Int × Bool × Int) : Bool := t.any fun y => y.2.2.1 == x.1 && inB y.2.2.2 3 4
def placesOk (a : Dp) : Bool := crewOk a.1 a.2.1 a.2.2.1 a.2.2.2.2.2.2.1 && a.2.2.2.2.2.2.1.all fun x => !(x.2.2.2.1 && !carries a.2.2.2.2.2.2.2.1 x)


section
variable {α β γ δ : Type}
/-- Two loops that go together. -/
theorem iter_sim {f : α → Option (α ⊕ γ)} {g : β → Option (β ⊕ δ)} (R : α → β → Prop) (S : γ → δ → Prop) (μ : α → Nat)
    (h : ∀ x y, R x y → (∃ z w, f x = some (.inr z) ∧ g y = some (.inr w) ∧ S z w) ∨ (∃ x' y', f x = some (.inl x') ∧ g y = some (.inl y') ∧ R x' y' ∧ μ x' < μ x)) :
    ∀ n x y, R x y → μ x < n → ∃ z w, S z w ∧ iter n f x = some z ∧ iter n g y = some w := by
  intro n
  induction n with
  | zero => intro x y _ hn; omega
  | succ n ih =>
    intro x y hR hn
    rcases h x y hR with ⟨z, w, h1, h2, h3⟩ | ⟨x', y', h1, h2, h3, h4⟩
    · exact ⟨z, w, h3, iter_end h1 n, iter_end h2 n⟩
    · obtain ⟨z, w, h5, h6, h7⟩ := ih x' y' h3 (by omega)
      exact ⟨z, w, h5, (iter_go h1 n).trans h6, (iter_go h2 n).trans h7⟩
/-- The same, each with a number of rounds of its own. -/
theorem iter_sim2 {f : α → Option (α ⊕ γ)} {g : β → Option (β ⊕ δ)} (R : α → β → Prop) (S : γ → δ → Prop) (μ : α → Nat)
    (h : ∀ x y, R x y → (∃ z w, f x = some (.inr z) ∧ g y = some (.inr w) ∧ S z w) ∨ (∃ x' y', f x = some (.inl x') ∧ g y = some (.inl y') ∧ R x' y' ∧ μ x' < μ x)) :
    ∀ n n' x y, R x y → μ x < n → μ x < n' → ∃ z w, S z w ∧ iter n f x = some z ∧ iter n' g y = some w := by
  intro n
  induction n with
  | zero => intro n' x y _ hn; omega
  | succ n ih =>
    intro n' x y hR hn hn'
    obtain ⟨n', rfl⟩ : ∃ k, n' = k + 1 := ⟨n' - 1, by omega⟩
    rcases h x y hR with ⟨z, w, h1, h2, h3⟩ | ⟨x', y', h1, h2, h3, h4⟩
    · exact ⟨z, w, h3, iter_end h1 n, iter_end h2 n'⟩
    · obtain ⟨z, w, h5, h6, h7⟩ := ih n' x' y' h3 (by omega) (by omega)
      exact ⟨z, w, h5, (iter_go h1 n).trans h6, (iter_go h2 n').trans h7⟩
/-- One loop, by what holds of its states. -/
theorem iter_inv {f : α → Option (α ⊕ γ)} (R : α → Prop) (S : γ → Prop) (μ : α → Nat)
    (h : ∀ x, R x → (∃ z, f x = some (.inr z) ∧ S z) ∨ (∃ x', f x = some (.inl x') ∧ R x' ∧ μ x' < μ x)) :
    ∀ n x, R x → μ x < n → ∃ z, S z ∧ iter n f x = some z := by
  intro n
  induction n with
  | zero => intro x _ hn; omega
  | succ n ih =>
    intro x hR hn
    rcases h x hR with ⟨z, h1, h3⟩ | ⟨x', h1, h3, h4⟩
    · exact ⟨z, h3, iter_end h1 n⟩
    · obtain ⟨z, h5, h6⟩ := ih x' h3 (by omega)
      exact ⟨z, h5, (iter_go h1 n).trans h6⟩
end

section
variable {α : Type} {l : List α} {k : Nat} {y z : α}
/-- A row with a place that is open. -/
def hole (l : List α) (k : Nat) (z : α) : List α := l.take k ++ z :: l.drop k
theorem hole_len (h : k ≤ l.length) : (hole l k z).length = l.length + 1 := by simp [hole]; omega
theorem hole_at (h : l[k]? = some y) : (hole l (k + 1) z)[k]? = some y := by
  obtain ⟨hk, e⟩ := List.getElem?_eq_some_iff.1 h
  unfold hole
  rw [List.getElem?_append_left (by simp; omega), List.getElem?_take, if_pos (by omega), h]
theorem hole_set (h : l[k]? = some y) : (hole l (k + 1) z).set (k + 1) y = hole l k y := by
  obtain ⟨hk, e⟩ := List.getElem?_eq_some_iff.1 h
  unfold hole
  rw [List.set_append_right _ _ (by simp; omega)]
  rw [show k + 1 - (l.take (k + 1)).length = 0 by simp; omega, List.set_cons_zero, List.take_succ_eq_append_getElem hk, e, List.append_assoc, List.drop_eq_getElem_cons hk, e]
  rfl
theorem hole_fill (h : k ≤ l.length) (x : α) : (hole l k z).set k x = hole l k x := by
  unfold hole
  rw [List.set_append_right _ _ (by simp; omega), show k - (l.take k).length = 0 by simp; omega, List.set_cons_zero]
theorem hole_perm (x : α) : (hole l k x).Perm (x :: l) := by
  unfold hole
  have := List.perm_middle (a := x) (l₁ := l.take k) (l₂ := l.drop k)
  rwa [List.take_append_drop] at this
/-- What comes in stands at its place. -/
theorem hole_sorted {R : α → α → Prop} (htr : ∀ a b c, R a b → R b c → R a c) (hl : l.Pairwise R) (hk : k ≤ l.length) {x : α} (h1 : ∀ y ∈ l.drop k, R x y) (h2 : ∀ y, l[k - 1]? = some y → 0 < k → R y x) : (hole l k x).Pairwise R := by
  have hl2 := hl
  rw [← List.take_append_drop k l, List.pairwise_append] at hl2
  obtain ⟨p1, p2, p3⟩ := hl2
  unfold hole
  rw [List.pairwise_append]
  have hx : ∀ a ∈ l.take k, R a x := by
    intro a ha
    obtain ⟨j, hj, e⟩ := List.mem_iff_getElem.1 ha
    have hj2 : j < k ∧ j < l.length := by simp at hj; omega
    have e2 : l[j] = a := by rw [← e]; simp
    have hk1 : k - 1 < l.length := by omega
    have hlast := h2 l[k - 1] (List.getElem?_eq_getElem hk1) (by omega)
    by_cases hjk : j = k - 1
    · subst hjk; rw [← e2]; exact hlast
    · have := List.pairwise_iff_getElem.1 hl j (k - 1) hj2.2 hk1 (by omega)
      rw [← e2]; exact htr _ _ _ this hlast
  refine ⟨p1, List.pairwise_cons.2 ⟨h1, p2⟩, fun a ha b hb => ?_⟩
  rcases List.mem_cons.1 hb with rfl | hb
  · exact hx a ha
  · exact p3 a ha b hb
end

/-- A loop that moves what is larger on. -/
theorem ins_loop (L : Int × List Int → Option ((Int × List Int) ⊕ (Int × List Int))) (lt : Int → Bool) (l : List Int)
    (hgo : ∀ k y z, l[k]? = some y → lt y = true → L (((k + 1 : Nat) : Int), hole l (k + 1) z) = some (.inl ((k : Int), hole l k y)))
    (hstop : ∀ k y z, l[k]? = some y → lt y = false → L (((k + 1 : Nat) : Int), hole l (k + 1) z) = some (.inr (((k + 1 : Nat) : Int), hole l (k + 1) z)))
    (hend : ∀ z, L (0, hole l 0 z) = some (.inr (0, hole l 0 z))) (n : Nat) (hn : l.length < n) (x : Int) :
    ∃ (k : Nat) (z : Int), iter n L ((l.length : Int), l ++ [x]) = some ((k : Int), hole l k z) ∧ k ≤ l.length ∧ (∀ y ∈ l.drop k, lt y = true) ∧ (∀ y, l[k - 1]? = some y → 0 < k → lt y = false) := by
  have := iter_inv (f := L) (fun s => ∃ (k : Nat) (z : Int), s = ((k : Int), hole l k z) ∧ k ≤ l.length ∧ ∀ y ∈ l.drop k, lt y = true)
    (fun s => ∃ (k : Nat) (z : Int), s = ((k : Int), hole l k z) ∧ k ≤ l.length ∧ (∀ y ∈ l.drop k, lt y = true) ∧ (∀ y, l[k - 1]? = some y → 0 < k → lt y = false)) (fun s => s.1.toNat) (fun s hs => by
      obtain ⟨k, z, rfl, hk, hd⟩ := hs
      cases k with
      | zero => exact .inl ⟨_, hend z, 0, z, rfl, hk, hd, fun _ _ h => absurd h (by simp)⟩
      | succ k =>
        have hk' : k < l.length := by omega
        have hg : l[k]? = some l[k] := List.getElem?_eq_getElem hk'
        cases hlt : lt l[k] with
        | true =>
          refine .inr ⟨_, hgo k l[k] z hg hlt, ⟨k, l[k], rfl, by omega, fun y hy => ?_⟩, by simp⟩
          rw [List.drop_eq_getElem_cons hk'] at hy
          rcases List.mem_cons.1 hy with rfl | hy
          · exact hlt
          · exact hd y hy
        | false =>
          refine .inl ⟨_, hstop k l[k] z hg hlt, k + 1, z, rfl, hk, hd, fun y hy _ => ?_⟩
          rw [Nat.add_sub_cancel, hg] at hy
          injection hy with hy
          subst hy
          exact hlt) n ((l.length : Int), l ++ [x]) ⟨l.length, x, by simp [hole], Nat.le_refl _, by simp⟩ (by simpa using hn)
  obtain ⟨s, ⟨k, z, rfl, h1, h2, h3⟩, h4⟩ := this
  exact ⟨k, z, h4, h1, h2, h3⟩
/-- A strict order on what a row holds. -/
structure Ord (lt : Int → Int → Bool) (xs : List Int) : Prop where
  irr : ∀ x, lt x x = false
  tr : ∀ x y z, lt x y = true → lt y z = true → lt x z = true
  tot : ∀ x ∈ xs, ∀ y ∈ xs, x ≠ y → lt x y = true ∨ lt y x = true
/-- One sorted row alone. -/
theorem sorted_one {lt : Int → Int → Bool} {xs a b : List Int} (ho : Ord lt xs) (ha : a.Pairwise fun x y => lt x y = true) (hb : b.Pairwise fun x y => lt x y = true) (pa : a.Perm xs) (pb : b.Perm xs) : a = b :=
  List.Perm.eq_of_pairwise (le := fun x y => lt x y = true) (fun x y _ _ h1 h2 => by
    have := ho.tr x y x h1 h2
    rw [ho.irr] at this; cases this) ha hb (pa.trans pb.symm)
/-- A loop that puts each element at its place. -/
theorem isort_loop (L : List Int × Int → Option ((List Int × Int) ⊕ (List Int × Int))) (lt : Int → Int → Bool) (xs : List Int) (hnd : xs.Nodup) (ho : Ord lt xs)
    (hstep : ∀ (i : Nat) (x : Int) (l : List Int), xs[i]? = some x → l.length = i → l.length < xs.length → (∀ y ∈ l, y ∈ xs) → ∃ k ≤ l.length, L (l, (i : Int)) = some (.inl (hole l k x, ((i + 1 : Nat) : Int))) ∧ (∀ y ∈ l.drop k, lt x y = true) ∧ (∀ y, l[k - 1]? = some y → 0 < k → lt x y = false))
    (hend : ∀ l, L (l, (xs.length : Int)) = some (.inr (l, (xs.length : Int)))) (n : Nat) (hn : xs.length < n) :
    ∃ l, iter n L ([], 0) = some (l, (xs.length : Int)) ∧ l.Perm xs ∧ l.Pairwise fun x y => lt x y = true := by
  have := iter_inv (f := L) (fun s => ∃ (i : Nat), s.2 = (i : Int) ∧ i ≤ xs.length ∧ s.1.Perm (xs.take i) ∧ s.1.Pairwise fun x y => lt x y = true)
    (fun s => s.2 = (xs.length : Int) ∧ s.1.Perm xs ∧ s.1.Pairwise fun x y => lt x y = true) (fun s => xs.length - s.2.toNat) (fun s hs => by
      obtain ⟨i, h1, h2, h3, h4⟩ := hs
      obtain ⟨l, j⟩ := s
      dsimp only at h1 h3 h4
      subst h1
      by_cases hi : i = xs.length
      · subst hi
        rw [List.take_length] at h3
        exact .inl ⟨_, hend l, rfl, h3, h4⟩
      · have hi' : i < xs.length := by omega
        have hx : xs[i]? = some xs[i] := List.getElem?_eq_getElem hi'
        have hlen : l.length = i := by rw [h3.length_eq]; simp; omega
        have hmem : ∀ y ∈ l, y ∈ xs := fun y hy => List.mem_of_mem_take (h3.mem_iff.1 hy)
        obtain ⟨k, hk, e, q1, q2⟩ := hstep i xs[i] l hx hlen (by omega) hmem
        have hnx : xs[i] ∉ xs.take i := fun hm => by
          obtain ⟨j, hj, e⟩ := List.mem_iff_getElem.1 hm
          have hj2 : j < i := by simp at hj; omega
          have := List.pairwise_iff_getElem.1 hnd j i (by omega) hi' hj2
          exact this (by rw [← e]; simp)
        refine .inr ⟨_, e, ⟨i + 1, rfl, by omega, ?_, ?_⟩, by show xs.length - ((i + 1 : Nat) : Int).toNat < xs.length - (i : Int).toNat; omega⟩
        · rw [List.take_succ_eq_append_getElem hi']
          exact (hole_perm _).trans ((h3.cons _).trans (List.perm_append_singleton _ _).symm)
        · refine hole_sorted (R := fun x y => lt x y = true) (fun a b c => ho.tr a b c) h4 hk q1 fun y hy hk0 => ?_
          have hm : y ∈ l := List.mem_of_getElem? hy
          have hne : y ≠ xs[i] := fun e => hnx (e ▸ h3.mem_iff.1 hm)
          rcases ho.tot y (hmem y hm) xs[i] (List.getElem_mem hi') hne with h | h
          · exact h
          · have := q2 y hy hk0
            rw [h] at this; cases this) n ([], 0) ⟨0, rfl, by omega, by simp, List.Pairwise.nil⟩ (by simpa using hn)
  obtain ⟨⟨l, j⟩, ⟨h1, h2, h3⟩, h4⟩ := this
  dsimp only at h1 h2 h3
  subst h1
  exact ⟨l, h4, h2, h3⟩

section
open Go.Sort
theorem arr_get (l : List Int) (k : Nat) (x : Int) (h : l[k]? = some x) : l.toArray[k]! = x := by
  rw [Array.getElem!_eq_getD, Array.getD_eq_getD_getElem?, List.getElem?_toArray, h]; rfl
theorem swp_hole {l r : List Int} {k : Nat} {x : Int} (hk : k < l.length) : swp (hole l (k + 1) x ++ r).toArray (k + 1) k = (hole l k x ++ r).toArray := by
  have hg := List.getElem?_eq_getElem hk
  have e1 : (hole l (k + 1) x ++ r).toArray[k]! = l[k] := arr_get _ _ _ (by rw [List.getElem?_append_left (by rw [hole_len (by omega)]; omega), hole_at hg])
  have e2 : (hole l (k + 1) x ++ r).toArray[k + 1]! = x := arr_get _ _ _ (by
    rw [List.getElem?_append_left (by rw [hole_len (by omega)]; omega)]
    unfold hole
    rw [List.getElem?_append_right (by simp; omega), show k + 1 - (l.take (k + 1)).length = 0 by simp; omega]; rfl)
  unfold swp
  rw [e1, e2, List.setIfInBounds_toArray, List.setIfInBounds_toArray]
  rw [List.set_append_left _ _ (by rw [hole_len (by omega)]; omega), hole_set hg, List.set_append_left _ _ (by rw [hole_len (by omega)]; omega), hole_fill (by omega)]
theorem inner_hole (lt : Int → Int → Bool) (l r : List Int) (x : Int) : ∀ k, k ≤ l.length → (∀ y ∈ l.drop k, lt x y = true) →
    ∃ k' ≤ l.length, insInner lt 0 k (hole l k x ++ r).toArray = (hole l k' x ++ r).toArray ∧ (∀ y ∈ l.drop k', lt x y = true) ∧ (∀ y, l[k' - 1]? = some y → 0 < k' → lt x y = false)
  | 0, h, hd => ⟨0, h, rfl, hd, fun _ _ h => absurd h (by omega)⟩
  | k + 1, h, hd => by
    have hk : k < l.length := by omega
    have hg := List.getElem?_eq_getElem hk
    have e1 : (hole l (k + 1) x ++ r).toArray[k]! = l[k] := arr_get _ _ _ (by rw [List.getElem?_append_left (by rw [hole_len (by omega)]; omega), hole_at hg])
    have e2 : (hole l (k + 1) x ++ r).toArray[k + 1]! = x := arr_get _ _ _ (by
      rw [List.getElem?_append_left (by rw [hole_len (by omega)]; omega)]
      unfold hole
      rw [List.getElem?_append_right (by simp; omega), show k + 1 - (l.take (k + 1)).length = 0 by simp; omega]; rfl)
    unfold insInner
    rw [e1, e2]
    cases hlt : lt x l[k] with
    | false =>
      rw [if_neg (by simp)]
      exact ⟨k + 1, h, rfl, hd, fun y hy _ => by
        rw [Nat.add_sub_cancel, hg] at hy
        injection hy with hy
        subst hy; exact hlt⟩
    | true =>
      rw [if_pos (by simp), swp_hole hk]
      refine inner_hole lt l r x k (by omega) fun y hy => ?_
      rw [List.drop_eq_getElem_cons hk] at hy
      rcases List.mem_cons.1 hy with rfl | hy
      · exact hlt
      · exact hd y hy
theorem outer_sorts (lt : Int → Int → Bool) (xs : List Int) (hnd : xs.Nodup) (ho : Ord lt xs) : ∀ d i l, i + d = xs.length → l.Perm (xs.take i) → (l.Pairwise fun x y => lt x y = true) →
    ∃ m : List Int, insOuter lt 0 xs.length i (l ++ xs.drop i).toArray = m.toArray ∧ m.Perm xs ∧ m.Pairwise fun x y => lt x y = true
  | 0, i, l, h, hp, hs => by
    have : i = xs.length := by omega
    subst this
    rw [insOuter, if_neg (by omega), List.drop_length, List.append_nil]
    rw [List.take_length] at hp
    exact ⟨l, rfl, hp, hs⟩
  | d + 1, i, l, h, h3, h4 => by
    have hi' : i < xs.length := by omega
    have hlen : l.length = i := by rw [h3.length_eq]; simp; omega
    have hmem : ∀ y ∈ l, y ∈ xs := fun y hy => List.mem_of_mem_take (h3.mem_iff.1 hy)
    rw [insOuter, if_pos hi', List.drop_eq_getElem_cons hi']
    obtain ⟨k, hk, e, q1, q2⟩ := inner_hole lt l (xs.drop (i + 1)) xs[i] l.length (Nat.le_refl _) (by simp)
    rw [show hole l l.length xs[i] ++ xs.drop (i + 1) = l ++ xs[i] :: xs.drop (i + 1) by simp [hole], hlen] at e
    rw [e]
    have hnx : xs[i] ∉ xs.take i := fun hm => by
      obtain ⟨j, hj, e⟩ := List.mem_iff_getElem.1 hm
      have hj2 : j < i := by simp at hj; omega
      have := List.pairwise_iff_getElem.1 hnd j i (by omega) hi' hj2
      exact this (by rw [← e]; simp)
    refine outer_sorts lt xs hnd ho d (i + 1) _ (by omega) ?_ ?_
    · rw [List.take_succ_eq_append_getElem hi']
      exact (hole_perm _).trans ((h3.cons _).trans (List.perm_append_singleton _ _).symm)
    · refine hole_sorted (R := fun x y => lt x y = true) (fun a b c => ho.tr a b c) h4 hk q1 fun y hy hk0 => ?_
      have hm : y ∈ l := List.mem_of_getElem? hy
      have hne : y ≠ xs[i] := fun e => hnx (e ▸ h3.mem_iff.1 hm)
      rcases ho.tot y (hmem y hm) xs[i] (List.getElem_mem hi') hne with h | h
      · exact h
      · have := q2 y hy hk0
        rw [h] at this; cases this
end

/-- A row that the library sorts. -/
theorem sortO_ok {lt : Int → Int → Option Bool} {xs : List Int} (hx : ∀ x ∈ xs, ∀ y ∈ xs, (lt x y).isSome = true) (h20 : xs.length ≤ 20) (hnd : xs.Nodup) (ho : Ord (ltB lt) xs) :
    ∃ l, sortO lt xs = some l ∧ l.Perm xs ∧ l.Pairwise fun x y => ltB lt x y = true := by
  unfold sortO
  by_cases h1 : xs.length ≤ 1
  · rw [decide_eq_true h1]
    refine ⟨xs, rfl, .refl _, ?_⟩
    match xs, h1 with
    | [], _ => exact .nil
    | [x], _ => simp
  · rw [decide_eq_false h1, decide_eq_true h20]
    have hall : (xs.all fun x => xs.all fun y => (lt x y).isSome) = true := by
      rw [List.all_eq_true]; intro x hx'
      rw [List.all_eq_true]; intro y hy'
      exact hx x hx' y hy'
    rw [hall]
    match xs, h1, hnd, ho with
    | x :: r, h1, hnd, ho =>
      obtain ⟨m, e, p, q⟩ := outer_sorts (ltB lt) (x :: r) hnd ho r.length 1 [x] (by simp; omega) (by simp) (by simp)
      refine ⟨m, ?_, p, q⟩
      show some (Go.Sort.insertionSort (ltB lt) (x :: r).toArray 0 (x :: r).length).toList = some m
      unfold Go.Sort.insertionSort
      exact congrArg (fun a : Array Int => some a.toList) e

theorem filter_loop (L : List Int × Int → Option ((List Int × Int) ⊕ (List Int × Int))) (xs : List Int) (P : Int → Bool)
    (hstep : ∀ (i : Nat) (x : Int) (out : List Int), xs[i]? = some x → i < xs.length → out.length ≤ i → L (out, (i : Int)) = some (.inl ((bif P x then out ++ [x] else out), ((i + 1 : Nat) : Int))))
    (hend : ∀ out, L (out, (xs.length : Int)) = some (.inr (out, (xs.length : Int)))) (n : Nat) (hn : xs.length < n) : iter n L ([], 0) = some (xs.filter P, (xs.length : Int)) := by
  obtain ⟨z, h1, h2⟩ := iter_inv (f := L) (fun s => ∃ i ≤ xs.length, s = ((xs.take i).filter P, (i : Int))) (fun s => s = (xs.filter P, (xs.length : Int))) (fun s => xs.length - s.2.toNat) (fun s hs => by
    obtain ⟨i, hi, rfl⟩ := hs
    by_cases hi2 : i = xs.length
    · subst hi2
      exact .inl ⟨_, hend _, by rw [List.take_length]⟩
    · have hi' : i < xs.length := by omega
      have hx : xs[i]? = some xs[i] := List.getElem?_eq_getElem hi'
      have hlen : ((xs.take i).filter P).length ≤ i := Nat.le_trans (List.length_filter_le _ _) (by simp; omega)
      refine .inr ⟨_, hstep i _ _ hx hi' hlen, ⟨i + 1, by omega, ?_⟩, by show xs.length - ((i + 1 : Nat) : Int).toNat < xs.length - (i : Int).toNat; omega⟩
      rw [List.take_succ_eq_append_getElem hi', List.filter_append]
      cases hp : P xs[i] <;> simp [hp]) n ([], 0) ⟨0, by omega, by simp⟩ (by simpa using hn)
  rw [h2, h1]

def besideL (w h i : Int) : List Int := (bif decide (i.tdiv w > 0) then [i - w] else []) ++ (bif decide (i.tmod w > 0) then [i - 1] else []) ++ (bif decide (i.tmod w < w - 1) then [i + 1] else []) ++ (bif decide (i.tdiv w < h - 1) then [i + w] else [])
structure Cell (w h i : Int) : Prop where
  w1 : 1 ≤ w
  w2 : w ≤ 10
  h1 : 1 ≤ h
  h2 : h ≤ 10
  i1 : 0 ≤ i
  i2 : i < w * h
theorem wh_le {w h : Int} (h1 : 1 ≤ w) (h2 : w ≤ 10) (h3 : 1 ≤ h) (h4 : h ≤ 10) : w * h ≤ 100 := by
  have := Int.mul_le_mul h2 h4 (by omega) (by omega : (0 : Int) ≤ 10)
  omega
theorem cell_div {w h i : Int} (c : Cell w h i) : ∃ q r, i = w * q + r ∧ 0 ≤ r ∧ r < w ∧ 0 ≤ q ∧ q ≤ h - 1 ∧ i.tdiv w = q ∧ i.tmod w = r ∧ 0 ≤ w * q ∧ w * q + w ≤ w * h := by
  obtain ⟨w1, w2, h1, h2, i1, i2⟩ := c
  have e1 : i.tdiv w = i / w := Int.tdiv_eq_ediv_of_nonneg i1
  have e2 : i.tmod w = i % w := Int.tmod_eq_emod_of_nonneg i1
  have e3 := Int.mul_ediv_add_emod i w
  have r1 := Int.emod_nonneg i (show w ≠ 0 by omega)
  have r2 := Int.emod_lt_of_pos i (show 0 < w by omega)
  have q1 : 0 ≤ i / w := Int.ediv_nonneg i1 (by omega)
  have q2 : i / w < h := Int.ediv_lt_of_lt_mul (by omega) (by rw [Int.mul_comm]; exact i2)
  refine ⟨i / w, i % w, e3.symm, r1, r2, q1, by omega, e1, e2, Int.mul_nonneg (by omega) q1, ?_⟩
  have := Int.mul_le_mul_of_nonneg_left (show i / w + 1 ≤ h by omega) (show (0 : Int) ≤ w by omega)
  rw [Int.mul_add, Int.mul_one] at this
  exact this
theorem beside_in {w h i : Int} (c : Cell w h i) : (∀ y ∈ besideL w h i, 0 ≤ y ∧ y < w * h ∧ y ≠ i) ∧ (besideL w h i).Nodup ∧ (besideL w h i).length ≤ 4 := by
  obtain ⟨q, r, e, r1, r2, q1, q2, e1, e2, m1, m2⟩ := cell_div c
  obtain ⟨w1, w2, h1, h2, i1, i2⟩ := c
  unfold besideL
  rw [e1, e2]
  have g1 : 0 < q → w ≤ w * q := fun h => by
    have := Int.mul_le_mul_of_nonneg_left (show (1 : Int) ≤ q by omega) (show (0 : Int) ≤ w by omega)
    omega
  have g2 : q < h - 1 → w * q + w + w ≤ w * h := fun hq => by
    have := Int.mul_le_mul_of_nonneg_left (show q + 1 + 1 ≤ h by omega) (show (0 : Int) ≤ w by omega)
    rw [Int.mul_add, Int.mul_add, Int.mul_one] at this
    omega
  have G1 : q ≤ 0 ∨ w ≤ w * q := by
    by_cases hq : 0 < q
    · exact .inr (g1 hq)
    · exact .inl (by omega)
  have G2 : h - 1 ≤ q ∨ w * q + w + w ≤ w * h := by
    by_cases hq : q < h - 1
    · exact .inr (g2 hq)
    · exact .inl (by omega)
  clear g1 g2
  generalize w * q = m at *
  generalize w * h = t at *
  subst e
  by_cases a1 : q > 0 <;> by_cases a2 : r > 0 <;> by_cases a3 : r < w - 1 <;> by_cases a4 : q < h - 1 <;> simp [a1, a2, a3, a4] <;> omega
theorem beside_ok {w h i : Int} (c : Cell w h i) (cs : List Int) : spec_l1Beside w h cs i = some (besideL w h i) := by
  obtain ⟨q, r, e, r1, r2, q1, q2, e1, e2, m1, m2⟩ := cell_div c
  obtain ⟨w1, w2, h1, h2, i1, i2⟩ := c
  have hb := wh_le w1 w2 h1 h2
  unfold spec_l1Beside besideL
  rw [e1, e2]
  rw [show (w == 0) = false by rw [beq_eq_false_iff_ne]; omega]
  simp only [cond_false, w64_eq (show -9223372036854775808 ≤ q by omega) (by omega), w64_eq (show -9223372036854775808 ≤ i - w by omega) (by omega), w64_eq (show -9223372036854775808 ≤ i - 1 by omega) (by omega), w64_eq (show -9223372036854775808 ≤ i + 1 by omega) (by omega), w64_eq (show -9223372036854775808 ≤ i + w by omega) (by omega), w64_eq (show -9223372036854775808 ≤ w - 1 by omega) (by omega), w64_eq (show -9223372036854775808 ≤ h - 1 by omega) (by omega)]
  generalize decide (q > 0) = b1
  generalize decide (r > 0) = b2
  generalize decide (r < w - 1) = b3
  generalize decide (q < h - 1) = b4
  cases b1 <;> cases b2 <;> cases b3 <;> cases b4 <;> rfl

theorem beside_eq : impl_beside = spec_l1Beside := rfl

/-- What a cell is. -/
def kindC (c : List Int) (i : Int) : Int := c.getD i.toNat 0
theorem kindC_at {c : List Int} {i : Int} (h : 0 ≤ i ∧ i < (c.length : Int)) : getI c i = some (kindC c i) := by
  obtain ⟨m, rfl⟩ : ∃ m : Nat, i = m := ⟨i.toNat, by omega⟩
  rw [getI_lt (by omega)]
  simp [kindC, List.getD, List.getElem?_eq_getElem (show m < c.length by omega)]
structure Flr (w h : Int) (c : List Int) : Prop where
  w1 : 1 ≤ w
  w2 : w ≤ 10
  h1 : 1 ≤ h
  h2 : h ≤ 10
  len : (c.length : Int) = w * h
theorem Flr.cell {w h : Int} {c : List Int} (f : Flr w h c) {i : Int} (hi : 0 ≤ i ∧ i < (c.length : Int)) : Cell w h i := ⟨f.w1, f.w2, f.h1, f.h2, hi.1, f.len ▸ hi.2⟩
theorem Flr.le {w h : Int} {c : List Int} (f : Flr w h c) : c.length ≤ 100 := by
  have := wh_le f.w1 f.w2 f.h1 f.h2
  have := f.len
  omega
theorem flr_of {w h : Int} {c : List Int} (hf : floorOk w h c = true) : Flr w h c := by
  unfold floorOk inB at hf
  simp only [Bool.and_eq_true, decide_eq_true_eq, beq_iff_eq] at hf
  obtain ⟨⟨⟨⟨a, b⟩, ⟨d, e⟩⟩, g⟩, _⟩ := hf
  have h1 := wh_le a b d e
  have h2 : 0 ≤ w * h := Int.mul_nonneg (by omega) (by omega)
  rw [w64_eq (by omega) (by omega)] at g
  exact ⟨a, b, d, e, g⟩
/-- Cells beside a cell that are no walls. -/
def nearL (w h : Int) (c : List Int) (i : Int) (a : Bool) : List Int := (besideL w h i).filter fun k => kindC c k != 0 && !(a && kindC c k == 2)
theorem near_in {w h : Int} {c : List Int} (f : Flr w h c) {i : Int} (hi : 0 ≤ i ∧ i < (c.length : Int)) (a : Bool) : (∀ y ∈ nearL w h c i a, (0 ≤ y ∧ y < (c.length : Int)) ∧ y ≠ i) ∧ (nearL w h c i a).Nodup ∧ (nearL w h c i a).length ≤ 4 := by
  obtain ⟨h1, h2, h3⟩ := beside_in (f.cell hi)
  refine ⟨fun y hy => ?_, h2.filter _, Nat.le_trans (List.length_filter_le _ _) h3⟩
  have := h1 y (List.mem_filter.1 hy).1
  rw [f.len]
  exact ⟨⟨this.1, this.2.1⟩, this.2.2⟩
theorem spec_near_ok {w h : Int} {c : List Int} (f : Flr w h c) {i : Int} (hi : 0 ≤ i ∧ i < (c.length : Int)) (a : Bool) (n : Nat) (hn : BIG ≤ n) : spec_l1Near n w h c i a = some (nearL w h c i a) := by
  obtain ⟨h1, h2, h3⟩ := beside_in (f.cell hi)
  have := filter_loop (spec_l1Near_L1 c a (besideL w h i)) (besideL w h i) (fun k => kindC c k != 0 && !(a && kindC c k == 2)) (fun j x out hx hj ho => by
    have hxm := h1 x (List.mem_of_getElem? hx)
    have hm : decide (out.length + [x].length ≤ maxRow) = true := by rw [decide_eq_true_eq]; simp [maxRow]; omega
    simp only [spec_l1Near_L1, inb_lt hj, Int.toNat_natCast, hx, Option.bind_some, kindC_at (c := c) (i := x) (by rw [f.len]; exact ⟨hxm.1, hxm.2.1⟩), w64_nat hj (by omega), cond_true, hm]
    rw [show decide ((j : Int) < ((besideL w h i).length : Int)) = true by simpa using hj]
    simp only [bne]
    generalize (kindC c x == 0) = b1
    generalize (kindC c x == 2) = b2
    cases a <;> cases b1 <;> cases b2 <;> rfl) (fun out => by simp [spec_l1Near_L1]) n (by unfold BIG at hn; omega)
  unfold spec_l1Near
  rw [beside_ok (f.cell hi), Option.bind_some, this]
  rfl

theorem impl_near_ok {w h : Int} {c : List Int} (f : Flr w h c) {i : Int} (hi : 0 ≤ i ∧ i < (c.length : Int)) (a : Bool) (n : Nat) (hn : BIG ≤ n) : impl_near n w h c i a = some (nearL w h c i a) := by
  obtain ⟨h1, h2, h3⟩ := beside_in (f.cell hi)
  have := filter_loop (impl_near_L1 c a (besideL w h i)) (besideL w h i) (fun k => kindC c k != 0 && !(a && kindC c k == 2)) (fun j x out hx hj ho => by
    have hxm := h1 x (List.mem_of_getElem? hx)
    have hm : decide (out.length + [x].length ≤ maxRow) = true := by rw [decide_eq_true_eq]; simp [maxRow]; omega
    simp only [impl_near_L1, inb_lt hj, Int.toNat_natCast, hx, Option.bind_some, kindC_at (c := c) (i := x) (by rw [f.len]; exact ⟨hxm.1, hxm.2.1⟩), w64_nat hj (by omega), cond_true, hm]
    rw [show decide ((j : Int) < ((besideL w h i).length : Int)) = true by simpa using hj]
    simp only [bne]
    generalize (kindC c x == 0) = b1
    generalize (kindC c x == 2) = b2
    cases a <;> cases b1 <;> cases b2 <;> rfl) (fun out => by simp [impl_near_L1]) n (by unfold BIG at hn; omega)
  unfold impl_near
  rw [beside_eq, beside_ok (f.cell hi), Option.bind_some, this]
  rfl

structure FJ (N : Nat) (q out : List Int) : Prop where
  len : out.length = N
  qin : ∀ y ∈ q, 0 ≤ y ∧ y < (N : Int)
  bnd : ∀ x ∈ out, -1 ≤ x ∧ x < (q.length : Int)
  cnt : q.length + out.countP (fun x => decide (x < 0)) = N
theorem at_in {out : List Int} {v : Int} (h : 0 ≤ v ∧ v < (out.length : Int)) : inb out v = true ∧ out[v.toNat]? = some (kindC out v) ∧ kindC out v ∈ out := by
  obtain ⟨m, rfl⟩ : ∃ m : Nat, v = m := ⟨v.toNat, by omega⟩
  have hm : m < out.length := by omega
  have e : kindC out (m : Int) = out[m] := by simp [kindC, List.getD, List.getElem?_eq_getElem hm]
  refine ⟨inb_lt hm, ?_, ?_⟩
  · rw [e, Int.toNat_natCast]; exact List.getElem?_eq_getElem hm
  · rw [e]; exact List.getElem_mem hm
theorem FJ.relax {N : Nat} {q out : List Int} (h : FJ N q out) {v a : Int} (hv : 0 ≤ v ∧ v < (N : Int)) (ha : 0 ≤ a ∧ a < (N : Int)) (hneg : kindC out v < 0) : FJ N (q ++ [v]) (out.set v.toNat (kindC out a + 1)) := by
  obtain ⟨_, e1, _⟩ := at_in (out := out) (v := v) (by rw [h.len]; exact hv)
  obtain ⟨_, _, m2⟩ := at_in (out := out) (v := a) (by rw [h.len]; exact ha)
  have hb := h.bnd _ m2
  obtain ⟨hvl, e2⟩ := List.getElem?_eq_some_iff.1 e1
  refine ⟨by simp [h.len], fun y hy => ?_, fun x hx => ?_, ?_⟩
  · rcases List.mem_append.1 hy with hy | hy
    · exact h.qin y hy
    · rw [List.mem_singleton.1 hy]; exact hv
  · rcases List.mem_or_eq_of_mem_set hx with hx | rfl
    · have := h.bnd x hx
      simp; omega
    · simp; omega
  · have hc := h.cnt
    rw [List.countP_set hvl, e2]
    have hp : 0 < out.countP (fun x => decide (x < 0)) := List.countP_pos_iff.2 ⟨kindC out v, by rw [← e2]; exact List.getElem_mem hvl, by simpa using hneg⟩
    simp only [hneg, decide_true, if_true, List.length_append, List.length_singleton]
    rw [if_neg (by simp; omega)]
    omega

theorem field_in (w h : Int) (c : List Int) (N : Nat) (hN : N ≤ 100) (a : Int) (ha : 0 ≤ a ∧ a < (N : Int)) (nl : List Int) (hnl : ∀ y ∈ nl, 0 ≤ y ∧ y < (N : Int)) (hl4 : nl.length ≤ 4) (k : Nat) (n n' : Nat) (hn : BIG ≤ n) (hn' : BIG ≤ n') (q out : List Int) (hk : k ≤ q.length) (hJ : FJ N q out) :
    ∃ q' out', iter n (spec_l2Field_L3 a nl) (q, 0, out) = some (q', (nl.length : Int), out') ∧ iter n' (impl_field_L3 a nl) (q.drop k, 0, out) = some (q'.drop k, (nl.length : Int), out') ∧ k ≤ q'.length ∧ FJ N q' out' := by
  obtain ⟨z, w', ⟨q', out', rfl, rfl, h1, h2⟩, h3, h4⟩ := iter_sim2 (f := spec_l2Field_L3 a nl) (g := impl_field_L3 a nl)
    (fun x y => ∃ (i : Nat) (q out : List Int), x = (q, (i : Int), out) ∧ y = (q.drop k, (i : Int), out) ∧ i ≤ nl.length ∧ k ≤ q.length ∧ FJ N q out)
    (fun z w => ∃ (q out : List Int), z = (q, (nl.length : Int), out) ∧ w = (q.drop k, (nl.length : Int), out) ∧ k ≤ q.length ∧ FJ N q out)
    (fun x => nl.length - x.2.1.toNat) (fun x y hR => by
      obtain ⟨i, q, out, rfl, rfl, hi, hk, hJ⟩ := hR
      by_cases hi2 : i = nl.length
      · subst hi2
        exact .inl ⟨(q, (nl.length : Int), out), (q.drop k, (nl.length : Int), out), by simp [spec_l2Field_L3], by simp [impl_field_L3], q, out, rfl, rfl, hk, hJ⟩
      · right
        have hi' : i < nl.length := by omega
        have hv := hnl nl[i] (List.getElem_mem hi')
        have hx : nl[i]? = some nl[i] := List.getElem?_eq_getElem hi'
        generalize nl[i] = v at hv hx
        obtain ⟨v1, v2, v3⟩ := at_in (out := out) (v := v) (by rw [hJ.len]; exact hv)
        obtain ⟨a1, a2, a3⟩ := at_in (out := out) (v := a) (by rw [hJ.len]; exact ha)
        have hd : decide ((i : Int) < (nl.length : Int)) = true := by simpa using hi'
        have hq : q.length ≤ 100 := by have := hJ.cnt; omega
        have hw : w64 (kindC out a + 1) = kindC out a + 1 := by
          have := hJ.bnd _ a3
          exact w64_eq (by omega) (by omega)
        by_cases hneg : kindC out v < 0
        · refine ⟨(q ++ [v], ((i + 1 : Nat) : Int), out.set v.toNat (kindC out a + 1)), ((q ++ [v]).drop k, ((i + 1 : Nat) : Int), out.set v.toNat (kindC out a + 1)), ?_, ?_, ⟨i + 1, _, _, rfl, rfl, by omega, by simp; omega, hJ.relax hv ha hneg⟩, by show nl.length - ((i + 1 : Nat) : Int).toNat < nl.length - (i : Int).toNat; omega⟩
          · have hm : decide (q.length + [v].length ≤ maxRow) = true := by rw [decide_eq_true_eq]; simp [maxRow]; omega
            simp only [spec_l2Field_L3, hd, inb_lt hi', Int.toNat_natCast, hx, Option.bind_some, v1, v2, a1, a2, decide_eq_true hneg, cond_true, hm, hw, w64_nat hi' (by omega), upd_is]
          · have hm : decide ((q.drop k).length + [v].length ≤ maxRow) = true := by rw [decide_eq_true_eq]; simp [maxRow]; omega
            simp only [impl_field_L3, hd, inb_lt hi', Int.toNat_natCast, hx, Option.bind_some, v1, v2, a1, a2, decide_eq_true hneg, cond_true, hm, hw, w64_nat hi' (by omega), upd_is]
            rw [List.drop_append_of_le_length hk]
        · refine ⟨(q, ((i + 1 : Nat) : Int), out), (q.drop k, ((i + 1 : Nat) : Int), out), ?_, ?_, ⟨i + 1, _, _, rfl, rfl, by omega, hk, hJ⟩, by show nl.length - ((i + 1 : Nat) : Int).toNat < nl.length - (i : Int).toNat; omega⟩
          · simp only [spec_l2Field_L3, hd, inb_lt hi', Int.toNat_natCast, hx, Option.bind_some, v1, v2, decide_eq_false hneg, cond_true, cond_false, w64_nat hi' (by omega)]
          · simp only [impl_field_L3, hd, inb_lt hi', Int.toNat_natCast, hx, Option.bind_some, v1, v2, decide_eq_false hneg, cond_true, cond_false, w64_nat hi' (by omega)]) n n' (q, 0, out) (q.drop k, 0, out) ⟨0, q, out, rfl, rfl, by omega, hk, hJ⟩ (by show nl.length - (0 : Int).toNat < n; unfold BIG at hn; omega) (by show nl.length - (0 : Int).toNat < n'; unfold BIG at hn'; omega)
  exact ⟨q', out', h3, h4, h1, h2⟩

theorem field_init (c : List Int) (hl : c.length ≤ 100) (n : Nat) (hn : BIG ≤ n) : iter n (spec_l2Field_L1 c) ([], 0) = some (List.replicate c.length (-1), (c.length : Int)) := by
  have := iter_steps (spec_l2Field_L1 c) (fun i => (List.replicate i (-1), (i : Int))) c.length (List.replicate c.length (-1), (c.length : Int)) (fun i hi => by
    have hm : decide ((List.replicate i (-1 : Int)).length + [(-1 : Int)].length ≤ maxRow) = true := by rw [decide_eq_true_eq]; simp [maxRow]; omega
    simp only [spec_l2Field_L1, hm, w64_nat hi (by omega)]
    rw [show decide ((i : Int) < (c.length : Int)) = true by simpa using hi]
    simp [List.replicate_succ']) (by simp [spec_l2Field_L1]) n (by unfold BIG at hn; omega)
  simpa using this

theorem set_init (L : Int × List Int → Option ((Int × List Int) ⊕ (Int × List Int))) (N : Nat) (x : Int) (hL : ∀ (i : Nat) (out : List Int), i < N → out.length = N → L ((i : Int), out) = some (.inl (((i + 1 : Nat) : Int), out.set i x))) (he : ∀ out, out.length = N → L ((N : Int), out) = some (.inr ((N : Int), out))) (n : Nat) (hn : N < n) :
    iter n L (0, List.replicate N 0) = some ((N : Int), List.replicate N x) := by
  have := iter_steps L (fun i => ((i : Int), List.replicate i x ++ List.replicate (N - i) 0)) N ((N : Int), List.replicate N x) (fun i hi => by
    rw [hL i _ hi (by simp; omega)]
    congr 3
    rw [List.set_append_right _ _ (by simp), List.length_replicate, Nat.sub_self, List.replicate_succ']
    rw [show N - i = (N - (i + 1)) + 1 by omega, List.replicate_succ, List.set_cons_zero, List.append_assoc]
    rfl) (by rw [he _ (by simp)]; simp) n hn
  simpa using this
theorem impl_field_init (c : List Int) (hl : c.length ≤ 100) (n : Nat) (hn : BIG ≤ n) : iter n (impl_field_L1 c) (0, List.replicate (Int.toNat (c.length : Int)) 0) = some ((c.length : Int), List.replicate c.length (-1)) := by
  rw [Int.toNat_natCast]
  refine set_init _ c.length (-1) (fun i out hi ho => ?_) (fun out ho => by simp [impl_field_L1]) n (by unfold BIG at hn; omega)
  simp only [impl_field_L1, inb_lt (ho ▸ hi), w64_nat hi (by omega), upd_is, Int.toNat_natCast, cond_true, List.length_replicate]
  rw [show decide ((i : Int) < (c.length : Int)) = true by simpa using hi]
  rfl
theorem field_two {w h : Int} {c : List Int} (f : Flr w h c) {t : Int} (ht : 0 ≤ t ∧ t < (c.length : Int)) (b : Bool) (n n' : Nat) (hn : BIG ≤ n) (hn' : BIG ≤ n') :
    ∃ F, spec_l2Field n w h c t b = some F ∧ impl_field n' w h c t b = some F ∧ F.length = c.length ∧ ∀ x ∈ F, -1 ≤ x ∧ x < (c.length : Int) := by
  have hN := f.le
  have hB : 1048576 ≤ n := Nat.le_trans (by decide) hn
  have hB' : 1048576 ≤ n' := Nat.le_trans (by decide) hn'
  have hJ0 : FJ c.length [t] ((List.replicate c.length (-1)).set t.toNat 0) := by
    have hr : ∀ x ∈ List.replicate c.length (-1 : Int), x = -1 := fun x hx => (List.mem_replicate.1 hx).2
    have htl : t.toNat < (List.replicate c.length (-1 : Int)).length := by simp; omega
    refine ⟨by simp, fun y hy => by rw [List.mem_singleton.1 hy]; exact ht, fun x hx => ?_, ?_⟩
    · rcases List.mem_or_eq_of_mem_set hx with hx | rfl
      · rw [hr x hx]; simp
      · simp
    · rw [List.countP_set htl]
      have : (List.replicate c.length (-1 : Int)).countP (fun x => decide (x < 0)) = c.length := by rw [List.countP_replicate]; simp
      rw [this]
      simp; omega
  obtain ⟨z, w', ⟨F, hz, hw, h1, h2⟩, h3, h4⟩ := iter_sim2 (f := spec_l2Field_L2 n w h c t b) (g := impl_field_L2 n' w h c t b)
    (fun x y => ∃ (k : Nat) (q out : List Int), x = (q, (k : Int), out) ∧ y = (q.drop k, out) ∧ k ≤ q.length ∧ FJ c.length q out)
    (fun z w => ∃ F, z.2.2 = F ∧ w.2 = F ∧ F.length = c.length ∧ ∀ x ∈ F, -1 ≤ x ∧ x < (c.length : Int))
    (fun x => c.length - x.2.1.toNat) (fun x y hR => by
      obtain ⟨k, q, out, rfl, rfl, hk, hJ⟩ := hR
      have hq : q.length ≤ c.length := by have := hJ.cnt; omega
      by_cases hk2 : k = q.length
      · subst hk2
        refine .inl ⟨(q, (q.length : Int), out), ([], out), by simp [spec_l2Field_L2], by simp [impl_field_L2], out, rfl, rfl, hJ.len, fun x hx => ?_⟩
        have := hJ.bnd x hx
        omega
      · right
        have hk' : k < q.length := by omega
        have hx : q[k]? = some q[k] := List.getElem?_eq_getElem hk'
        have hv := hJ.qin q[k] (List.getElem_mem hk')
        have hdc : q.drop k = q[k] :: q.drop (k + 1) := List.drop_eq_getElem_cons hk'
        generalize q[k] = v at hx hv hdc
        have hd : decide ((k : Int) < (q.length : Int)) = true := by simpa using hk'
        have hlen1 : decide (((q.drop k).length : Int) > 0) = true := by rw [decide_eq_true_eq]; simp; omega
        have hsub : sub (q.drop k) (Int.toNat 1) (Int.toNat ((q.drop k).length : Int)) = q.drop (k + 1) := by
          rw [hdc]; simp [sub, List.take_of_length_le]
        have hrng : (decide ((0 : Nat) ≤ 1) && decide ((1 : Int) ≤ ((q.drop k).length : Int)) && decide (((q.drop k).length : Int) ≤ ((q.drop k).length : Int))) = true := by simp; omega
        have h0 : (q.drop k)[Int.toNat 0]? = some v := by rw [hdc]; rfl
        have hi0 : inb (q.drop k) 0 = true := by rw [hdc]; exact inb_lt (i := 0) (by simp)
        have hwk := w64_nat hk' (by omega)
        have hkc := kindC_at (c := c) (i := v) (by exact hv)
        by_cases hskip : (b && v != t && kindC c v == 2) = true
        · refine ⟨(q, ((k + 1 : Nat) : Int), out), (q.drop (k + 1), out), ?_, ?_, ⟨k + 1, q, out, rfl, rfl, by omega, hJ⟩, by show c.length - ((k + 1 : Nat) : Int).toNat < c.length - (k : Int).toNat; omega⟩
          · simp only [spec_l2Field_L2, hd, inb_lt hk', Int.toNat_natCast, hx, Option.bind_some, cond_true, hkc, hwk]
            rw [Bool.and_eq_true, Bool.and_eq_true] at hskip
            rw [hskip.1.1, hskip.1.2, hskip.2]
            rfl
          · simp only [impl_field_L2, hlen1, hi0, h0, Option.bind_some, cond_true, hrng, hkc, hsub]
            rw [Bool.and_eq_true, Bool.and_eq_true] at hskip
            rw [hskip.1.1, hskip.1.2, hskip.2]
            rfl
        · obtain ⟨n1, n2, n3⟩ := near_in f hv false
          obtain ⟨q', out', e1, e2, e3, e4⟩ := field_in w h c c.length hN v hv (nearL w h c v false) (fun y hy => (n1 y hy).1) n3 (k + 1) n n' hn hn' q out (by omega) hJ
          refine ⟨(q', ((k + 1 : Nat) : Int), out'), (q'.drop (k + 1), out'), ?_, ?_, ⟨k + 1, q', out', rfl, rfl, e3, e4⟩, by show c.length - ((k + 1 : Nat) : Int).toNat < c.length - (k : Int).toNat; omega⟩
          · simp only [spec_l2Field_L2, hd, inb_lt hk', Int.toNat_natCast, hx, Option.bind_some, cond_true, hkc, hwk, spec_near_ok f hv false n hn, e1]
            generalize (v != t) = b2 at hskip
            generalize (kindC c v == 2) = b3 at hskip
            cases b <;> cases b2 <;> cases b3 <;> first | rfl | (exact absurd rfl hskip) | (exact absurd hskip (by decide))
          · simp only [impl_field_L2, hlen1, hi0, h0, Option.bind_some, cond_true, hrng, hkc, hsub, impl_near_ok f hv false n' hn', e2]
            generalize (v != t) = b2 at hskip
            generalize (kindC c v == 2) = b3 at hskip
            cases b <;> cases b2 <;> cases b3 <;> first | rfl | (exact absurd rfl hskip) | (exact absurd hskip (by decide))) n n' ([t], 0, (List.replicate c.length (-1)).set t.toNat 0) ([t], (List.replicate c.length (-1)).set t.toNat 0) ⟨0, [t], _, rfl, rfl, by simp, hJ0⟩ (by show c.length - (0 : Int).toNat < n; omega) (by show c.length - (0 : Int).toNat < n'; omega)
  have hin : inb (List.replicate c.length (-1 : Int)) t = true := (at_in (by simpa using ht)).1
  have hmr : (decide ((0 : Int) ≤ (c.length : Int)) && decide ((c.length : Int) ≤ (maxRow : Int)) && decide ((c.length : Int) = (c.length : Int))) = true := by
    have hm : (c.length : Int) ≤ (maxRow : Int) := by unfold maxRow; omega
    rw [decide_eq_true hm]; simp
  refine ⟨F, ?_, ?_, h1, h2⟩
  · unfold spec_l2Field
    rw [field_init c hN n hn, Option.bind_some]
    dsimp only
    rw [hin, upd_is, h3, ← hz]; rfl
  · unfold impl_field
    rw [hmr, impl_field_init c hN n' hn', cond_true, Option.bind_some]
    dsimp only
    rw [hin, upd_is, h4, ← hw]; rfl
theorem field_ok {w h : Int} {c : List Int} (f : Flr w h c) {t : Int} (ht : 0 ≤ t ∧ t < (c.length : Int)) (b : Bool) :
    ∃ F, (∀ n, BIG ≤ n → spec_l2Field n w h c t b = some F ∧ impl_field n w h c t b = some F) ∧ F.length = c.length ∧ ∀ x ∈ F, -1 ≤ x ∧ x < (c.length : Int) := by
  obtain ⟨F, h1, h2, h3, h4⟩ := field_two f ht b BIG BIG (Nat.le_refl _) (Nat.le_refl _)
  refine ⟨F, fun n hn => ⟨?_, ?_⟩, h3, h4⟩
  · obtain ⟨G, g1, g2, _⟩ := field_two f ht b n BIG hn (Nat.le_refl _)
    rw [h2] at g2; injection g2 with g2
    rw [g1, g2]
  · obtain ⟨G, g1, g2, _⟩ := field_two f ht b BIG n (Nat.le_refl _) hn
    rw [h1] at g1; injection g1 with g1
    rw [g2, g1]

def idx (N : Nat) : List Int := (List.range N).map fun i : Nat => (i : Int)
theorem idx_at {N i : Nat} (h : i < N) : (idx N)[i]? = some (i : Int) := by simp [idx, h]
theorem idx_len (N : Nat) : (idx N).length = N := by simp [idx]
theorem idx_mem {N : Nat} {x : Int} : x ∈ idx N ↔ 0 ≤ x ∧ x < (N : Int) := by
  simp only [idx, List.mem_map, List.mem_range]
  constructor
  · rintro ⟨i, h, rfl⟩; omega
  · rintro ⟨h1, h2⟩; exact ⟨x.toNat, by omega, by omega⟩
theorem idx_nodup (N : Nat) : (idx N).Nodup := by
  unfold idx List.Nodup
  rw [List.pairwise_map]
  exact List.nodup_range.imp fun {a b} h e => h (by have e : (a : Int) = (b : Int) := e; omega)
theorem idx_succ (N : Nat) : idx (N + 1) = idx N ++ [(N : Int)] := by simp [idx, List.range_succ]

abbrev Rb := Int × Int × Int × Bool × Int
def rbAt (crew : List Rb) (i : Int) : Rb := crew.getD i.toNat (0, 0, 0, false, 0)
theorem rb_at {crew : List Rb} {i : Int} (h : 0 ≤ i ∧ i < (crew.length : Int)) : getI crew i = some (rbAt crew i) := by
  obtain ⟨m, rfl⟩ : ∃ m : Nat, i = m := ⟨i.toNat, by omega⟩
  rw [getI_lt (by omega)]
  simp [rbAt, List.getD, List.getElem?_eq_getElem (show m < crew.length by omega)]
theorem rbAt_nat {crew : List Rb} {i : Nat} (h : i < crew.length) : rbAt crew (i : Int) = crew[i] := by simp [rbAt, List.getD, List.getElem?_eq_getElem h]
/-- Numbers of robots go up. -/
def Ids (crew : List Rb) : Prop := ∀ a b : Int, 0 ≤ a → a < b → b < (crew.length : Int) → (rbAt crew a).1 < (rbAt crew b).1
def turnB (crew : List Rb) (a b : Int) : Bool := decide ((rbAt crew a).2.2.2.2 > (rbAt crew b).2.2.2.2) || (decide ((rbAt crew a).2.2.2.2 = (rbAt crew b).2.2.2.2) && decide ((rbAt crew a).1 < (rbAt crew b).1))
theorem turn_ord {crew : List Rb} (h : Ids crew) {xs : List Int} (hx : ∀ x ∈ xs, 0 ≤ x ∧ x < (crew.length : Int)) : Ord (turnB crew) xs := by
  refine ⟨fun x => by simp [turnB], fun x y z h1 h2 => ?_, fun x hx1 y hy1 hne => ?_⟩
  · simp only [turnB, Bool.or_eq_true, Bool.and_eq_true, decide_eq_true_eq] at h1 h2 ⊢
    omega
  · simp only [turnB, Bool.or_eq_true, Bool.and_eq_true, decide_eq_true_eq]
    have q1 := hx x hx1
    have q2 := hx y hy1
    rcases Int.lt_or_gt_of_ne hne with hl | hl
    · have := h x y q1.1 hl q2.2
      omega
    · have := h y x q2.1 hl q1.2
      omega
theorem ltTurns_is {crew : List Rb} {a b : Int} (ha : 0 ≤ a ∧ a < (crew.length : Int)) (hb : 0 ≤ b ∧ b < (crew.length : Int)) : ltTurns crew a b = some (turnB crew a b) := by
  unfold ltTurns turnB
  rw [rb_at ha, rb_at hb]; rfl

/-- The same, by an order that is plain on what the row holds. -/
theorem sortO_by {lt : Int → Int → Option Bool} {lb : Int → Int → Bool} {xs : List Int} (hx : ∀ x ∈ xs, ∀ y ∈ xs, lt x y = some (lb x y)) (hno : ∀ x y, (lt x y).isSome = true → lt x y = some (lb x y)) (h20 : xs.length ≤ 20) (hnd : xs.Nodup) (ho : Ord lb xs) (htr : ∀ x y z, lt x y = some true → lt y z = some true → (lt x z).isSome = true) :
    ∃ l, sortO lt xs = some l ∧ l.Perm xs ∧ l.Pairwise fun x y => lb x y = true := by
  have hb : ∀ x y, ltB lt x y = true ↔ lt x y = some true := fun x y => by
    unfold ltB
    cases lt x y with
    | none => simp
    | some b => simp
  have hord : Ord (ltB lt) xs := by
    refine ⟨fun x => ?_, fun x y z h1 h2 => ?_, fun x hx1 y hy1 hne => ?_⟩
    · cases h : ltB lt x x with
      | false => rfl
      | true =>
        have h := (hb x x).1 h
        have := hno x x (by rw [h]; rfl)
        rw [h, ho.irr] at this
        cases this
    · rw [hb] at h1 h2 ⊢
      have e1 := hno x y (by rw [h1]; rfl)
      have e2 := hno y z (by rw [h2]; rfl)
      rw [h1] at e1; rw [h2] at e2
      injection e1 with e1; injection e2 with e2
      rw [hno x z (htr x y z h1 h2), ho.tr x y z e1.symm e2.symm]
    · rw [hb, hb, hx x hx1 y hy1, hx y hy1 x hx1]
      rcases ho.tot x hx1 y hy1 hne with h | h
      · exact .inl (by rw [h])
      · exact .inr (by rw [h])
  obtain ⟨l, h1, h2, h3⟩ := sortO_ok (lt := lt) (xs := xs) (fun x h y h' => by rw [hx x h y h']; rfl) h20 hnd hord
  refine ⟨l, h1, h2, List.Pairwise.imp_of_mem (fun {a b} ha hb' h => ?_) h3⟩
  have := (hb a b).1 h
  rw [hx a (h2.mem_iff.1 ha) b (h2.mem_iff.1 hb')] at this
  injection this

theorem impl_Turns_ok {crew : List Rb} (h : Ids crew) (h20 : crew.length ≤ 20) (n : Nat) (hn : BIG ≤ n) : ∃ l, impl_Turns n crew = some l ∧ l.Perm (idx crew.length) ∧ l.Pairwise fun x y => turnB crew x y = true := by
  have hB : 1048576 ≤ n := Nat.le_trans (by decide) hn
  have hit : iter n (impl_Turns_L1 crew) (0, []) = some ((crew.length : Int), idx crew.length) := by
    have := iter_steps (impl_Turns_L1 crew) (fun i => ((i : Int), idx i)) crew.length ((crew.length : Int), idx crew.length) (fun i hi => by
      have hm : decide ((idx i).length + [(i : Int)].length ≤ maxRow) = true := by rw [decide_eq_true_eq, idx_len]; simp [maxRow]; omega
      simp only [impl_Turns_L1, hm, w64_nat hi (by omega), idx_succ]
      rw [show decide ((i : Int) < (crew.length : Int)) = true by simpa using hi]
      rfl) (by simp [impl_Turns_L1]) n (by omega)
    simpa [idx] using this
  have hm : ∀ x ∈ idx crew.length, 0 ≤ x ∧ x < (crew.length : Int) := fun x hx => idx_mem.1 hx
  have hv : ∀ x y, (ltTurns crew x y).isSome = true → (0 ≤ x ∧ x < (crew.length : Int)) ∧ (0 ≤ y ∧ y < (crew.length : Int)) := fun x y h => by
    unfold ltTurns at h
    cases hx : getI crew x with
    | none => rw [hx] at h; cases h
    | some p =>
      cases hy : getI crew y with
      | none => rw [hx, hy] at h; cases h
      | some q =>
        obtain ⟨k, rfl, hk, _⟩ := getI_at hx
        obtain ⟨k', rfl, hk', _⟩ := getI_at hy
        omega
  obtain ⟨l, h1, h2, h3⟩ := sortO_by (lt := ltTurns crew) (lb := turnB crew) (xs := idx crew.length) (fun x hx y hy => ltTurns_is (hm x hx) (hm y hy)) (fun x y h => ltTurns_is (hv x y h).1 (hv x y h).2) (by rw [idx_len]; exact h20) (idx_nodup _) (turn_ord h hm)
    (fun x y z h1 h2 => by rw [ltTurns_is (hv x y (by rw [h1]; rfl)).1 (hv y z (by rw [h2]; rfl)).2]; rfl)
  refine ⟨l, ?_, h2, h3⟩
  unfold impl_Turns
  rw [hit, Option.bind_some]
  dsimp only
  rw [h1]; rfl

theorem spec_Turns_ok {crew : List Rb} (h : Ids crew) (h20 : crew.length ≤ 20) (n : Nat) (hn : BIG ≤ n) : ∃ l, spec_Turns n crew = some l ∧ l.Perm (idx crew.length) ∧ l.Pairwise fun x y => turnB crew x y = true := by
  have hB : 1048576 ≤ n := Nat.le_trans (by decide) hn
  have hm : ∀ x ∈ idx crew.length, 0 ≤ x ∧ x < (crew.length : Int) := fun x hx => idx_mem.1 hx
  obtain ⟨l, h1, h2, h3⟩ := isort_loop (spec_Turns_L1 n crew) (turnB crew) (idx crew.length) (idx_nodup _) (turn_ord h hm) (fun i x l hx hl hlt hmem => by
      rw [idx_len] at hlt
      rw [idx_at (by omega)] at hx
      injection hx with hx
      subst hx
      have hi : i < crew.length := by omega
      have hir := rb_at (crew := crew) (i := (i : Int)) ⟨by omega, by omega⟩
      have step : ∀ k y z, l[k]? = some y → spec_Turns_L2 crew (l, (i : Int)) (((k + 1 : Nat) : Int), hole l (k + 1) z) = some (bif turnB crew (i : Int) y then .inl ((k : Int), hole l k y) else .inr (((k + 1 : Nat) : Int), hole l (k + 1) z)) := by
        intro k y z hk
        have hkl : k < l.length := (List.getElem?_eq_some_iff.1 hk).1
        have hyr := rb_at (hm y (hmem y (List.mem_of_getElem? hk)))
        have hw : w64 (((k + 1 : Nat) : Int) - 1) = (k : Int) := by rw [w64_eq (by omega) (by omega)]; omega
        have hi1 : inb (hole l (k + 1) z) (k : Int) = true := inb_lt (by rw [hole_len (by omega)]; omega)
        have hi2 : inb (hole l (k + 1) z) ((k + 1 : Nat) : Int) = true := inb_lt (by rw [hole_len (by omega)]; omega)
        simp only [spec_Turns_L2, hw, hi1, hi2, Int.toNat_natCast, hole_at hk, Option.bind_some, hyr, hir, upd_is, hole_set hk, cond_true]
        rw [show decide (((k + 1 : Nat) : Int) > 0) = true by rw [decide_eq_true_eq]; omega]
        have e : turnB crew (i : Int) y = (decide ((rbAt crew y).2.2.2.2 < (rbAt crew (i : Int)).2.2.2.2) || (((rbAt crew y).2.2.2.2 == (rbAt crew (i : Int)).2.2.2.2) && decide ((rbAt crew y).1 > (rbAt crew (i : Int)).1))) := by
          unfold turnB
          rw [Bool.eq_iff_iff]
          simp only [Bool.or_eq_true, Bool.and_eq_true, decide_eq_true_eq, beq_iff_eq]
          omega
        rw [e]
        generalize decide ((rbAt crew y).2.2.2.2 < (rbAt crew (i : Int)).2.2.2.2) = b1
        generalize ((rbAt crew y).2.2.2.2 == (rbAt crew (i : Int)).2.2.2.2) = b2
        generalize decide ((rbAt crew y).1 > (rbAt crew (i : Int)).1) = b3
        cases b1 <;> cases b2 <;> cases b3 <;> rfl
      obtain ⟨k, z, e, hk, q1, q2⟩ := ins_loop (spec_Turns_L2 crew (l, (i : Int))) (turnB crew (i : Int)) l (fun k y z hk hy => by rw [step k y z hk, hy]; rfl) (fun k y z hk hy => by rw [step k y z hk, hy]; rfl) (fun z => by simp [spec_Turns_L2]) n (by omega) (i : Int)
      refine ⟨k, hk, ?_, q1, q2⟩
      have hmr : decide (l.length + [(i : Int)].length ≤ maxRow) = true := by rw [decide_eq_true_eq]; simp [maxRow]; omega
      simp only [spec_Turns_L1, hmr, e, Option.bind_some, inb_lt (show k < (hole l k z).length by rw [hole_len hk]; omega), Int.toNat_natCast, upd_is, hole_fill hk, w64_nat hi (by omega), cond_true]
      rw [show decide ((i : Int) < (crew.length : Int)) = true by simpa using hi]
      rfl) (fun l => by simp [spec_Turns_L1, idx_len]) n (by rw [idx_len]; omega)
  refine ⟨l, ?_, h2, h3⟩
  unfold spec_Turns
  rw [h1]; rfl

theorem turns_ok {crew : List Rb} (h : Ids crew) (h20 : crew.length ≤ 20) (n : Nat) (hn : BIG ≤ n) : ∃ l, impl_Turns n crew = some l ∧ spec_Turns n crew = some l ∧ l.Perm (idx crew.length) := by
  obtain ⟨a, a1, a2, a3⟩ := impl_Turns_ok h h20 n hn
  obtain ⟨b, b1, b2, b3⟩ := spec_Turns_ok h h20 n hn
  have : a = b := sorted_one (turn_ord h fun x hx => idx_mem.1 hx) a3 b3 a2 b2
  subst this
  exact ⟨a, a1, b1, a2⟩

/-- A loop that looks for an element. -/
theorem any_loop {β : Type} (f : Int → Option (Int ⊕ (Int ⊕ Bool))) (xs : List β) (P : β → Bool) (hs : ∀ (i : Nat) (x : β), i < xs.length → xs[i]? = some x → f (i : Int) = some (bif P x then .inr (.inr true) else .inl ((i + 1 : Nat) : Int)))
    (he : f (xs.length : Int) = some (.inr (.inl (xs.length : Int)))) : ∀ n, xs.length < n → iter n f 0 = some (bif xs.any P then .inr true else .inl (xs.length : Int)) := by
  intro n hn
  refine iter_list f xs (fun p l => bif l.any P then .inr true else .inl (xs.length : Int)) ?_ ?_ n hn
  · rw [he]; simp
  · intro i x l p h1 h2 h3 h4 h5
    rw [hs i x h1 h2]
    cases hp : P x with
    | true => exact .inr (by simp [hp])
    | false => exact .inl ⟨by simp, by simp [hp]⟩


theorem spec_l6Among_ok (a : List Int) (h : a.length ≤ 1048576) (c : Int) (n : Nat) (hn : BIG ≤ n) : spec_l6Among n a c = some (a.any fun x => x == c) := by
  unfold spec_l6Among
  rw [any_loop (spec_l6Among_L1 a c) a (fun x => x == c) (fun i x h1 h2 => by
    have hx : a[i] = x := by rw [List.getElem?_eq_getElem h1] at h2; exact Option.some.inj h2
    simp only [spec_l6Among_L1, getI_lt h1, hx]
    rw [show decide ((i : Int) < (a.length : Int)) = true by simpa using h1]
    cases hq : (x == c) <;> simp [hq, w64_nat h1 (by omega)]) (by simp [spec_l6Among_L1]) n (by unfold BIG at hn; omega)]
  cases a.any fun x => x == c <;> rfl


theorem hasInt_eq : impl_hasInt = spec_l6Among := rfl


def podsF (s : List Int) (x : SIII) : List Int := bif s.any (fun y => y == x.1) then s else s ++ [x.1]
theorem podsF_len (s : List Int) (x : SIII) : (podsF s x).length ≤ s.length + 1 := by
  unfold podsF; cases s.any (fun y => y == x.1) <;> simp
def pods (a : List SIII) : List Int := a.foldl podsF []
theorem pods_len : ∀ (a : List SIII) (s : List Int), (a.foldl podsF s).length ≤ s.length + a.length
  | [], s => by simp
  | x :: a, s => by
    have h1 := pods_len a (podsF s x)
    have h2 := podsF_len s x
    simp only [List.foldl_cons, List.length_cons]; omega


theorem lessKey_iff (r ka kb a b : Int) : lessKey r ka kb a b = true ↔ ka < kb ∨ (ka = kb ∧ ((a ≠ r ∧ b = r) ∨ ((a = r ↔ b = r) ∧ a < b))) := by
  unfold lessKey
  by_cases h1 : ka = kb
  · subst h1
    have e1 : (a == r) = decide (a = r) := by rw [Bool.eq_iff_iff]; simp
    have e2 : (b == r) = decide (b = r) := by rw [Bool.eq_iff_iff]; simp
    rw [show (ka != ka) = false by simp, cond_false, e1, e2]
    by_cases h2 : a = r <;> by_cases h3 : b = r
    · rw [decide_eq_true h2, decide_eq_true h3]
      show decide (a < b) = true ↔ _
      rw [decide_eq_true_eq]; omega
    · rw [decide_eq_true h2, decide_eq_false h3]
      show false = true ↔ _
      simp; omega
    · rw [decide_eq_false h2, decide_eq_true h3]
      show true = true ↔ _
      simp; omega
    · rw [decide_eq_false h2, decide_eq_false h3]
      show decide (a < b) = true ↔ _
      rw [decide_eq_true_eq]; omega
  · have : (ka != kb) = true := by simpa using h1
    rw [this, cond_true, decide_eq_true_eq]
    constructor
    · exact fun h => .inl h
    · rintro (h | ⟨h, _⟩)
      · exact h
      · exact absurd h h1
theorem lessKey_ord (r : Int) (key : Int → Int) (xs : List Int) : Ord (fun a b => lessKey r (key a) (key b) a b) xs := by
  refine ⟨fun x => ?_, fun x y z h1 h2 => ?_, fun x _ y _ hne => ?_⟩
  · cases h : lessKey r (key x) (key x) x x with
    | false => rfl
    | true => rw [lessKey_iff] at h; omega
  · rw [lessKey_iff] at h1 h2 ⊢
    omega
  · rw [lessKey_iff, lessKey_iff]
    omega
theorem lessKey_same {r k1 k2 l1 l2 a b : Int} (h1 : k1 < k2 ↔ l1 < l2) (h2 : k1 = k2 ↔ l1 = l2) : lessKey r k1 k2 a b = lessKey r l1 l2 a b := by
  rw [Bool.eq_iff_iff, lessKey_iff, lessKey_iff, h1, h2]

def keyC (c far : List Int) (v : Int) : Int := bif decide (kindC far v < 0) then (c.length : Int) + 1 else kindC far v
theorem ltChoices_is {c far : List Int} (hc : c.length ≤ 100) {r a b : Int} (ha : 0 ≤ a ∧ a < (far.length : Int)) (hb : 0 ≤ b ∧ b < (far.length : Int)) : ltChoices far c r a b = some (lessKey r (keyC c far a) (keyC c far b) a b) := by
  unfold ltChoices keyO
  rw [kindC_at ha, kindC_at hb, show IntKind.wrap .i64 ((c.length : Int) + 1) = (c.length : Int) + 1 from w64_eq (by omega) (by omega)]
  rfl
theorem ltChoices_in {c far : List Int} {r x y : Int} (h : (ltChoices far c r x y).isSome = true) : (0 ≤ x ∧ x < (far.length : Int)) ∧ (0 ≤ y ∧ y < (far.length : Int)) := by
  unfold ltChoices at h
  cases hx : keyO c far x with
  | none => rw [hx] at h; cases h
  | some p =>
    cases hy : keyO c far y with
    | none => rw [hx, hy] at h; cases h
    | some q =>
      obtain ⟨k, _, rfl, hk, _⟩ := keyO_some hx
      obtain ⟨k', _, rfl, hk', _⟩ := keyO_some hy
      omega

/-- A robot stands right. -/
structure Std (c : List Int) (r : Rb) : Prop where
  at1 : 0 ≤ r.2.1 ∧ r.2.1 < (c.length : Int)
  at2 : kindC c r.2.1 ≠ 0
  goal : r.2.2.1 = -1 ∨ ((0 ≤ r.2.2.1 ∧ r.2.2.1 < (c.length : Int)) ∧ kindC c r.2.2.1 ≠ 0)
def cellsS (w h : Int) (c : List Int) (r : Rb) : List Int := ((nearL w h c r.2.1 false).filter fun k => !r.2.2.2.1 || (kindC c k != 2 || k == r.2.2.1)) ++ [r.2.1]
def cellsI (w h : Int) (c : List Int) (r : Rb) : List Int := (nearL w h c r.2.1 r.2.2.2.1 ++ [r.2.1]) ++ (bif decide (r.2.2.1 ≥ 0) && (!((nearL w h c r.2.1 r.2.2.2.1 ++ [r.2.1]).any fun x => x == r.2.2.1) && (besideL w h r.2.1).any fun x => x == r.2.2.1) then [r.2.2.1] else [])
theorem cells_perm {w h : Int} {c : List Int} (f : Flr w h c) {r : Rb} (s : Std c r) : (cellsI w h c r).Perm (cellsS w h c r) ∧ (cellsS w h c r).Nodup ∧ (∀ v ∈ cellsS w h c r, (0 ≤ v ∧ v < (c.length : Int)) ∧ kindC c v ≠ 0) ∧ (cellsS w h c r).length ≤ 5 := by
  obtain ⟨n1, n2, n3⟩ := near_in f s.at1 false
  obtain ⟨m1, m2, m3⟩ := near_in f s.at1 r.2.2.2.1
  have ndS : (cellsS w h c r).Nodup := by
    unfold cellsS
    rw [List.nodup_append]
    refine ⟨n2.filter _, by simp, fun a ha b hb => ?_⟩
    rw [List.mem_singleton.1 hb]
    exact (n1 a (List.mem_filter.1 ha).1).2
  have ndI : (cellsI w h c r).Nodup := by
    unfold cellsI
    have nd1 : (nearL w h c r.2.1 r.2.2.2.1 ++ [r.2.1]).Nodup := by
      rw [List.nodup_append]
      refine ⟨m2, by simp, fun a ha b hb => ?_⟩
      rw [List.mem_singleton.1 hb]
      exact (m1 a ha).2
    cases hb : (decide (r.2.2.1 ≥ 0) && (!((nearL w h c r.2.1 r.2.2.2.1 ++ [r.2.1]).any fun x => x == r.2.2.1) && (besideL w h r.2.1).any fun x => x == r.2.2.1)) with
    | false => simpa using nd1
    | true =>
      rw [cond_true, List.nodup_append]
      refine ⟨nd1, by simp, fun a ha b hb2 e => ?_⟩
      rw [List.mem_singleton.1 hb2] at e
      simp only [Bool.and_eq_true, Bool.not_eq_true', List.any_eq_false, beq_iff_eq] at hb
      exact hb.2.1 a ha e
  have memN : ∀ a v, v ∈ nearL w h c r.2.1 a ↔ v ∈ besideL w h r.2.1 ∧ kindC c v ≠ 0 ∧ ¬(a = true ∧ kindC c v = 2) := by
    intro a v
    unfold nearL
    rw [List.mem_filter]
    simp only [Bool.and_eq_true, bne_iff_ne, ne_eq, Bool.not_eq_true', Bool.and_eq_false_iff, beq_eq_false_iff_ne]
    constructor
    · rintro ⟨h1, h2, h3⟩
      refine ⟨h1, h2, fun ⟨h4, h5⟩ => ?_⟩
      rcases h3 with h3 | h3
      · rw [h4] at h3; cases h3
      · exact h3 h5
    · rintro ⟨h1, h2, h3⟩
      refine ⟨h1, h2, ?_⟩
      cases a with
      | false => exact .inl rfl
      | true => exact .inr fun h => h3 ⟨rfl, h⟩
  have memS : ∀ v, v ∈ cellsS w h c r ↔ v = r.2.1 ∨ (v ∈ besideL w h r.2.1 ∧ kindC c v ≠ 0 ∧ (r.2.2.2.1 = false ∨ kindC c v ≠ 2 ∨ v = r.2.2.1)) := by
    intro v
    unfold cellsS
    rw [List.mem_append, List.mem_filter, memN]
    simp only [List.mem_singleton, Bool.or_eq_true, Bool.not_eq_true', bne_iff_ne, ne_eq, beq_iff_eq]
    constructor
    · rintro (⟨⟨h1, h2, _⟩, h3⟩ | h)
      · exact .inr ⟨h1, h2, h3⟩
      · exact .inl h
    · rintro (h | ⟨h1, h2, h3⟩)
      · exact .inr h
      · exact .inl ⟨⟨h1, h2, fun h => by cases h.1⟩, h3⟩
  have memI : ∀ v, v ∈ cellsI w h c r ↔ v = r.2.1 ∨ (v ∈ besideL w h r.2.1 ∧ kindC c v ≠ 0 ∧ ¬(r.2.2.2.1 = true ∧ kindC c v = 2)) ∨ (r.2.2.1 ≥ 0 ∧ r.2.2.1 ∈ besideL w h r.2.1 ∧ v = r.2.2.1) := by
    intro v
    unfold cellsI
    rw [List.mem_append, List.mem_append, memN]
    cases hb : (decide (r.2.2.1 ≥ 0) && (!((nearL w h c r.2.1 r.2.2.2.1 ++ [r.2.1]).any fun x => x == r.2.2.1) && (besideL w h r.2.1).any fun x => x == r.2.2.1)) with
    | false =>
      simp only [cond_false, List.mem_singleton, List.not_mem_nil, or_false]
      constructor
      · rintro (h | h)
        · exact .inr (.inl h)
        · exact .inl h
      · rintro (h | h | ⟨h1, h2, h3⟩)
        · exact .inr h
        · exact .inl h
        · subst h3
          have h4 : ((besideL w h r.2.1).any fun x => x == r.2.2.1) = true := List.any_eq_true.2 ⟨_, h2, by simp⟩
          rw [h4, decide_eq_true h1] at hb
          simp only [Bool.true_and, Bool.and_true, Bool.not_eq_false', List.any_eq_true, beq_iff_eq] at hb
          obtain ⟨x, hx, rfl⟩ := hb
          rcases List.mem_append.1 hx with hx | hx
          · exact .inl ((memN _ _).1 hx)
          · exact .inr (List.mem_singleton.1 hx)
    | true =>
      simp only [Bool.and_eq_true, decide_eq_true_eq, List.any_eq_true, beq_iff_eq] at hb
      obtain ⟨h1, _, x, hx, rfl⟩ := hb
      simp only [cond_true, List.mem_singleton]
      constructor
      · rintro ((h | h) | h)
        · exact .inr (.inl h)
        · exact .inl h
        · exact .inr (.inr ⟨h1, hx, h⟩)
      · rintro (h | h | ⟨_, _, h3⟩)
        · exact .inl (.inr h)
        · exact .inl (.inl h)
        · exact .inr h3
  refine ⟨(List.perm_ext_iff_of_nodup ndI ndS).2 fun v => ?_, ndS, fun v hv => ?_, ?_⟩
  · rw [memI, memS]
    constructor
    · rintro (h | ⟨h1, h2, h3⟩ | ⟨h1, h2, rfl⟩)
      · exact .inl h
      · refine .inr ⟨h1, h2, ?_⟩
        cases hl : r.2.2.2.1 with
        | false => exact .inl rfl
        | true => exact .inr (.inl fun h => h3 ⟨hl, h⟩)
      · refine .inr ⟨h2, ?_, .inr (.inr rfl)⟩
        rcases s.goal with hg | hg
        · omega
        · exact hg.2
    · rintro (h | ⟨h1, h2, h3 | h3 | h3⟩)
      · exact .inl h
      · exact .inr (.inl ⟨h1, h2, fun h => by rw [h3] at h; cases h.1⟩)
      · exact .inr (.inl ⟨h1, h2, fun h => h3 h.2⟩)
      · subst h3
        have := (beside_in (f.cell s.at1)).1 _ h1
        exact .inr (.inr ⟨this.1, h1, rfl⟩)
  · rcases (memS v).1 hv with rfl | ⟨h1, h2, _⟩
    · exact ⟨s.at1, s.at2⟩
    · have := (beside_in (f.cell s.at1)).1 _ h1
      exact ⟨⟨this.1, by rw [f.len]; exact this.2.1⟩, h2⟩
  · unfold cellsS
    have := List.length_filter_le (fun k => !r.2.2.2.1 || (kindC c k != 2 || k == r.2.2.1)) (nearL w h c r.2.1 false)
    simp
    omega

theorem free_of {c : List Int} {i : Int} (h : 0 ≤ i ∧ i < (c.length : Int)) (hk : kindC c i ≠ 0) : freeC c i = true := by
  unfold freeC inB
  rw [decide_eq_true h.1, decide_eq_true (show i ≤ (c.length : Int) - 1 by omega)]
  simpa [kindC] using hk
/-- What the program sorts by: 'far' is the field of the goal, or all one but where the robot is. -/
structure Far (w h : Int) (c : List Int) (r : Rb) (far F : List Int) : Prop where
  len : far.length = c.length
  bnd : ∀ x ∈ far, -1 ≤ x ∧ x ≤ (c.length : Int)
  neg : r.2.2.1 < 0 → F = [] ∧ far = (List.replicate c.length 1).set r.2.1.toNat 0
  pos : 0 ≤ r.2.2.1 → F = far ∧ ∀ n, BIG ≤ n → impl_field n w h c r.2.2.1 r.2.2.2.1 = some far
  spec : ∀ n, BIG ≤ n → spec_l7Field n w h c r.1 r.2.1 r.2.2.1 r.2.2.2.1 r.2.2.2.2 = some F
theorem far_ok {w h : Int} {c : List Int} (f : Flr w h c) {r : Rb} (s : Std c r) : ∃ far F, Far w h c r far F := by
  have hN := f.le
  by_cases hg : r.2.2.1 < 0
  · refine ⟨(List.replicate c.length 1).set r.2.1.toNat 0, [], by simp, fun x hx => ?_, fun _ => ⟨rfl, rfl⟩, fun h => absurd h (by omega), fun n hn => ?_⟩
    · rcases List.mem_or_eq_of_mem_set hx with hx | hx0
      · have e := (List.mem_replicate.1 hx).2
        have := s.at1
        omega
      · omega
    · unfold spec_l7Field
      rw [decide_eq_true hg]; rfl
  · have hgr : (0 ≤ r.2.2.1 ∧ r.2.2.1 < (c.length : Int)) := by
      rcases s.goal with h | h
      · omega
      · exact h.1
    obtain ⟨F, h12, h3, h4⟩ := field_ok f hgr r.2.2.2.1
    refine ⟨F, F, h3, fun x hx => ?_, fun h => absurd h hg, fun _ => ⟨rfl, fun n hn => (h12 n hn).2⟩, fun n hn => ?_⟩
    · have := h4 x hx; omega
    · unfold spec_l7Field
      rw [decide_eq_false hg, (h12 n hn).1]; rfl

theorem impl_Choices_init (c : List Int) (hl : c.length ≤ 100) (n : Nat) (hn : BIG ≤ n) : iter n (impl_Choices_L1 c) (0, List.replicate (Int.toNat (c.length : Int)) 0) = some ((c.length : Int), List.replicate c.length 1) := by
  have hB : 1048576 ≤ n := Nat.le_trans (by decide) hn
  rw [Int.toNat_natCast]
  refine set_init _ c.length 1 (fun i out hi ho => ?_) (fun out ho => by simp [impl_Choices_L1]) n (by omega)
  simp only [impl_Choices_L1, inb_lt (ho ▸ hi), w64_nat hi (by omega), upd_is, Int.toNat_natCast, cond_true, List.length_replicate]
  rw [show decide ((i : Int) < (c.length : Int)) = true by simpa using hi]
  rfl
theorem impl_Choices_ok {w h : Int} {c : List Int} (hf : floorOk w h c = true) {r : Rb} (s : Std c r) (n : Nat) (hn : BIG ≤ n) {far F : List Int} (hfar : Far w h c r far F) :
    ∃ C, impl_Choices n w h c r.1 r.2.1 r.2.2.1 r.2.2.2.1 r.2.2.2.2 = some C ∧ C.Perm (cellsI w h c r) ∧ C.Pairwise fun a b => lessKey r.2.1 (keyC c far a) (keyC c far b) a b = true := by
  have f := flr_of hf
  have hN := f.le
  have hB : 1048576 ≤ n := Nat.le_trans (by decide) hn
  obtain ⟨pm, nd, rng, l5⟩ := cells_perm f s
  have hst : impl_standsOk n w h c r.1 r.2.1 r.2.2.1 r.2.2.2.1 r.2.2.2.2 = some true := by
    rw [impl_standsOk_ok w h c (by omega) hf r n hn, free_of s.at1 s.at2]
    rcases s.goal with hg | ⟨g1, g2⟩
    · rw [hg]; rfl
    · rw [free_of g1 g2]; simp
  obtain ⟨m1, m2, m3⟩ := near_in f s.at1 r.2.2.2.1
  have hb4 := (beside_in (f.cell s.at1)).2.2
  have hm1 : decide ((nearL w h c r.2.1 r.2.2.2.1).length + [r.2.1].length ≤ maxRow) = true := by rw [decide_eq_true_eq]; simp [maxRow]; omega
  have hm2 : decide ((nearL w h c r.2.1 r.2.2.2.1 ++ [r.2.1]).length + [r.2.2.1].length ≤ maxRow) = true := by rw [decide_eq_true_eq]; simp [maxRow]; omega
  have hmA : decide ((0 : Int) ≤ (c.length : Int)) = true := by simp
  have hmB : decide ((c.length : Int) ≤ (maxRow : Int)) = true := by
    rw [decide_eq_true_eq]; unfold maxRow; omega
  have hin : inb (List.replicate c.length (1 : Int)) r.2.1 = true := (at_in (by simpa using s.at1)).1
  have hI1 : impl_hasInt n (nearL w h c r.2.1 r.2.2.2.1 ++ [r.2.1]) r.2.2.1 = some ((nearL w h c r.2.1 r.2.2.2.1 ++ [r.2.1]).any fun x => x == r.2.2.1) := by rw [hasInt_eq]; exact spec_l6Among_ok _ (by simp; omega) _ n hn
  have hI2 : impl_hasInt n (besideL w h r.2.1) r.2.2.1 = some ((besideL w h r.2.1).any fun x => x == r.2.2.1) := by rw [hasInt_eq]; exact spec_l6Among_ok _ (by omega) _ n hn
  have hrI : ∀ x ∈ cellsI w h c r, 0 ≤ x ∧ x < (far.length : Int) := fun x hx => by rw [hfar.len]; exact (rng x (pm.mem_iff.1 hx)).1
  obtain ⟨C, e1, e2, e3⟩ := sortO_by (lt := ltChoices far c r.2.1) (lb := fun a b => lessKey r.2.1 (keyC c far a) (keyC c far b) a b) (xs := cellsI w h c r) (fun x hx y hy => ltChoices_is hN (hrI x hx) (hrI y hy)) (fun x y hxy => ltChoices_is hN (ltChoices_in hxy).1 (ltChoices_in hxy).2) (by rw [pm.length_eq]; omega) (pm.nodup_iff.2 nd) (lessKey_ord _ _ _)
    (fun x y z h1 h2 => by rw [ltChoices_is hN (ltChoices_in (by rw [h1]; rfl)).1 (ltChoices_in (by rw [h2]; rfl)).2]; rfl)
  refine ⟨C, ?_, e2, e3⟩
  unfold impl_Choices
  simp only [floor_eq, spec_FloorOk_ok w h c (by omega) n hn, hf, hst, Option.bind_some, Bool.not_true, cond_false, impl_near_ok f s.at1 r.2.2.2.1 n hn, hm1, cond_true, hI1, beside_eq, beside_ok (f.cell s.at1), hI2, hm2, hmA, hmB, decide_true, Bool.and_true, impl_Choices_init c hN n hn, hin, upd_is]
  by_cases hg : r.2.2.1 < 0
  · obtain ⟨_, hfr⟩ := hfar.neg hg
    have hd : decide (r.2.2.1 ≥ 0) = false := by rw [decide_eq_false_iff_not]; omega
    have hc0 : cellsI w h c r = nearL w h c r.2.1 r.2.2.2.1 ++ [r.2.1] := by unfold cellsI; rw [hd]; simp
    rw [hd]
    simp only [cond_false, Option.bind_some]
    rw [← hfr, ← hc0, e1]; rfl
  · obtain ⟨_, hfr⟩ := hfar.pos (by omega)
    have hd : decide (r.2.2.1 ≥ 0) = true := by rw [decide_eq_true_eq]; omega
    have hc0 : cellsI w h c r = (nearL w h c r.2.1 r.2.2.2.1 ++ [r.2.1]) ++ (bif !((nearL w h c r.2.1 r.2.2.2.1 ++ [r.2.1]).any fun x => x == r.2.2.1) && (besideL w h r.2.1).any fun x => x == r.2.2.1 then [r.2.2.1] else []) := by unfold cellsI; rw [hd]; rfl
    rw [hd, hfr n hn]
    revert hc0
    generalize ((nearL w h c r.2.1 r.2.2.2.1 ++ [r.2.1]).any fun x => x == r.2.2.1) = b1
    generalize ((besideL w h r.2.1).any fun x => x == r.2.2.1) = b2
    intro hc0
    cases b1 <;> cases b2 <;> simp only [Bool.not_true, Bool.not_false, Bool.true_and, Bool.false_and, cond_true, cond_false, List.append_nil, Option.bind_some] at hc0 ⊢ <;> rw [← hc0, e1] <;> rfl

theorem rank_ok {w h : Int} {c : List Int} (hN : c.length ≤ 100) {r : Rb} (s : Std c r) {far F : List Int} (hfar : Far w h c r far F) :
    ∃ rk : Int → Int, (∀ v, 0 ≤ v ∧ v < (c.length : Int) → spec_l7Rank r.1 r.2.1 r.2.2.1 r.2.2.2.1 r.2.2.2.2 F v = some (rk v)) ∧
      ∀ a b, (0 ≤ a ∧ a < (c.length : Int)) → (0 ≤ b ∧ b < (c.length : Int)) → (rk a < rk b ↔ keyC c far a < keyC c far b) ∧ (rk a = rk b ↔ keyC c far a = keyC c far b) := by
  by_cases hg : r.2.2.1 < 0
  · obtain ⟨_, hfr⟩ := hfar.neg hg
    have hk : ∀ v, 0 ≤ v ∧ v < (c.length : Int) → keyC c far v = bif v == r.2.1 then 0 else 1 := fun v hv => by
      have : kindC far v = bif v == r.2.1 then 0 else 1 := by
        rw [hfr]
        unfold kindC
        rw [List.getD_eq_getElem?_getD, List.getElem?_set]
        by_cases he : v = r.2.1
        · subst he
          rw [if_pos rfl, if_pos (by simp; omega)]; simp
        · have hne : ¬ r.2.1.toNat = v.toNat := fun e => he (by have := s.at1; omega)
          rw [if_neg hne, List.getElem?_replicate, if_pos (by omega), show (v == r.2.1) = false by simpa using he]
          rfl
      unfold keyC
      rw [this]
      cases (v == r.2.1) <;> rfl
    refine ⟨fun v => bif v == r.2.1 then 0 else 1, fun v hv => ?_, fun a b ha hb => ?_⟩
    · unfold spec_l7Rank
      rw [decide_eq_true hg]
      show _ = some (bif v == r.2.1 then 0 else 1)
      cases (v == r.2.1) <;> rfl
    · rw [hk a ha, hk b hb]; exact ⟨Iff.rfl, Iff.rfl⟩
  · obtain ⟨hF, _⟩ := hfar.pos (by omega)
    have hb : ∀ v, 0 ≤ v ∧ v < (c.length : Int) → -1 ≤ kindC far v ∧ kindC far v ≤ (c.length : Int) := fun v hv => hfar.bnd _ (at_in (by rw [hfar.len]; exact hv)).2.2
    refine ⟨fun v => bif decide (kindC far v < 0) then 1000 else kindC far v, fun v hv => ?_, fun a b ha hb' => ?_⟩
    · unfold spec_l7Rank
      rw [decide_eq_false hg, hF]
      simp only [cond_false, kindC_at (c := far) (i := v) (by rw [hfar.len]; exact hv), Option.bind_some]
      cases decide (kindC far v < 0) <;> rfl
    · have q1 := hb a ha
      have q2 := hb b hb'
      unfold keyC
      by_cases h1 : kindC far a < 0 <;> by_cases h2 : kindC far b < 0 <;> simp [h1, h2] <;> omega
theorem before_ok {w h : Int} {c : List Int} (hN : c.length ≤ 100) {r : Rb} (s : Std c r) {far F : List Int} (hfar : Far w h c r far F) {a b : Int} (ha : 0 ≤ a ∧ a < (c.length : Int)) (hb : 0 ≤ b ∧ b < (c.length : Int)) :
    spec_l7Before r.1 r.2.1 r.2.2.1 r.2.2.2.1 r.2.2.2.2 F a b = some (lessKey r.2.1 (keyC c far a) (keyC c far b) a b) := by
  obtain ⟨rk, h1, h2⟩ := rank_ok hN s hfar
  obtain ⟨q1, q2⟩ := h2 a b ha hb
  rw [← lessKey_same q1 q2]
  unfold spec_l7Before lessKey
  rw [h1 a ha, h1 b hb]
  simp only [Option.bind_some]
  cases (rk a != rk b) <;> cases ((a == r.2.1) != (b == r.2.1)) <;> rfl
theorem spec_Choices_ok {w h : Int} {c : List Int} (f : Flr w h c) {r : Rb} (s : Std c r) (n : Nat) (hn : BIG ≤ n) {far F : List Int} (hfar : Far w h c r far F) :
    ∃ C, spec_l7Choices n w h c r.1 r.2.1 r.2.2.1 r.2.2.2.1 r.2.2.2.2 F = some C ∧ C.Perm (cellsS w h c r) ∧ C.Pairwise fun a b => lessKey r.2.1 (keyC c far a) (keyC c far b) a b = true := by
  have hN := f.le
  have hB : 1048576 ≤ n := Nat.le_trans (by decide) hn
  obtain ⟨pm, nd, rng, l5⟩ := cells_perm f s
  obtain ⟨m1, m2, m3⟩ := near_in f s.at1 false
  have hfl := filter_loop (spec_l7Choices_L1 c r.2.2.1 r.2.2.2.1 (nearL w h c r.2.1 false)) (nearL w h c r.2.1 false) (fun k => !r.2.2.2.1 || (kindC c k != 2 || k == r.2.2.1)) (fun j x out hx hj ho => by
    have hxm := m1 x (List.mem_of_getElem? hx)
    have hm : decide (out.length + [x].length ≤ maxRow) = true := by rw [decide_eq_true_eq]; simp [maxRow]; omega
    simp only [spec_l7Choices_L1, inb_lt hj, Int.toNat_natCast, hx, Option.bind_some, kindC_at (c := c) (i := x) hxm.1, w64_nat hj (by omega), cond_true, hm]
    rw [show decide ((j : Int) < ((nearL w h c r.2.1 false).length : Int)) = true by simpa using hj]
    generalize (kindC c x != 2) = b1
    generalize (x == r.2.2.1) = b2
    cases r.2.2.2.1 <;> cases b1 <;> cases b2 <;> rfl) (fun out => by simp [spec_l7Choices_L1]) n (by omega)
  have hcS : (nearL w h c r.2.1 false).filter (fun k => !r.2.2.2.1 || (kindC c k != 2 || k == r.2.2.1)) ++ [r.2.1] = cellsS w h c r := rfl
  generalize hx9 : (nearL w h c r.2.1 false).filter (fun k => !r.2.2.2.1 || (kindC c k != 2 || k == r.2.2.1)) = x9 at hfl hcS
  have hx9l : x9.length ≤ 4 := by rw [← hx9]; exact Nat.le_trans (List.length_filter_le _ _) m3
  generalize hj9 : ((nearL w h c r.2.1 false).length : Int) = j9 at hfl
  obtain ⟨l, h1, h2, h3⟩ := isort_loop (spec_l7Choices_L2 n r.1 r.2.1 r.2.2.1 r.2.2.2.1 r.2.2.2.2 F (x9, j9)) (fun a b => lessKey r.2.1 (keyC c far a) (keyC c far b) a b) (cellsS w h c r) nd (lessKey_ord _ _ _) (fun i x l hx hl hlt hmem => by
      have hi : i < (cellsS w h c r).length := by omega
      have hxr := (rng x (List.mem_of_getElem? hx)).1
      have step : ∀ k y z, l[k]? = some y → spec_l7Choices_L3 r.1 r.2.1 r.2.2.1 r.2.2.2.1 r.2.2.2.2 F (x9, j9) (l, (i : Int)) (((k + 1 : Nat) : Int), hole l (k + 1) z) = some (bif lessKey r.2.1 (keyC c far x) (keyC c far y) x y then .inl ((k : Int), hole l k y) else .inr (((k + 1 : Nat) : Int), hole l (k + 1) z)) := by
        intro k y z hk
        have hkl : k < l.length := (List.getElem?_eq_some_iff.1 hk).1
        have hyr := (rng y (hmem y (List.mem_of_getElem? hk))).1
        have hw : w64 (((k + 1 : Nat) : Int) - 1) = (k : Int) := by rw [w64_eq (by omega) (by omega)]; omega
        have hi1 : inb (hole l (k + 1) z) (k : Int) = true := inb_lt (by rw [hole_len (by omega)]; omega)
        have hi2 : inb (hole l (k + 1) z) ((k + 1 : Nat) : Int) = true := inb_lt (by rw [hole_len (by omega)]; omega)
        simp only [spec_l7Choices_L3, hcS, hw, hi1, hi2, inb_lt hi, hx, Int.toNat_natCast, hole_at hk, Option.bind_some, before_ok hN s hfar hxr hyr, upd_is, hole_set hk, cond_true]
        rw [show decide (((k + 1 : Nat) : Int) > 0) = true by rw [decide_eq_true_eq]; omega]
        cases lessKey r.2.1 (keyC c far x) (keyC c far y) x y <;> rfl
      obtain ⟨k, z, e, hk, q1, q2⟩ := ins_loop (spec_l7Choices_L3 r.1 r.2.1 r.2.2.1 r.2.2.2.1 r.2.2.2.2 F (x9, j9) (l, (i : Int))) (fun y => lessKey r.2.1 (keyC c far x) (keyC c far y) x y) l (fun k y z hk hy => by rw [step k y z hk, hy]; rfl) (fun k y z hk hy => by rw [step k y z hk, hy]; rfl) (fun z => by simp [spec_l7Choices_L3]) n (by omega) x
      refine ⟨k, hk, ?_, q1, q2⟩
      have hmr : decide (l.length + [x].length ≤ maxRow) = true := by rw [decide_eq_true_eq]; simp [maxRow]; omega
      simp only [spec_l7Choices_L2, hcS, hmr, e, inb_lt hi, hx, Option.bind_some, inb_lt (show k < (hole l k z).length by rw [hole_len hk]; omega), Int.toNat_natCast, upd_is, hole_fill hk, w64_nat hi (by omega), cond_true]
      rw [show decide ((i : Int) < ((cellsS w h c r).length : Int)) = true by simpa using hi]
      rfl) (fun l => by simp [spec_l7Choices_L2, hcS]) n (by omega)
  refine ⟨l, ?_, h2, h3⟩
  have hm : decide (x9.length + [r.2.1].length ≤ maxRow) = true := by rw [decide_eq_true_eq]; simp [maxRow]; omega
  unfold spec_l7Choices
  simp only [spec_near_ok f s.at1 false n hn, Option.bind_some, hfl, hm, cond_true, h1]

/-- Both tell the same cells in the same order. -/
theorem choices_ok {w h : Int} {c : List Int} (hf : floorOk w h c = true) {r : Rb} (s : Std c r) :
    ∃ F C, (∀ n, BIG ≤ n → spec_l7Field n w h c r.1 r.2.1 r.2.2.1 r.2.2.2.1 r.2.2.2.2 = some F ∧ spec_l7Choices n w h c r.1 r.2.1 r.2.2.1 r.2.2.2.1 r.2.2.2.2 F = some C ∧ impl_Choices n w h c r.1 r.2.1 r.2.2.1 r.2.2.2.1 r.2.2.2.2 = some C) ∧
      (∀ v ∈ C, (0 ≤ v ∧ v < (c.length : Int)) ∧ kindC c v ≠ 0) ∧ C.Nodup ∧ C.length ≤ 5 := by
  have f := flr_of hf
  obtain ⟨far, F, hfar⟩ := far_ok f s
  obtain ⟨B, b1, b2, b3⟩ := spec_Choices_ok f s BIG (Nat.le_refl _) hfar
  obtain ⟨pm, nd, rng, l5⟩ := cells_perm f s
  refine ⟨F, B, fun n hn => ⟨hfar.spec n hn, ?_, ?_⟩, fun v hv => rng v (b2.mem_iff.1 hv), b2.nodup_iff.2 nd, by rw [b2.length_eq]; exact l5⟩
  · obtain ⟨A, a1, a2, a3⟩ := spec_Choices_ok f s n hn hfar
    rw [a1, sorted_one (lessKey_ord r.2.1 (keyC c far) (cellsS w h c r)) a3 b3 a2 b2]
  · obtain ⟨A, a1, a2, a3⟩ := impl_Choices_ok hf s n hn hfar
    rw [a1, sorted_one (lessKey_ord r.2.1 (keyC c far) (cellsS w h c r)) a3 b3 (a2.trans pm) b2]

theorem nx_set {l : List Int} {i k v : Int} (hi : 0 ≤ i ∧ i < (l.length : Int)) (hk : 0 ≤ k) : kindC (l.set i.toNat v) k = if k = i then v else kindC l k := by
  unfold kindC
  rw [List.getD_eq_getElem?_getD, List.getElem?_set, List.getD_eq_getElem?_getD]
  by_cases h : k = i
  · subst h
    rw [if_pos rfl, if_pos (by omega), if_pos rfl]; rfl
  · rw [if_neg (by omega), if_neg h]
theorem nx_mem {l : List Int} {v : Int} : v ∈ l ↔ ∃ k : Int, (0 ≤ k ∧ k < (l.length : Int)) ∧ kindC l k = v := by
  constructor
  · intro h
    obtain ⟨j, hj, e⟩ := List.mem_iff_getElem.1 h
    exact ⟨j, ⟨by omega, by omega⟩, by rw [← e]; simp [kindC, List.getD, List.getElem?_eq_getElem hj]⟩
  · rintro ⟨k, hk, rfl⟩
    exact (at_in hk).2.2
def negs (l : List Int) : Nat := l.countP fun x => decide (x < 0)
theorem negs_set {l : List Int} {i v : Int} (hi : 0 ≤ i ∧ i < (l.length : Int)) : negs (l.set i.toNat v) + (if kindC l i < 0 then 1 else 0) = negs l + (if v < 0 then 1 else 0) := by
  obtain ⟨_, e1, m⟩ := at_in hi
  obtain ⟨hil, e2⟩ := List.getElem?_eq_some_iff.1 e1
  unfold negs
  rw [List.countP_set hil, e2]
  by_cases h1 : kindC l i < 0
  · have hp : 0 < l.countP fun x => decide (x < 0) := List.countP_pos_iff.2 ⟨kindC l i, m, by simpa using h1⟩
    by_cases h2 : v < 0 <;> simp [h1, h2] <;> omega
  · by_cases h2 : v < 0 <;> simp [h1, h2]

/-- A crew that stands right. -/
structure Crw (c : List Int) (crew : List Rb) : Prop where
  n20 : crew.length ≤ 20
  std : ∀ i, 0 ≤ i → i < (crew.length : Int) → Std c (rbAt crew i)
  dist : ∀ i j, 0 ≤ i → i < (crew.length : Int) → 0 ≤ j → j < (crew.length : Int) → (rbAt crew i).2.1 = (rbAt crew j).2.1 → i = j
def Cel (c : List Int) (v : Int) : Prop := (0 ≤ v ∧ v < (c.length : Int)) ∧ kindC c v ≠ 0
structure Pre (c : List Int) (crew : List Rb) (next : List Int) (i p : Int) : Prop where
  len : next.length = crew.length
  ir : 0 ≤ i ∧ i < (crew.length : Int)
  neg : kindC next i < 0
  vals : ∀ k, 0 ≤ k → k < (crew.length : Int) → kindC next k = -1 ∨ Cel c (kindC next k)
  D : ∀ a b, 0 ≤ a → a < (crew.length : Int) → 0 ≤ b → b < (crew.length : Int) → 0 ≤ kindC next a → kindC next a = kindC next b → a = b
  U : ∀ j k, 0 ≤ j → j < (crew.length : Int) → 0 ≤ k → k < (crew.length : Int) → kindC next j < 0 → j ≠ i → kindC next k ≠ (rbAt crew j).2.1
  T : ∀ k, 0 ≤ k → k < (crew.length : Int) → kindC next k = (rbAt crew i).2.1 → k = p
  by_ : p = -1 ∨ ((0 ≤ p ∧ p < (crew.length : Int)) ∧ p ≠ i)
structure Kept (c : List Int) (crew : List Rb) (next next' : List Int) : Prop where
  len : next'.length = crew.length
  vals : ∀ k, 0 ≤ k → k < (crew.length : Int) → kindC next' k = -1 ∨ Cel c (kindC next' k)
  keep : ∀ k, 0 ≤ k → k < (crew.length : Int) → 0 ≤ kindC next k → kindC next' k = kindC next k
structure Good (c : List Int) (crew : List Rb) (next' : List Int) : Prop where
  D : ∀ a b, 0 ≤ a → a < (crew.length : Int) → 0 ≤ b → b < (crew.length : Int) → 0 ≤ kindC next' a → kindC next' a = kindC next' b → a = b
  U : ∀ j k, 0 ≤ j → j < (crew.length : Int) → 0 ≤ k → k < (crew.length : Int) → kindC next' j < 0 → kindC next' k ≠ (rbAt crew j).2.1
structure Post (c : List Int) (crew : List Rb) (next : List Int) (i : Int) (b : Bool) (next' : List Int) : Prop where
  kept : Kept c crew next next'
  ngs : negs next' + 1 ≤ negs next
  yes : b = true → Good c crew next' ∧ 0 ≤ kindC next' i
  no : b = false → kindC next' i = (rbAt crew i).2.1 ∧ ∀ k, 0 ≤ k → k < (crew.length : Int) → kindC next k < 0 → kindC next' k < 0 ∨ kindC next' k = (rbAt crew k).2.1

theorem who_ok (w h : Int) (c : List Int) (crew : List Rb) (hl : crew.length ≤ 20) (fields : List (List Int)) (next : List Int) (hn1 : next.length = crew.length) (v i : Int) (hi : 0 ≤ kindC next i) (n : Nat) (hn : BIG ≤ n) :
    ∃ o, impl_mover_there n w h c crew next v i = some (o, w, h, c, crew, next) ∧ spec_l8Who n w h c crew fields next v = some (o, w, h, c, crew, fields, next) ∧
      ((o = -1 ∧ ∀ j, 0 ≤ j → j < (crew.length : Int) → (rbAt crew j).2.1 = v → 0 ≤ kindC next j) ∨ ((0 ≤ o ∧ o < (crew.length : Int)) ∧ (rbAt crew o).2.1 = v ∧ kindC next o < 0)) := by
  have hB : 1048576 ≤ n := Nat.le_trans (by decide) hn
  obtain ⟨z, w', hS, h3, h4⟩ := iter_sim (f := impl_mover_there_L1 w h c crew next v i) (g := spec_l8Who_L1 w h c crew fields next v)
    (fun x y => ∃ k : Nat, x = (k : Int) ∧ y = (k : Int) ∧ k ≤ crew.length ∧ ∀ j, 0 ≤ j → j < (k : Int) → (rbAt crew j).2.1 = v → 0 ≤ kindC next j)
    (fun z y => ((∃ a b, z = .inl a ∧ y = .inl b) ∧ ∀ j, 0 ≤ j → j < (crew.length : Int) → (rbAt crew j).2.1 = v → 0 ≤ kindC next j) ∨ ∃ o, z = .inr (o, w, h, c, crew, next) ∧ y = .inr (o, w, h, c, crew, fields, next) ∧ (0 ≤ o ∧ o < (crew.length : Int)) ∧ (rbAt crew o).2.1 = v ∧ kindC next o < 0)
    (fun x => crew.length - x.toNat) (fun x y hR => by
      obtain ⟨k, rfl, rfl, hk, hall⟩ := hR
      by_cases hk2 : k = crew.length
      · subst hk2
        exact .inl ⟨.inl (crew.length : Int), .inl (crew.length : Int), by simp [impl_mover_there_L1], by simp [spec_l8Who_L1], .inl ⟨⟨_, _, rfl, rfl⟩, hall⟩⟩
      · have hk' : k < crew.length := by omega
        have hr := rb_at (crew := crew) (i := (k : Int)) ⟨by omega, by omega⟩
        obtain ⟨i1, i2, i3⟩ := at_in (out := next) (v := (k : Int)) ⟨by omega, by omega⟩
        have hd : decide ((k : Int) < (crew.length : Int)) = true := by simpa using hk'
        simp only [impl_mover_there_L1, spec_l8Who_L1, hd, hr, Option.bind_some, i1, i2, cond_true, w64_nat hk' (by omega)]
        by_cases hv : (rbAt crew (k : Int)).2.1 = v
        · by_cases hneg : kindC next (k : Int) < 0
          · have hne : ((k : Int) != i) = true := by
              rw [bne_iff_ne]; intro e; rw [e] at hneg; omega
            refine .inl ⟨.inr ((k : Int), w, h, c, crew, next), .inr ((k : Int), w, h, c, crew, fields, next), ?_, ?_, .inr ⟨_, rfl, rfl, ⟨by omega, by omega⟩, hv, hneg⟩⟩
            · rw [beq_iff_eq.2 hv, hne, decide_eq_true hneg]; rfl
            · rw [beq_iff_eq.2 hv, decide_eq_true hneg]; rfl
          · refine .inr ⟨((k + 1 : Nat) : Int), ((k + 1 : Nat) : Int), ?_, ?_, ⟨k + 1, rfl, rfl, by omega, fun j h0 h1 h2 => ?_⟩, by omega⟩
            · rw [beq_iff_eq.2 hv, decide_eq_false hneg]
              cases ((k : Int) != i) <;> rfl
            · rw [beq_iff_eq.2 hv, decide_eq_false hneg]; rfl
            · by_cases hj : j = (k : Int)
              · subst hj; omega
              · exact hall j h0 (by omega) h2
        · have hvb : ((rbAt crew (k : Int)).2.1 == v) = false := by simpa using hv
          refine .inr ⟨((k + 1 : Nat) : Int), ((k + 1 : Nat) : Int), ?_, ?_, ⟨k + 1, rfl, rfl, by omega, fun j h0 h1 h2 => ?_⟩, by omega⟩
          · rw [hvb]; rfl
          · rw [hvb]; rfl
          · by_cases hj : j = (k : Int)
            · subst hj; exact absurd h2 hv
            · exact hall j h0 (by omega) h2) n 0 0 ⟨0, rfl, rfl, by omega, fun j h0 h1 => by omega⟩ (by show crew.length - (0 : Int).toNat < n; omega)
  rcases hS with ⟨⟨a, b, rfl, rfl⟩, hall⟩ | ⟨o, rfl, rfl, q1, q2, q3⟩
  · exact ⟨-1, by unfold impl_mover_there; rw [h3]; rfl, by unfold spec_l8Who; rw [h4]; rfl, .inl ⟨rfl, hall⟩⟩
  · exact ⟨o, by unfold impl_mover_there; rw [h3]; rfl, by unfold spec_l8Who; rw [h4]; rfl, .inr ⟨q1, q2, q3⟩⟩

theorem set_same {α : Type} {l : List α} {k : Nat} {v : α} (h : l[k]? = some v) : l.set k v = l := by
  obtain ⟨hk, e⟩ := List.getElem?_eq_some_iff.1 h
  subst e
  exact List.set_getElem_self hk

def frm (crew : List Rb) (p : Int) : Int := if 0 ≤ p then (rbAt crew p).2.1 else -1
structure Flds (w h : Int) (c : List Int) (crew : List Rb) (fields : List (List Int)) : Prop where
  len : fields.length = crew.length
  each : ∀ i, 0 ≤ i → i < (crew.length : Int) → ∃ F C, fields[i.toNat]? = some F ∧ (∀ n, BIG ≤ n → spec_l7Choices n w h c (rbAt crew i).1 (rbAt crew i).2.1 (rbAt crew i).2.2.1 (rbAt crew i).2.2.2.1 (rbAt crew i).2.2.2.2 F = some C ∧
    impl_Choices n w h c (rbAt crew i).1 (rbAt crew i).2.1 (rbAt crew i).2.2.1 (rbAt crew i).2.2.2.1 (rbAt crew i).2.2.2.2 = some C) ∧ (∀ v ∈ C, Cel c v) ∧ C.length ≤ 5
structure LI (c : List Int) (crew : List Rb) (next : List Int) (i p : Int) (nI nS : List Int) : Prop where
  pre : Pre c crew nI i p
  keep : ∀ k, 0 ≤ k → k < (crew.length : Int) → 0 ≤ kindC next k → kindC nI k = kindC next k
  newly : ∀ k, 0 ≤ k → k < (crew.length : Int) → kindC next k < 0 → kindC nI k < 0 ∨ kindC nI k = (rbAt crew k).2.1
  ngs : negs nI ≤ negs next
  st : nS = nI ∨ ∃ v, nS = nI.set i.toNat v ∧ 0 ≤ v ∧ ∃ k, (0 ≤ k ∧ k < (crew.length : Int)) ∧ k ≠ i ∧ kindC nI k = v
section
variable {c : List Int} {crew : List Rb} {next nI nS : List Int} {i p : Int}
theorem LI.lenS (h : LI c crew next i p nI nS) : nS.length = crew.length := by
  rcases h.st with rfl | ⟨v, rfl, _⟩
  · exact h.pre.len
  · rw [List.length_set]; exact h.pre.len
theorem LI.any (h : LI c crew next i p nI nS) {v : Int} (hv : 0 ≤ v) : (nS.any fun x => x == v) = nI.any fun x => x == v := by
  rcases h.st with rfl | ⟨u, rfl, hu, k, hk, hki, hku⟩
  · rfl
  · have hlen := h.pre.len
    have hi := h.pre.ir
    rw [Bool.eq_iff_iff, List.any_eq_true, List.any_eq_true]
    simp only [beq_iff_eq]
    constructor
    · rintro ⟨x, hx, rfl⟩
      rcases List.mem_or_eq_of_mem_set hx with hx | rfl
      · exact ⟨x, hx, rfl⟩
      · exact ⟨x, nx_mem.2 ⟨k, by rw [hlen]; exact hk, hku⟩, rfl⟩
    · rintro ⟨x, hx, rfl⟩
      obtain ⟨j, hj, e⟩ := nx_mem.1 hx
      refine ⟨x, nx_mem.2 ⟨j, by rw [List.length_set]; exact hj, ?_⟩, rfl⟩
      rw [nx_set (by rw [hlen]; exact hi) hj.1, if_neg, e]
      rintro rfl
      have := h.pre.neg
      omega
theorem LI.set (h : LI c crew next i p nI nS) (v : Int) : nS.set i.toNat v = nI.set i.toNat v := by
  rcases h.st with rfl | ⟨u, rfl, _⟩
  · rfl
  · rw [List.set_set]
/-- A robot goes to a cell that nobody stands on. -/
theorem LI.goes (hcr : Crw c crew) (h : LI c crew next i p nI nS) {v : Int} (hv : Cel c v) (hnt : ∀ k, 0 ≤ k → k < (crew.length : Int) → kindC nI k ≠ v) (hno : ∀ j, 0 ≤ j → j < (crew.length : Int) → (rbAt crew j).2.1 = v → 0 ≤ kindC (nI.set i.toNat v) j) (hneg0 : kindC next i < 0) :
    Post c crew next i true (nI.set i.toNat v) := by
  have hlen := h.pre.len
  have hi := h.pre.ir
  have hi2 : 0 ≤ i ∧ i < (nI.length : Int) := by rw [hlen]; exact hi
  have hs : ∀ k, 0 ≤ k → kindC (nI.set i.toNat v) k = if k = i then v else kindC nI k := fun k hk => nx_set hi2 hk
  refine ⟨⟨by simp [hlen], fun k h0 h1 => ?_, fun k h0 h1 h2 => ?_⟩, ?_, fun _ => ⟨⟨fun a b a0 a1 b0 b1 hna hab => ?_, fun j k j0 j1 k0 k1 hnj hkj => ?_⟩, ?_⟩, fun hb => by cases hb⟩
  · rw [hs k h0]
    split
    · exact .inr hv
    · exact h.pre.vals k h0 h1
  · rw [hs k h0, if_neg (by rintro rfl; omega)]
    exact h.keep k h0 h1 h2
  · have := negs_set (l := nI) (i := i) (v := v) hi2
    rw [if_pos h.pre.neg, if_neg (by have := hv.1; omega)] at this
    have := h.ngs
    omega
  · rw [hs a a0, hs b b0] at hab
    rw [hs a a0] at hna
    split at hab <;> split at hab
    · omega
    · exact absurd hab.symm (hnt b b0 b1)
    · exact absurd hab (hnt a a0 a1)
    · rw [if_neg (by assumption)] at hna
      exact h.pre.D a b a0 a1 b0 b1 hna hab
  · rw [hs k k0] at hkj
    have hji : j ≠ i := by
      rintro rfl
      rw [hs j j0, if_pos rfl] at hnj
      have := hv.1; omega
    have hnj' : kindC nI j < 0 := by rw [hs j j0, if_neg hji] at hnj; exact hnj
    split at hkj
    · have := hno j j0 j1 hkj.symm
      omega
    · exact h.pre.U j k j0 j1 k0 k1 hnj' hji hkj
  · rw [hs i hi.1, if_pos rfl]; exact hv.1.1
/-- It pushes the one that stands there. -/
theorem LI.push (hcr : Crw c crew) (h : LI c crew next i p nI nS) {v o : Int} (hv : Cel c v) (hnt : ∀ k, 0 ≤ k → k < (crew.length : Int) → kindC nI k ≠ v) (ho : 0 ≤ o ∧ o < (crew.length : Int)) (hov : (rbAt crew o).2.1 = v) (hon : kindC (nI.set i.toNat v) o < 0) :
    Pre c crew (nI.set i.toNat v) o i ∧ negs (nI.set i.toNat v) + 1 = negs nI ∧ o ≠ i := by
  have hlen := h.pre.len
  have hi := h.pre.ir
  have hi2 : 0 ≤ i ∧ i < (nI.length : Int) := by rw [hlen]; exact hi
  have hs : ∀ k, 0 ≤ k → kindC (nI.set i.toNat v) k = if k = i then v else kindC nI k := fun k hk => nx_set hi2 hk
  have hoi : o ≠ i := by
    rintro rfl
    rw [hs o ho.1, if_pos rfl] at hon
    have := hv.1; omega
  have hng := negs_set (l := nI) (i := i) (v := v) hi2
  rw [if_pos h.pre.neg, if_neg (by have := hv.1; omega)] at hng
  refine ⟨⟨by simp [hlen], ho, hon, fun k h0 h1 => ?_, fun a b a0 a1 b0 b1 hna hab => ?_, fun j k j0 j1 k0 k1 hnj hjo hkj => ?_, fun k k0 k1 hk => ?_, .inr ⟨hi, hoi.symm⟩⟩, by omega, hoi⟩
  · rw [hs k h0]
    split
    · exact .inr hv
    · exact h.pre.vals k h0 h1
  · rw [hs a a0, hs b b0] at hab
    rw [hs a a0] at hna
    split at hab <;> split at hab
    · omega
    · exact absurd hab.symm (hnt b b0 b1)
    · exact absurd hab (hnt a a0 a1)
    · rw [if_neg (by assumption)] at hna
      exact h.pre.D a b a0 a1 b0 b1 hna hab
  · rw [hs k k0] at hkj
    have hji : j ≠ i := by
      rintro rfl
      rw [hs j j0, if_pos rfl] at hnj
      have := hv.1; omega
    have hnj' : kindC nI j < 0 := by rw [hs j j0, if_neg hji] at hnj; exact hnj
    split at hkj
    · exact hjo (hcr.dist j o j0 j1 ho.1 ho.2 (by rw [← hkj, hov]))
    · exact h.pre.U j k j0 j1 k0 k1 hnj' hji hkj
  · rw [hs k k0, hov] at hk
    split at hk
    · assumption
    · exact absurd hk (hnt k k0 k1)
/-- The one that was pushed is well. -/
theorem LI.well (h : LI c crew next i p nI nS) {v o : Int} (hv : Cel c v) (hng : negs (nI.set i.toNat v) + 1 = negs nI) {n2 : List Int} (hp : Post c crew (nI.set i.toNat v) o true n2) (hneg0 : kindC next i < 0) : Post c crew next i true n2 := by
  have hlen := h.pre.len
  have hi := h.pre.ir
  have hi2 : 0 ≤ i ∧ i < (nI.length : Int) := by rw [hlen]; exact hi
  have hs : ∀ k, 0 ≤ k → kindC (nI.set i.toNat v) k = if k = i then v else kindC nI k := fun k hk => nx_set hi2 hk
  obtain ⟨g, _⟩ := hp.yes rfl
  refine ⟨⟨hp.kept.len, hp.kept.vals, fun k h0 h1 h2 => ?_⟩, ?_, fun _ => ⟨g, ?_⟩, fun hb => by cases hb⟩
  · have hki : k ≠ i := by rintro rfl; omega
    have e := h.keep k h0 h1 h2
    have := hp.kept.keep k h0 h1 (by rw [hs k h0, if_neg hki, e]; exact h2)
    rw [this, hs k h0, if_neg hki, e]
  · have := hp.ngs; have := h.ngs; omega
  · have := hp.kept.keep i hi.1 hi.2 (by rw [hs i hi.1, if_pos rfl]; exact hv.1.1)
    rw [this, hs i hi.1, if_pos rfl]; exact hv.1.1
/-- The one that was pushed is not well. -/
theorem LI.ill (hcr : Crw c crew) (h : LI c crew next i p nI nS) {v o : Int} (hv : Cel c v) (hnt : ∀ k, 0 ≤ k → k < (crew.length : Int) → kindC nI k ≠ v) (ho : 0 ≤ o ∧ o < (crew.length : Int)) (hov : (rbAt crew o).2.1 = v) (hoi : o ≠ i) (hon : kindC (nI.set i.toNat v) o < 0)
    (hng : negs (nI.set i.toNat v) + 1 = negs nI) {n2 : List Int} (hp : Post c crew (nI.set i.toNat v) o false n2) : LI c crew next i p (n2.set i.toNat (-1)) n2 := by
  have hlen := h.pre.len
  have hi := h.pre.ir
  have hi2 : 0 ≤ i ∧ i < (nI.length : Int) := by rw [hlen]; exact hi
  have hs : ∀ k, 0 ≤ k → kindC (nI.set i.toNat v) k = if k = i then v else kindC nI k := fun k hk => nx_set hi2 hk
  have hl2 := hp.kept.len
  have hi3 : 0 ≤ i ∧ i < (n2.length : Int) := by rw [hl2]; exact hi
  have ht : ∀ k, 0 ≤ k → kindC (n2.set i.toNat (-1)) k = if k = i then -1 else kindC n2 k := fun k hk => nx_set hi3 hk
  obtain ⟨no1, no2⟩ := hp.no rfl
  have n2i : kindC n2 i = v := by
    have := hp.kept.keep i hi.1 hi.2 (by rw [hs i hi.1, if_pos rfl]; exact hv.1.1)
    rw [this, hs i hi.1, if_pos rfl]
  -- what the others are
  have oth : ∀ k, 0 ≤ k → k < (crew.length : Int) → k ≠ i → (0 ≤ kindC nI k ∧ kindC n2 k = kindC nI k) ∨ (kindC nI k < 0 ∧ (kindC n2 k < 0 ∨ kindC n2 k = (rbAt crew k).2.1)) := by
    intro k h0 h1 hki
    by_cases hk : kindC nI k < 0
    · right
      refine ⟨hk, no2 k h0 h1 ?_⟩
      rw [hs k h0, if_neg hki]; exact hk
    · left
      refine ⟨by omega, ?_⟩
      have := hp.kept.keep k h0 h1 (by rw [hs k h0, if_neg hki]; omega)
      rw [this, hs k h0, if_neg hki]
  have hat : ∀ k, 0 ≤ k → k < (crew.length : Int) → 0 ≤ (rbAt crew k).2.1 := fun k h0 h1 => (hcr.std k h0 h1).at1.1
  refine ⟨⟨by simp [hl2], hi, by rw [ht i hi.1, if_pos rfl]; omega, fun k h0 h1 => ?_, fun a b a0 a1 b0 b1 hna hab => ?_, fun j k j0 j1 k0 k1 hnj hji hkj => ?_, fun k k0 k1 hk => ?_, h.pre.by_⟩, fun k h0 h1 h2 => ?_, fun k h0 h1 h2 => ?_, ?_, .inr ⟨v, ?_, hv.1.1, o, ho, hoi, ?_⟩⟩
  · rw [ht k h0]
    split
    · exact .inl rfl
    · exact hp.kept.vals k h0 h1
  · rw [ht a a0, ht b b0] at hab
    rw [ht a a0] at hna
    by_cases hai : a = i
    · rw [if_pos hai] at hna; omega
    · rw [if_neg hai] at hna hab
      by_cases hbi : b = i
      · rw [if_pos hbi] at hab; omega
      · rw [if_neg hbi] at hab
        rcases oth a a0 a1 hai with ⟨ha1, ha2⟩ | ⟨ha1, ha2⟩
        · rcases oth b b0 b1 hbi with ⟨hb1, hb2⟩ | ⟨hb1, hb2⟩
          · rw [ha2, hb2] at hab
            exact h.pre.D a b a0 a1 b0 b1 ha1 hab
          · rcases hb2 with hb2 | hb2
            · omega
            · rw [ha2, hb2] at hab
              exact absurd hab (h.pre.U b a b0 b1 a0 a1 hb1 hbi)
        · rcases ha2 with ha2 | ha2
          · omega
          · rcases oth b b0 b1 hbi with ⟨hb1, hb2⟩ | ⟨hb1, hb2⟩
            · rw [ha2, hb2] at hab
              exact absurd hab.symm (h.pre.U a b a0 a1 b0 b1 ha1 hai)
            · rcases hb2 with hb2 | hb2
              · omega
              · rw [ha2, hb2] at hab
                exact hcr.dist a b a0 a1 b0 b1 hab
  · rw [ht j j0, if_neg hji] at hnj
    rw [ht k k0] at hkj
    have hjI : kindC nI j < 0 := by
      rcases oth j j0 j1 hji with ⟨h1, h2⟩ | ⟨h1, _⟩
      · omega
      · exact h1
    by_cases hki : k = i
    · rw [if_pos hki] at hkj
      have := hat j j0 j1
      omega
    · rw [if_neg hki] at hkj
      rcases oth k k0 k1 hki with ⟨h1, h2⟩ | ⟨h1, h2⟩
      · rw [h2] at hkj
        exact h.pre.U j k j0 j1 k0 k1 hjI hji hkj
      · rcases h2 with h2 | h2
        · have := hat j j0 j1
          omega
        · rw [h2] at hkj
          have := hcr.dist k j k0 k1 j0 j1 hkj
          subst this
          have := hat k k0 k1
          omega
  · rw [ht k k0] at hk
    have := hat i hi.1 hi.2
    by_cases hki : k = i
    · rw [if_pos hki] at hk; omega
    · rw [if_neg hki] at hk
      rcases oth k k0 k1 hki with ⟨h1, h2⟩ | ⟨h1, h2⟩
      · rw [h2] at hk
        exact h.pre.T k k0 k1 hk
      · rcases h2 with h2 | h2
        · omega
        · rw [h2] at hk
          exact absurd (hcr.dist k i k0 k1 hi.1 hi.2 hk) hki
  · have e := h.keep k h0 h1 h2
    have hki : k ≠ i := by
      rintro rfl
      have := h.pre.neg
      omega
    rw [ht k h0, if_neg hki]
    rcases oth k h0 h1 hki with ⟨_, h4⟩ | ⟨h3, _⟩
    · rw [h4, e]
    · omega
  · rw [ht k h0]
    by_cases hki : k = i
    · rw [if_pos hki]; exact .inl (by omega)
    · rw [if_neg hki]
      rcases h.newly k h0 h1 h2 with h3 | h3
      · rcases oth k h0 h1 hki with ⟨h4, _⟩ | ⟨_, h5⟩
        · omega
        · exact h5
      · rcases oth k h0 h1 hki with ⟨_, h5⟩ | ⟨h4, h5⟩
        · rw [h5]; exact .inr h3
        · exact h5
  · have q1 := negs_set (l := n2) (i := i) (v := -1) hi3
    rw [n2i, if_neg (by have := hv.1; omega), if_pos (by omega)] at q1
    have := hp.ngs; have := h.ngs
    omega
  · rw [List.set_set]
    exact (set_same (by rw [← n2i]; exact (at_in hi3).2.1)).symm
  · rw [ht o ho.1, if_neg hoi, no1, hov]
/-- Nothing is left: it stays. -/
theorem LI.stays (hcr : Crw c crew) (h : LI c crew next i p nI nS) : Post c crew next i false (nI.set i.toNat (rbAt crew i).2.1) := by
  have hlen := h.pre.len
  have hi := h.pre.ir
  have hi2 : 0 ≤ i ∧ i < (nI.length : Int) := by rw [hlen]; exact hi
  have hs : ∀ k, 0 ≤ k → kindC (nI.set i.toNat (rbAt crew i).2.1) k = if k = i then (rbAt crew i).2.1 else kindC nI k := fun k hk => nx_set hi2 hk
  have hst := hcr.std i hi.1 hi.2
  refine ⟨⟨by simp [hlen], fun k h0 h1 => ?_, fun k h0 h1 h2 => ?_⟩, ?_, fun hb => (by cases hb), fun _ => ⟨by rw [hs i hi.1, if_pos rfl], fun k h0 h1 h2 => ?_⟩⟩
  · rw [hs k h0]
    split
    · exact .inr ⟨hst.at1, hst.at2⟩
    · exact h.pre.vals k h0 h1
  · have e := h.keep k h0 h1 h2
    rw [hs k h0, if_neg (by rintro rfl; have := h.pre.neg; omega), e]
  · have := negs_set (l := nI) (i := i) (v := (rbAt crew i).2.1) hi2
    rw [if_pos h.pre.neg, if_neg (by have := hst.at1; omega)] at this
    have := h.ngs
    omega
  · rw [hs k h0]
    by_cases hki : k = i
    · subst hki; rw [if_pos rfl]; exact .inr rfl
    · rw [if_neg hki]; exact h.newly k h0 h1 h2
end

theorem choose_ok {w h : Int} {c : List Int} {crew : List Rb} (hcr : Crw c crew) {fields : List (List Int)} (hfl : Flds w h c crew fields) : ∀ (m : Nat) (next : List Int) (i p : Int), Pre c crew next i p → BIG + negs next + 1 ≤ m →
    ∃ b next', impl_mover_choose m w h c crew next i p = some (b, w, h, c, crew, next') ∧ spec_l8Choose m w h c crew fields next i (frm crew p) = some (b, w, h, c, crew, fields, next') ∧ Post c crew next i b next'
  | 0, next, i, p, hpre, hm => absurd hm (by omega)
  | m + 1, next, i, p, hpre, hm => by
    have hir := hpre.ir
    have hneg0 := hpre.neg
    have hpos : 0 < negs next := List.countP_pos_iff.2 ⟨kindC next i, (at_in (by rw [hpre.len]; exact hir)).2.2, by simpa using hneg0⟩
    have hB : BIG ≤ m := by omega
    have hB2 : 1048576 ≤ m := Nat.le_trans (by decide) hB
    have hr := rb_at hir
    obtain ⟨F, C, hF, hC, hCv, hC5⟩ := hfl.each i hir.1 hir.2
    obtain ⟨hC1, hC2⟩ := hC m hB
    have hif : inb fields i = true := by
      obtain ⟨k, rfl⟩ : ∃ k : Nat, i = k := ⟨i.toNat, by omega⟩
      exact inb_lt (by rw [hfl.len]; omega)
    have hn20 := hcr.n20
    obtain ⟨z, y, hS, e1, e2⟩ := iter_sim (f := impl_mover_choose_L1 (impl_mover_choose m) m i p C) (g := spec_l8Choose_L1 (spec_l8Choose m) m i (frm crew p) (rbAt crew i) C)
      (fun x y => ∃ (k : Nat) (nI nS : List Int), x = ((k : Int), w, h, c, crew, nI) ∧ y = ((k : Int), w, h, c, crew, fields, nS) ∧ k ≤ C.length ∧ LI c crew next i p nI nS)
      (fun z y => (∃ (k : Int) (nI nS : List Int), z = .inl (k, w, h, c, crew, nI) ∧ y = .inl (k, w, h, c, crew, fields, nS) ∧ LI c crew next i p nI nS) ∨ ∃ n2 : List Int, z = .inr (true, w, h, c, crew, n2) ∧ y = .inr (true, w, h, c, crew, fields, n2) ∧ Post c crew next i true n2)
      (fun x => C.length - x.1.toNat) (fun x y hR => by
        obtain ⟨k, nI, nS, rfl, rfl, hk, hLI⟩ := hR
        by_cases hk2 : k = C.length
        · subst hk2
          exact .inl ⟨.inl ((C.length : Int), w, h, c, crew, nI), .inl ((C.length : Int), w, h, c, crew, fields, nS), by simp [impl_mover_choose_L1], by simp [spec_l8Choose_L1], .inl ⟨_, nI, nS, rfl, rfl, hLI⟩⟩
        · have hk' : k < C.length := by omega
          have hx : C[k]? = some C[k] := List.getElem?_eq_getElem hk'
          have hv := hCv C[k] (List.getElem_mem hk')
          generalize C[k] = v at hx hv
          have hd : decide ((k : Int) < (C.length : Int)) = true := by simpa using hk'
          have hlenI := hLI.pre.len
          have hlenS := hLI.lenS
          have hiI : inb nI i = true := (at_in (by rw [hlenI]; exact hir)).1
          have hiS : inb nS i = true := (at_in (by rw [hlenS]; exact hir)).1
          have t1 : impl_mover_taken m w h c crew nI v = some ((nI.any fun x => x == v), w, h, c, crew, nI) := by
            unfold impl_mover_taken
            rw [hasInt_eq, spec_l6Among_ok nI (by omega) v m hB]; rfl
          have t2 : spec_l6Among m nS v = some (nI.any fun x => x == v) := by rw [spec_l6Among_ok nS (by omega) v m hB, hLI.any hv.1.1]
          have t3 : (bif decide (p ≥ 0) then (getI crew p).bind fun (x7 : Rb) => some (v == x7.2.1, w, h, c, crew, nI) else some (false, w, h, c, crew, nI)) = some ((v == frm crew p), w, h, c, crew, nI) := by
            rcases hpre.by_ with rfl | ⟨hp1, hp2⟩
            · have : (v == frm crew (-1)) = false := by
                unfold frm
                rw [if_neg (by omega), beq_eq_false_iff_ne]
                have := hv.1; omega
              rw [this]; rfl
            · rw [decide_eq_true (show p ≥ 0 from hp1.1), cond_true, rb_at hp1, Option.bind_some]
              unfold frm
              rw [if_pos hp1.1]
          have hcur : ∀ {a b : Nat}, a = b + 1 → True := fun _ => trivial
          by_cases hskip : ((nI.any fun x => x == v) || (v == frm crew p)) = true
          · refine .inr ⟨(((k + 1 : Nat) : Int), w, h, c, crew, nI), (((k + 1 : Nat) : Int), w, h, c, crew, fields, nS), ?_, ?_, ⟨k + 1, nI, nS, rfl, rfl, by omega, hLI⟩, by show C.length - ((k + 1 : Nat) : Int).toNat < C.length - (k : Int).toNat; omega⟩
            · simp only [impl_mover_choose_L1, hd, inb_lt hk', Int.toNat_natCast, hx, Option.bind_some, t1, t3, w64_nat hk' (by omega), cond_true]
              cases hb1 : (nI.any fun x => x == v) with
              | true => rfl
              | false => rw [hb1, Bool.false_or] at hskip; rw [hskip]; rfl
            · simp only [spec_l8Choose_L1, hd, inb_lt hk', Int.toNat_natCast, hx, Option.bind_some, t2, w64_nat hk' (by omega), cond_true]
              cases hb1 : (nI.any fun x => x == v) with
              | true => rfl
              | false => rw [hb1, Bool.false_or] at hskip; rw [hskip]; rfl
          · have hs1 : (nI.any fun x => x == v) = false := by
              cases hq : (nI.any fun x => x == v) with
              | false => rfl
              | true => rw [hq] at hskip; exact absurd rfl hskip
            have hs2 : (v == frm crew p) = false := by
              cases hq : (v == frm crew p) with
              | false => rfl
              | true => rw [hs1, hq] at hskip; exact absurd rfl hskip
            have hnt : ∀ k, 0 ≤ k → k < (crew.length : Int) → kindC nI k ≠ v := fun k h0 h1 e => by
              have := List.any_eq_false.1 hs1 (kindC nI k) (at_in (by rw [hlenI]; exact ⟨h0, h1⟩)).2.2
              rw [e] at this
              simp at this
            have hset := hLI.set v
            have hn1 : kindC (nI.set i.toNat v) i = v := by rw [nx_set (by rw [hlenI]; exact hir) hir.1, if_pos rfl]
            obtain ⟨o, w1, w2, hwho⟩ := who_ok w h c crew hn20 fields (nI.set i.toNat v) (by simp [hlenI]) v i (by rw [hn1]; exact hv.1.1) m hB
            rcases hwho with ⟨rfl, hno⟩ | ⟨ho, hov, hon⟩
            · refine .inl ⟨.inr (true, w, h, c, crew, nI.set i.toNat v), .inr (true, w, h, c, crew, fields, nI.set i.toNat v), ?_, ?_, .inr ⟨_, rfl, rfl, hLI.goes hcr hv hnt hno hneg0⟩⟩
              · simp only [impl_mover_choose_L1, hd, inb_lt hk', Int.toNat_natCast, hx, Option.bind_some, t1, t3, cond_true, hs1, hs2, cond_false, hiI, upd_is, w1]
                rfl
              · simp only [spec_l8Choose_L1, hd, inb_lt hk', Int.toNat_natCast, hx, Option.bind_some, t2, cond_true, hs1, hs2, cond_false, hiS, upd_is, hset, w2]
                rfl
            · obtain ⟨hpre2, hng, hoi⟩ := hLI.push hcr hv hnt ho hov hon
              obtain ⟨b, n2, r1, r2, hpost⟩ := choose_ok hcr hfl m (nI.set i.toNat v) o i hpre2 (by have := hLI.ngs; omega)
              have hfi : frm crew i = (rbAt crew i).2.1 := by unfold frm; rw [if_pos hir.1]
              rw [hfi] at r2
              have ho0 : decide (o < 0) = false := by rw [decide_eq_false_iff_not]; omega
              have ho1 : decide (o ≥ 0) = true := by rw [decide_eq_true_eq]; omega
              cases b with
              | true =>
                refine .inl ⟨.inr (true, w, h, c, crew, n2), .inr (true, w, h, c, crew, fields, n2), ?_, ?_, .inr ⟨_, rfl, rfl, hLI.well hv hng hpost hneg0⟩⟩
                · simp only [impl_mover_choose_L1, hd, inb_lt hk', Int.toNat_natCast, hx, Option.bind_some, t1, t3, cond_true, hs1, hs2, cond_false, hiI, upd_is, w1, ho0, r1]
                · simp only [spec_l8Choose_L1, hd, inb_lt hk', Int.toNat_natCast, hx, Option.bind_some, t2, cond_true, hs1, hs2, cond_false, hiS, upd_is, hset, w2, ho1, r2, Bool.not_true]
              | false =>
                have hi2 : inb n2 i = true := (at_in (by rw [hpost.kept.len]; exact hir)).1
                refine .inr ⟨(((k + 1 : Nat) : Int), w, h, c, crew, n2.set i.toNat (-1)), (((k + 1 : Nat) : Int), w, h, c, crew, fields, n2), ?_, ?_, ⟨k + 1, _, n2, rfl, rfl, by omega, hLI.ill hcr hv hnt ho hov hoi hon hng hpost⟩, by show C.length - ((k + 1 : Nat) : Int).toNat < C.length - (k : Int).toNat; omega⟩
                · simp only [impl_mover_choose_L1, hd, inb_lt hk', Int.toNat_natCast, hx, Option.bind_some, t1, t3, cond_true, hs1, hs2, cond_false, hiI, upd_is, w1, ho0, r1, hi2, w64_nat hk' (by omega)]
                · simp only [spec_l8Choose_L1, hd, inb_lt hk', Int.toNat_natCast, hx, Option.bind_some, t2, cond_true, hs1, hs2, cond_false, hiS, upd_is, hset, w2, ho1, r2, Bool.not_false, w64_nat hk' (by omega)]) m (0, w, h, c, crew, next) (0, w, h, c, crew, fields, next)
      ⟨0, next, next, rfl, rfl, by omega, ⟨hpre, fun k _ _ _ => rfl, fun k _ _ hk => .inl hk, Nat.le_refl _, .inl rfl⟩⟩ (by show C.length - (0 : Int).toNat < m; omega)
    rcases hS with ⟨k, nI, nS, rfl, rfl, hLI⟩ | ⟨n2, rfl, rfl, hpost⟩
    · have hiI : inb nI i = true := (at_in (by rw [hLI.pre.len]; exact hir)).1
      have hiS : inb nS i = true := (at_in (by rw [hLI.lenS]; exact hir)).1
      refine ⟨false, nI.set i.toNat (rbAt crew i).2.1, ?_, ?_, hLI.stays hcr⟩
      · simp only [impl_mover_choose, hr, Option.bind_some, hC2, e1, hiI, cond_true, upd_is]
      · simp only [spec_l8Choose, hr, Option.bind_some, hif, cond_true, hF, hC1, e2, hiS, upd_is, hLI.set]
    · refine ⟨true, n2, ?_, ?_, hpost⟩
      · simp only [impl_mover_choose, hr, Option.bind_some, hC2, e1]
      · simp only [spec_l8Choose, hr, Option.bind_some, hif, cond_true, hF, hC1, e2]

theorem post_good {c : List Int} {crew : List Rb} (hcr : Crw c crew) {next next' : List Int} {i : Int} {b : Bool} (hlen : next.length = crew.length) (hi : 0 ≤ i ∧ i < (crew.length : Int)) (hg : Good c crew next) (hp : Post c crew next i b next') : Good c crew next' ∧ 0 ≤ kindC next' i := by
  cases b with
  | true => exact hp.yes rfl
  | false =>
    obtain ⟨n1, n2⟩ := hp.no rfl
    have hat : ∀ k, 0 ≤ k → k < (crew.length : Int) → 0 ≤ (rbAt crew k).2.1 := fun k h0 h1 => (hcr.std k h0 h1).at1.1
    have oth : ∀ k, 0 ≤ k → k < (crew.length : Int) → (0 ≤ kindC next k ∧ kindC next' k = kindC next k) ∨ (kindC next k < 0 ∧ (kindC next' k < 0 ∨ kindC next' k = (rbAt crew k).2.1)) := by
      intro k h0 h1
      by_cases hk : kindC next k < 0
      · exact .inr ⟨hk, n2 k h0 h1 hk⟩
      · exact .inl ⟨by omega, hp.kept.keep k h0 h1 (by omega)⟩
    refine ⟨⟨fun a b a0 a1 b0 b1 hna hab => ?_, fun j k j0 j1 k0 k1 hnj hkj => ?_⟩, by rw [n1]; exact hat i hi.1 hi.2⟩
    · rcases oth a a0 a1 with ⟨ha1, ha2⟩ | ⟨ha1, ha2⟩
      · rcases oth b b0 b1 with ⟨hb1, hb2⟩ | ⟨hb1, hb2⟩
        · rw [ha2, hb2] at hab
          exact hg.D a b a0 a1 b0 b1 ha1 hab
        · rcases hb2 with hb2 | hb2
          · omega
          · rw [ha2, hb2] at hab
            exact absurd hab (hg.U b a b0 b1 a0 a1 hb1)
      · rcases ha2 with ha2 | ha2
        · omega
        · rcases oth b b0 b1 with ⟨hb1, hb2⟩ | ⟨hb1, hb2⟩
          · rw [ha2, hb2] at hab
            exact absurd hab.symm (hg.U a b a0 a1 b0 b1 ha1)
          · rcases hb2 with hb2 | hb2
            · omega
            · rw [ha2, hb2] at hab
              exact hcr.dist a b a0 a1 b0 b1 hab
    · have hjn : kindC next j < 0 := by
        rcases oth j j0 j1 with ⟨h1, h2⟩ | ⟨h1, _⟩
        · omega
        · exact h1
      rcases oth k k0 k1 with ⟨h1, h2⟩ | ⟨h1, h2⟩
      · rw [h2] at hkj
        exact hg.U j k j0 j1 k0 k1 hjn hkj
      · rcases h2 with h2 | h2
        · have := hat j j0 j1
          omega
        · rw [h2] at hkj
          have := hcr.dist k j k0 k1 j0 j1 hkj
          subst this
          have := hat k k0 k1
          omega

structure Next (c : List Int) (crew : List Rb) (next : List Int) : Prop where
  len : next.length = crew.length
  cel : ∀ k, 0 ≤ k → k < (crew.length : Int) → Cel c (kindC next k)
  D : ∀ a b, 0 ≤ a → a < (crew.length : Int) → 0 ≤ b → b < (crew.length : Int) → kindC next a = kindC next b → a = b
theorem step_loop {w h : Int} {c : List Int} {crew : List Rb} (hcr : Crw c crew) {fields : List (List Int)} (hfl : Flds w h c crew fields) (T : List Int) (hT : T.Perm (idx crew.length)) (n : Nat) (hn : BIG + 1000 ≤ n) :
    ∃ (k k' : Int) (next : List Int), iter n (impl_Step_L2 n T) (0, w, h, c, crew, List.replicate crew.length (-1)) = some (k, w, h, c, crew, next) ∧ iter n (spec_l8Step_L2 n T) (0, w, h, c, crew, fields, List.replicate crew.length (-1)) = some (k', w, h, c, crew, fields, next) ∧ Next c crew next := by
  have hTl : T.length = crew.length := by rw [hT.length_eq, idx_len]
  have hB1 : 1048576 ≤ n := Nat.le_trans (Nat.le_trans (by decide : 1048576 ≤ BIG) (Nat.le_add_right _ _)) hn
  have hn20 := hcr.n20
  obtain ⟨z, y, ⟨k, k', next, rfl, rfl, hN⟩, e1, e2⟩ := iter_sim (f := impl_Step_L2 n T) (g := spec_l8Step_L2 n T)
    (fun x y => ∃ (k : Nat) (next : List Int), x = ((k : Int), w, h, c, crew, next) ∧ y = ((k : Int), w, h, c, crew, fields, next) ∧ k ≤ T.length ∧ next.length = crew.length ∧ (∀ j, 0 ≤ j → j < (crew.length : Int) → kindC next j = -1 ∨ Cel c (kindC next j)) ∧ Good c crew next ∧ ∀ j ∈ T.take k, 0 ≤ kindC next j)
    (fun z y => ∃ (k k' : Int) (next : List Int), z = (k, w, h, c, crew, next) ∧ y = (k', w, h, c, crew, fields, next) ∧ Next c crew next)
    (fun x => T.length - x.1.toNat) (fun x y hR => by
      obtain ⟨k, next, rfl, rfl, hk, hlen, hvals, hg, hdone⟩ := hR
      by_cases hk2 : k = T.length
      · subst hk2
        refine .inl ⟨((T.length : Int), w, h, c, crew, next), ((T.length : Int), w, h, c, crew, fields, next), by simp [impl_Step_L2], by simp [spec_l8Step_L2], _, _, next, rfl, rfl, ?_⟩
        rw [List.take_length] at hdone
        have hge : ∀ j, 0 ≤ j → j < (crew.length : Int) → 0 ≤ kindC next j := fun j h0 h1 => hdone j (hT.mem_iff.2 (idx_mem.2 ⟨h0, h1⟩))
        refine ⟨hlen, fun j h0 h1 => ?_, fun a b a0 a1 b0 b1 hab => hg.D a b a0 a1 b0 b1 (hge a a0 a1) hab⟩
        rcases hvals j h0 h1 with hv | hv
        · have := hge j h0 h1; omega
        · exact hv
      · right
        have hk' : k < T.length := by omega
        have hx : T[k]? = some T[k] := List.getElem?_eq_getElem hk'
        have hir := idx_mem.1 (hT.mem_iff.1 (List.getElem_mem hk'))
        have htk : T.take (k + 1) = T.take k ++ [T[k]] := List.take_succ_eq_append_getElem hk'
        generalize T[k] = i at hx hir htk
        have hd : decide ((k : Int) < (T.length : Int)) = true := by simpa using hk'
        obtain ⟨i1, i2, _⟩ := at_in (out := next) (v := i) (by rw [hlen]; exact hir)
        have hdec : T.length - ((k + 1 : Nat) : Int).toNat < T.length - (k : Int).toNat := by omega
        by_cases hneg : kindC next i < 0
        · have hpre : Pre c crew next i (-1) := ⟨hlen, hir, hneg, hvals, hg.D, fun j k j0 j1 k0 k1 h1 _ => hg.U j k j0 j1 k0 k1 h1, fun k k0 k1 hk => absurd hk (hg.U i k hir.1 hir.2 k0 k1 hneg), .inl rfl⟩
          have hngs : negs next ≤ 20 := by
            have := List.countP_le_length (p := fun x : Int => decide (x < 0)) (l := next)
            unfold negs; omega
          obtain ⟨b, next', r1, r2, hp⟩ := choose_ok hcr hfl n next i (-1) hpre (Nat.le_trans (by rw [Nat.add_assoc]; exact Nat.add_le_add_left (by omega) _) hn)
          have hf1 : frm crew (-1) = -1 := by unfold frm; rw [if_neg (by omega)]
          rw [hf1] at r2
          obtain ⟨hg', hi'⟩ := post_good hcr hlen hir hg hp
          refine ⟨(((k + 1 : Nat) : Int), w, h, c, crew, next'), (((k + 1 : Nat) : Int), w, h, c, crew, fields, next'), ?_, ?_, ⟨k + 1, next', rfl, rfl, by omega, hp.kept.len, hp.kept.vals, hg', fun j hj => ?_⟩, hdec⟩
          · simp only [impl_Step_L2, hd, inb_lt hk', Int.toNat_natCast, hx, Option.bind_some, i1, i2, decide_eq_true hneg, cond_true, r1, w64_nat hk' (by omega)]
          · simp only [spec_l8Step_L2, hd, inb_lt hk', Int.toNat_natCast, hx, Option.bind_some, i1, i2, decide_eq_true hneg, cond_true, r2, w64_nat hk' (by omega)]
          · rw [htk] at hj
            rcases List.mem_append.1 hj with hj | hj
            · have hjr := idx_mem.1 (hT.mem_iff.1 (List.mem_of_mem_take hj))
              have := hdone j hj
              rw [hp.kept.keep j hjr.1 hjr.2 this]; exact this
            · rw [List.mem_singleton.1 hj]; exact hi'
        · refine ⟨(((k + 1 : Nat) : Int), w, h, c, crew, next), (((k + 1 : Nat) : Int), w, h, c, crew, fields, next), ?_, ?_, ⟨k + 1, next, rfl, rfl, by omega, hlen, hvals, hg, fun j hj => ?_⟩, hdec⟩
          · simp only [impl_Step_L2, hd, inb_lt hk', Int.toNat_natCast, hx, Option.bind_some, i1, i2, decide_eq_false hneg, cond_true, cond_false, w64_nat hk' (by omega)]
          · simp only [spec_l8Step_L2, hd, inb_lt hk', Int.toNat_natCast, hx, Option.bind_some, i1, i2, decide_eq_false hneg, cond_true, cond_false, w64_nat hk' (by omega)]
          · rw [htk] at hj
            rcases List.mem_append.1 hj with hj | hj
            · exact hdone j hj
            · rw [List.mem_singleton.1 hj]; exact Int.not_lt.1 hneg) n (0, w, h, c, crew, List.replicate crew.length (-1)) (0, w, h, c, crew, fields, List.replicate crew.length (-1))
    (by
      have hr : ∀ j, 0 ≤ j → j < (crew.length : Int) → kindC (List.replicate crew.length (-1 : Int)) j = -1 := fun j h0 h1 => by
        unfold kindC
        rw [List.getD_eq_getElem?_getD, List.getElem?_replicate, if_pos (by omega)]; rfl
      refine ⟨0, List.replicate crew.length (-1), rfl, rfl, by omega, by simp, fun j h0 h1 => .inl (hr j h0 h1), ⟨fun a b a0 a1 _ _ hna _ => ?_, fun j k j0 j1 k0 k1 _ hkj => ?_⟩, fun j hj => by simp at hj⟩
      · rw [hr a a0 a1] at hna; omega
      · rw [hr k k0 k1] at hkj
        have := (hcr.std j j0 j1).at1
        omega) (by show T.length - (0 : Int).toNat < n; exact Nat.lt_of_lt_of_le (by omega : T.length - (0 : Int).toNat < 1048576) hB1)
  exact ⟨k, k', next, e1, e2, hN⟩
theorem l8_init {w h : Int} {c : List Int} (hf : floorOk w h c = true) {crew : List Rb} (hcr : Crw c crew) (n : Nat) (hn : BIG ≤ n) :
    ∃ fields, Flds w h c crew fields ∧ iter n (spec_l8Step_L1 n w h c crew) (0, w, h, c, crew, [], []) = some ((crew.length : Int), w, h, c, crew, fields, List.replicate crew.length (-1)) := by
  have hn20 := hcr.n20
  have hB : 1048576 ≤ n := Nat.le_trans (by decide) hn
  let F : Nat → List Int := fun i => if hi : i < crew.length then (choices_ok hf (hcr.std (i : Int) (by omega) (by omega))).choose else []
  have hF : ∀ i (hi : i < crew.length), F i = (choices_ok hf (hcr.std (i : Int) (by omega) (by omega))).choose := fun i hi => dif_pos hi
  refine ⟨(List.range crew.length).map F, ⟨by simp, fun i h0 h1 => ?_⟩, ?_⟩
  · obtain ⟨m, rfl⟩ : ∃ m : Nat, i = m := ⟨i.toNat, by omega⟩
    have hm : m < crew.length := by omega
    obtain ⟨C, q1, q2, q3, q4⟩ := (choices_ok hf (hcr.std (m : Int) (by omega) (by omega))).choose_spec
    exact ⟨F m, C, by simp [hm], fun n hn => by rw [hF m hm]; exact (q1 n hn).2, q2, q4⟩
  · have := iter_steps (spec_l8Step_L1 n w h c crew) (fun i => ((i : Int), w, h, c, crew, (List.range i).map F, List.replicate i (-1))) crew.length ((crew.length : Int), w, h, c, crew, (List.range crew.length).map F, List.replicate crew.length (-1)) (fun i hi => by
      obtain ⟨C, q1, q2, q3, q4⟩ := (choices_ok hf (hcr.std (i : Int) (by omega) (by omega))).choose_spec
      have qf := (q1 n hn).1
      rw [← hF i hi] at qf
      have hm1 : decide ((List.replicate i (-1 : Int)).length + [(-1 : Int)].length ≤ maxRow) = true := by rw [decide_eq_true_eq]; simp [maxRow]; omega
      have hm2 : decide (((List.range i).map F).length + [F i].length ≤ maxRow) = true := by rw [decide_eq_true_eq]; simp [maxRow]; omega
      have hr := rb_at (crew := crew) (i := (i : Int)) ⟨by omega, by omega⟩
      simp only [spec_l8Step_L1, hm1, hm2, hr, Option.bind_some, qf, w64_nat hi (by omega), cond_true]
      rw [show decide ((i : Int) < (crew.length : Int)) = true by simpa using hi]
      simp [List.replicate_succ', List.range_succ]) (by simp [spec_l8Step_L1]) n (by omega)
    simpa using this
theorem impl_step_init {w h : Int} {c : List Int} {crew : List Rb} (hn20 : crew.length ≤ 20) (n : Nat) (hn : BIG ≤ n) :
    iter n (impl_Step_L1 crew) (0, w, h, c, crew, []) = some ((crew.length : Int), w, h, c, crew, List.replicate crew.length (-1)) := by
  have hB : 1048576 ≤ n := Nat.le_trans (by decide) hn
  have := iter_steps (impl_Step_L1 crew) (fun i => ((i : Int), w, h, c, crew, List.replicate i (-1))) crew.length ((crew.length : Int), w, h, c, crew, List.replicate crew.length (-1)) (fun i hi => by
      have hm1 : decide ((List.replicate i (-1 : Int)).length + [(-1 : Int)].length ≤ maxRow) = true := by rw [decide_eq_true_eq]; simp [maxRow]; omega
      simp only [impl_Step_L1, hm1, w64_nat hi (by omega), cond_true]
      rw [show decide ((i : Int) < (crew.length : Int)) = true by simpa using hi]
      simp [List.replicate_succ']) (by simp [impl_Step_L1]) n (by omega)
  simpa using this
theorem step_ok {w h : Int} {c : List Int} (hf : floorOk w h c = true) {crew : List Rb} (hcr : Crw c crew) (hid : Ids crew) (hok : crewOk w h c crew = true) (n : Nat) (hn : BIG + 1000 ≤ n) :
    ∃ next, impl_Step n w h c crew = some next ∧ spec_l8Step n w h c crew = some next ∧ Next c crew next := by
  have hN := (flr_of hf).le
  have hn20 := hcr.n20
  have hB0 : BIG ≤ n := Nat.le_trans (Nat.le_add_right _ _) hn
  obtain ⟨T, t1, t2, t3⟩ := turns_ok hid hn20 n hB0
  obtain ⟨fields, hfl, hini⟩ := l8_init hf hcr n hB0
  obtain ⟨k, k', next, e1, e2, hN2⟩ := step_loop hcr hfl T t3 n hn
  refine ⟨next, ?_, ?_, hN2⟩
  · unfold impl_Step
    rw [impl_CrewOk_ok w h c (by omega) crew (by omega) n hB0, hok, impl_step_init hn20 n hB0, t1]
    simp only [Option.bind_some, Bool.not_true, cond_false, e1]
  · unfold spec_l8Step
    rw [hini, t2]
    simp only [Option.bind_some, e2]

structure CP (c : List Int) (crew : List Rb) : Prop where
  crw : Crw c crew
  ids : Ids crew
  age : ∀ i, 0 ≤ i → i < (crew.length : Int) → 0 ≤ (rbAt crew i).2.2.2.2 ∧ (rbAt crew i).2.2.2.2 ≤ 1000000
  idr : ∀ i, 0 ≤ i → i < (crew.length : Int) → 1 ≤ (rbAt crew i).1 ∧ (rbAt crew i).1 ≤ 99
theorem free_iff {c : List Int} {i : Int} : freeC c i = true ↔ Cel c i := by
  unfold freeC inB Cel kindC
  simp only [Bool.and_eq_true, decide_eq_true_eq, bne_iff_ne, ne_eq]
  constructor
  · rintro ⟨⟨h1, h2⟩, h3⟩; exact ⟨⟨h1, by omega⟩, h3⟩
  · rintro ⟨⟨h1, h2⟩, h3⟩; exact ⟨⟨h1, by omega⟩, h3⟩
theorem rOk_iff {c : List Int} {crew : List Rb} {i : Nat} (hi : i < crew.length) : rOk c crew i = true ↔ (1 ≤ (rbAt crew i).1 ∧ (rbAt crew i).1 ≤ 99) ∧ Cel c (rbAt crew i).2.1 ∧ ((rbAt crew i).2.2.1 = -1 ∨ Cel c (rbAt crew i).2.2.1) ∧ (0 ≤ (rbAt crew i).2.2.2.2 ∧ (rbAt crew i).2.2.2.2 ≤ 1000000) ∧
    (0 < i → (rbAt crew ((i : Int) - 1)).1 < (rbAt crew i).1) ∧ ∀ j : Nat, j < i → (rbAt crew (j : Int)).2.1 ≠ (rbAt crew i).2.1 := by
  have hp : prevL (·.1) crew i crew[i] = true ↔ (0 < i → (rbAt crew ((i : Int) - 1)).1 < (rbAt crew i).1) := by
    cases i with
    | zero => simp [prevL]
    | succ j =>
      rw [rbAt_nat hi, show ((j + 1 : Nat) : Int) - 1 = (j : Int) by omega, rbAt_nat (show j < crew.length by omega)]
      simp [prevL, List.getElem?_eq_getElem (show j < crew.length by omega)]
  have ha : ((crew.take i).all fun y => !(y.2.1 == crew[i].2.1)) = true ↔ ∀ j : Nat, j < i → (rbAt crew (j : Int)).2.1 ≠ (rbAt crew i).2.1 := by
    rw [List.all_eq_true, rbAt_nat hi]
    constructor
    · intro h j hj
      rw [rbAt_nat (show j < crew.length by omega)]
      have := h crew[j] (by
        rw [List.mem_iff_getElem]
        exact ⟨j, by simp; omega, by simp⟩)
      simpa using this
    · intro h y hy
      obtain ⟨j, hj, rfl⟩ := List.mem_iff_getElem.1 hy
      have hji : j < i := by simp at hj; omega
      have := h j hji
      rw [rbAt_nat (show j < crew.length by omega)] at this
      simpa using this
  unfold rOk
  rw [List.getElem?_eq_getElem hi]
  simp only [Bool.and_eq_true, hp, ha, free_iff, Bool.or_eq_true, beq_iff_eq, rbAt_nat hi]
  unfold inB
  simp only [Bool.and_eq_true, decide_eq_true_eq]
  constructor
  · rintro ⟨⟨⟨⟨⟨h1, h2⟩, h3⟩, h4⟩, h5⟩, h6⟩; exact ⟨h1, h2, h3, h4, h5, h6⟩
  · rintro ⟨h1, h2, h3, h4, h5, h6⟩; exact ⟨⟨⟨⟨⟨h1, h2⟩, h3⟩, h4⟩, h5⟩, h6⟩
theorem crewOk_iff {w h : Int} {c : List Int} {crew : List Rb} : crewOk w h c crew = true ↔ floorOk w h c = true ∧ CP c crew := by
  unfold crewOk
  simp only [Bool.and_eq_true, decide_eq_true_eq, List.all_eq_true, List.mem_range]
  constructor
  · rintro ⟨⟨hf, hn⟩, hall⟩
    have hr : ∀ i : Nat, i < crew.length → _ := fun i hi => (rOk_iff hi).1 (hall i hi)
    have cast : ∀ i : Int, 0 ≤ i → i < (crew.length : Int) → ∃ m : Nat, i = m ∧ m < crew.length := fun i h0 h1 => ⟨i.toNat, by omega, by omega⟩
    have ids1 : ∀ d a : Nat, a + d + 1 < crew.length → (rbAt crew (a : Int)).1 < (rbAt crew ((a + d + 1 : Nat) : Int)).1 := by
      intro d
      induction d with
      | zero =>
        intro a ha
        have := (hr (a + 1) (by omega)).2.2.2.2.1 (by omega)
        rw [show ((a + 1 : Nat) : Int) - 1 = (a : Int) by omega] at this
        exact this
      | succ d ih =>
        intro a ha
        have h1 := ih a (by omega)
        have h2 := (hr (a + (d + 1) + 1) (by omega)).2.2.2.2.1 (by omega)
        rw [show ((a + (d + 1) + 1 : Nat) : Int) - 1 = ((a + d + 1 : Nat) : Int) by omega] at h2
        omega
    refine ⟨hf, ⟨hn, fun i h0 h1 => ?_, fun i j i0 i1 j0 j1 e => ?_⟩, fun a b a0 hab hb => ?_, fun i h0 h1 => ?_, fun i h0 h1 => ?_⟩
    · obtain ⟨m, rfl, hm⟩ := cast i h0 h1
      obtain ⟨_, q2, q3, _⟩ := hr m hm
      exact ⟨q2.1, q2.2, q3⟩
    · obtain ⟨a, rfl, ha⟩ := cast i i0 i1
      obtain ⟨b, rfl, hb⟩ := cast j j0 j1
      rcases Nat.lt_trichotomy a b with hl | hl | hl
      · exact absurd e ((hr b hb).2.2.2.2.2 a hl)
      · rw [hl]
      · exact absurd e.symm ((hr a ha).2.2.2.2.2 b hl)
    · obtain ⟨m, rfl, hm⟩ := cast a a0 (by omega)
      obtain ⟨k, rfl, hk⟩ := cast b (by omega) hb
      have := ids1 (k - m - 1) m (by omega)
      rwa [show m + (k - m - 1) + 1 = k by omega] at this
    · obtain ⟨m, rfl, hm⟩ := cast i h0 h1
      exact (hr m hm).2.2.2.1
    · obtain ⟨m, rfl, hm⟩ := cast i h0 h1
      exact (hr m hm).1
  · rintro ⟨hf, ⟨hn, hs, hd⟩, hid, hag, hidr⟩
    refine ⟨⟨hf, hn⟩, fun i hi => (rOk_iff hi).2 ?_⟩
    have s := hs (i : Int) (by omega) (by omega)
    refine ⟨hidr i (by omega) (by omega), ⟨s.at1, s.at2⟩, s.goal, hag i (by omega) (by omega), fun h0 => hid _ _ (by omega) (by omega) (by omega), fun j hj e => ?_⟩
    have := hd j i (by omega) (by omega) (by omega) (by omega) e
    omega

def advOne (r : Rb) (v : Int) : Rb := (r.1, v, r.2.2.1, r.2.2.2.1, bif (r.2.2.1 == -1) || (v == r.2.2.1) then 0 else minI (r.2.2.2.2 + 1) 1000000)
def advL (crew : List Rb) (next : List Int) : List Rb := List.zipWith advOne crew next
theorem advL_len {crew : List Rb} {next : List Int} (h : next.length = crew.length) : (advL crew next).length = crew.length := by simp [advL, h]
theorem advL_at {crew : List Rb} {next : List Int} (h : next.length = crew.length) {i : Int} (h0 : 0 ≤ i) (h1 : i < (crew.length : Int)) : rbAt (advL crew next) i = advOne (rbAt crew i) (kindC next i) := by
  obtain ⟨m, rfl⟩ : ∃ m : Nat, i = m := ⟨i.toNat, by omega⟩
  have hm : m < crew.length := by omega
  rw [rbAt_nat (by rw [advL_len h]; exact hm), rbAt_nat hm]
  simp [advL, kindC, List.getD, List.getElem?_eq_getElem (show m < next.length by omega)]
theorem adv_ok {c : List Int} {crew : List Rb} (hp : CP c crew) {next : List Int} (hn : Next c crew next) : CP c (advL crew next) := by
  have hl := advL_len hn.len
  have ha : ∀ i, 0 ≤ i → i < (crew.length : Int) → rbAt (advL crew next) i = advOne (rbAt crew i) (kindC next i) := fun i h0 h1 => advL_at hn.len h0 h1
  refine ⟨⟨by rw [hl]; exact hp.crw.n20, fun i h0 h1 => ?_, fun i j i0 i1 j0 j1 e => ?_⟩, fun a b a0 hab hb => ?_, fun i h0 h1 => ?_, fun i h0 h1 => ?_⟩ <;> rw [hl] at *
  · rw [ha i h0 h1]
    have := hn.cel i h0 h1
    exact ⟨this.1, this.2, (hp.crw.std i h0 h1).goal⟩
  · rw [ha i i0 i1, ha j j0 j1] at e
    exact hn.D i j i0 i1 j0 j1 e
  · rw [ha a a0 (by omega), ha b (by omega) hb]
    exact hp.ids a b a0 hab hb
  · rw [ha i h0 h1]
    have := hp.age i h0 h1
    show 0 ≤ (bif _ then (0 : Int) else _) ∧ (bif _ then (0 : Int) else _) ≤ 1000000
    cases ((rbAt crew i).2.2.1 == -1) || (kindC next i == (rbAt crew i).2.2.1) with
    | true => exact ⟨by simp, by simp⟩
    | false =>
      show 0 ≤ minI _ _ ∧ minI _ _ ≤ 1000000
      unfold minI
      by_cases hq : 1000000 < (rbAt crew i).2.2.2.2 + 1
      · rw [decide_eq_true hq]; exact ⟨by simp, by simp⟩
      · rw [decide_eq_false hq]
        show 0 ≤ (rbAt crew i).2.2.2.2 + 1 ∧ (rbAt crew i).2.2.2.2 + 1 ≤ 1000000
        omega
  · rw [ha i h0 h1]
    exact hp.idr i h0 h1

theorem advOne_age {r : Rb} {v : Int} (h : 0 ≤ r.2.2.2.2 ∧ r.2.2.2.2 ≤ 1000000) : advOne r v = (r.1, v, r.2.2.1, r.2.2.2.1, bif (r.2.2.1 == -1) || (v == r.2.2.1) then 0 else bif decide (r.2.2.2.2 < 1000000) then r.2.2.2.2 + 1 else r.2.2.2.2) := by
  unfold advOne minI
  by_cases hq : r.2.2.2.2 < 1000000
  · rw [decide_eq_true hq, decide_eq_false (show ¬ 1000000 < r.2.2.2.2 + 1 by omega)]; rfl
  · rw [decide_eq_false hq, decide_eq_true (show 1000000 < r.2.2.2.2 + 1 by omega), show r.2.2.2.2 = 1000000 by omega]; rfl
theorem spec_adv_loop {c : List Int} {crew : List Rb} (hp : CP c crew) {next : List Int} (hn : Next c crew next) (n : Nat) (hB : BIG ≤ n) :
    iter n (spec_l9Advance_L1 crew next) ([], 0) = some (advL crew next, (crew.length : Int)) := by
  have hB1 : 1048576 ≤ n := Nat.le_trans (by decide) hB
  have h20 := hp.crw.n20
  have hl := advL_len hn.len
  have := iter_steps (spec_l9Advance_L1 crew next) (fun i => ((advL crew next).take i, (i : Int))) crew.length (advL crew next, (crew.length : Int)) (fun i hi => by
    have hir : 0 ≤ (i : Int) ∧ (i : Int) < (crew.length : Int) := ⟨by omega, by omega⟩
    obtain ⟨i1, i2, _⟩ := at_in (out := next) (v := (i : Int)) (by rw [hn.len]; exact hir)
    have ha := hp.age i hir.1 hir.2
    have ht : (advL crew next).take (i + 1) = (advL crew next).take i ++ [advOne (rbAt crew (i : Int)) (kindC next (i : Int))] := by
      rw [List.take_succ_eq_append_getElem (by rw [hl]; exact hi), ← rbAt_nat (by rw [hl]; exact hi), advL_at hn.len hir.1 hir.2]
    have hm : ∀ y : Rb, decide (((advL crew next).take i).length + [y].length ≤ maxRow) = true := fun y => by rw [decide_eq_true_eq]; simp [maxRow]; omega
    rw [ht, advOne_age ha]
    simp only [spec_l9Advance_L1, rb_at hir, Option.bind_some, i1, i2, cond_true, w64_nat hi (by omega), w64_eq (show -9223372036854775808 ≤ (rbAt crew (i : Int)).2.2.2.2 + 1 by omega) (by omega), hm]
    rw [show decide ((i : Int) < (crew.length : Int)) = true by simpa using hi]
    cases ((rbAt crew (i : Int)).2.2.1 == -1) <;> cases (kindC next (i : Int) == (rbAt crew (i : Int)).2.2.1) <;> cases decide ((rbAt crew (i : Int)).2.2.2.2 < 1000000) <;> rfl) (by simp [spec_l9Advance_L1]; rw [← hl]; exact List.take_length.symm ▸ rfl) n (by omega)
  simpa using this

theorem impl_adv_loop {c : List Int} {crew : List Rb} (hp : CP c crew) {next : List Int} (hn : Next c crew next) (n : Nat) (hB : BIG ≤ n) :
    iter n (impl_Advance_L1 next) (0, crew) = some ((crew.length : Int), advL crew next) := by
  have hB1 : 1048576 ≤ n := Nat.le_trans (by decide) hB
  have h20 := hp.crw.n20
  have hl := advL_len hn.len
  have hnl := hn.len
  have := iter_steps (impl_Advance_L1 next) (fun i => ((i : Int), (advL crew next).take i ++ crew.drop i)) crew.length ((crew.length : Int), advL crew next) (fun i hi => by
    have hir : 0 ≤ (i : Int) ∧ (i : Int) < (crew.length : Int) := ⟨by omega, by omega⟩
    obtain ⟨i1, i2, _⟩ := at_in (out := next) (v := (i : Int)) (by rw [hn.len]; exact hir)
    have ha := hp.age i hir.1 hir.2
    have hlen : ((advL crew next).take i ++ crew.drop i).length = crew.length := by simp [hl]; omega
    have hio : i < ((advL crew next).take i ++ crew.drop i).length := by rw [hlen]; exact hi
    have hg : ((advL crew next).take i ++ crew.drop i)[i] = rbAt crew (i : Int) := by
      rw [rbAt_nat hi, List.getElem_append_right (by simp [hl]; omega)]
      simp [hl, Nat.min_eq_left (Nat.le_of_lt hi)]
    have ht : ((advL crew next).take i ++ crew.drop i).set i (advOne (rbAt crew (i : Int)) (kindC next (i : Int))) = (advL crew next).take (i + 1) ++ crew.drop (i + 1) := by
      rw [List.set_append_right _ _ (by simp [hl]; omega), List.take_succ_eq_append_getElem (by rw [hl]; exact hi), ← rbAt_nat (by rw [hl]; exact hi), advL_at hn.len hir.1 hir.2, List.append_assoc]
      congr 1
      rw [show i - ((advL crew next).take i).length = 0 by simp [hl]; omega, List.drop_eq_getElem_cons hi]
      rfl
    rw [← ht]
    generalize ((advL crew next).take i ++ crew.drop i) = out at hlen hio hg
    have hio1 : inb out (i : Int) = true := inb_lt hio
    rw [Int.toNat_natCast] at i2
    simp only [impl_Advance_L1, i1, Int.toNat_natCast, i2, Option.bind_some, cond_true, hio1, w64_nat hi (by omega), Int.toNat_natCast]
    rw [modify_set out i _ hio, hg]
    have g1 : ∀ y : Rb, (out.set i y)[i]? = some y := fun y => by rw [List.getElem?_set, if_pos rfl, if_pos hio]
    have g2 : ∀ (y : Rb) (f : Rb → Rb), List.modify (out.set i y) i f = out.set i (f y) := fun y f => by
      rw [modify_set _ i f (by simp; omega)]; simp
    simp only [g1, g2, Option.bind_some, impl_rests, w64_eq (show -9223372036854775808 ≤ (rbAt crew (i : Int)).2.2.2.2 + 1 by omega) (by omega)]
    rw [show decide ((i : Int) < (next.length : Int)) = true by rw [hnl]; simpa using hi]
    unfold advOne
    cases ((rbAt crew (i : Int)).2.2.1 == -1) <;> cases (kindC next (i : Int) == (rbAt crew (i : Int)).2.2.1) <;> rfl) (by
      simp [impl_Advance_L1, hnl]
      rw [← hl]; exact List.take_length) n (by omega)
  simpa using this

theorem adv_core {w h : Int} {c : List Int} (hc : c.length ≤ 1048576) {crew : List Rb} (hl : crew.length ≤ 1048576) (n : Nat) (hn : BIG + 1000 ≤ n) :
    ∃ out, impl_Advance n w h c crew = some out ∧ out.length = crew.length ∧ (crewOk w h c crew = false → out = crew) ∧ (crewOk w h c crew = true → CP c out ∧ spec_l9Advance n w h c crew = some out) := by
  have hB : BIG ≤ n := Nat.le_trans (Nat.le_add_right _ _) hn
  have hm : decide (crew.length ≤ maxRow) = true := by rw [decide_eq_true_eq]; simp [maxRow]; clear hn; omega
  have hcp : impl_copyCrew crew = some crew := by unfold impl_copyCrew; rw [hm]; rfl
  cases hok : crewOk w h c crew with
  | false =>
    refine ⟨crew, ?_, rfl, fun _ => rfl, fun h => (by cases h)⟩
    unfold impl_Advance
    rw [hcp, impl_CrewOk_ok w h c hc crew hl n hB, hok]; rfl
  | true =>
    obtain ⟨hf, hp⟩ := crewOk_iff.1 hok
    obtain ⟨next, s1, s2, hnx⟩ := step_ok hf hp.crw hp.ids hok n hn
    have hsp : spec_l9Advance n w h c crew = some (advL crew next) := by
      unfold spec_l9Advance
      rw [s2]
      simp only [Option.bind_some, spec_adv_loop hp hnx n hB]
    refine ⟨advL crew next, ?_, advL_len hnx.len, fun h => (by cases h), fun _ => ⟨adv_ok hp hnx, hsp⟩⟩
    unfold impl_Advance
    rw [hcp, impl_CrewOk_ok w h c hc crew hl n hB, hok]
    simp only [Option.bind_some, Bool.not_true, cond_false, s1, impl_adv_loop hp hnx n hB]

def restB (r : Rb) : Bool := (r.2.2.1 == -1) || (r.2.1 == r.2.2.1)
theorem spec_rest (r : Rb) : spec_l9There r.1 r.2.1 r.2.2.1 r.2.2.2.1 r.2.2.2.2 = some (restB r) := by
  unfold spec_l9There restB
  cases (r.2.2.1 == -1) <;> rfl

theorem impl_rest (r : Rb) : impl_rests r.1 r.2.1 r.2.2.1 r.2.2.2.1 r.2.2.2.2 = some (restB r) := by
  unfold impl_rests restB
  cases (r.2.2.1 == -1) <;> rfl

theorem drive_first (L : List Bool × Int → Option ((List Bool × Int) ⊕ (List Bool × Int))) (crew : List Rb) (hl : crew.length ≤ 1048576) (hL : ∀ (i : Nat) (out : List Bool), (hi : i < crew.length) → out.length = i → L (out, (i : Int)) = some (.inl (out ++ [restB crew[i]], ((i + 1 : Nat) : Int)))) (hend : ∀ out, L (out, (crew.length : Int)) = some (.inr (out, (crew.length : Int)))) (n : Nat) (hn : crew.length < n) :
    iter n L ([], 0) = some (crew.map restB, (crew.length : Int)) := by
  have := iter_steps L (fun i => ((crew.take i).map restB, (i : Int))) crew.length (crew.map restB, (crew.length : Int)) (fun i hi => by
    rw [hL i _ hi (by simp; omega), List.take_succ_eq_append_getElem hi, List.map_append]
    rfl) (by rw [List.take_length]; exact hend _) n hn
  simpa using this
theorem orL_set {was : List Bool} {out : List Rb} {i : Nat} (h1 : was.length = out.length) (hi : i < out.length) :
    ((List.zipWith (fun b r => b || restB r) was out).take i ++ was.drop i).set i (was[i]'(by omega) || restB out[i]) = (List.zipWith (fun b r => b || restB r) was out).take (i + 1) ++ was.drop (i + 1) := by
  have hz : (List.zipWith (fun b r => b || restB r) was out).length = out.length := by simp [h1]
  rw [List.set_append_right _ _ (by simp; omega), List.take_succ_eq_append_getElem (by rw [hz]; exact hi), List.append_assoc]
  congr 1
  rw [show i - ((List.zipWith (fun b r => b || restB r) was out).take i).length = 0 by simp; omega, List.drop_eq_getElem_cons (show i < was.length by omega), List.set_cons_zero]
  simp
theorem or_loop (L : Int × List Bool → Option ((Int × List Bool) ⊕ (Int × List Bool))) (out : List Rb) (was : List Bool) (h1 : was.length = out.length)
    (hL : ∀ (i : Nat) (w : List Bool) (hi : i < out.length) (hw : w.length = out.length), L ((i : Int), w) = some (.inl (((i + 1 : Nat) : Int), w.set i (w[i]'(by omega) || restB out[i])))) (hend : ∀ w, w.length = out.length → L ((out.length : Int), w) = some (.inr ((out.length : Int), w))) (n : Nat) (hn : out.length < n) :
    iter n L (0, was) = some ((out.length : Int), List.zipWith (fun b r => b || restB r) was out) := by
  have hz : (List.zipWith (fun b r => b || restB r) was out).length = out.length := by simp [h1]
  have := iter_steps L (fun i => ((i : Int), (List.zipWith (fun b r => b || restB r) was out).take i ++ was.drop i)) out.length ((out.length : Int), List.zipWith (fun b r => b || restB r) was out) (fun i hi => by
    have hw : ((List.zipWith (fun b r => b || restB r) was out).take i ++ was.drop i).length = out.length := by simp [h1]; omega
    rw [hL i _ hi hw]
    have hg : ((List.zipWith (fun b r => b || restB r) was out).take i ++ was.drop i)[i]'(by omega) = was[i]'(by omega) := by
      rw [List.getElem_append_right (by simp; omega)]
      simp [h1, Nat.min_eq_left (Nat.le_of_lt hi)]
    rw [hg, orL_set h1 hi]) (by
      rw [hend _ (by simp [h1])]
      congr 3
      rw [List.drop_eq_nil_of_le (by omega), List.append_nil]
      exact List.take_of_length_le (by omega)) n hn
  simpa using this

theorem spec_or {out : List Rb} (hl : out.length ≤ 1048576) {was : List Bool} (h1 : was.length = out.length) (n : Nat) (hn : BIG ≤ n) : iter n (spec_Drive_L3 out) (0, was) = some ((out.length : Int), List.zipWith (fun b r => b || restB r) was out) := by
  have hB1 : 1048576 ≤ n := Nat.le_trans (by decide) hn
  refine or_loop _ out was h1 (fun i w hi hw => ?_) (fun w hw => by simp [spec_Drive_L3]) n (Nat.lt_of_le_of_lt hl (Nat.lt_of_lt_of_le (by decide) hn))
  have hi1 : inb w (i : Int) = true := inb_lt (by omega)
  simp only [spec_Drive_L3, hi1, inb_lt hi, Int.toNat_natCast, List.getElem?_eq_getElem (show i < w.length by omega), List.getElem?_eq_getElem hi, Option.bind_some, cond_true, spec_rest, upd_is, w64_nat hi (by omega)]
  rw [show decide ((i : Int) < (out.length : Int)) = true by simpa using hi]
  cases w[i]'(by omega) <;> rfl

theorem impl_or {out : List Rb} (hl : out.length ≤ 1048576) {was : List Bool} (h1 : was.length = out.length) (n : Nat) (hn : BIG ≤ n) : iter n (impl_Drive_L3 out) (0, was) = some ((out.length : Int), List.zipWith (fun b r => b || restB r) was out) := by
  have hB1 : 1048576 ≤ n := Nat.le_trans (by decide) hn
  refine or_loop _ out was h1 (fun i w hi hw => ?_) (fun w hw => by simp [impl_Drive_L3]) n (Nat.lt_of_le_of_lt hl (Nat.lt_of_lt_of_le (by decide) hn))
  have hi1 : inb w (i : Int) = true := inb_lt (by omega)
  simp only [impl_Drive_L3, hi1, inb_lt hi, Int.toNat_natCast, List.getElem?_eq_getElem (show i < w.length by omega), List.getElem?_eq_getElem hi, Option.bind_some, cond_true, impl_rest, upd_is, w64_nat hi (by omega)]
  rw [show decide ((i : Int) < (out.length : Int)) = true by simpa using hi]
  cases w[i]'(by omega) <;> rfl
theorem or_same (crew : List Rb) : List.zipWith (fun b r => b || restB r) (crew.map restB) crew = crew.map restB := by
  induction crew with
  | nil => rfl
  | cons x l ih => simp [ih]

theorem drive_ok {w h : Int} {c : List Int} (hc : c.length ≤ 1048576) {crew : List Rb} (hl : crew.length ≤ 1048576) (m : Int) (n : Nat) (hn : BIG + 1000 ≤ n) :
    ∃ out was, impl_Drive n w h c crew m = some (out, was) ∧ spec_Drive n w h c crew m = some (out, was) ∧ out.length = crew.length ∧ was.length = crew.length := by
  have hB : BIG ≤ n := Nat.le_trans (Nat.le_add_right _ _) hn
  have hB1 : 1048576 < n := Nat.lt_of_lt_of_le (by decide) hB
  have hm : decide (crew.length ≤ maxRow) = true := by rw [decide_eq_true_eq]; simp [maxRow]; clear hn; omega
  have hm2 : decide (([] : List Rb).length + crew.length ≤ maxRow) = true := by rw [decide_eq_true_eq]; simp [maxRow]; clear hn; omega
  have hcp : impl_copyCrew crew = some crew := by unfold impl_copyCrew; rw [hm]; rfl
  have hmB : ∀ (i : Nat) (out : List Bool) (b : Bool), i < crew.length → out.length = i → decide (out.length + [b].length ≤ maxRow) = true := fun i out b h1 h2 => by rw [decide_eq_true_eq]; simp [maxRow]; clear hn; omega
  have f1 : iter n (impl_Drive_L1 crew) ([], 0) = some (crew.map restB, (crew.length : Int)) := drive_first _ crew hl (fun i out hi ho => by
    simp only [impl_Drive_L1, getI_lt hi, Option.bind_some, impl_rest, hmB i out _ hi ho, cond_true, w64_nat hi (show crew.length ≤ 9223372036854775807 by clear hn; omega)]
    rw [show decide ((i : Int) < (crew.length : Int)) = true by simpa using hi]; rfl) (fun out => by simp [impl_Drive_L1]) n (by clear hn; omega)
  have f2 : iter n (spec_Drive_L1 crew) ([], 0) = some (crew.map restB, (crew.length : Int)) := drive_first _ crew hl (fun i out hi ho => by
    simp only [spec_Drive_L1, getI_lt hi, Option.bind_some, spec_rest, hmB i out _ hi ho, cond_true, w64_nat hi (show crew.length ≤ 9223372036854775807 by clear hn; omega)]
    rw [show decide ((i : Int) < (crew.length : Int)) = true by simpa using hi]; rfl) (fun out => by simp [spec_Drive_L1]) n (by clear hn; omega)
  have e1 : impl_Drive n w h c crew m = (iter n (impl_Drive_L2 n w h c m) (crew, 0, crew.map restB)).bind fun x => some (x.1, x.2.2) := by
    unfold impl_Drive
    rw [hcp]
    simp only [Option.bind_some, f1]
  have e2 : spec_Drive n w h c crew m = bif !(inB m 0 1000 && crewOk w h c crew) then some (crew, crew.map restB) else (iter n (spec_Drive_L2 n w h c) (m, crew, crew.map restB)).bind fun x => some (x.2.1, x.2.2) := by
    unfold spec_Drive
    simp only [hm2, cond_true, f2, Option.bind_some, in_ok, spec_CrewOk_ok w h c hc crew hl n hB, List.nil_append]
    cases inB m 0 1000 <;> cases crewOk w h c crew <;> rfl
  rw [e1, e2]
  by_cases hr : 0 ≤ m ∧ m ≤ 1000
  · have hin : inB m 0 1000 = true := by unfold inB; rw [decide_eq_true hr.1, decide_eq_true hr.2]; rfl
    have hm1000 : decide (m ≤ 1000) = true := decide_eq_true hr.2
    rw [hin]
    cases hok : crewOk w h c crew with
    | false =>
      obtain ⟨out, a1, _, a4, _⟩ := adv_core (w := w) (h := h) hc (crew := crew) hl n hn
      rw [a4 hok] at a1
      have hit := iter_steps (impl_Drive_L2 n w h c m) (fun k => (crew, (k : Int), crew.map restB)) m.toNat (crew, m, crew.map restB) (fun k hk => by
        have hd : decide ((k : Int) < m) = true := by rw [decide_eq_true_eq]; clear hn; omega
        simp only [impl_Drive_L2, hd, cond_true, hm1000, Option.bind_some, a1, impl_or hl (show (crew.map restB).length = crew.length by simp) n hB, or_same, w64_nat (show k < 1000 by clear hn; omega) (by decide)]) (by
        have hd : decide (((m.toNat : Nat) : Int) < m) = false := by rw [decide_eq_false_iff_not]; clear hn; omega
        simp only [impl_Drive_L2, hd, cond_false, Option.bind_some]
        rw [show ((m.toNat : Nat) : Int) = m by clear hn; omega]) n (by clear hn; omega)
      refine ⟨crew, crew.map restB, ?_, rfl, rfl, by simp⟩
      have hit : iter n (impl_Drive_L2 n w h c m) (crew, 0, crew.map restB) = some (crew, m, crew.map restB) := hit
      rw [hit]; rfl
    | true =>
      obtain ⟨hf, hp⟩ := crewOk_iff.1 hok
      obtain ⟨z, y, ⟨out, was, k, k', rfl, rfl, l1, l2⟩, r1, r2⟩ := iter_sim (f := impl_Drive_L2 n w h c m) (g := spec_Drive_L2 n w h c)
        (fun x y => ∃ (k : Nat) (out : List Rb) (was : List Bool), x = (out, (k : Int), was) ∧ y = (m - (k : Int), out, was) ∧ (k : Int) ≤ m ∧ CP c out ∧ out.length = crew.length ∧ was.length = crew.length)
        (fun z y => ∃ (out : List Rb) (was : List Bool) (k k' : Int), z = (out, k, was) ∧ y = (k', out, was) ∧ out.length = crew.length ∧ was.length = crew.length)
        (fun x => m.toNat - x.2.1.toNat) (fun x y hR => by
          obtain ⟨k, out, was, rfl, rfl, hk, hcp2, q1, q2⟩ := hR
          by_cases hkm : (k : Int) < m
          · have hd : decide ((k : Int) < m) = true := decide_eq_true hkm
            have hd2 : decide (m - (k : Int) > 0) = true := by rw [decide_eq_true_eq]; clear hn; omega
            have hok2 : crewOk w h c out = true := crewOk_iff.2 ⟨hf, hcp2⟩
            obtain ⟨o2, a1, a3, _, a5⟩ := adv_core (w := w) (h := h) hc (crew := out) (by rw [q1]; exact hl) n hn
            obtain ⟨p1, p2⟩ := a5 hok2
            have ho2 : o2.length ≤ 1048576 := by rw [a3, q1]; exact hl
            have hw2 : was.length = o2.length := by rw [a3, q1, q2]
            refine .inr ⟨(o2, ((k + 1 : Nat) : Int), List.zipWith (fun b r => b || restB r) was o2), (m - ((k + 1 : Nat) : Int), o2, List.zipWith (fun b r => b || restB r) was o2), ?_, ?_, ⟨k + 1, o2, _, rfl, rfl, by clear hn; omega, p1, by rw [a3, q1], by simp [hw2, a3, q1]⟩, by show m.toNat - ((k + 1 : Nat) : Int).toNat < m.toNat - (k : Int).toNat; clear hn; omega⟩
            · simp only [impl_Drive_L2, hd, cond_true, hm1000, Option.bind_some, a1, impl_or ho2 hw2 n hB, w64_nat (show k < 1000 by clear hn; omega) (by decide)]
            · simp only [spec_Drive_L2, hd2, cond_true, p2, Option.bind_some, spec_or ho2 hw2 n hB]
              rw [w64_eq (n := m - (k : Int) - 1) (by clear hn; omega) (by clear hn; omega), show m - (k : Int) - 1 = m - ((k + 1 : Nat) : Int) by clear hn; omega]
          · have hkm' : (k : Int) = m := by clear hn; omega
            have hd : decide ((k : Int) < m) = false := decide_eq_false hkm
            have hd2 : decide (m - (k : Int) > 0) = false := by rw [decide_eq_false_iff_not]; clear hn; omega
            refine .inl ⟨(out, (k : Int), was), (m - (k : Int), out, was), ?_, ?_, out, was, _, _, rfl, rfl, q1, q2⟩
            · simp only [impl_Drive_L2, hd, cond_false, Option.bind_some]
            · simp only [spec_Drive_L2, hd2, cond_false]) n (crew, 0, crew.map restB) (m, crew, crew.map restB) ⟨0, crew, crew.map restB, rfl, by simp, hr.1, hp, rfl, by simp⟩ (by show m.toNat - (0 : Int).toNat < n; clear hn; omega)
      refine ⟨out, was, by rw [r1]; rfl, ?_, l1, l2⟩
      rw [r2]; rfl
  · have hin : inB m 0 1000 = false := by
      unfold inB
      by_cases h0 : 0 ≤ m
      · rw [decide_eq_true h0, decide_eq_false (show ¬ m ≤ 1000 from fun h1 => hr ⟨h0, h1⟩)]; rfl
      · rw [decide_eq_false h0]; rfl
    rw [hin]
    refine ⟨crew, crew.map restB, ?_, rfl, rfl, by simp⟩
    obtain ⟨n', rfl⟩ : ∃ k, n = k + 1 := ⟨n - 1, by clear hn; omega⟩
    rw [iter_end (z := (crew, (0 : Int), crew.map restB)) ?_ n']
    · rfl
    · unfold impl_Drive_L2
      by_cases h0 : 0 < m
      · rw [decide_eq_true h0, decide_eq_false (show ¬ m ≤ 1000 from fun h1 => hr ⟨Int.le_of_lt h0, h1⟩)]; rfl
      · rw [decide_eq_false h0]; rfl

theorem laws_FnExactDrive_pure (w h : Int) (c : List Int) (crew : List SIIIBI) (m : Int) (hx : fP fI (fP fI (fP (fSl fI) (fP (fSl (fP fI (fP fI (fP fI (fP fB fI))))) fI))) (w, h, c, crew, m)) : ∃ n, laws_FnExactDrive n w h c crew m = some true := by
  refine ⟨BIG + 1000, ?_⟩
  have hB : BIG ≤ BIG + 1000 := Nat.le_add_right _ _
  obtain ⟨r, e0, q0⟩ := laws_szFloor_ok (w, h, c) ⟨hx.1, hx.2.1, hx.2.2.1⟩ 1048576 (by omega) (by omega)
  unfold laws_FnExactDrive
  dsimp only at e0
  rw [e0, Option.bind_some]
  rcases q0 with q0 | ⟨q0, q1, qf⟩
  · rw [show decide (r < 0) = true by simpa using q0]; rfl
  rw [show decide (r < 0) = false by simp; omega, cond_false]
  obtain ⟨r2, e2, q2⟩ := laws_szRobotS_ok crew hx.2.2.2.1 r q0 q1
  rw [e2, Option.bind_some]
  rcases q2 with q2 | ⟨q2, q3, qr⟩
  · rw [show decide (r2 < 0) = true by simpa using q2]; rfl
  rw [show decide (r2 < 0) = false by simp; omega, cond_false]
  have tf := laws_toFloor_ok (w, h, c) qf _ hB
  have tr := laws_toRobotS_ok crew qr _ hB
  have ef := laws_eqFloor_ok (w, h, c) qf _ hB
  have er := laws_eqRobotS_ok crew qr _ hB
  obtain ⟨out, was, i1, s1, ol, wl⟩ := drive_ok (w := w) (h := h) (c := c) qf (crew := crew) qr m (BIG + 1000) (Nat.le_refl _)
  have qo : sm_RobotS out := by unfold sm_RobotS at qr ⊢; rw [ol]; exact qr
  have qw : sm_BoolS was := by unfold sm_BoolS; unfold sm_RobotS at qr; rw [wl]; exact qr
  have eo := laws_eqRobotS_ok out qo _ hB
  have ew := laws_eqBoolS_ok was qw _ hB
  obtain ⟨k1, b2, m1, m2, m3, m4⟩ := laws_markFloor_only (w, h, c) qf 1 (by omega) (by omega) _ hB
  obtain ⟨k2, b3, m5, m6, m7, m8⟩ := laws_markRobotS_only crew qr k1 (by omega) (by omega) _ hB
  obtain ⟨k3, b4, m9, m10, m11, m12, m13⟩ := laws_markRobotS_ok out qo 1 (by omega) (by omega) _ hB
  obtain ⟨k4, b5, n1, n2, n3, n4, n5⟩ := laws_markBoolS_ok was qw k3 (by omega) (by omega) _ hB
  have hk2 : decide (k2 < 0) = false := by simp; omega
  have hk3 : decide (k3 < 0) = false := by simp; omega
  have hk4 : decide (k4 < 0) = false := by simp; omega
  dsimp only at tf ef m1
  simp only [tf, tr, Option.bind_some, s1, i1, eo, ew, ef, er, m1, m5, m9, m13, n1, n5, hk2, hk3, hk4, Bool.not_true, cond_false, bne_self_eq_false]

end Go.Ev.N
