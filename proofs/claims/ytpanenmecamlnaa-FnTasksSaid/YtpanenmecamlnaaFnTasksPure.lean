/- FnTasks, as a plain law over native forms: what the program's function answers is what the reference's answers. Conditions: none but the lengths' and numbers' bounds. -/
import Derived.Test.YtpanenmecamlnaaFnTasksNat
namespace Go.Ev.N
open Go Go.Ev
set_option linter.unusedVariables false
set_option linter.unusedSimpArgs false

theorem w64_eq {n : Int} (h1 : -9223372036854775808 ≤ n) (h2 : n ≤ 9223372036854775807) : w64 n = n := by
  unfold w64 IntKind.wrap
  simp only [IntKind.bits, IntKind.signed]
  simp
  split <;> omega
theorem w64_up {i : Int} {m : Nat} (h0 : 0 ≤ i) (h : i < (m : Int)) (hm : m ≤ 9223372036854775807) : w64 (i + 1) = i + 1 := w64_eq (by omega) (by omega)
theorem w64_nat {i m : Nat} (h : i < m) (hm : m ≤ 9223372036854775807) : w64 ((i : Int) + 1) = ((i + 1 : Nat) : Int) := by rw [w64_eq (by omega) (by omega)]; omega

theorem getI_nat {α : Type} (xs : List α) (i : Nat) : getI xs (i : Int) = xs[i]? := by
  unfold getI
  rw [if_pos (by omega)]
  simp
theorem getI_lt {α : Type} {xs : List α} {i : Nat} (h : i < xs.length) : getI xs (i : Int) = some xs[i] := by rw [getI_nat]; exact List.getElem?_eq_getElem h
theorem inb_nat {α : Type} (xs : List α) (i : Nat) : inb xs (i : Int) = decide (i < xs.length) := by
  unfold inb
  have : decide (0 ≤ (i : Int)) = true := by simp
  rw [this, Bool.true_and]
  simp
theorem inb_lt {α : Type} {xs : List α} {i : Nat} (h : i < xs.length) : inb xs (i : Int) = true := by rw [inb_nat]; simpa using h
theorem upd_is {α : Type} (l : List α) (n : Nat) (y : α) : upd l n y = l.set n y := upd_set l n y

/-! ### what comes in -/
def fI (x : Int) : Prop := IntKind.min .i64 ≤ x ∧ x ≤ IntKind.max .i64
def fB (_ : Bool) : Prop := True
def fStr (x : List UInt8) : Prop := List.length x ≤ maxLen
def fSl {α : Type} (p : α → Prop) (x : List α) : Prop := List.length x ≤ maxLen ∧ ∀ y, List.Mem y x → p y
def fP {α β : Type} (p : α → Prop) (q : β → Prop) (x : α × β) : Prop := p x.1 ∧ q x.2
theorem fI_b {x : Int} (h : fI x) : -9223372036854775808 ≤ x ∧ x ≤ 9223372036854775807 := by
  unfold fI IntKind.min IntKind.max at h
  simpa [IntKind.bits, IntKind.signed] using h
theorem fSl_len {α : Type} {p : α → Prop} {x : List α} (h : fSl p x) : x.length ≤ 9223372036854775807 := h.1
theorem fSl_mem {α : Type} {p : α → Prop} {x : List α} (h : fSl p x) {y : α} (hy : y ∈ x) : p y := h.2 y hy

/-! ### loops -/

section
variable {α γ σ β : Type}
theorem iter_go {f : α → Option (α ⊕ γ)} {x y : α} (h : f x = some (.inl y)) (n : Nat) : iter (n + 1) f x = iter n f y := by simp [iter, h]
theorem iter_end {f : α → Option (α ⊕ γ)} {x : α} {z : γ} (h : f x = some (.inr z)) (n : Nat) : iter (n + 1) f x = some z := by simp [iter, h]

/-- A loop that goes so many rounds. -/
theorem iter_steps (f : α → Option (α ⊕ γ)) (st : Nat → α) (m : Nat) (r : γ) (hs : ∀ i, i < m → f (st i) = some (.inl (st (i + 1)))) (he : f (st m) = some (.inr r)) : ∀ n, m < n → iter n f (st 0) = some r := by
  have key : ∀ d i n, i + d = m → d < n → iter n f (st i) = some r := by
    intro d
    induction d with
    | zero =>
      intro i n hi hn
      obtain ⟨n, rfl⟩ : ∃ k, n = k + 1 := ⟨n - 1, by omega⟩
      have : i = m := by omega
      subst this
      exact iter_end he n
    | succ d ih =>
      intro i n hi hn
      obtain ⟨n, rfl⟩ : ∃ k, n = k + 1 := ⟨n - 1, by omega⟩
      rw [iter_go (hs i (by omega)) n]
      exact ih (i + 1) n (by omega) (by omega)
  exact fun n hn => key m 0 n (by omega) hn

/-- A loop over a list, with a state: what it answers is told by recursion on what is left. -/
theorem iter_rec (f : α → Option (α ⊕ γ)) (st : Nat → σ → α) (xs : List β) (G : List β → σ → γ) (Inv : Nat → σ → Prop)
    (hend : ∀ s, Inv xs.length s → f (st xs.length s) = some (.inr (G [] s)))
    (hstep : ∀ i x l s, i < xs.length → xs[i]? = some x → xs.drop i = x :: l → xs.drop (i + 1) = l → Inv i s → (∃ s', f (st i s) = some (.inl (st (i + 1) s')) ∧ Inv (i + 1) s' ∧ G (x :: l) s = G l s') ∨ f (st i s) = some (.inr (G (x :: l) s))) :
    ∀ n, xs.length < n → ∀ s, Inv 0 s → iter n f (st 0 s) = some (G xs s) := by
  have key : ∀ d i n s, i + d = xs.length → d < n → Inv i s → iter n f (st i s) = some (G (xs.drop i) s) := by
    intro d
    induction d with
    | zero =>
      intro i n s hi hn hI
      obtain ⟨n, rfl⟩ : ∃ k, n = k + 1 := ⟨n - 1, by omega⟩
      have : i = xs.length := by omega
      subst this
      rw [iter_end (hend s hI) n, List.drop_length]
    | succ d ih =>
      intro i n s hi hn hI
      obtain ⟨n, rfl⟩ : ∃ k, n = k + 1 := ⟨n - 1, by omega⟩
      have hlt : i < xs.length := by omega
      have hd : xs.drop i = xs[i] :: xs.drop (i + 1) := List.drop_eq_getElem_cons hlt
      rcases hstep i xs[i] (xs.drop (i + 1)) s hlt (List.getElem?_eq_getElem hlt) hd rfl hI with ⟨s', h1, h2, h3⟩ | h1
      · rw [iter_go h1 n, ih (i + 1) n s' (by omega) (by omega) h2, hd, h3]
      · rw [iter_end h1 n, hd]
  intro n hn s hI
  have := key xs.length 0 n s (by omega) hn hI
  simpa using this
/-- The same where the state is the number of the round alone. -/
theorem iter_list (f : Int → Option (Int ⊕ γ)) (xs : List β) (G : List β → List β → γ) (hend : f (xs.length : Int) = some (.inr (G xs [])))
    (hstep : ∀ i x l p, i < xs.length → xs[i]? = some x → xs = p ++ x :: l → p.length = i → p = xs.take i → (f (i : Int) = some (.inl ((i + 1 : Nat) : Int)) ∧ G p (x :: l) = G (p ++ [x]) l) ∨ f (i : Int) = some (.inr (G p (x :: l)))) :
    ∀ n, xs.length < n → iter n f 0 = some (G [] xs) := by
  intro n hn
  refine iter_rec (σ := List β) f (fun i _ => (i : Int)) xs (fun l p => G p l) (fun i p => p = xs.take i) (fun s hs => ?_) (fun i x l s h1 h2 h3 h4 h5 => ?_) n hn [] (by simp)
  · have : s = xs := by rw [hs]; simp
    rw [this]; exact hend
  · have hlen : s.length = i := by rw [h5]; simp; omega
    have hx : xs = s ++ x :: l := by rw [← h3, h5, List.take_append_drop]
    rcases hstep i x l s h1 h2 hx hlen h5 with ⟨q1, q2⟩ | q1
    · refine .inl ⟨s ++ [x], q1, ?_, q2⟩
      have hxi : x = xs[i] := by rw [List.getElem?_eq_getElem h1] at h2; exact (Option.some.inj h2).symm
      rw [h5, List.take_succ_eq_append_getElem h1, hxi]
    · exact .inr q1
end

/-- A loop that asks the same of each element. -/
theorem all_loop {β : Type} (f : Int → Option (Int ⊕ (Int ⊕ Bool))) (xs : List β) (P : β → Bool) (hs : ∀ (i : Nat) (x : β), i < xs.length → xs[i]? = some x → f (i : Int) = some (bif P x then .inl ((i + 1 : Nat) : Int) else .inr (.inr false)))
    (he : f (xs.length : Int) = some (.inr (.inl (xs.length : Int)))) : ∀ n, xs.length < n → iter n f 0 = some (bif xs.all P then .inl (xs.length : Int) else .inr false) := by
  intro n hn
  refine iter_list f xs (fun p l => bif l.all P then .inl (xs.length : Int) else .inr false) ?_ ?_ n hn
  · rw [he]; simp
  · intro i x l p h1 h2 h3 h4 h5
    rw [hs i x h1 h2]
    cases hp : P x with
    | true => exact .inl ⟨by simp, by simp [hp]⟩
    | false => exact .inr (by simp [hp])

/-! ### conditions that stand as ways -/
theorem or1 (b c : Bool) : (bif b then some true else some c) = some (b || c) := by cases b <;> rfl
theorem and1 (b c : Bool) : (bif b then some c else some false) = some (b && c) := by cases b <;> rfl
theorem andn (b c : Bool) : (bif b then some false else some c) = some (!b && c) := by cases b <;> rfl
theorem orn (b c : Bool) : (bif b then some c else some true) = some (!b || c) := by cases b <;> rfl
theorem cond_some {α : Type} (b : Bool) (x y : α) : (bif b then some x else some y) = some (bif b then x else y) := by cases b <;> rfl

/-! ### copies -/

/-- A loop that copies. -/
theorem copy_ok {β : Type} (L : Int × List β → Option ((Int × List β) ⊕ (Int × List β))) (xs : List β) (z : β)
    (hL : ∀ (i : Nat) (h : i < xs.length) (out : List β), out.length = xs.length → L ((i : Int), out) = some (.inl (((i + 1 : Nat) : Int), out.set i xs[i]))) (hend : ∀ out, L ((xs.length : Int), out) = some (.inr ((xs.length : Int), out))) :
    ∀ n, xs.length < n → iter n L (0, List.replicate xs.length z) = some ((xs.length : Int), xs) := by
  intro n hn
  have := iter_rec (σ := List β) L (fun i s => ((i : Int), s)) xs (fun l s => ((xs.length : Int), s.take (xs.length - l.length) ++ l)) (fun i s => s.length = xs.length ∧ s.take i = xs.take i)
    (fun s hs => by
      rw [hend s, show s.take (xs.length - ([] : List β).length) ++ [] = s by simp [← hs.1]])
    (fun i x l s h1 h2 h3 h4 h5 => by
      left
      have hx : xs[i] = x := by rw [List.getElem?_eq_getElem h1] at h2; exact Option.some.inj h2
      refine ⟨s.set i xs[i], hL i h1 s h5.1, ⟨by simp [h5.1], ?_⟩, ?_⟩
      · rw [List.take_succ_eq_append_getElem h1, List.take_succ_eq_append_getElem (by simp [h5.1]; exact h1)]
        congr 1
        · rw [List.take_set_of_le (Nat.le_refl i), h5.2]
        · simp
      · have hl : l.length = xs.length - (i + 1) := by rw [← h4]; simp
        congr 1
        rw [List.length_cons, hl, show xs.length - (xs.length - (i + 1) + 1) = i by omega, show xs.length - (xs.length - (i + 1)) = i + 1 by omega]
        rw [List.take_succ_eq_append_getElem (by simp [h5.1]; exact h1), List.take_set_of_le (Nat.le_refl i)]
        simp [hx])
    n hn (List.replicate xs.length z) ⟨by simp, by simp⟩
  simpa using this

/-! ### the largest number of rounds -/
def BIG : Nat := 18446744073709551616
theorem maxLen_eq : maxLen = 9223372036854775807 := rfl

section
variable {β : Type}
open Classical in
/-- What one element becomes ('E': what is known of it). -/
noncomputable def mkOne (E : Int → β → Int → β → Prop) (k : Int) (x : β) : Int × β := if h : ∃ p : Int × β, E k x p.1 p.2 then h.choose else (k, x)
theorem mkOne_ok {E : Int → β → Int → β → Prop} {k : Int} {x : β} (h : ∃ k' x', E k x k' x') : E k x (mkOne E k x).1 (mkOne E k x).2 := by
  have h' : ∃ p : Int × β, E k x p.1 p.2 := let ⟨a, b, c⟩ := h; ⟨(a, b), c⟩
  unfold mkOne
  rw [dif_pos h']
  exact h'.choose_spec
noncomputable def mkAll (E : Int → β → Int → β → Prop) : Int → List β → Int × List β
  | k, [] => (k, [])
  | k, x :: l => ((mkAll E (mkOne E k x).1 l).1, (mkOne E k x).2 :: (mkAll E (mkOne E k x).1 l).2)
theorem mkAll_len (E : Int → β → Int → β → Prop) : ∀ (l : List β) (k : Int), (mkAll E k l).2.length = l.length
  | [], k => rfl
  | x :: l, k => by simp [mkAll, mkAll_len E l]

/-- A loop that marks a row. -/
theorem mark_only (L : Int × Int × List β → Option ((Int × Int × List β) ⊕ (Int × Int × List β))) (sm sm' : β → Prop) (c : Nat) (xs : List β) (hx : ∀ x ∈ xs, sm x) (hlen : xs.length ≤ 1048576)
    (k0 : Int) (h0 : 0 ≤ k0) (hb : k0 + (c : Int) * (xs.length : Int) ≤ 4611686018427387904)
    (hstep : ∀ (k : Int) (x : β), 0 ≤ k → k + (c : Int) ≤ 4611686018427387904 → sm x → ∃ k' x', k ≤ k' ∧ k' ≤ k + c ∧ sm' x' ∧
      (∀ (i : Nat) (ys : List β), i < ys.length → ys.length ≤ 1048576 → ys[i]? = some x → L (k, (i : Int), ys) = some (.inl (k', ((i + 1 : Nat) : Int), ys.set i x'))))
    (hL : ∀ (k : Int) (ys : List β), L (k, (ys.length : Int), ys) = some (.inr (k, (ys.length : Int), ys))) :
    ∀ n, xs.length < n → ∃ k' xs', iter n L (k0, 0, xs) = some (k', (xs.length : Int), xs') ∧ xs'.length = xs.length ∧ k0 ≤ k' ∧ k' ≤ k0 + (c : Int) * (xs.length : Int) ∧ (∀ x ∈ xs', sm' x) := by
  intro n hn
  let E : Int → β → Int → β → Prop := fun k x k' x' => k ≤ k' ∧ k' ≤ k + c ∧ sm' x' ∧
      (∀ (i : Nat) (ys : List β), i < ys.length → ys.length ≤ 1048576 → ys[i]? = some x → L (k, (i : Int), ys) = some (.inl (k', ((i + 1 : Nat) : Int), ys.set i x')))
  have hone : ∀ k x, 0 ≤ k → k + (c : Int) ≤ 4611686018427387904 → sm x → E k x (mkOne E k x).1 (mkOne E k x).2 := fun k x h1 h2 h3 => mkOne_ok (hstep k x h1 h2 h3)
  have bnd : ∀ (l : List β) (k : Int), (∀ x ∈ l, sm x) → 0 ≤ k → k + (c : Int) * (l.length : Int) ≤ 4611686018427387904 → k ≤ (mkAll E k l).1 ∧ (mkAll E k l).1 ≤ k + (c : Int) * (l.length : Int) ∧ ∀ y ∈ (mkAll E k l).2, sm' y := by
    intro l
    induction l with
    | nil => intro k _ h1 h2; simp [mkAll]
    | cons x l ih =>
      intro k hs h1 h2
      have hc : (c : Int) * ((x :: l).length : Int) = c + (c : Int) * (l.length : Int) := by simp [Int.mul_add]; omega
      rw [hc] at h2
      have hcl : 0 ≤ (c : Int) * (l.length : Int) := Int.mul_nonneg (by omega) (by omega)
      obtain ⟨e1, e2, e3, _⟩ := hone k x h1 (by omega) (hs x (by simp))
      obtain ⟨i1, i2, i3⟩ := ih (mkOne E k x).1 (fun y hy => hs y (by simp [hy])) (by omega) (by omega)
      refine ⟨?_, ?_, ?_⟩
      · show k ≤ (mkAll E (mkOne E k x).1 l).1; omega
      · show (mkAll E (mkOne E k x).1 l).1 ≤ _
        rw [hc]; omega
      · intro y hy
        rcases List.mem_cons.1 (show y ∈ (mkOne E k x).2 :: (mkAll E (mkOne E k x).1 l).2 from hy) with rfl | hy
        · exact e3
        · exact i3 y hy
  obtain ⟨b1, b2, b3⟩ := bnd xs k0 hx h0 hb
  have hdrop : ∀ i x l, xs.drop i = x :: l → sm x ∧ ∀ y ∈ l, sm y := by
    intro i x l hd
    have : ∀ y ∈ x :: l, sm y := fun y hy => hx y (List.mem_of_mem_drop (hd ▸ hy))
    exact ⟨this x (by simp), fun y hy => this y (by simp [hy])⟩
  refine ⟨(mkAll E k0 xs).1, (mkAll E k0 xs).2, ?_, mkAll_len E xs k0, b1, b2, b3⟩
  have := iter_rec (σ := Int × List β) L (fun i s => (s.1, (i : Int), s.2)) xs (fun l s => ((mkAll E s.1 l).1, (xs.length : Int), s.2.take (xs.length - l.length) ++ (mkAll E s.1 l).2))
      (fun i s => s.2.length = xs.length ∧ s.2.drop i = xs.drop i ∧ 0 ≤ s.1 ∧ s.1 + (c : Int) * ((xs.length - i : Nat) : Int) ≤ 4611686018427387904)
      (fun s hs => by
        have := hL s.1 s.2
        rw [hs.1] at this
        rw [this]
        simp [mkAll, ← hs.1])
      (fun i x l s h1 h2 h3 h4 h5 => by
        left
        obtain ⟨q1, q2, q3, q4⟩ := h5
        have hll : l.length = xs.length - (i + 1) := by rw [← h4]; simp
        have hsub : xs.length - i = (xs.length - (i + 1)) + 1 := by omega
        have hc : (c : Int) * ((xs.length - i : Nat) : Int) = c + (c : Int) * ((xs.length - (i + 1) : Nat) : Int) := by rw [hsub]; simp [Int.mul_add]; omega
        rw [hc] at q4
        have hcl : 0 ≤ (c : Int) * ((xs.length - (i + 1) : Nat) : Int) := Int.mul_nonneg (by omega) (by omega)
        obtain ⟨e1, e2, e3, e4⟩ := hone s.1 x q3 (by omega) (hdrop i x l h3).1
        have hsi : s.2[i]? = some x := by
          have := congrArg (fun l => l[0]?) (q2.trans h3)
          simpa using this
        refine ⟨((mkOne E s.1 x).1, s.2.set i (mkOne E s.1 x).2), e4 i s.2 (by omega) (by omega) hsi, ⟨by simp [q1], ?_, by omega, by omega⟩, ?_⟩
        · show (s.2.set i (mkOne E s.1 x).2).drop (i + 1) = _
          rw [List.drop_set_of_lt (by omega)]
          have := congrArg (List.drop 1) q2
          simpa using this
        · show (((mkAll E (mkOne E s.1 x).1 l).1, (xs.length : Int), s.2.take (xs.length - (l.length + 1)) ++ (mkOne E s.1 x).2 :: (mkAll E (mkOne E s.1 x).1 l).2) : Int × Int × List β) = ((mkAll E (mkOne E s.1 x).1 l).1, (xs.length : Int), (s.2.set i (mkOne E s.1 x).2).take (xs.length - l.length) ++ (mkAll E (mkOne E s.1 x).1 l).2)
          rw [hll, show xs.length - (xs.length - (i + 1) + 1) = i by omega, show xs.length - (xs.length - (i + 1)) = i + 1 by omega]
          rw [List.take_succ_eq_append_getElem (by simp [q1]; exact h1), List.take_set_of_le (Nat.le_refl i)]
          simp)
      n hn (k0, xs) ⟨rfl, rfl, h0, by simpa using hb⟩
  simpa using this

/-- A loop that marks a row, and one that reads the marks. 'c': how much an element counts at most. -/
theorem mark_loop {γ : Type} (L : Int × Int × List β → Option ((Int × Int × List β) ⊕ (Int × Int × List β))) (H : List β → Int × Int → Option ((Int × Int) ⊕ ((Int × Int) ⊕ γ))) (sm sm' : β → Prop) (c : Nat) (xs : List β) (hx : ∀ x ∈ xs, sm x) (hlen : xs.length ≤ 1048576)
    (k0 : Int) (h0 : 0 ≤ k0) (hb : k0 + (c : Int) * (xs.length : Int) ≤ 4611686018427387904)
    (hstep : ∀ (k : Int) (x : β), 0 ≤ k → k + (c : Int) ≤ 4611686018427387904 → sm x → ∃ k' x', k ≤ k' ∧ k' ≤ k + c ∧ sm' x' ∧
      (∀ (i : Nat) (ys : List β), i < ys.length → ys.length ≤ 1048576 → ys[i]? = some x → L (k, (i : Int), ys) = some (.inl (k', ((i + 1 : Nat) : Int), ys.set i x'))) ∧
      (∀ (i : Nat) (ys : List β), i < ys.length → ys.length ≤ 1048576 → ys[i]? = some x' → H ys (k, (i : Int)) = some (.inl (k', ((i + 1 : Nat) : Int)))))
    (hL : ∀ (k : Int) (ys : List β), L (k, (ys.length : Int), ys) = some (.inr (k, (ys.length : Int), ys))) (hH : ∀ (k : Int) (ys : List β), H ys (k, (ys.length : Int)) = some (.inr (.inl (k, (ys.length : Int))))) :
    ∀ n, xs.length < n → ∃ k' xs', iter n L (k0, 0, xs) = some (k', (xs.length : Int), xs') ∧ xs'.length = xs.length ∧ k0 ≤ k' ∧ k' ≤ k0 + (c : Int) * (xs.length : Int) ∧ (∀ x ∈ xs', sm' x) ∧ iter n (H xs') (k0, 0) = some (.inl (k', (xs.length : Int))) := by
  intro n hn
  let E : Int → β → Int → β → Prop := fun k x k' x' => k ≤ k' ∧ k' ≤ k + c ∧ sm' x' ∧
      (∀ (i : Nat) (ys : List β), i < ys.length → ys.length ≤ 1048576 → ys[i]? = some x → L (k, (i : Int), ys) = some (.inl (k', ((i + 1 : Nat) : Int), ys.set i x'))) ∧
      (∀ (i : Nat) (ys : List β), i < ys.length → ys.length ≤ 1048576 → ys[i]? = some x' → H ys (k, (i : Int)) = some (.inl (k', ((i + 1 : Nat) : Int))))
  have hone : ∀ k x, 0 ≤ k → k + (c : Int) ≤ 4611686018427387904 → sm x → E k x (mkOne E k x).1 (mkOne E k x).2 := fun k x h1 h2 h3 => mkOne_ok (hstep k x h1 h2 h3)
  have bnd : ∀ (l : List β) (k : Int), (∀ x ∈ l, sm x) → 0 ≤ k → k + (c : Int) * (l.length : Int) ≤ 4611686018427387904 → k ≤ (mkAll E k l).1 ∧ (mkAll E k l).1 ≤ k + (c : Int) * (l.length : Int) ∧ ∀ y ∈ (mkAll E k l).2, sm' y := by
    intro l
    induction l with
    | nil => intro k _ h1 h2; simp [mkAll]
    | cons x l ih =>
      intro k hs h1 h2
      have hc : (c : Int) * ((x :: l).length : Int) = c + (c : Int) * (l.length : Int) := by simp [Int.mul_add]; omega
      rw [hc] at h2
      have hcl : 0 ≤ (c : Int) * (l.length : Int) := Int.mul_nonneg (by omega) (by omega)
      obtain ⟨e1, e2, e3, _, _⟩ := hone k x h1 (by omega) (hs x (by simp))
      obtain ⟨i1, i2, i3⟩ := ih (mkOne E k x).1 (fun y hy => hs y (by simp [hy])) (by omega) (by omega)
      refine ⟨?_, ?_, ?_⟩
      · show k ≤ (mkAll E (mkOne E k x).1 l).1; omega
      · show (mkAll E (mkOne E k x).1 l).1 ≤ _
        rw [hc]; omega
      · intro y hy
        rcases List.mem_cons.1 (show y ∈ (mkOne E k x).2 :: (mkAll E (mkOne E k x).1 l).2 from hy) with rfl | hy
        · exact e3
        · exact i3 y hy
  obtain ⟨b1, b2, b3⟩ := bnd xs k0 hx h0 hb
  have hdrop : ∀ i x l, xs.drop i = x :: l → sm x ∧ ∀ y ∈ l, sm y := by
    intro i x l hd
    have : ∀ y ∈ x :: l, sm y := fun y hy => hx y (List.mem_of_mem_drop (hd ▸ hy))
    exact ⟨this x (by simp), fun y hy => this y (by simp [hy])⟩
  refine ⟨(mkAll E k0 xs).1, (mkAll E k0 xs).2, ?_, mkAll_len E xs k0, b1, b2, b3, ?_⟩
  · have := iter_rec (σ := Int × List β) L (fun i s => (s.1, (i : Int), s.2)) xs (fun l s => ((mkAll E s.1 l).1, (xs.length : Int), s.2.take (xs.length - l.length) ++ (mkAll E s.1 l).2))
      (fun i s => s.2.length = xs.length ∧ s.2.drop i = xs.drop i ∧ 0 ≤ s.1 ∧ s.1 + (c : Int) * ((xs.length - i : Nat) : Int) ≤ 4611686018427387904)
      (fun s hs => by
        have := hL s.1 s.2
        rw [hs.1] at this
        rw [this]
        simp [mkAll, ← hs.1])
      (fun i x l s h1 h2 h3 h4 h5 => by
        left
        obtain ⟨q1, q2, q3, q4⟩ := h5
        have hll : l.length = xs.length - (i + 1) := by rw [← h4]; simp
        have hsub : xs.length - i = (xs.length - (i + 1)) + 1 := by omega
        have hc : (c : Int) * ((xs.length - i : Nat) : Int) = c + (c : Int) * ((xs.length - (i + 1) : Nat) : Int) := by rw [hsub]; simp [Int.mul_add]; omega
        rw [hc] at q4
        have hcl : 0 ≤ (c : Int) * ((xs.length - (i + 1) : Nat) : Int) := Int.mul_nonneg (by omega) (by omega)
        obtain ⟨e1, e2, e3, e4, e5⟩ := hone s.1 x q3 (by omega) (hdrop i x l h3).1
        have hsi : s.2[i]? = some x := by
          have := congrArg (fun l => l[0]?) (q2.trans h3)
          simpa using this
        refine ⟨((mkOne E s.1 x).1, s.2.set i (mkOne E s.1 x).2), e4 i s.2 (by omega) (by omega) hsi, ⟨by simp [q1], ?_, by omega, by omega⟩, ?_⟩
        · show (s.2.set i (mkOne E s.1 x).2).drop (i + 1) = _
          rw [List.drop_set_of_lt (by omega)]
          have := congrArg (List.drop 1) q2
          simpa using this
        · show (((mkAll E (mkOne E s.1 x).1 l).1, (xs.length : Int), s.2.take (xs.length - (l.length + 1)) ++ (mkOne E s.1 x).2 :: (mkAll E (mkOne E s.1 x).1 l).2) : Int × Int × List β) = ((mkAll E (mkOne E s.1 x).1 l).1, (xs.length : Int), (s.2.set i (mkOne E s.1 x).2).take (xs.length - l.length) ++ (mkAll E (mkOne E s.1 x).1 l).2)
          rw [hll, show xs.length - (xs.length - (i + 1) + 1) = i by omega, show xs.length - (xs.length - (i + 1)) = i + 1 by omega]
          rw [List.take_succ_eq_append_getElem (by simp [q1]; exact h1), List.take_set_of_le (Nat.le_refl i)]
          simp)
      n hn (k0, xs) ⟨rfl, rfl, h0, by simpa using hb⟩
    simpa using this
  · have hxl : (mkAll E k0 xs).2.length = xs.length := mkAll_len E xs k0
    have := iter_rec (σ := Int) (H (mkAll E k0 xs).2) (fun i k => (k, (i : Int))) xs (fun l k => (.inl ((mkAll E k l).1, (xs.length : Int)) : (Int × Int) ⊕ γ))
      (fun i k => (mkAll E k0 xs).2.drop i = (mkAll E k (xs.drop i)).2 ∧ 0 ≤ k ∧ k + (c : Int) * ((xs.length - i : Nat) : Int) ≤ 4611686018427387904)
      (fun k hk => by
        have := hH k (mkAll E k0 xs).2
        rw [hxl] at this
        rw [this]; simp [mkAll])
      (fun i x l k h1 h2 h3 h4 h5 => by
        left
        obtain ⟨q2, q3, q4⟩ := h5
        have hsub : xs.length - i = (xs.length - (i + 1)) + 1 := by omega
        have hc : (c : Int) * ((xs.length - i : Nat) : Int) = c + (c : Int) * ((xs.length - (i + 1) : Nat) : Int) := by rw [hsub]; simp [Int.mul_add]; omega
        rw [hc] at q4
        have hcl : 0 ≤ (c : Int) * ((xs.length - (i + 1) : Nat) : Int) := Int.mul_nonneg (by omega) (by omega)
        obtain ⟨e1, e2, e3, e4, e5⟩ := hone k x q3 (by omega) (hdrop i x l h3).1
        rw [h3] at q2
        have q2 : (mkAll E k0 xs).2.drop i = (mkOne E k x).2 :: (mkAll E (mkOne E k x).1 l).2 := q2
        have hsi : (mkAll E k0 xs).2[i]? = some (mkOne E k x).2 := by
          have := congrArg (fun l => l[0]?) q2
          simpa using this
        refine ⟨(mkOne E k x).1, e5 i _ (by omega) (by omega) hsi, ⟨?_, by omega, by omega⟩, rfl⟩
        have := congrArg (List.drop 1) q2
        rw [h4]
        simpa using this)
      n hn k0 ⟨rfl, h0, by simpa using hb⟩
    simpa using this

/-- A loop that counts how much is left. -/
theorem sz_loop (L : Int × Int → Option ((Int × Int) ⊕ ((Int × Int) ⊕ Int))) (xs : List β) (sm : β → Prop)
    (hstep : ∀ (i : Nat) (x : β) (left : Int), i < xs.length → xs[i]? = some x → 0 ≤ left → left ≤ 1048576 → (∃ r, L (left, (i : Int)) = some (.inl (r, ((i + 1 : Nat) : Int))) ∧ 0 ≤ r ∧ r ≤ left ∧ sm x) ∨ ∃ r, L (left, (i : Int)) = some (.inr (.inr r)) ∧ r < 0)
    (hend : ∀ left, L (left, (xs.length : Int)) = some (.inr (.inl (left, (xs.length : Int))))) : ∀ n, xs.length < n → ∀ left : Int, 0 ≤ left → left ≤ 1048576 →
    (∃ r, iter n L (left, 0) = some (.inr r) ∧ r < 0) ∨ ∃ r, iter n L (left, 0) = some (.inl (r, (xs.length : Int))) ∧ 0 ≤ r ∧ r ≤ left ∧ ∀ x ∈ xs, sm x := by
  have key : ∀ d i n (left : Int), i + d = xs.length → d < n → 0 ≤ left → left ≤ 1048576 → (∃ r, iter n L (left, (i : Int)) = some (.inr r) ∧ r < 0) ∨ ∃ r, iter n L (left, (i : Int)) = some (.inl (r, (xs.length : Int))) ∧ 0 ≤ r ∧ r ≤ left ∧ ∀ x ∈ xs.drop i, sm x := by
    intro d
    induction d with
    | zero =>
      intro i n left hi hn h0 h1
      obtain ⟨n, rfl⟩ : ∃ k, n = k + 1 := ⟨n - 1, by omega⟩
      have : i = xs.length := by omega
      subst this
      exact .inr ⟨left, iter_end (hend left) n, h0, Int.le_refl _, by simp⟩
    | succ d ih =>
      intro i n left hi hn h0 h1
      obtain ⟨n, rfl⟩ : ∃ k, n = k + 1 := ⟨n - 1, by omega⟩
      have hlt : i < xs.length := by omega
      rcases hstep i xs[i] left hlt (List.getElem?_eq_getElem hlt) h0 h1 with ⟨r, e, r0, r1, hs⟩ | ⟨r, e, r0⟩
      · rw [iter_go e n]
        rcases ih (i + 1) n r (by omega) (by omega) r0 (by omega) with ⟨q, e2, q0⟩ | ⟨q, e2, q0, q1, q2⟩
        · exact .inl ⟨q, e2, q0⟩
        · refine .inr ⟨q, e2, q0, by omega, ?_⟩
          rw [List.drop_eq_getElem_cons hlt]
          intro x hx
          rcases List.mem_cons.1 hx with rfl | hx
          · exact hs
          · exact q2 x hx
      · exact .inl ⟨r, iter_end e n, r0⟩
  intro n hn left h0 h1
  have := key xs.length 0 n left (by omega) hn h0 h1
  simpa using this
end

theorem make_ok (m : Nat) (h : m ≤ 1048576) : (decide (0 ≤ (m : Int)) && decide ((m : Int) ≤ (maxRow : Int)) && decide ((m : Int) = (m : Int))) = true := by
  have hm : maxRow = 68719476736 := rfl
  have h2 : decide ((m : Int) ≤ (maxRow : Int)) = true := by rw [hm]; simp; omega
  rw [h2]; simp
theorem modify_set {α : Type} (xs : List α) (i : Nat) (f : α → α) (h : i < xs.length) : List.modify xs i f = xs.set i (f xs[i]) := by
  apply List.ext_getElem
  · simp
  · intro j h1 h2
    rw [List.getElem_modify, List.getElem_set]
    by_cases e : i = j
    · subst e; simp
    · simp [e]


def sm_ItemS (a : List (Int × Int)) : Prop := a.length ≤ 1048576

def sm_PickS (a : List (Int × Int × Int)) : Prop := a.length ≤ 1048576

def sm_Order (a : Int × Int × (List (Int × Int)) × (List (Int × Int × Int)) × Int) : Prop := sm_ItemS a.2.2.1 ∧ sm_PickS a.2.2.2.1

def sm_OrderS (a : List (Int × Int × (List (Int × Int)) × (List (Int × Int × Int)) × Int)) : Prop := a.length ≤ 1048576 ∧ ∀ y ∈ a, sm_Order y

def sm_Book (a : Int × (List (Int × Int × (List (Int × Int)) × (List (Int × Int × Int)) × Int))) : Prop := sm_OrderS a.2

def sm_IntS (a : List Int) : Prop := a.length ≤ 1048576

def sm_Floor (a : Int × Int × (List Int)) : Prop := sm_IntS a.2.2

def sm_StackS (a : List (Int × Int × Int)) : Prop := a.length ≤ 1048576

def sm_Pod (a : Int × Int × (List (Int × Int × Int))) : Prop := sm_StackS a.2.2

def sm_PodS (a : List (Int × Int × (List (Int × Int × Int)))) : Prop := a.length ≤ 1048576 ∧ ∀ y ∈ a, sm_Pod y

def sm_Stock (a : (List (Int × Int × (List (Int × Int × Int))))) : Prop := sm_PodS a

def sm_RobotS (a : List (Int × Int × Int × Bool × Int)) : Prop := a.length ≤ 1048576

def sm_TaskS (a : List (Int × Int × Int × Int)) : Prop := a.length ≤ 1048576

def sm_Depot (a : Int × Int × (List Int) × (List (Int × Int × (List (Int × Int × Int)))) × Int × (List (Int × Int × (List (Int × Int)) × (List (Int × Int × Int)) × Int)) × (List (Int × Int × Int × Bool × Int)) × (List (Int × Int × Int × Int)) × (List Int) × (List Int) × Int) : Prop := sm_Floor (a.1, a.2.1, a.2.2.1) ∧ sm_Stock a.2.2.2.1 ∧ sm_Book (a.2.2.2.2.1, a.2.2.2.2.2.1) ∧ sm_RobotS a.2.2.2.2.2.2.1 ∧ sm_TaskS a.2.2.2.2.2.2.2.1 ∧ sm_IntS a.2.2.2.2.2.2.2.2.1 ∧ sm_IntS a.2.2.2.2.2.2.2.2.2.1

def sm_WordS (a : List (Bool × Int × Int)) : Prop := a.length ≤ 1048576

def sm_Link (a : (List Int) × Int × Bool × Int × Int × Int × (List Int) × (List (Bool × Int × Int))) : Prop := sm_IntS a.1 ∧ sm_IntS a.2.2.2.2.2.2.1 ∧ sm_WordS a.2.2.2.2.2.2.2

def sm_Act (a : Int × Int × (List (Int × Int)) × Int × Int × Int × Int) : Prop := sm_ItemS a.2.2.1

def sm_BoolS (a : List Bool) : Prop := a.length ≤ 1048576

theorem row1 {m : Nat} (h : m ≤ 1048576) : decide (m + 1 ≤ maxRow) = true := by
  have hm : maxRow = 68719476736 := rfl
  rw [hm]; simp; omega

theorem row0 {m : Nat} (h : m ≤ 1048576) : decide (m ≤ maxRow) = true := by
  have hm : maxRow = 68719476736 := rfl
  rw [hm]; simp; omega


/-- Two loops that go alike, and end. -/
theorem iter_two {α γ : Type} (f g : α → Option (α ⊕ γ)) (I : Nat → α → Prop) (Q : γ → Prop) (m : Nat)
    (h : ∀ i x, i ≤ m → I i x → g x = f x ∧ ((∃ y, f x = some (.inl y) ∧ I (i + 1) y ∧ i < m) ∨ ∃ r, f x = some (.inr r) ∧ Q r)) :
    ∀ n, m < n → ∀ x, I 0 x → iter n g x = iter n f x ∧ ∃ r, iter n f x = some r ∧ Q r := by
  have key : ∀ d i n x, i + d = m → d < n → I i x → iter n g x = iter n f x ∧ ∃ r, iter n f x = some r ∧ Q r := by
    intro d
    induction d with
    | zero =>
      intro i n x hi hn hI
      obtain ⟨n, rfl⟩ : ∃ k, n = k + 1 := ⟨n - 1, by omega⟩
      obtain ⟨e, h1 | ⟨r, h1, h2⟩⟩ := h i x (by omega) hI
      · obtain ⟨y, _, _, hlt⟩ := h1; omega
      · exact ⟨by rw [iter_end h1 n, iter_end (e.trans h1) n], r, iter_end h1 n, h2⟩
    | succ d ih =>
      intro i n x hi hn hI
      obtain ⟨n, rfl⟩ : ∃ k, n = k + 1 := ⟨n - 1, by omega⟩
      obtain ⟨e, ⟨y, h1, h2, _⟩ | ⟨r, h1, h2⟩⟩ := h i x (by omega) hI
      · obtain ⟨j1, j2⟩ := ih (i + 1) n y (by omega) (by omega) h2
        rw [iter_go h1 n, iter_go (e.trans h1) n]
        exact ⟨j1, j2⟩
      · exact ⟨by rw [iter_end h1 n, iter_end (e.trans h1) n], r, iter_end h1 n, h2⟩
  exact fun n hn x hx => key m 0 n x (by omega) hn hx


theorem impl_PicksOf_ok (a : SIILIIJLIIIJI) (h : a.2.2.2.1.length ≤ 1048576) (c : Int) (n : Nat) (hn : BIG ≤ n) : impl_PicksOf n a.1 a.2.1 a.2.2.1 a.2.2.2.1 a.2.2.2.2 c = some (a.2.2.2.1.filter fun x => x.1 == c) := by
  have hc := iter_rec (σ := List SIII) (impl_PicksOf_L1 a.2.2.2.1 c) (fun i s => (s, (i : Int))) a.2.2.2.1 (fun l s => (s ++ l.filter fun x => x.1 == c, (a.2.2.2.1.length : Int))) (fun i s => s.length ≤ i)
    (fun s hs => by simp [impl_PicksOf_L1])
    (fun i x l s h1 h2 h3 h4 h5 => by
      left
      have hx : a.2.2.2.1[i] = x := by rw [List.getElem?_eq_getElem h1] at h2; exact Option.some.inj h2
      have hr : decide (s.length + 1 ≤ maxRow) = true := row1 (by omega)
      cases hq : x.1 == c with
      | true => exact ⟨s ++ [x], by simp [impl_PicksOf_L1, h1, getI_lt h1, hx, hq, w64_nat h1 (by omega), hr], by simp; omega, by simp [hq]⟩
      | false => exact ⟨s, by simp [impl_PicksOf_L1, h1, getI_lt h1, hx, hq, w64_nat h1 (by omega)], by omega, by simp [hq]⟩)
    n (by unfold BIG at hn; omega) [] (Nat.le_refl _)
  unfold impl_PicksOf
  rw [show ((0 : Nat) : Int) = 0 from rfl] at hc
  rw [hc]; simp


def fU8 (x : Int) : Prop := IntKind.min .u8 ≤ x ∧ x ≤ IntKind.max .u8


theorem andI_255 (x : Int) : 0 ≤ andI .i64 x 255 ∧ andI .i64 x 255 ≤ 255 := by
  unfold andI
  have h : (BitVec.ofInt (IntKind.bits .i64) x &&& BitVec.ofInt (IntKind.bits .i64) 255).toNat ≤ 255 := by
    rw [BitVec.toNat_and]
    have : (BitVec.ofInt (IntKind.bits .i64) 255).toNat = 255 := by decide
    rw [this]
    exact Nat.and_le_right
  generalize (BitVec.ofInt (IntKind.bits .i64) x &&& BitVec.ofInt (IntKind.bits .i64) 255).toNat = m at h
  have : IntKind.wrap .i64 (m : Int) = (m : Int) := w64_eq (by omega) (by omega)
  rw [this]
  omega


theorem l1Byte_ok (b : List Int) (i h : Int) (hi : 0 ≤ i) (hb : b.length ≤ 1048576) : ∃ x i' h' : Int, spec_l1Byte b i h = some (x, b, i', h') ∧ 0 ≤ x ∧ x ≤ 255 ∧ 0 ≤ i' := by
  unfold spec_l1Byte
  rw [show decide ((0 : Nat) ≤ 33) = true from rfl, show decide ((0 : Nat) ≤ 47) = true from rfl]
  simp only [cond_true]
  by_cases hl : i < (b.length : Int)
  · obtain ⟨j, rfl⟩ : ∃ j : Nat, i = (j : Int) := ⟨i.toNat, by omega⟩
    have hj : j < b.length := by omega
    rw [show decide ((j : Int) < (b.length : Int)) = true by simpa using hl, cond_true, getI_lt hj]
    simp only [Option.bind_some]
    refine ⟨_, _, _, rfl, (andI_255 _).1, (andI_255 _).2, ?_⟩
    rw [w64_nat hj (by omega)]; omega
  · rw [show decide (i < (b.length : Int)) = false by simpa using hl, cond_false]
    simp only [Option.bind_some]
    exact ⟨_, _, _, rfl, (andI_255 _).1, (andI_255 _).2, hi⟩


theorem l1Below_ok (b : List Int) (i h : Int) (hi : 0 ≤ i) (hb : b.length ≤ 1048576) (n : Int) : ∃ x i' h' : Int, spec_l1Below b i h n = some (x, b, i', h') ∧ 0 ≤ i' ∧ 0 ≤ x ∧ (x < n ∨ n ≤ 0 ∧ x = 0) := by
  unfold spec_l1Below
  by_cases h0 : n ≤ 0
  · rw [show decide (n ≤ 0) = true by simpa using h0, cond_true]
    exact ⟨0, i, h, rfl, hi, by omega, .inr ⟨h0, rfl⟩⟩
  rw [show decide (n ≤ 0) = false by simpa using h0, cond_false]
  have hz : (n == 0) = false := by rw [← Bool.not_eq_true]; simp; omega
  rw [hz]
  have fin : ∀ x : Int, 0 ≤ x → 0 ≤ Int.tmod x n ∧ Int.tmod x n < n := fun x hx => by
    rw [Int.tmod_eq_emod_of_nonneg hx]
    exact ⟨Int.emod_nonneg _ (by omega), Int.emod_lt_of_pos _ (by omega)⟩
  obtain ⟨x, i1, h1, e1, x0, x1, j1⟩ := l1Byte_ok b i h hi hb
  rw [e1]
  simp only [Option.bind_some, cond_false]
  by_cases h2 : n ≤ 256
  · rw [show decide (n ≤ 256) = true by simpa using h2, cond_true]
    exact ⟨_, _, _, rfl, j1, (fin x x0).1, .inl (fin x x0).2⟩
  rw [show decide (n ≤ 256) = false by simpa using h2, cond_false]
  obtain ⟨y, i2, h2', e2, y0, y1, j2⟩ := l1Byte_ok b i1 h1 j1 hb
  rw [e2]
  simp only [Option.bind_some]
  obtain ⟨z, i3, h3', e3, z0, z1, j3⟩ := l1Byte_ok b i2 h2' j2 hb
  rw [e3]
  simp only [Option.bind_some]
  rw [w64_eq (n := x * 65536) (by omega) (by omega), w64_eq (n := y * 256) (by omega) (by omega), w64_eq (n := x * 65536 + y * 256) (by omega) (by omega), w64_eq (n := x * 65536 + y * 256 + z) (by omega) (by omega)]
  exact ⟨_, _, _, rfl, j3, (fin _ (by omega)).1, .inl (fin _ (by omega)).2⟩


theorem l1New_ok (a : List Int) (ha : a.length ≤ 1048576) (n : Nat) (hn : BIG ≤ n) : ∃ h : Int, spec_l1New n a = some (a, 0, h) := by
  obtain ⟨_, r, e, _⟩ := iter_two (α := Int × Int) (γ := Int × Int) (spec_l1New_L1 a) (spec_l1New_L1 a) (fun i x => x.2 = (i : Int)) (fun _ => True) a.length (fun i x hi hI => by
    refine ⟨rfl, ?_⟩
    obtain ⟨h, k⟩ := x
    dsimp only at hI
    subst hI
    unfold spec_l1New_L1
    dsimp only
    by_cases hl : i < a.length
    · rw [show decide ((i : Int) < (a.length : Int)) = true by simp; omega, cond_true]
      simp only [Option.bind_some]
      cases decide ((i : Int) < 4000) with
      | false => exact .inr ⟨_, rfl, trivial⟩
      | true =>
        rw [cond_true, getI_lt hl]
        exact .inl ⟨_, rfl, w64_nat hl (by omega), hl⟩
    · rw [show decide ((i : Int) < (a.length : Int)) = false by simp; omega]
      exact .inr ⟨_, rfl, trivial⟩) n (by unfold BIG at hn; omega) (w64 (275275 + (a.length : Int)), 0) rfl
  unfold spec_l1New
  rw [e]
  exact ⟨r.1, rfl⟩


/-- A loop that looks for the first. -/
theorem find_loop {β : Type} (f : Int → Option (Int ⊕ (Int ⊕ Int))) (xs : List β) (P : β → Bool) (hs : ∀ (i : Nat) (x : β), i < xs.length → xs[i]? = some x → f (i : Int) = some (bif P x then .inr (.inr (i : Int)) else .inl ((i + 1 : Nat) : Int)))
    (he : f (xs.length : Int) = some (.inr (.inl (xs.length : Int)))) : ∀ n, xs.length < n → iter n f 0 = some (.inl (xs.length : Int)) ∨ ∃ i, ∃ h : i < xs.length, P xs[i] = true ∧ iter n f 0 = some (.inr (i : Int)) := by
  have key : ∀ d i n, i + d = xs.length → d < n → iter n f (i : Int) = some (.inl (xs.length : Int)) ∨ ∃ j, ∃ h : j < xs.length, P xs[j] = true ∧ iter n f (i : Int) = some (.inr (j : Int)) := by
    intro d
    induction d with
    | zero =>
      intro i n hi hn
      obtain ⟨n, rfl⟩ : ∃ k, n = k + 1 := ⟨n - 1, by omega⟩
      have : i = xs.length := by omega
      subst this
      exact .inl (iter_end he n)
    | succ d ih =>
      intro i n hi hn
      obtain ⟨n, rfl⟩ : ∃ k, n = k + 1 := ⟨n - 1, by omega⟩
      have hlt : i < xs.length := by omega
      have hf := hs i xs[i] hlt (List.getElem?_eq_getElem hlt)
      cases hp : P xs[i] with
      | true => rw [hp, cond_true] at hf; exact .inr ⟨i, hlt, hp, iter_end hf n⟩
      | false => rw [hp, cond_false] at hf; rw [iter_go hf n]; exact ih (i + 1) n (by omega) (by omega)
  exact fun n hn => key xs.length 0 n (by omega) hn


theorem spec_l11Find_ok (a0 : Int) (a : List SIILIIJLIIIJI) (h : a.length ≤ 1048576) (c : Int) (n : Nat) (hn : BIG ≤ n) : spec_l11Find n a0 a c = some (-1) ∨ ∃ i, i < a.length ∧ spec_l11Find n a0 a c = some (i : Int) := by
  have := find_loop (spec_l11Find_L1 a c) a (fun x => x.1 == c) (fun i x h1 h2 => by
    have hx : a[i] = x := by rw [List.getElem?_eq_getElem h1] at h2; exact Option.some.inj h2
    simp only [spec_l11Find_L1, getI_lt h1, hx, Option.bind_some, w64_nat h1 (by omega)]
    rw [show decide ((i : Int) < (a.length : Int)) = true by simpa using h1]
    cases hq : (x.1 == c) <;> rfl) (by simp [spec_l11Find_L1]) n (by unfold BIG at hn; omega)
  unfold spec_l11Find
  rcases this with e | ⟨i, hi, _, e⟩
  · rw [e]; exact .inl rfl
  · rw [e]; exact .inr ⟨i, hi, rfl⟩


theorem spec_l11CopyOrder_ok (a : SIILIIJLIIIJI) (h : sm_Order a) : spec_l11CopyOrder a.1 a.2.1 a.2.2.1 a.2.2.2.1 a.2.2.2.2 = some a := by
  obtain ⟨h1, h2⟩ := h
  unfold spec_l11CopyOrder
  simp [row0 h1, row0 h2]


abbrev Dp := Int × Int × (List Int) × (List (Int × Int × (List SIII))) × Int × (List SIILIIJLIIIJI) × (List (Int × Int × Int × Bool × Int)) × (List (Int × Int × Int × Int)) × (List Int) × (List Int) × Int
def fDp : Dp → Prop := fP fI (fP fI (fP (fSl fI) (fP (fSl (fP fI (fP fI (fSl (fP fI (fP fI fI)))))) (fP fI (fP (fSl (fP fI (fP fI (fP (fSl (fP fI fI)) (fP (fSl (fP fI (fP fI fI))) fI))))) (fP (fSl (fP fI (fP fI (fP fI (fP fB fI))))) (fP (fSl (fP fI (fP fI (fP fI fI)))) (fP (fSl fI) (fP (fSl fI) fI)))))))))


theorem l1In_ok (a b c : Int) : spec_l1In a b c = some (decide (b ≤ a) && decide (a ≤ c)) := by
  unfold spec_l1In
  by_cases h : a ≥ b <;> simp [h]


theorem iter_total {γ : Type} (f : Int → Option (Int ⊕ γ)) (m : Nat) (hs : ∀ i : Nat, i < m → f (i : Int) = some (.inl ((i + 1 : Nat) : Int)) ∨ ∃ r, f (i : Int) = some (.inr r)) (he : ∃ r, f (m : Int) = some (.inr r)) : ∀ n, m < n → ∃ r, iter n f 0 = some r := by
  have key : ∀ d i n, i + d = m → d < n → ∃ r, iter n f (i : Int) = some r := by
    intro d
    induction d with
    | zero =>
      intro i n hi hn
      obtain ⟨n, rfl⟩ : ∃ k, n = k + 1 := ⟨n - 1, by omega⟩
      have : i = m := by omega
      subst this
      obtain ⟨r, hr⟩ := he
      exact ⟨r, iter_end hr n⟩
    | succ d ih =>
      intro i n hi hn
      obtain ⟨n, rfl⟩ : ∃ k, n = k + 1 := ⟨n - 1, by omega⟩
      rcases hs i (by omega) with h | ⟨r, h⟩
      · rw [iter_go h n]; exact ih (i + 1) n (by omega) (by omega)
      · exact ⟨r, iter_end h n⟩
  intro n hn
  exact key m 0 n (by omega) hn

theorem itemsOk_some (n : Nat) (hn : BIG ≤ n) (a : List (Int × Int)) (ha : a.length ≤ 1048576) : ∃ b, spec_ItemsOk n a = some b := by
  obtain ⟨r, hr⟩ := iter_total (spec_ItemsOk_L1 a) a.length (fun i hi => by
    unfold spec_ItemsOk_L1
    rw [show decide ((i : Int) < (a.length : Int)) = true by simp only [decide_eq_true_eq]; omega, cond_true, getI_lt hi, w64_nat hi (by omega)]
    simp only [Option.bind_some, l1In_ok]
    by_cases h0 : i = 0
    · subst h0
      simp
      cases decide (1 ≤ (a[0]).1) <;> cases decide ((a[0]).1 ≤ 50) <;> cases decide (1 ≤ (a[0]).2) <;> cases decide ((a[0]).2 ≤ 1000) <;> simp
    · obtain ⟨j, rfl⟩ : ∃ j, i = j + 1 := ⟨i - 1, by omega⟩
      have e : w64 (((j + 1 : Nat) : Int) - 1) = (j : Int) := by rw [w64_eq (by omega) (by omega)]; omega
      rw [e, getI_lt (by omega : j < a.length)]
      simp only [Option.bind_some]
      have e2 : decide (((j + 1 : Nat) : Int) > 0) = true := by simp only [decide_eq_true_eq]; omega
      rw [e2]
      generalize (decide (1 ≤ (a[j + 1]).1) && decide ((a[j + 1]).1 ≤ 50)) = b1
      generalize (decide (1 ≤ (a[j + 1]).2) && decide ((a[j + 1]).2 ≤ 1000)) = b2
      generalize decide ((a[j]).1 ≥ (a[j + 1]).1) = b3
      cases b1 <;> cases b2 <;> cases b3 <;> simp) (by unfold spec_ItemsOk_L1; simp) n (by unfold BIG at hn; omega)
  unfold spec_ItemsOk
  rw [hr]
  cases r with
  | inl k => exact ⟨_, rfl⟩
  | inr b => exact ⟨_, rfl⟩


/-- A loop that asks the same of each number. -/
theorem all_loopF {α : Type} (f : α → Option (α ⊕ (α ⊕ Bool))) (st : Nat → α) (m : Nat) (P : Nat → Bool) (hs : ∀ i, i < m → f (st i) = some (bif P i then .inl (st (i + 1)) else .inr (.inr false))) (he : f (st m) = some (.inr (.inl (st m)))) :
    ∀ n, m < n → iter n f (st 0) = some (bif (List.range m).all P then .inl (st m) else .inr false) := by
  have key : ∀ d i n, i + d = m → d < n → iter n f (st i) = some (bif (List.range' i d).all P then .inl (st m) else .inr false) := by
    intro d
    induction d with
    | zero =>
      intro i n hi hn
      obtain ⟨n, rfl⟩ : ∃ k, n = k + 1 := ⟨n - 1, by omega⟩
      have : i = m := by omega
      subst this
      rw [iter_end he n]; rfl
    | succ d ih =>
      intro i n hi hn
      obtain ⟨n, rfl⟩ : ∃ k, n = k + 1 := ⟨n - 1, by omega⟩
      have hf := hs i (by omega)
      rw [List.range'_succ, List.all_cons]
      cases hp : P i with
      | true => rw [hp, cond_true] at hf; rw [iter_go hf n, ih (i + 1) n (by omega) (by omega)]; rfl
      | false => rw [hp, cond_false] at hf; rw [iter_end hf n]; rfl
  intro n hn
  rw [List.range_eq_range']
  exact key m 0 n (by omega) hn
/-- A loop that goes on as long as something holds. -/
theorem while_loop (f : Int → Option (Int ⊕ Int)) (m : Nat) (P : Nat → Bool) (hs : ∀ i, i < m → f (i : Int) = some (bif P i then .inl ((i + 1 : Nat) : Int) else .inr (i : Int))) (he : f (m : Int) = some (.inr (m : Int))) :
    ∀ n, m < n → ∃ j, j ≤ m ∧ iter n f 0 = some (j : Int) ∧ (∀ i, i < j → P i = true) ∧ (j < m → P j = false) := by
  have key : ∀ d i n, i + d = m → d < n → ∃ j, i ≤ j ∧ j ≤ m ∧ iter n f (i : Int) = some (j : Int) ∧ (∀ q, i ≤ q → q < j → P q = true) ∧ (j < m → P j = false) := by
    intro d
    induction d with
    | zero =>
      intro i n hi hn
      obtain ⟨n, rfl⟩ : ∃ k, n = k + 1 := ⟨n - 1, by omega⟩
      have : i = m := by omega
      subst this
      exact ⟨i, Nat.le_refl _, Nat.le_refl _, iter_end he n, fun q h1 h2 => by omega, fun h => by omega⟩
    | succ d ih =>
      intro i n hi hn
      obtain ⟨n, rfl⟩ : ∃ k, n = k + 1 := ⟨n - 1, by omega⟩
      have hf := hs i (by omega)
      cases hp : P i with
      | true =>
        rw [hp, cond_true] at hf
        obtain ⟨j, h1, h2, h3, h4, h5⟩ := ih (i + 1) n (by omega) (by omega)
        refine ⟨j, by omega, h2, by rw [iter_go hf n]; exact h3, fun q q1 q2 => ?_, h5⟩
        by_cases e : q = i
        · subst e; exact hp
        · exact h4 q (by omega) q2
      | false => rw [hp, cond_false] at hf; exact ⟨i, Nat.le_refl _, by omega, iter_end hf n, fun q h1 h2 => by omega, fun _ => hp⟩
  intro n hn
  obtain ⟨j, _, h2, h3, h4, h5⟩ := key m 0 n (by omega) hn
  exact ⟨j, h2, h3, fun i hi => h4 i (by omega) hi, h5⟩

theorem take_get {β : Type} {a : List β} {i j : Nat} {y : β} (h : j < (a.take i).length) (hy : (a.take i)[j]? = some y) : j < i ∧ ∃ h : j < a.length, a[j] = y := by
  rw [List.length_take] at h
  rw [List.getElem?_take, if_pos (by omega), List.getElem?_eq_getElem (by omega)] at hy
  exact ⟨by omega, by omega, Option.some.inj hy⟩


/-- Is what stands ahead smaller? -/
def prevL {β : Type} (key : β → Int) (a : List β) (i : Nat) (x : β) : Bool := match i with
  | 0 => true
  | j + 1 => match a[j]? with
    | some y => !decide (key y ≥ key x)
    | none => true
theorem prev_F {β γ : Type} (key : β → Int) (a : List β) (x : β) (i : Nat) (hi : i < a.length) (hl : a.length ≤ 1048576) (F : Bool → Option γ) :
    (bif decide ((i : Int) > 0) then (getI a (w64 ((i : Int) - 1))).bind (fun y => F (decide (key y ≥ key x))) else F false) = F (!prevL key a i x) := by
  cases i with
  | zero => rfl
  | succ j =>
    have hw : w64 (((j + 1 : Nat) : Int) - 1) = (j : Int) := by rw [w64_eq (by omega) (by omega)]; omega
    rw [show decide (((j + 1 : Nat) : Int) > 0) = true by rw [decide_eq_true_eq]; omega, cond_true, hw, getI_lt (by omega), Option.bind_some]
    simp only [prevL, List.getElem?_eq_getElem (show j < a.length by omega), Bool.not_not]
def inB (a b c : Int) : Bool := decide (b ≤ a) && decide (a ≤ c)


theorem in_ok (a b c : Int) : spec_l1In a b c = some (inB a b c) := l1In_ok a b c


def freeC (c : List Int) (i : Int) : Bool := inB i 0 ((c.length : Int) - 1) && (c.getD i.toNat 0 != 0)
theorem in_nat {c : List Int} {i : Int} (h : inB i 0 ((c.length : Int) - 1) = true) : ∃ m : Nat, i = (m : Int) ∧ m < c.length := by
  unfold inB at h
  simp only [Bool.and_eq_true, decide_eq_true_eq] at h
  exact ⟨i.toNat, by omega, by omega⟩


def stackOk (l : List SIII) (i : Nat) : Bool := match l[i]? with
  | none => false
  | some x => inB x.1 1 50 && inB x.2.1 1 1000 && inB x.2.2 0 x.2.1 && prevL (·.1) l i x
def stacksOk (l : List SIII) : Bool := (List.range l.length).all (stackOk l) && decide (l.length ≤ 8)
abbrev Pod := Int × Int × List SIII
def podAt (a : List Pod) (i : Nat) : Bool := match a[i]? with
  | none => false
  | some x => inB x.1 1 999 && inB x.2.1 0 99 && stacksOk x.2.2 && prevL (·.1) a i x && (a.take i).all fun y => !(y.2.1 == x.2.1)
def stockOk (a : List Pod) : Bool := decide (a.length ≤ 12) && (List.range a.length).all (podAt a)


theorem spec_l5Stacks_ok (l : List SIII) (hl : l.length ≤ 1048576) (n : Nat) (hn : BIG ≤ n) : spec_l5Stacks n l = some (stacksOk l) := by
  have := all_loopF (spec_l5Stacks_L1 l) (fun i => (i : Int)) l.length (stackOk l) (fun i hi => by
    have hp : (bif decide ((i : Int) > 0) then (getI l (w64 ((i : Int) - 1))).bind (fun y => some (decide (y.1 ≥ l[i].1))) else some false) = some (!prevL (·.1) l i l[i]) := prev_F (·.1) l l[i] i hi hl some
    simp only [spec_l5Stacks_L1, stackOk, getI_lt hi, List.getElem?_eq_getElem hi, Option.bind_some, in_ok, w64_nat hi (by omega), hp]
    rw [show decide ((i : Int) < (l.length : Int)) = true by simpa using hi]
    generalize l[i] = x
    generalize prevL (·.1) l i x = b4
    cases inB x.1 1 50 <;> cases inB x.2.1 1 1000 <;> cases inB x.2.2 0 x.2.1 <;> cases b4 <;> rfl) (by simp [spec_l5Stacks_L1]) n (by unfold BIG at hn; omega)
  unfold spec_l5Stacks stacksOk
  rw [show ((0 : Nat) : Int) = 0 from rfl] at this
  rw [this]
  rw [show decide ((l.length : Int) ≤ 8) = decide (l.length ≤ 8) by rw [Bool.eq_iff_iff]; simp; omega]
  cases (List.range l.length).all (stackOk l) <;> rfl
theorem spec_StockOk_in (a : List Pod) (hl : a.length ≤ 1048576) (i : Nat) (hi : i < a.length) (x : Pod) (n : Nat) (hn : BIG ≤ n) :
    iter n (spec_StockOk_L2 a (i : Int) x) 0 = some (bif (a.take i).all fun y => !(y.2.1 == x.2.1) then .inl (i : Int) else .inr false) := by
  have hlen : (a.take i).length = i := by simp; omega
  have := all_loop (spec_StockOk_L2 a (i : Int) x) (a.take i) (fun y => !(y.2.1 == x.2.1)) (fun j y h1 h2 => by
    obtain ⟨hj, hj2, hy⟩ := take_get h1 h2
    simp only [spec_StockOk_L2, getI_lt hj2, hy, Option.bind_some, w64_nat hj2 (by omega)]
    rw [show decide ((j : Int) < (i : Int)) = true by rw [decide_eq_true_eq]; omega]
    cases (y.2.1 == x.2.1) <;> rfl) (by first | (simp [spec_StockOk_L2, hlen]; done) | (simp [spec_StockOk_L2, hlen]; omega)) n (by unfold BIG at hn; omega)
  rw [hlen] at this
  exact this
theorem spec_StockOk_ok (a : List Pod) (hs : sm_PodS a) (n : Nat) (hn : BIG ≤ n) : spec_StockOk n a = some (stockOk a) := by
  have hl : a.length ≤ 1048576 := hs.1
  have := all_loopF (spec_StockOk_L1 n a) (fun i => (i : Int)) a.length (podAt a) (fun i hi => by
    have hp : (bif decide ((i : Int) > 0) then (getI a (w64 ((i : Int) - 1))).bind (fun y => some (decide (y.1 ≥ a[i].1))) else some false) = some (!prevL (·.1) a i a[i]) := prev_F (·.1) a a[i] i hi hl some
    have hst : a[i].2.2.length ≤ 1048576 := hs.2 _ (List.getElem_mem hi)
    simp only [spec_StockOk_L1, podAt, getI_lt hi, List.getElem?_eq_getElem hi, Option.bind_some, in_ok, w64_nat hi (by omega), hp, spec_l5Stacks_ok _ hst n hn, spec_StockOk_in a hl i hi a[i] n hn]
    rw [show decide ((i : Int) < (a.length : Int)) = true by simpa using hi]
    generalize a[i] = x
    generalize ((a.take i).all fun y => !(y.2.1 == x.2.1)) = b5
    generalize prevL (·.1) a i x = b4
    cases inB x.1 1 999 <;> cases inB x.2.1 0 99 <;> cases stacksOk x.2.2 <;> cases b4 <;> cases b5 <;> rfl) (by simp [spec_StockOk_L1]) n (by unfold BIG at hn; omega)
  unfold spec_StockOk stockOk
  rw [show ((0 : Nat) : Int) = 0 from rfl] at this
  rw [this, show decide ((a.length : Int) > 12) = !decide (a.length ≤ 12) by by_cases q : a.length ≤ 12 <;> simp [q] <;> omega]
  cases decide (a.length ≤ 12) <;> cases (List.range a.length).all (podAt a) <;> rfl


def cntOf (l : List SIII) (k : Int) : Int := match l.find? fun x => x.1 == k with
  | some x => x.2.1
  | none => 0
theorem stack_lt {l : List SIII} (h : stacksOk l = true) : ∀ (i j : Nat) (hj : j < l.length) (hij : i < j), (l[i]'(by omega)).1 < l[j].1 := by
  unfold stacksOk at h
  simp only [Bool.and_eq_true, List.all_eq_true, List.mem_range] at h
  have step : ∀ j (hj : j + 1 < l.length), (l[j]'(by omega)).1 < l[j + 1].1 := by
    intro j hj
    have := h.1 (j + 1) hj
    simp only [stackOk, List.getElem?_eq_getElem hj, Bool.and_eq_true, prevL, List.getElem?_eq_getElem (show j < l.length by omega)] at this
    have := this.2
    simpa using this
  intro i j
  induction j with
  | zero => intro hj hij; omega
  | succ j ih =>
    intro hj hij
    have h1 := step j hj
    by_cases e : i = j
    · subst e; exact h1
    · have := ih (by omega) (by omega); omega
theorem stack_cnt {l : List SIII} (h : stacksOk l = true) (k : Int) : 0 ≤ cntOf l k ∧ cntOf l k ≤ 1000 := by
  unfold cntOf
  cases hf : l.find? fun x => x.1 == k with
  | none => simp
  | some x =>
    have hm := List.mem_of_find?_eq_some hf
    obtain ⟨i, hi, rfl⟩ := List.getElem_of_mem hm
    unfold stacksOk at h
    simp only [Bool.and_eq_true, List.all_eq_true, List.mem_range] at h
    have := h.1 i hi
    simp only [stackOk, List.getElem?_eq_getElem hi, Bool.and_eq_true, inB, decide_eq_true_eq] at this
    show 0 ≤ l[i].2.1 ∧ l[i].2.1 ≤ 1000
    omega
theorem cnt_at {l : List SIII} (h : stacksOk l = true) {j : Nat} (hj : j < l.length) {k : Int} (hk : l[j].1 = k) : cntOf l k = l[j].2.1 := by
  unfold cntOf
  cases hf : l.find? fun x => x.1 == k with
  | none =>
    have := List.find?_eq_none.1 hf l[j] (List.getElem_mem hj)
    simp [hk] at this
  | some x =>
    obtain ⟨i, hi, rfl⟩ := List.getElem_of_mem (List.mem_of_find?_eq_some hf)
    have hki : l[i].1 = k := by have := List.find?_some hf; simpa using this
    rcases Nat.lt_trichotomy i j with q | q | q
    · have := stack_lt h i j hj q; omega
    · subst q; rfl
    · have := stack_lt h j i hi q; omega
theorem cnt_no {l : List SIII} {k : Int} (h : ∀ x ∈ l, x.1 ≠ k) : cntOf l k = 0 := by
  unfold cntOf
  rw [List.find?_eq_none.2 fun x hx => by simpa using h x hx]
/-- How many pieces lie in the stock. -/
def countOf (a : List Pod) (k : Int) : Int := bif stockOk a then (a.map fun p => cntOf p.2.2 k).foldl (· + ·) 0 else 0
theorem pods_ok {a : List Pod} (h : stockOk a = true) : a.length ≤ 12 ∧ ∀ i (hi : i < a.length), stacksOk a[i].2.2 = true := by
  unfold stockOk at h
  simp only [Bool.and_eq_true, List.all_eq_true, List.mem_range, decide_eq_true_eq] at h
  refine ⟨h.1, fun i hi => ?_⟩
  have := h.2 i hi
  simp only [podAt, List.getElem?_eq_getElem hi, Bool.and_eq_true] at this
  exact this.1.1.2


/-- A loop that asks the same of each number, with an answer where it falls. -/
theorem all_loopG {α γ : Type} (f : α → Option (α ⊕ (α ⊕ γ))) (st : Nat → α) (m : Nat) (P : Nat → Bool) (r : γ) (hs : ∀ i, i < m → f (st i) = some (bif P i then .inl (st (i + 1)) else .inr (.inr r))) (he : f (st m) = some (.inr (.inl (st m)))) :
    ∀ n, m < n → iter n f (st 0) = some (bif (List.range m).all P then .inl (st m) else .inr r) := by
  have key : ∀ d i n, i + d = m → d < n → iter n f (st i) = some (bif (List.range' i d).all P then .inl (st m) else .inr r) := by
    intro d
    induction d with
    | zero =>
      intro i n hi hn
      obtain ⟨n, rfl⟩ : ∃ k, n = k + 1 := ⟨n - 1, by omega⟩
      have : i = m := by omega
      subst this
      rw [iter_end he n]; rfl
    | succ d ih =>
      intro i n hi hn
      obtain ⟨n, rfl⟩ : ∃ k, n = k + 1 := ⟨n - 1, by omega⟩
      have hf := hs i (by omega)
      rw [List.range'_succ, List.all_cons]
      cases hp : P i with
      | true => rw [hp, cond_true] at hf; rw [iter_go hf n, ih (i + 1) n (by omega) (by omega)]; rfl
      | false => rw [hp, cond_false] at hf; rw [iter_end hf n]; rfl
  intro n hn
  rw [List.range_eq_range']
  exact key m 0 n (by omega) hn


theorem spec_l5Copy_ok (a : List Pod) (hs : sm_PodS a) (n : Nat) (hn : BIG ≤ n) : spec_l5Copy n a = some a := by
  have hl : a.length ≤ 1048576 := hs.1
  have hc := iter_rec (σ := List Pod) (spec_l5Copy_L1 a) (fun i s => ((i : Int), s)) a (fun l s => ((a.length : Int), s ++ l)) (fun i s => s.length = i)
    (fun s hs => by simp [spec_l5Copy_L1])
    (fun i x l s h1 h2 h3 h4 h5 => by
      left
      have hx : a[i] = x := by rw [List.getElem?_eq_getElem h1] at h2; exact Option.some.inj h2
      have hst : x.2.2.length ≤ 1048576 := by rw [← hx]; exact hs.2 _ (List.getElem_mem h1)
      have hr : decide (s.length + 1 ≤ maxRow) = true := row1 (by omega)
      exact ⟨s ++ [x], by simp [spec_l5Copy_L1, h1, getI_lt h1, hx, row0 hst, hr, w64_nat h1 (by omega)], by simp [h5], by simp⟩)
    n (by unfold BIG at hn; omega) [] rfl
  unfold spec_l5Copy
  rw [show ((0 : Nat) : Int) = 0 from rfl] at hc
  rw [hc]; rfl


abbrev Dn := Int × Int × (List Int) × (List (Int × Int × (List SIII))) × Int × (List SIILIIJLIIIJI) × (List (Int × Int × Int × Bool × Int)) × (List (Int × Int × Int × Int)) × (List Int) × (List Int) × Int
def dnZero : Dn := (0, 0, [], [], 0, [], [], [], [], [], 0)
def tupDn (x : Dn × Bool) : Int × Int × (List Int) × (List (Int × Int × (List SIII))) × Int × (List SIILIIJLIIIJI) × (List (Int × Int × Int × Bool × Int)) × (List (Int × Int × Int × Int)) × (List Int) × (List Int) × Int × Bool :=
  (x.1.1, x.1.2.1, x.1.2.2.1, x.1.2.2.2.1, x.1.2.2.2.2.1, x.1.2.2.2.2.2.1, x.1.2.2.2.2.2.2.1, x.1.2.2.2.2.2.2.2.1, x.1.2.2.2.2.2.2.2.2.1, x.1.2.2.2.2.2.2.2.2.2.1, x.1.2.2.2.2.2.2.2.2.2.2, x.2)
def homeAt (c : List Int) (a : List Pod) (i : Nat) : Bool := match a[i]? with
  | some p => inB p.2.1 0 ((c.length : Int) - 1) && (c.getD p.2.1.toNat 0 == 2)
  | none => false
def heldAt (a : List Pod) (i : Nat) : Bool := match a[i]? with
  | some p => (List.range p.2.2.length).all fun k => !decide ((p.2.2.getD k (0, 0, 0)).2.2 > 0)
  | none => false
def crewTo (docks : List Int) : Nat → List (Int × Int × Int × Bool × Int)
  | 0 => []
  | i + 1 => crewTo docks i ++ [(((i + 1 : Nat) : Int), docks.getD i 0, -1, false, 0)]
theorem crewTo_len (docks : List Int) : ∀ i, (crewTo docks i).length = i
  | 0 => rfl
  | i + 1 => by simp [crewTo, crewTo_len docks i]
def startTo (a : List Pod) : Nat → List Int
  | 0 => List.replicate 51 0
  | i + 1 => (startTo a i).set (i + 1) (countOf a ((i + 1 : Nat) : Int))
theorem startTo_len (a : List Pod) : ∀ i, (startTo a i).length = 51
  | 0 => rfl
  | i + 1 => by simp [startTo, startTo_len a i]


theorem l1Once_ok (b : List Int) (i h : Int) (hi : 0 ≤ i) (hb : b.length ≤ 1048576) (n : Int) : ∃ (x : Bool) (i' h' : Int), spec_l1Once b i h n = some (x, b, i', h') ∧ 0 ≤ i' := by
  obtain ⟨x, i', h', e, hi', _⟩ := l1Below_ok b i h hi hb n
  unfold spec_l1Once
  rw [e]
  exact ⟨_, _, _, rfl, hi'⟩

theorem l1Int_ok (b : List Int) (i h : Int) (hi : 0 ≤ i) (hb : b.length ≤ 1048576) (xs : List Int) (hx : 0 < xs.length) : ∃ x i' h' : Int, spec_l1Int b i h xs = some (x, b, i', h') ∧ 0 ≤ i' ∧ x ∈ xs := by
  obtain ⟨x, i', h', e, hi', x0, x1⟩ := l1Below_ok b i h hi hb (xs.length : Int)
  unfold spec_l1Int
  rw [e, Option.bind_some]
  obtain ⟨k, rfl⟩ : ∃ k : Nat, x = (k : Int) := ⟨x.toNat, by omega⟩
  have hk : k < xs.length := by omega
  dsimp only
  rw [getI_lt hk, Option.bind_some]
  exact ⟨_, _, _, rfl, hi', List.getElem_mem hk⟩


/-- Stacks that are right; a stock that is right. -/
def StkP (l : List SIII) : Prop := l.Pairwise (fun a b => a.1 < b.1) ∧ (∀ x ∈ l, 1 ≤ x.1 ∧ x.1 ≤ 50 ∧ 1 ≤ x.2.1 ∧ x.2.1 ≤ 1000 ∧ 0 ≤ x.2.2 ∧ x.2.2 ≤ x.2.1) ∧ l.length ≤ 8
def StockP (a : List Pod) : Prop := a.length ≤ 12 ∧ a.Pairwise (fun x y => x.1 < y.1 ∧ x.2.1 ≠ y.2.1) ∧ ∀ p ∈ a, (1 ≤ p.1 ∧ p.1 ≤ 999) ∧ (0 ≤ p.2.1 ∧ p.2.1 ≤ 99) ∧ StkP p.2.2
theorem prevL_of {β : Type} {key : β → Int} {a : List β} {R : β → β → Prop} (h : a.Pairwise R) (hR : ∀ x y, R x y → key x < key y) (i : Nat) (hi : i < a.length) : prevL key a i a[i] = true := by
  cases i with
  | zero => rfl
  | succ j =>
    have := hR _ _ (List.pairwise_iff_getElem.1 h j (j + 1) (by omega) hi (by omega))
    simp only [prevL, List.getElem?_eq_getElem (show j < a.length by omega)]
    simpa using this
theorem StkP.ok {l : List SIII} (h : StkP l) : stacksOk l = true := by
  obtain ⟨h1, h2, h3⟩ := h
  unfold stacksOk
  simp only [Bool.and_eq_true, List.all_eq_true, List.mem_range, decide_eq_true_eq]
  refine ⟨fun i hi => ?_, h3⟩
  obtain ⟨a1, a2, a3, a4, a5, a6⟩ := h2 _ (List.getElem_mem hi)
  simp only [stackOk, List.getElem?_eq_getElem hi, prevL_of h1 (fun x y h => h) i hi, inB, Bool.and_eq_true, decide_eq_true_eq]
  exact ⟨⟨⟨⟨a1, a2⟩, a3, a4⟩, a5, a6⟩, trivial⟩
theorem StockP.ok {a : List Pod} (h : StockP a) : stockOk a = true := by
  obtain ⟨h1, h2, h3⟩ := h
  unfold stockOk
  simp only [Bool.and_eq_true, List.all_eq_true, List.mem_range, decide_eq_true_eq]
  refine ⟨h1, fun i hi => ?_⟩
  obtain ⟨⟨a1, a2⟩, ⟨a3, a4⟩, a5⟩ := h3 _ (List.getElem_mem hi)
  have hp := prevL_of (key := (·.1)) h2 (fun x y h => h.1) i hi
  have hh : ((a.take i).all fun y => !(y.2.1 == a[i].2.1)) = true := List.all_eq_true.2 fun y hy => by
    obtain ⟨j, hj, rfl⟩ := List.getElem_of_mem hy
    have hj' : j < i := by rw [List.length_take] at hj; omega
    have := (List.pairwise_iff_getElem.1 h2 j i (by omega) hi hj').2
    rw [List.getElem_take]
    simpa using this
  simp only [podAt, List.getElem?_eq_getElem hi, hp, hh, a5.ok, inB, Bool.and_eq_true, decide_eq_true_eq]
  exact ⟨⟨⟨⟨⟨a1, a2⟩, a3, a4⟩, trivial⟩, trivial⟩, trivial⟩
theorem StockP.sm {a : List Pod} (h : StockP a) : sm_PodS a := ⟨by have := h.1; omega, fun y hy => by show y.2.2.length ≤ _; have := (h.2.2 y hy).2.2.2.2; omega⟩


theorem l5Draw_in (n : Nat) (hn : BIG ≤ n) (b : List Int) (hb : b.length ≤ 1048576) (ci ch : Int) (hci : 0 ≤ ci) (id home : Int) :
    ∃ (c : Int) (ci' ch' : Int) (l : List SIII), iter n spec_l5Draw_L2 (1, b, ci, ch, id, home, ([] : List SIII)) = some (c, b, ci', ch', id, home, l) ∧ 0 ≤ ci' ∧ StkP l := by
  obtain ⟨_, r, e, hr⟩ := iter_two spec_l5Draw_L2 spec_l5Draw_L2 (fun i (x : Int × (List Int) × Int × Int × Int × Int × (List SIII)) => x.1 = (i : Int) + 1 ∧ i ≤ 5 ∧ x.2.1 = b ∧ 0 ≤ x.2.2.1 ∧ x.2.2.2.2.1 = id ∧ x.2.2.2.2.2.1 = home ∧ x.2.2.2.2.2.2.Pairwise (fun a b => a.1 < b.1) ∧ (∀ y ∈ x.2.2.2.2.2.2, 1 ≤ y.1 ∧ y.1 ≤ (i : Int) ∧ 1 ≤ y.2.1 ∧ y.2.1 ≤ 1000 ∧ 0 ≤ y.2.2 ∧ y.2.2 ≤ y.2.1) ∧ x.2.2.2.2.2.2.length ≤ i)
    (fun r => r.2.1 = b ∧ 0 ≤ r.2.2.1 ∧ r.2.2.2.2.1 = id ∧ r.2.2.2.2.2.1 = home ∧ StkP r.2.2.2.2.2.2) 5 (fun i x hi hI => by
    refine ⟨rfl, ?_⟩
    obtain ⟨s, b0, ci, ch, id0, home0, l⟩ := x
    obtain ⟨h1, h2, h3, h4, h5, h6, h7, h8, h9⟩ := hI
    dsimp only at h1 h3 h4 h5 h6 h7 h8 h9
    subst h1; subst h3; subst h5; subst h6
    by_cases h5 : i < 5
    · left
      obtain ⟨v, i1, g1, e1, j1, m1⟩ := l1Int_ok b0 ci ch h4 hb [0, 0, 1, 3, 5, 12] (by simp)
      have hv : 0 ≤ v ∧ v ≤ 12 := by
        simp at m1
        omega
      unfold spec_l5Draw_L2
      dsimp only
      rw [show decide ((i : Int) + 1 < 6) = true by simp; omega, cond_true, e1, Option.bind_some]
      dsimp only
      rw [w64_eq (n := (i : Int) + 1 + 1) (by omega) (by omega)]
      by_cases hv0 : v > 0
      · rw [show decide (v > 0) = true by simpa using hv0, cond_true, w64_eq (n := v + 1) (by omega) (by omega)]
        obtain ⟨u, i2, g2, e2, j2, u0, u1⟩ := l1Below_ok b0 i1 g1 j1 hb (v + 1)
        rw [e2, Option.bind_some]
        dsimp only
        obtain ⟨t, i3, g3, e3, j3, m3⟩ := l1Int_ok b0 i2 g2 j2 hb [0, 0, 0, u] (by simp)
        have ht : 0 ≤ t ∧ t ≤ v := by
          simp at m3
          omega
        rw [e3, Option.bind_some]
        dsimp only
        rw [show decide (l.length + [((i : Int) + 1, v, t)].length ≤ maxRow) = true from row1 (by omega), cond_true, Option.bind_some]
        refine ⟨_, rfl, ⟨by show (i : Int) + 1 + 1 = ((i + 1 : Nat) : Int) + 1; omega, by omega, rfl, j3, rfl, rfl, ?_, ?_, ?_⟩, h5⟩
        · refine List.pairwise_append.2 ⟨h7, List.pairwise_singleton _ _, fun x hx y hy => ?_⟩
          rw [List.mem_singleton.1 hy]
          have := h8 x hx
          show x.1 < (i : Int) + 1
          omega
        · intro y hy
          rcases List.mem_append.1 hy with hy | hy
          · obtain ⟨q1, q2, q3⟩ := h8 y hy
            exact ⟨q1, by omega, q3⟩
          · rw [List.mem_singleton.1 hy]
            refine ⟨by show 1 ≤ (i : Int) + 1; omega, by show (i : Int) + 1 ≤ ((i + 1 : Nat) : Int); omega, by show 1 ≤ v; omega, by show v ≤ 1000; omega, ht.1, ht.2⟩
        · show (l ++ [_]).length ≤ i + 1
          rw [List.length_append, List.length_singleton]; omega
      · rw [show decide (v > 0) = false by simpa using hv0, cond_false, Option.bind_some]
        refine ⟨_, rfl, ⟨by show (i : Int) + 1 + 1 = ((i + 1 : Nat) : Int) + 1; omega, by omega, rfl, j1, rfl, rfl, h7, fun y hy => ?_, by show l.length ≤ i + 1; omega⟩, h5⟩
        obtain ⟨q1, q2, q3⟩ := h8 y hy
        exact ⟨q1, by omega, q3⟩
    · right
      have : i = 5 := by omega
      subst this
      refine ⟨_, by unfold spec_l5Draw_L2; rfl, rfl, h4, rfl, rfl, h7, fun y hy => ?_, by show l.length ≤ 8; omega⟩
      obtain ⟨q1, q2, q3⟩ := h8 y hy
      exact ⟨q1, by omega, q3⟩) n (by unfold BIG at hn; omega) (1, b, ci, ch, id, home, ([] : List SIII)) ⟨rfl, by omega, rfl, hci, rfl, rfl, List.Pairwise.nil, (fun y hy => by cases hy), by simp⟩
  obtain ⟨c, b0, ci', ch', id0, home0, l⟩ := r
  obtain ⟨h1, h2, h3, h4, h5⟩ := hr
  dsimp only at h1 h2 h3 h4 h5
  subst h1; subst h3; subst h4
  exact ⟨c, ci', ch', l, e, h2, h5⟩
theorem l5Draw_ok (n : Nat) (hn : BIG ≤ n) (b : List Int) (hb : b.length ≤ 1048576) (ci ch : Int) (hci : 0 ≤ ci) :
    ∃ (s : List Pod) (ci' ch' : Int), spec_l5Draw n b ci ch = some (s, b, ci', ch') ∧ 0 ≤ ci' ∧ StockP s := by
  obtain ⟨_, r, e, hr⟩ := iter_two (spec_l5Draw_L1 n) (spec_l5Draw_L1 n) (fun i (x : Int × (List Int) × Int × Int × (List Pod)) => x.1 = (i : Int) + 1 ∧ i ≤ 5 ∧ x.2.1 = b ∧ 0 ≤ x.2.2.1 ∧ x.2.2.2.2.length ≤ i ∧ x.2.2.2.2.Pairwise (fun x y => x.1 < y.1 ∧ x.2.1 ≠ y.2.1) ∧ ∀ p ∈ x.2.2.2.2, (1 ≤ p.1 ∧ p.1 ≤ 10 * (i : Int)) ∧ (20 - (i : Int) ≤ p.2.1 ∧ p.2.1 ≤ 19) ∧ StkP p.2.2)
    (fun r => r.2.1 = b ∧ 0 ≤ r.2.2.1 ∧ StockP r.2.2.2.2) 5 (fun i x hi hI => by
    refine ⟨rfl, ?_⟩
    obtain ⟨s, b0, ci, ch, l⟩ := x
    obtain ⟨h1, h2, h3, h4, h5, h6, h7⟩ := hI
    dsimp only at h1 h3 h4 h5 h6 h7
    subst h1; subst h3
    by_cases hlt : i < 5
    · left
      obtain ⟨v, i1, g1, e1, j1⟩ := l1Once_ok b0 ci ch h4 hb 4
      unfold spec_l5Draw_L1
      dsimp only
      rw [show decide ((i : Int) + 1 < 6) = true by simp; omega, cond_true, e1, Option.bind_some]
      dsimp only
      rw [w64_eq (n := (i : Int) + 1 + 1) (by omega) (by omega)]
      have more : ∀ p ∈ l, (1 ≤ p.1 ∧ p.1 ≤ 10 * ((i + 1 : Nat) : Int)) ∧ (20 - ((i + 1 : Nat) : Int) ≤ p.2.1 ∧ p.2.1 ≤ 19) ∧ StkP p.2.2 := fun p hp => by
        obtain ⟨⟨q1, q2⟩, ⟨q3, q4⟩, q5⟩ := h7 p hp
        exact ⟨⟨q1, by omega⟩, ⟨by omega, q4⟩, q5⟩
      cases v with
      | true =>
        rw [cond_true, Option.bind_some]
        exact ⟨_, rfl, ⟨by show (i : Int) + 1 + 1 = ((i + 1 : Nat) : Int) + 1; omega, by omega, rfl, j1, by show l.length ≤ i + 1; omega, h6, more⟩, hlt⟩
      | false =>
        rw [cond_false, w64_eq (n := ((i : Int) + 1) * 10) (by omega) (by omega), w64_eq (n := 20 - ((i : Int) + 1)) (by omega) (by omega)]
        obtain ⟨c, ci', ch', st, e2, j2, hst⟩ := l5Draw_in n hn b0 hb i1 g1 j1 (((i : Int) + 1) * 10) (20 - ((i : Int) + 1))
        rw [e2, Option.bind_some]
        dsimp only
        rw [show decide (l.length + [(((i : Int) + 1) * 10, 20 - ((i : Int) + 1), st)].length ≤ maxRow) = true from row1 (by omega), cond_true, Option.bind_some]
        refine ⟨_, rfl, ⟨by show (i : Int) + 1 + 1 = ((i + 1 : Nat) : Int) + 1; omega, by omega, rfl, j2, ?_, ?_, ?_⟩, hlt⟩
        · show (l ++ [_]).length ≤ i + 1
          rw [List.length_append, List.length_singleton]; omega
        · refine List.pairwise_append.2 ⟨h6, List.pairwise_singleton _ _, fun x hx y hy => ?_⟩
          rw [List.mem_singleton.1 hy]
          obtain ⟨⟨q1, q2⟩, ⟨q3, q4⟩, _⟩ := h7 x hx
          show x.1 < ((i : Int) + 1) * 10 ∧ x.2.1 ≠ 20 - ((i : Int) + 1)
          omega
        · intro p hp
          rcases List.mem_append.1 hp with hp | hp
          · exact more p hp
          · rw [List.mem_singleton.1 hp]
            refine ⟨⟨by show 1 ≤ ((i : Int) + 1) * 10; omega, by show ((i : Int) + 1) * 10 ≤ 10 * ((i + 1 : Nat) : Int); omega⟩, ⟨by show 20 - ((i + 1 : Nat) : Int) ≤ 20 - ((i : Int) + 1); omega, by show 20 - ((i : Int) + 1) ≤ 19; omega⟩, hst⟩
    · right
      have : i = 5 := by omega
      subst this
      refine ⟨_, by unfold spec_l5Draw_L1; rfl, rfl, h4, by show l.length ≤ 12; omega, h6, fun p hp => ?_⟩
      obtain ⟨⟨q1, q2⟩, ⟨q3, q4⟩, q5⟩ := h7 p hp
      exact ⟨⟨q1, by omega⟩, ⟨by omega, by omega⟩, q5⟩) n (by unfold BIG at hn; omega) (1, b, ci, ch, ([] : List Pod)) ⟨rfl, by omega, rfl, hci, by simp, List.Pairwise.nil, fun y hy => by cases hy⟩
  obtain ⟨c, b0, ci', ch', s⟩ := r
  obtain ⟨h1, h2, h3⟩ := hr
  dsimp only at h1 h2 h3
  subst h1
  unfold spec_l5Draw
  rw [e]
  exact ⟨s, ci', ch', rfl, h2, h3⟩


def stackOf (l : List SIII) (k : Int) : SIII := match l.find? (fun x => x.1 == k) with
  | some x => x
  | none => (k, 0, 0)
theorem l5Stack_val (p : Pod) (hl : p.2.2.length ≤ 1048576) (k : Int) (n : Nat) (hn : BIG ≤ n) : spec_l5Stack n p.1 p.2.1 p.2.2 k = some (stackOf p.2.2 k) := by
  unfold stackOf
  have hc := iter_rec (σ := Unit) (spec_l5Stack_L1 p.2.2 k) (fun i _ => ((i : Int), (0 : Int), (0 : Int), (0 : Int))) p.2.2 (fun l _ => match l.find? (fun x => x.1 == k) with | some x => .inr x | none => .inl ((p.2.2.length : Int), 0, 0, 0)) (fun _ _ => True)
    (fun s hs => by simp [spec_l5Stack_L1])
    (fun i x l s h1 h2 h3 h4 h5 => by
      have hx : p.2.2[i] = x := by rw [List.getElem?_eq_getElem h1] at h2; exact Option.some.inj h2
      cases hq : (x.1 == k) with
      | true => right; simp [spec_l5Stack_L1, h1, getI_lt h1, hx, hq]
      | false => left; exact ⟨(), by simp [spec_l5Stack_L1, h1, getI_lt h1, hx, hq, w64_nat h1 (by omega)], trivial, by simp [hq]⟩)
    n (by unfold BIG at hn; omega) () trivial
  unfold spec_l5Stack
  rw [show ((0 : Nat) : Int) = 0 from rfl] at hc
  rw [hc]
  cases p.2.2.find? fun x => x.1 == k <;> rfl


def putS (x : SIII) (l : List SIII) : List SIII := l.map fun y => bif y.1 == x.1 then x else y
theorem l5With_ok (l : List SIII) (h : StkP l) (x : SIII) (hx : ∃ z ∈ l, z.1 = x.1) (h0 : (x.2.1 == 0) = false) (n : Nat) (hn : BIG ≤ n) : spec_l5With n l x.1 x.2.1 x.2.2 = some (putS x l) := by
  obtain ⟨x0, x1, x2⟩ := x
  dsimp only at h0 hx ⊢
  have h8 := h.2.2
  have hc := iter_rec (σ := List SIII × Bool) (spec_l5With_L1 l x0 x1 x2) (fun i s => (s.1, s.2, (i : Int))) l (fun r s => (s.1 ++ putS (x0, x1, x2) r, s.2 || r.any (fun z => z.1 == x0), (l.length : Int)))
    (fun i s => s.1.length ≤ i ∧ ((s.2 = false ∧ ∃ z ∈ l.drop i, z.1 = x0) ∨ (s.2 = true ∧ ∀ z ∈ l.drop i, z.1 ≠ x0)))
    (fun s hs => by simp [spec_l5With_L1, putS])
    (fun i y r s h1 h2 h3 h4 h5 => by
      left
      have hy : l[i] = y := by rw [List.getElem?_eq_getElem h1] at h2; exact Option.some.inj h2
      obtain ⟨hlen, hs⟩ := h5
      obtain ⟨out, put⟩ := s
      dsimp only at hlen hs ⊢
      rw [h3] at hs
      have hpw : (y :: r).Pairwise (fun a b => a.1 < b.1) := h3 ▸ h.1.drop
      have hyr := (List.pairwise_cons.1 hpw).1
      unfold spec_l5With_L1
      dsimp only
      rw [show decide ((i : Int) < (l.length : Int)) = true by simpa using h1, cond_true, getI_lt h1, hy, w64_nat h1 (by omega)]
      simp only [Option.bind_some]
      have r1 : ∀ (o : List SIII) (w : SIII), o.length ≤ i + 1 → decide (o.length + [w].length ≤ maxRow) = true := fun o w ho => row1 (by omega)
      rcases hs with ⟨rfl, z, hz, hzx⟩ | ⟨rfl, hs⟩
      · simp only [Bool.not_false, cond_true, Option.bind_some]
        by_cases he : y.1 = x0
        · rw [show decide (y.1 ≥ x0) = true by simp; omega, cond_true, r1 out _ (by omega), cond_true, Option.bind_some]
          rw [show (y.1 != x0) = false by simp [he], cond_false, Option.bind_some]
          refine ⟨(out ++ [(x0, x1, x2)], true), rfl, ⟨by show (out ++ [_]).length ≤ i + 1; rw [List.length_append, List.length_singleton]; omega, .inr ⟨rfl, fun w hw => ?_⟩⟩, ?_⟩
          · have := hyr w (by rwa [h4] at hw); omega
          · have : ∀ w ∈ r, (w.1 == x0) = false := fun w hw => by have := hyr w hw; rw [← Bool.not_eq_true]; simp; omega
            have e1 : putS (x0, x1, x2) r = r := by
              unfold putS
              rw [List.map_congr_left (g := id) fun w hw => by dsimp only; rw [this w hw]; rfl]
              simp
            simp only [putS, List.map_cons, he, beq_self_eq_true, cond_true, List.any_cons, Bool.true_or, Bool.or_true, List.append_assoc, List.singleton_append]
        · have hzr : z ∈ r := by
            rcases List.mem_cons.1 hz with e | e
            · subst e; exact absurd hzx he
            · exact e
          have hlt := hyr z hzr
          rw [show decide (y.1 ≥ x0) = false by simp; omega, cond_false, Option.bind_some]
          rw [show (y.1 != x0) = true by simpa using he, cond_true, r1 out _ (by omega), cond_true, Option.bind_some]
          refine ⟨(out ++ [y], false), rfl, ⟨by show (out ++ [_]).length ≤ i + 1; rw [List.length_append, List.length_singleton]; omega, .inl ⟨rfl, z, by rw [h4]; exact hzr, hzx⟩⟩, ?_⟩
          have hb : (y.1 == x0) = false := by simpa using he
          simp only [putS, List.map_cons, hb, cond_false, List.any_cons, Bool.false_or, List.append_assoc, List.singleton_append]
      · simp only [Bool.not_true, cond_false, Option.bind_some]
        have he : y.1 ≠ x0 := hs y List.mem_cons_self
        rw [show (y.1 != x0) = true by simpa using he, cond_true, r1 out _ (by omega), cond_true, Option.bind_some]
        refine ⟨(out ++ [y], true), rfl, ⟨by show (out ++ [_]).length ≤ i + 1; rw [List.length_append, List.length_singleton]; omega, .inr ⟨rfl, fun w hw => hs w (List.mem_cons_of_mem _ (by rwa [h4] at hw))⟩⟩, ?_⟩
        have hb : (y.1 == x0) = false := by simpa using he
        simp only [putS, List.map_cons, hb, cond_false, Bool.true_or, List.append_assoc, List.singleton_append])
    n (by unfold BIG at hn; omega) (([] : List SIII), false) ⟨by simp, .inl ⟨rfl, by simpa using hx⟩⟩
  unfold spec_l5With
  rw [h0]
  rw [show ((0 : Nat) : Int) = 0 from rfl] at hc
  rw [hc, Option.bind_some]
  have ha : l.any (fun z => z.1 == x0) = true := by
    obtain ⟨z, hz, hzx⟩ := hx
    exact List.any_eq_true.2 ⟨z, hz, by simpa using hzx⟩
  simp only [ha, Bool.or_true, Bool.not_true, cond_false, Option.bind_some, List.nil_append]
theorem putS_ok {l : List SIII} (h : StkP l) (x : SIII) (hx : 1 ≤ x.1 ∧ x.1 ≤ 50 ∧ 1 ≤ x.2.1 ∧ x.2.1 ≤ 1000 ∧ 0 ≤ x.2.2 ∧ x.2.2 ≤ x.2.1) : StkP (putS x l) := by
  obtain ⟨h1, h2, h3⟩ := h
  have key : ∀ y : SIII, (bif y.1 == x.1 then x else y).1 = y.1 := by
    intro y
    cases hq : (y.1 == x.1) with
    | true => have : y.1 = x.1 := by simpa using hq
              exact this.symm
    | false => rfl
  refine ⟨?_, fun z hz => ?_, by unfold putS; rw [List.length_map]; exact h3⟩
  · unfold putS
    rw [List.pairwise_map]
    exact h1.imp fun h => by rw [key, key]; exact h
  · unfold putS at hz
    obtain ⟨y, hy, rfl⟩ := List.mem_map.1 hz
    cases hq : (y.1 == x.1) with
    | true => exact hx
    | false => exact h2 y hy


theorem modPod_ok {a : List Pod} (h : StockP a) (k : Nat) (hk : k < a.length) (l : List SIII) (hl : StkP l) : StockP (a.modify k fun y => (y.1, y.2.1, l)) := by
  obtain ⟨h1, h2, h3⟩ := h
  refine ⟨by rw [List.length_modify]; exact h1, ?_, fun p hp => ?_⟩
  · rw [List.pairwise_iff_getElem] at h2 ⊢
    intro i j hi hj hij
    rw [List.length_modify] at hi hj
    have := h2 i j hi hj hij
    rw [List.getElem_modify, List.getElem_modify]
    split <;> split <;> exact this
  · obtain ⟨i, hi, rfl⟩ := List.getElem_of_mem hp
    rw [List.length_modify] at hi
    have := h3 _ (List.getElem_mem hi)
    rw [List.getElem_modify]
    split
    · exact ⟨this.1, this.2.1, hl⟩
    · exact this
theorem l5Put_ok (a : List Pod) (h : StockP a) (k : Nat) (hk : k < a.length) (x : SIII) (hx : 1 ≤ x.1 ∧ x.1 ≤ 50 ∧ 1 ≤ x.2.1 ∧ x.2.1 ≤ 1000 ∧ 0 ≤ x.2.2 ∧ x.2.2 ≤ x.2.1) (hz : ∃ z ∈ a[k].2.2, z.1 = x.1) (n : Nat) (hn : BIG ≤ n) :
    ∃ s, spec_l5Put n a (k : Int) x.1 x.2.1 x.2.2 = some s ∧ StockP s := by
  have hst := (h.2.2 _ (List.getElem_mem hk)).2.2
  unfold spec_l5Put
  rw [spec_l5Copy_ok a h.sm n hn, Option.bind_some, inb_lt hk, cond_true]
  have hg : a[(k : Int).toNat]? = some a[k] := by simp [hk]
  rw [hg, Option.bind_some, Option.bind_some, l5With_ok a[k].2.2 hst x hz (by rw [← Bool.not_eq_true]; simp; omega) n hn, Option.bind_some, cond_true]
  exact ⟨_, rfl, modPod_ok h k hk _ (putS_ok hst x hx)⟩


theorem l5Pod_ok (a : List Pod) (h : a.length ≤ 1048576) (c : Int) (n : Nat) (hn : BIG ≤ n) : spec_l5Pod n a c = some (-1) ∨ ∃ i, i < a.length ∧ spec_l5Pod n a c = some (i : Int) := by
  have := find_loop (spec_l5Pod_L1 a c) a (fun x => x.1 == c) (fun i x h1 h2 => by
    have hx : a[i] = x := by rw [List.getElem?_eq_getElem h1] at h2; exact Option.some.inj h2
    simp only [spec_l5Pod_L1, getI_lt h1, hx, Option.bind_some, w64_nat h1 (by omega)]
    rw [show decide ((i : Int) < (a.length : Int)) = true by simpa using h1]
    cases hq : (x.1 == c) <;> rfl) (by simp [spec_l5Pod_L1]) n (by unfold BIG at hn; omega)
  unfold spec_l5Pod
  rcases this with e | ⟨i, hi, _, e⟩
  · rw [e]; exact .inl rfl
  · rw [e]; exact .inr ⟨i, hi, rfl⟩


theorem l5Call_ok (a : List Pod) (h : StockP a) (pod k m : Int) (n : Nat) (hn : BIG ≤ n) :
    (∃ c, spec_l5Call n a pod k m = some (0, 0, 0, 0, c) ∧ (c != 0) = true) ∨ ∃ (i : Nat) (hi : i < a.length) (x : SIII), spec_l5Call n a pod k m = some ((i : Int), x.1, x.2.1, x.2.2, 0) ∧ 1 ≤ m ∧ m ≤ 1000 ∧ (x ∈ a[i].2.2 ∨ x.2.1 = 0 ∧ x.2.2 = 0) := by
  unfold spec_l5Call
  rw [spec_StockOk_ok a h.sm n hn, h.ok]
  simp only [Option.bind_some, in_ok, Bool.not_true, cond_false]
  cases h1 : inB k 1 50 with
  | false => left; exact ⟨1, rfl, rfl⟩
  | true =>
    cases h2 : inB m 1 1000 with
    | false => left; exact ⟨1, rfl, rfl⟩
    | true =>
      simp only [Bool.not_true, cond_false, Option.bind_some]
      have h2 : 1 ≤ m ∧ m ≤ 1000 := by simpa [inB] using h2
      rcases l5Pod_ok a h.sm.1 pod n hn with e | ⟨i, hi, e⟩
      · left; rw [e]; exact ⟨2, rfl, rfl⟩
      · right
        have hst := (h.2.2 _ (List.getElem_mem hi)).2.2
        refine ⟨i, hi, stackOf a[i].2.2 k, ?_, h2.1, h2.2, ?_⟩
        · rw [e, Option.bind_some, show decide ((i : Int) < 0) = false by simp, cond_false, getI_lt hi, Option.bind_some, l5Stack_val a[i] (by have := hst.2.2; omega) k n hn, Option.bind_some]
        · unfold stackOf
          cases hf : a[i].2.2.find? (fun x => x.1 == k) with
          | some x => exact .inl (List.mem_of_find?_eq_some hf)
          | none => exact .inr ⟨rfl, rfl⟩


theorem Hold_ok (a : List Pod) (h : StockP a) (pod k m : Int) (n : Nat) (hn : BIG ≤ n) : ∃ s c, spec_Hold n a pod k m = some (s, c) ∧ StockP s := by
  unfold spec_Hold
  rcases l5Call_ok a h pod k m n hn with ⟨c, e, hc⟩ | ⟨i, hi, x, e, m0, m1, hx⟩
  · rw [e, Option.bind_some, hc, cond_true, spec_l5Copy_ok a h.sm n hn]
    exact ⟨_, _, rfl, h⟩
  · rw [e, Option.bind_some]
    dsimp only
    rw [show ((0 : Int) != 0) = false from rfl, cond_false]
    have hst := (h.2.2 _ (List.getElem_mem hi)).2.2
    have hb : 0 ≤ x.2.1 ∧ x.2.1 ≤ 1000 ∧ 0 ≤ x.2.2 ∧ x.2.2 ≤ x.2.1 := by
      rcases hx with hx | ⟨q1, q2⟩
      · have := hst.2.1 x hx; omega
      · omega
    rw [w64_eq (n := x.2.1 - x.2.2) (by omega) (by omega)]
    by_cases hs : x.2.1 - x.2.2 < m
    · rw [show decide (x.2.1 - x.2.2 < m) = true by simpa using hs, cond_true, spec_l5Copy_ok a h.sm n hn]
      exact ⟨_, _, rfl, h⟩
    · rw [show decide (x.2.1 - x.2.2 < m) = false by simpa using hs, cond_false, w64_eq (n := x.2.2 + m) (by omega) (by omega)]
      rcases hx with hx | ⟨q1, q2⟩
      · obtain ⟨p1, p2, p3, p4, p5, p6⟩ := hst.2.1 x hx
        obtain ⟨s, e2, hs2⟩ := l5Put_ok a h i hi (x.1, x.2.1, x.2.2 + m) ⟨p1, p2, p3, p4, by show 0 ≤ x.2.2 + m; omega, by show x.2.2 + m ≤ x.2.1; omega⟩ ⟨x, hx, rfl⟩ n hn
        dsimp only at e2
        rw [e2]
        exact ⟨_, _, rfl, hs2⟩
      · omega

theorem Release_ok (a : List Pod) (h : StockP a) (pod k m : Int) (n : Nat) (hn : BIG ≤ n) : ∃ s c, spec_Release n a pod k m = some (s, c) ∧ StockP s := by
  unfold spec_Release
  rcases l5Call_ok a h pod k m n hn with ⟨c, e, hc⟩ | ⟨i, hi, x, e, m0, m1, hx⟩
  · rw [e, Option.bind_some, hc, cond_true, spec_l5Copy_ok a h.sm n hn]
    exact ⟨_, _, rfl, h⟩
  · rw [e, Option.bind_some]
    dsimp only
    rw [show ((0 : Int) != 0) = false from rfl, cond_false]
    have hst := (h.2.2 _ (List.getElem_mem hi)).2.2
    by_cases hs : x.2.2 < m
    · rw [show decide (x.2.2 < m) = true by simpa using hs, cond_true, spec_l5Copy_ok a h.sm n hn]
      exact ⟨_, _, rfl, h⟩
    · rw [show decide (x.2.2 < m) = false by simpa using hs, cond_false]
      rcases hx with hx | ⟨q1, q2⟩
      · obtain ⟨p1, p2, p3, p4, p5, p6⟩ := hst.2.1 x hx
        rw [w64_eq (n := x.2.2 - m) (by omega) (by omega)]
        obtain ⟨s, e2, hs2⟩ := l5Put_ok a h i hi (x.1, x.2.1, x.2.2 - m) ⟨p1, p2, p3, p4, by show 0 ≤ x.2.2 - m; omega, by show x.2.2 - m ≤ x.2.1; omega⟩ ⟨x, hx, rfl⟩ n hn
        dsimp only at e2
        rw [e2]
        exact ⟨_, _, rfl, hs2⟩
      · omega


theorem l6Each_ok (a : List Pod) (h : StockP a) (p : List SIII) (hp : p.length ≤ 1048576) (w : Int) (hw : w = 1 ∨ w = 2) (n : Nat) (hn : BIG ≤ n) : ∃ s b, spec_l6Each n a p w = some (s, b) ∧ StockP s := by
  obtain ⟨_, r, e, hr⟩ := iter_two (spec_l6Each_L1 n a p w) (spec_l6Each_L1 n a p w) (fun i (x : Int × (List Pod) × (List Pod)) => x.1 = (i : Int) ∧ StockP x.2.2)
    (fun r => match r with | .inl x => StockP x.2.2 | .inr x => StockP x.1) p.length (fun i x hi hI => by
    refine ⟨rfl, ?_⟩
    obtain ⟨k, z, s⟩ := x
    obtain ⟨hk, hs⟩ := hI
    dsimp only at hk hs
    subst hk
    unfold spec_l6Each_L1
    dsimp only
    by_cases hl : i < p.length
    · rw [show decide ((i : Int) < (p.length : Int)) = true by simpa using hl, cond_true, getI_lt hl, Option.bind_some, spec_l5Copy_ok a h.sm n hn, w64_nat hl (by omega)]
      have fin : ∀ (s' : List Pod) (c : Int), StockP s' → (∃ y, ((some (c, s')).bind fun (x4 : Int × (List Pod)) => bif (x4.1 != 0) then (some a).bind fun x8 => some (.inr (.inr (x8, false))) else some (.inl (((i + 1 : Nat) : Int), z, x4.2))) = (some (.inl y) : Option ((Int × (List Pod) × (List Pod)) ⊕ ((Int × (List Pod) × (List Pod)) ⊕ ((List Pod) × Bool)))) ∧ (y.1 = ((i + 1 : Nat) : Int) ∧ StockP y.2.2) ∧ i < p.length) ∨
          ∃ r, ((some (c, s')).bind fun (x4 : Int × (List Pod)) => bif (x4.1 != 0) then (some a).bind fun x8 => some (.inr (.inr (x8, false))) else some (.inl (((i + 1 : Nat) : Int), z, x4.2))) = (some (.inr r) : Option ((Int × (List Pod) × (List Pod)) ⊕ ((Int × (List Pod) × (List Pod)) ⊕ ((List Pod) × Bool)))) ∧ (match r with | .inl x => StockP x.2.2 | .inr x => StockP x.1) := by
        intro s' c hs'
        cases hc : (c != 0) with
        | true => right; exact ⟨.inr (a, false), by rw [Option.bind_some]; dsimp only; rw [hc]; rfl, h⟩
        | false => left; exact ⟨(((i + 1 : Nat) : Int), z, s'), by rw [Option.bind_some]; dsimp only; rw [hc]; rfl, ⟨rfl, hs'⟩, hl⟩
      rcases hw with rfl | rfl
      · obtain ⟨s', c, e, hs'⟩ := Hold_ok s hs p[i].1 p[i].2.1 p[i].2.2 n hn
        rw [show ((1 : Int) == 1) = true from rfl, cond_true, e, Option.bind_some]
        exact fin s' c hs'
      · obtain ⟨s', c, e, hs'⟩ := Release_ok s hs p[i].1 p[i].2.1 p[i].2.2 n hn
        rw [show ((2 : Int) == 1) = false from rfl, cond_false, show ((2 : Int) == 2) = true from rfl, cond_true, e, Option.bind_some]
        exact fin s' c hs'
    · right
      rw [show decide ((i : Int) < (p.length : Int)) = false by simpa using hl]
      exact ⟨.inl ((i : Int), z, s), rfl, hs⟩) n (by unfold BIG at hn; omega) ((0 : Int), ([] : List Pod), a) ⟨rfl, h⟩
  unfold spec_l6Each
  rw [spec_l5Copy_ok a h.sm n hn, Option.bind_some, e, Option.bind_some]
  cases r with
  | inl x => exact ⟨_, _, rfl, hr⟩
  | inr x => exact ⟨x.1, x.2, rfl, hr⟩

def ItemP (l : List SII) : Prop := l.Pairwise (fun a b => a.1 < b.1) ∧ (∀ x ∈ l, 1 ≤ x.1 ∧ x.1 ≤ 50 ∧ 1 ≤ x.2 ∧ x.2 ≤ 1000) ∧ l.length ≤ 6
theorem ItemP.ok {l : List SII} (h : ItemP l) (n : Nat) (hn : BIG ≤ n) : spec_ItemsOk n l = some true := by
  obtain ⟨h1, h2, h3⟩ := h
  have := all_loopF (spec_ItemsOk_L1 l) (fun i => (i : Int)) l.length (fun _ => true) (fun i hi => by
    have hp : (bif decide ((i : Int) > 0) then (getI l (w64 ((i : Int) - 1))).bind (fun y => some (decide (y.1 ≥ l[i].1))) else some false) = some (!prevL (·.1) l i l[i]) := prev_F (·.1) l l[i] i hi (by omega) some
    obtain ⟨a1, a2, a3, a4⟩ := h2 _ (List.getElem_mem hi)
    rw [prevL_of h1 (fun x y h => h) i hi] at hp
    simp only [spec_ItemsOk_L1, getI_lt hi, Option.bind_some, in_ok, w64_nat hi (by omega), hp]
    rw [show decide ((i : Int) < (l.length : Int)) = true by simpa using hi, show inB l[i].1 1 50 = true by simp [inB]; omega, show inB l[i].2 1 1000 = true by simp [inB]; omega]
    rfl) (by simp [spec_ItemsOk_L1]) n (by unfold BIG at hn; omega)
  unfold spec_ItemsOk
  rw [show ((0 : Nat) : Int) = 0 from rfl] at this
  rw [this, show (List.range l.length).all (fun _ => true) = true from List.all_eq_true.2 fun _ _ => rfl]
  rw [cond_true, Option.bind_some]
  dsimp only
  rw [show decide ((l.length : Int) ≤ 6) = true by simp; omega]


def tot (k : Int) : List SIII → Int
  | [] => 0
  | p :: r => (bif p.2.1 == k then p.2.2 else 0) + tot k r
theorem tot_app (k : Int) : ∀ (x y : List SIII), tot k (x ++ y) = tot k x + tot k y
  | [], y => by simp [tot]
  | p :: x, y => by simp only [List.cons_append, tot, tot_app k x y]; omega
theorem tot_pos (k : Int) : ∀ (x : List SIII), (∀ p ∈ x, 1 ≤ p.2.2) → 0 ≤ tot k x
  | [], _ => by simp [tot]
  | p :: x, h => by
    have h1 := tot_pos k x fun q hq => h q (List.mem_cons_of_mem _ hq)
    have h2 := h p List.mem_cons_self
    simp only [tot]
    cases (p.2.1 == k) <;> simp <;> omega
theorem tot_no (k : Int) : ∀ (x : List SIII), (∀ p ∈ x, p.2.1 ≠ k) → tot k x = 0
  | [], _ => rfl
  | p :: x, h => by
    have h1 := tot_no k x fun q hq => h q (List.mem_cons_of_mem _ hq)
    have h2 : (p.2.1 == k) = false := by simpa using h p List.mem_cons_self
    simp only [tot, h1, h2, cond_false]; rfl
def sumN : List SIII → Int
  | [] => 0
  | p :: r => p.2.2 + sumN r
def lesser (m f : Int) : Int := bif decide (m < f) then m else f
def couldL (pid : Int) (fr : Int → Int) : List SII → List SIII
  | [] => []
  | y :: r => bif decide (lesser y.2 (fr y.1) > 0) then (pid, y.1, lesser y.2 (fr y.1)) :: couldL pid fr r else couldL pid fr r
theorem couldL_len (pid : Int) (fr : Int → Int) : ∀ l, (couldL pid fr l).length ≤ l.length
  | [] => by simp [couldL]
  | y :: r => by
    have := couldL_len pid fr r
    simp only [couldL]
    cases decide (lesser y.2 (fr y.1) > 0) <;> simp <;> omega
theorem lesser_le (m f : Int) : lesser m f ≤ m ∧ lesser m f ≤ f := by
  unfold lesser
  by_cases h : m < f
  · rw [show decide (m < f) = true by simpa using h, cond_true]; omega
  · rw [show decide (m < f) = false by simpa using h, cond_false]; omega
theorem couldL_mem (pid : Int) (fr : Int → Int) : ∀ l, ∀ p ∈ couldL pid fr l, p.1 = pid ∧ 1 ≤ p.2.2 ∧ ∃ y ∈ l, y.1 = p.2.1 ∧ p.2.2 ≤ y.2
  | [], p, h => by cases h
  | y :: r, p, h => by
    simp only [couldL] at h
    have up := fun h => let ⟨a, b, z, hz, h1, h2⟩ := couldL_mem pid fr r p h; (⟨a, b, z, List.mem_cons_of_mem _ hz, h1, h2⟩ : p.1 = pid ∧ 1 ≤ p.2.2 ∧ ∃ w ∈ y :: r, w.1 = p.2.1 ∧ p.2.2 ≤ w.2)
    by_cases hg : lesser y.2 (fr y.1) > 0
    · rw [show decide (lesser y.2 (fr y.1) > 0) = true by simpa using hg, cond_true] at h
      rcases List.mem_cons.1 h with h | h
      · subst h; exact ⟨rfl, by show 1 ≤ lesser y.2 (fr y.1); omega, y, List.mem_cons_self, rfl, (lesser_le _ _).1⟩
      · exact up h
    · rw [show decide (lesser y.2 (fr y.1) > 0) = false by simpa using hg, cond_false] at h
      exact up h
theorem couldL_tot (pid : Int) (fr : Int → Int) : ∀ (l : List SII), l.Pairwise (fun a b => a.1 < b.1) → (∀ y ∈ l, 0 ≤ y.2) → ∀ y ∈ l, tot y.1 (couldL pid fr l) ≤ y.2
  | [], _, _, y, hy => by cases hy
  | z :: r, hp, h0, y, hy => by
    obtain ⟨h1, h2⟩ := List.pairwise_cons.1 hp
    have hz0 := h0 z List.mem_cons_self
    have hle := (lesser_le z.2 (fr z.1)).1
    simp only [couldL]
    rcases List.mem_cons.1 hy with e | hy
    · subst e
      have hn : tot y.1 (couldL pid fr r) = 0 := tot_no _ _ fun p hp' => by
        obtain ⟨_, _, w, hw, e, _⟩ := couldL_mem pid fr r p hp'
        have := h1 w hw; omega
      cases decide (lesser y.2 (fr y.1) > 0) with
      | true => simp only [cond_true, tot, beq_self_eq_true, hn]; omega
      | false => rw [cond_false, hn]; exact hz0
    · have ih := couldL_tot pid fr r h2 (fun w hw => h0 w (List.mem_cons_of_mem _ hw)) y hy
      have hne : (z.1 == y.1) = false := by have := h1 y hy; rw [← Bool.not_eq_true]; simp; omega
      cases decide (lesser z.2 (fr z.1) > 0) with
      | true => simp only [cond_true, tot, hne, cond_false]; omega
      | false => rw [cond_false]; exact ih


def freeOf (p : Pod) (k : Int) : Int := (stackOf p.2.2 k).2.1 - (stackOf p.2.2 k).2.2
theorem freeOf_le (p : Pod) (h : StkP p.2.2) (k : Int) : 0 ≤ freeOf p k ∧ freeOf p k ≤ 1000 := by
  unfold freeOf stackOf
  cases hf : p.2.2.find? (fun x => x.1 == k) with
  | none => simp
  | some x =>
    have := h.2.1 x (List.mem_of_find?_eq_some hf)
    show 0 ≤ x.2.1 - x.2.2 ∧ x.2.1 - x.2.2 ≤ 1000
    omega
def LeftP (l : List SII) : Prop := l.Pairwise (fun a b => a.1 < b.1) ∧ (∀ y ∈ l, 0 ≤ y.2 ∧ y.2 ≤ 1000) ∧ l.length ≤ 6

theorem l6Could_ok (p : Pod) (h : StkP p.2.2) (l : List SII) (hl : LeftP l) (n : Nat) (hn : BIG ≤ n) : spec_l6Could n p.1 p.2.1 p.2.2 l = some (couldL p.1 (freeOf p) l, sumN (couldL p.1 (freeOf p) l)) := by
  have h6 := hl.2.2
  have hc := iter_rec (σ := List SIII × Int) (spec_l6Could_L1 n p.1 p.2.1 p.2.2 l) (fun i s => (s.1, s.2, (i : Int))) l (fun r s => (s.1 ++ couldL p.1 (freeOf p) r, s.2 + sumN (couldL p.1 (freeOf p) r), (l.length : Int)))
    (fun i s => s.1.length ≤ i ∧ 0 ≤ s.2 ∧ s.2 ≤ 1000 * (i : Int) ∧ i ≤ 6)
    (fun s hs => by simp [spec_l6Could_L1, couldL, sumN])
    (fun i y r s h1 h2 h3 h4 h5 => by
      left
      have hy : l[i] = y := by rw [List.getElem?_eq_getElem h1] at h2; exact Option.some.inj h2
      obtain ⟨out, sum⟩ := s
      obtain ⟨q1, q2, q3, q4⟩ := h5
      dsimp only at q1 q2 q3
      have hy2 := hl.2.1 y (by rw [← hy]; exact List.getElem_mem h1)
      have hfr := freeOf_le p h y.1
      unfold spec_l6Could_L1
      dsimp only
      rw [show decide ((i : Int) < (l.length : Int)) = true by simpa using h1, cond_true, getI_lt h1, hy, w64_nat h1 (by omega)]
      simp only [Option.bind_some]
      rw [l5Stack_val p (by have := h.2.2; omega) y.1 n hn, Option.bind_some]
      have hw : w64 ((stackOf p.2.2 y.1).2.1 - (stackOf p.2.2 y.1).2.2) = freeOf p y.1 := by
        unfold freeOf at hfr ⊢
        rw [w64_eq (by omega) (by omega)]
      rw [hw]
      have hls : (bif decide (y.2 < freeOf p y.1) then some y.2 else some (freeOf p y.1)) = some (lesser y.2 (freeOf p y.1)) := cond_some _ _ _
      rw [hls, Option.bind_some]
      have hle := lesser_le y.2 (freeOf p y.1)
      by_cases hg : lesser y.2 (freeOf p y.1) > 0
      · rw [show decide (lesser y.2 (freeOf p y.1) > 0) = true by simpa using hg, cond_true, show decide (out.length + [(p.1, y.1, lesser y.2 (freeOf p y.1))].length ≤ maxRow) = true from row1 (by omega), cond_true, Option.bind_some]
        rw [w64_eq (n := sum + lesser y.2 (freeOf p y.1)) (by omega) (by omega)]
        refine ⟨(out ++ [(p.1, y.1, lesser y.2 (freeOf p y.1))], sum + lesser y.2 (freeOf p y.1)), rfl, ⟨by show (out ++ [_]).length ≤ i + 1; rw [List.length_append, List.length_singleton]; omega, by show 0 ≤ sum + lesser y.2 (freeOf p y.1); omega, by show sum + lesser y.2 (freeOf p y.1) ≤ 1000 * ((i + 1 : Nat) : Int); omega, by omega⟩, ?_⟩
        simp only [couldL]
        rw [show decide (lesser y.2 (freeOf p y.1) > 0) = true by simpa using hg, cond_true]
        simp only [sumN, List.append_assoc, List.singleton_append, Int.add_assoc]
      · rw [show decide (lesser y.2 (freeOf p y.1) > 0) = false by simpa using hg, cond_false, Option.bind_some]
        refine ⟨(out, sum), rfl, ⟨by show out.length ≤ i + 1; omega, q2, by show sum ≤ 1000 * ((i + 1 : Nat) : Int); omega, by omega⟩, ?_⟩
        simp only [couldL]
        rw [show decide (lesser y.2 (freeOf p y.1) > 0) = false by simpa using hg, cond_false])
    n (by unfold BIG at hn; omega) (([] : List SIII), (0 : Int)) ⟨by simp, by simp, by simp, by omega⟩
  unfold spec_l6Could
  rw [show ((0 : Nat) : Int) = 0 from rfl] at hc
  rw [hc, Option.bind_some]
  simp


def subP (p : SIII) (l : List SII) : List SII := l.map fun y => bif y.1 == p.2.1 then (y.1, w64 (y.2 - p.2.2)) else y
def mixL {β : Type} (f : β → β) (l : List β) (i : Nat) : List β := (l.take i).map f ++ l.drop i
theorem mixL_at {β : Type} (f : β → β) (l : List β) (m k : Nat) : (mixL f l m)[k]? = (l[k]?).map fun a => if k < m then f a else a := by
  unfold mixL
  by_cases hk : k < l.length
  · rw [List.getElem?_eq_getElem hk]
    by_cases h : k < m
    · rw [List.getElem?_append_left (by simp; omega), List.getElem?_map, List.getElem?_take, if_pos h, List.getElem?_eq_getElem hk]
      simp [h]
    · have hlen : ((l.take m).map f).length = m := by simp; omega
      rw [List.getElem?_append_right (by rw [hlen]; omega), hlen, List.getElem?_drop, show m + (k - m) = k by omega, List.getElem?_eq_getElem hk]
      simp [h]
  · rw [List.getElem?_eq_none (by simp; omega), List.getElem?_eq_none (by omega)]
    rfl
theorem mixL_len {β : Type} (f : β → β) (l : List β) (i : Nat) : (mixL f l i).length = l.length := by
  unfold mixL; simp; omega
theorem mixL_mod {β : Type} (f g : β → β) (l : List β) (i : Nat) (hi : i < l.length) (hg : g l[i] = f l[i]) : (mixL f l i).modify i g = mixL f l (i + 1) := by
  apply List.ext_getElem?
  intro j
  rw [List.getElem?_modify, mixL_at, mixL_at]
  by_cases hj : j < l.length
  · rw [List.getElem?_eq_getElem hj]
    by_cases h : i = j
    · subst h
      simp [hg]
    · simp only [Option.map_some, h, if_false, Option.some.injEq, Option.map_eq_map]
      by_cases h2 : j < i
      · rw [if_pos h2, if_pos (by omega)]
      · rw [if_neg h2, if_neg (by omega)]
  · rw [List.getElem?_eq_none (by omega)]; rfl
theorem mixL_same {β : Type} (f : β → β) (l : List β) (i : Nat) (hi : i < l.length) (hf : f l[i] = l[i]) : mixL f l i = mixL f l (i + 1) := by
  have := mixL_mod f id l i hi hf.symm
  rw [← this]
  apply List.ext_getElem?
  intro j
  rw [List.getElem?_modify]
  by_cases h : i = j
  · subst h; simp
  · simp [h]
theorem mixL_end {β : Type} (f : β → β) (l : List β) : mixL f l l.length = l.map f := by unfold mixL; simp


theorem picks_L5 (bt : List SIII) (sm : Int) (z : List SII) (k : Nat) (hk : k < bt.length) (l : List SII) (hl : l.length ≤ 6) (n : Nat) (hn : BIG ≤ n) :
    iter n (spec_Picks_L5 (bt, sm) ((k : Int), z)) (0, l) = some ((l.length : Int), subP bt[k] l) := by
  have := iter_steps (spec_Picks_L5 (bt, sm) ((k : Int), z)) (fun i => ((i : Int), mixL (fun y => bif y.1 == bt[k].2.1 then (y.1, w64 (y.2 - bt[k].2.2)) else y) l i)) l.length ((l.length : Int), subP bt[k] l) (fun i hi => by
    have hg := mixL_at (fun y => bif y.1 == bt[k].2.1 then (y.1, w64 (y.2 - bt[k].2.2)) else y) l i i
    rw [List.getElem?_eq_getElem hi] at hg
    simp only [Option.map_some, Nat.lt_irrefl, if_false] at hg
    have hlen := mixL_len (fun y => bif y.1 == bt[k].2.1 then (y.1, w64 (y.2 - bt[k].2.2)) else y) l i
    unfold spec_Picks_L5
    dsimp only
    rw [hlen, show decide ((i : Int) < (l.length : Int)) = true by simpa using hi, cond_true]
    have hin : inb (mixL (fun y => bif y.1 == bt[k].2.1 then (y.1, w64 (y.2 - bt[k].2.2)) else y) l i) (i : Int) = true := inb_lt (by rw [hlen]; exact hi)
    have hbt : bt[(k : Int).toNat]? = some bt[k] := by simp [hk]
    simp only [hin, inb_lt hk, cond_true, Int.toNat_natCast, hg, Option.bind_some, List.getElem?_eq_getElem hk]
    rw [w64_nat hi (by omega)]
    cases hq : (l[i].1 == bt[k].2.1) with
    | true =>
      rw [cond_true, Option.bind_some, mixL_mod _ _ l i hi (by rw [hq]; rfl)]
    | false =>
      rw [cond_false, Option.bind_some, ← mixL_same _ l i hi (by rw [hq]; rfl)]) (by
    unfold spec_Picks_L5
    dsimp only
    rw [mixL_len, mixL_end]
    simp [subP]) n (by unfold BIG at hn; omega)
  have h0 : mixL (fun y => bif y.1 == bt[k].2.1 then (y.1, w64 (y.2 - bt[k].2.2)) else y) l 0 = l := by unfold mixL; simp
  rw [h0] at this
  exact this


theorem subP_len (p : SIII) (l : List SII) : (subP p l).length = l.length := by unfold subP; simp
theorem subs_len : ∀ (bt : List SIII) (l : List SII), (bt.foldl (fun l p => subP p l) l).length = l.length
  | [], l => rfl
  | p :: bt, l => by rw [List.foldl_cons, subs_len bt, subP_len]
theorem picks_L4 (bt : List SIII) (hbt : bt.length ≤ 6) (sm : Int) (l : List SII) (hl : l.length ≤ 6) (n : Nat) (hn : BIG ≤ n) :
    iter n (spec_Picks_L4 n (bt, sm)) (0, l) = some ((bt.length : Int), bt.foldl (fun l p => subP p l) l) := by
  have := iter_rec (σ := List SII) (spec_Picks_L4 n (bt, sm)) (fun i s => ((i : Int), s)) bt (fun r s => ((bt.length : Int), r.foldl (fun l p => subP p l) s)) (fun i s => s.length ≤ 6)
    (fun s hs => by unfold spec_Picks_L4; simp) (fun i p r s h1 h2 h3 h4 h5 => by
      left
      have hp : bt[i] = p := by rw [List.getElem?_eq_getElem h1] at h2; exact Option.some.inj h2
      refine ⟨subP p s, ?_, by rw [subP_len]; exact h5, rfl⟩
      unfold spec_Picks_L4
      dsimp only
      rw [show decide ((i : Int) < (bt.length : Int)) = true by simpa using h1, cond_true, picks_L5 bt sm s i h1 s h5 n hn, Option.bind_some, w64_nat h1 (by omega), hp])
    n (by unfold BIG at hn; omega) l hl
  exact this


theorem subs_ok : ∀ (bt : List SIII) (l : List SII), (∀ p ∈ bt, 1 ≤ p.2.2) → (∀ y ∈ l, tot y.1 bt ≤ y.2 ∧ y.2 ≤ 1000) → bt.foldl (fun l p => subP p l) l = l.map fun y => (y.1, y.2 - tot y.1 bt)
  | [], l, _, _ => by simp [tot]
  | p :: bt, l, h1, h2 => by
    have hp := h1 p List.mem_cons_self
    have hr := fun q hq => h1 q (List.mem_cons_of_mem p hq)
    have e : subP p l = l.map fun y => (y.1, y.2 - bif p.2.1 == y.1 then p.2.2 else 0) := by
      unfold subP
      refine List.map_congr_left fun y hy => ?_
      obtain ⟨q1, q2⟩ := h2 y hy
      have hpos := tot_pos y.1 bt hr
      simp only [tot] at q1
      have hc : (y.1 == p.2.1) = (p.2.1 == y.1) := by rw [Bool.eq_iff_iff]; simp; exact eq_comm
      rw [hc]
      cases hq : (p.2.1 == y.1) with
      | true =>
        rw [hq] at q1
        simp only [cond_true] at q1 ⊢
        rw [w64_eq (by omega) (by omega)]
      | false => simp
    rw [List.foldl_cons, e, subs_ok bt _ hr, List.map_map]
    · refine List.map_congr_left fun y hy => ?_
      simp only [Function.comp_apply, tot]
      rw [Int.sub_sub]
    · intro y hy
      obtain ⟨z, hz, rfl⟩ := List.mem_map.1 hy
      obtain ⟨q1, q2⟩ := h2 z hz
      simp only [tot] at q1
      have : 0 ≤ (bif p.2.1 == z.1 then p.2.2 else 0 : Int) := by cases (p.2.1 == z.1) <;> simp; omega
      exact ⟨by show tot z.1 bt ≤ z.2 - _; omega, by show z.2 - _ ≤ 1000; omega⟩


def sumL : List SII → Int
  | [] => 0
  | y :: r => y.2 + sumL r
theorem sumL_zero : ∀ (l : List SII), (∀ y ∈ l, 0 ≤ y.2) → 0 ≤ sumL l ∧ (sumL l = 0 → ∀ y ∈ l, y.2 = 0)
  | [], _ => ⟨by simp [sumL], fun _ y hy => by cases hy⟩
  | z :: r, h => by
    obtain ⟨h1, h2⟩ := sumL_zero r fun y hy => h y (List.mem_cons_of_mem _ hy)
    have hz := h z List.mem_cons_self
    refine ⟨by simp only [sumL]; omega, fun e y hy => ?_⟩
    simp only [sumL] at e
    rcases List.mem_cons.1 hy with e2 | hy
    · subst e2; omega
    · exact h2 (by omega) y hy
theorem picks_L2 (x : (List SIII) × Bool × (List SIII) × (List SIII) × (List SII) × (List Bool)) (hl : LeftP x.2.2.2.2.1) (n : Nat) (hn : BIG ≤ n) : iter n (spec_Picks_L2 x) (0, 0) = some (sumL x.2.2.2.2.1, (x.2.2.2.2.1.length : Int)) := by
  obtain ⟨x1, x2, x3, x4, l, x6⟩ := x
  dsimp only at hl ⊢
  have h6 := hl.2.2
  have := iter_rec (σ := Int) (spec_Picks_L2 (x1, x2, x3, x4, l, x6)) (fun i s => (s, (i : Int))) l (fun r s => (s + sumL r, (l.length : Int))) (fun i s => 0 ≤ s ∧ s ≤ 1000 * (i : Int) ∧ i ≤ 6)
    (fun s hs => by unfold spec_Picks_L2; simp [sumL]) (fun i y r s h1 h2 h3 h4 h5 => by
      left
      have hy : l[i] = y := by rw [List.getElem?_eq_getElem h1] at h2; exact Option.some.inj h2
      have hy2 := hl.2.1 y (by rw [← hy]; exact List.getElem_mem h1)
      refine ⟨s + y.2, ?_, ⟨by omega, by omega, by omega⟩, by simp only [sumL, Int.add_assoc]⟩
      unfold spec_Picks_L2
      dsimp only
      rw [show decide ((i : Int) < (l.length : Int)) = true by simpa using h1, cond_true, inb_lt h1, cond_true, Int.toNat_natCast, h2, Option.bind_some, w64_nat h1 (by omega), w64_eq (n := s + y.2) (by omega) (by omega)])
    n (by unfold BIG at hn; omega) 0 ⟨by omega, by omega, by omega⟩
  rw [show ((0 : Nat) : Int) = 0 from rfl] at this
  rw [this]
  simp


theorem picks_L3 (a : List Pod) (ha : StockP a) (x : (List SIII) × Bool × (List SIII) × (List SIII) × (List SII) × (List Bool)) (hl : LeftP x.2.2.2.2.1) (hu : x.2.2.2.2.2.length = a.length) (n : Nat) (hn : BIG ≤ n) :
    ∃ r : SIII, iter n (spec_Picks_L3 n a x) ((-1), 0, 0) = some r ∧ (r.1 = -1 ∨ ∃ j : Nat, j < a.length ∧ r.1 = (j : Int) ∧ x.2.2.2.2.2[j]? = some false) := by
  obtain ⟨x1, x2, x3, x4, l, u⟩ := x
  dsimp only at hl hu ⊢
  have h12 := ha.1
  obtain ⟨_, r, e, hr⟩ := iter_two (spec_Picks_L3 n a (x1, x2, x3, x4, l, u)) (spec_Picks_L3 n a (x1, x2, x3, x4, l, u)) (fun i (y : SIII) => y.2.2 = (i : Int) ∧ (y.1 = -1 ∨ ∃ j : Nat, j < a.length ∧ y.1 = (j : Int) ∧ u[j]? = some false))
    (fun r => r.1 = -1 ∨ ∃ j : Nat, j < a.length ∧ r.1 = (j : Int) ∧ u[j]? = some false) a.length (fun i y hi hI => by
    refine ⟨rfl, ?_⟩
    obtain ⟨b, m, k⟩ := y
    obtain ⟨hk, hb⟩ := hI
    dsimp only at hk hb
    subst hk
    unfold spec_Picks_L3
    dsimp only
    by_cases hlt : i < a.length
    · left
      have hst := (ha.2.2 _ (List.getElem_mem hlt)).2.2
      rw [show decide ((i : Int) < (a.length : Int)) = true by simpa using hlt, cond_true, getI_lt hlt, Option.bind_some, l6Could_ok a[i] hst l hl n hn, Option.bind_some, inb_lt (by omega), cond_true, Int.toNat_natCast, List.getElem?_eq_getElem (by omega : i < u.length), Option.bind_some, w64_nat hlt (by omega)]
      cases hui : u[i]'(by omega) with
      | true =>
        simp only [Bool.not_true, cond_false, Option.bind_some]
        exact ⟨_, rfl, ⟨rfl, hb⟩, hlt⟩
      | false =>
        simp only [Bool.not_false, cond_true, Option.bind_some]
        cases decide (sumN (couldL a[i].1 (freeOf a[i]) l) > m) with
        | true => exact ⟨_, rfl, ⟨rfl, .inr ⟨i, hlt, rfl, by rw [List.getElem?_eq_getElem (by omega : i < u.length), hui]⟩⟩, hlt⟩
        | false => exact ⟨_, rfl, ⟨rfl, hb⟩, hlt⟩
    · right
      rw [show decide ((i : Int) < (a.length : Int)) = false by simpa using hlt]
      exact ⟨_, rfl, hb⟩) n (by unfold BIG at hn; omega) ((-1), 0, 0) ⟨rfl, .inl rfl⟩
  exact ⟨r, e, hr⟩


def PG (o : List SIII) (want : List SII) : Prop := (∀ p ∈ o, 1 ≤ p.2.2 ∧ ∃ y ∈ want, y.1 = p.2.1) ∧ ∀ y ∈ want, tot y.1 o = y.2
def fcount : List Bool → Nat
  | [] => 0
  | b :: r => (bif b then 0 else 1) + fcount r
theorem fcount_upd : ∀ (u : List Bool) (j : Nat), u[j]? = some false → fcount (upd u j true) + 1 = fcount u ∧ (upd u j true).length = u.length
  | [], j, h => by simp at h
  | b :: r, 0, h => by
    simp at h; subst h
    simp [upd, fcount]; omega
  | b :: r, j + 1, h => by
    obtain ⟨h1, h2⟩ := fcount_upd r j (by simpa using h)
    simp only [upd, fcount, List.length_cons, h2, and_true]
    omega
theorem fcount_rep : ∀ n, fcount (List.replicate n false) = n
  | 0 => rfl
  | n + 1 => by rw [List.replicate_succ]; simp only [fcount, fcount_rep n, cond_false]; omega
def leftOf (want : List SII) (o : List SIII) : List SII := want.map fun y => (y.1, y.2 - tot y.1 o)
theorem leftOf_P {want : List SII} (h : ItemP want) {o : List SIII} (h1 : ∀ p ∈ o, 1 ≤ p.2.2) (h2 : ∀ y ∈ want, tot y.1 o ≤ y.2) : LeftP (leftOf want o) := by
  refine ⟨?_, fun y hy => ?_, by unfold leftOf; rw [List.length_map]; exact h.2.2⟩
  · unfold leftOf; rw [List.pairwise_map]; exact h.1
  · unfold leftOf at hy
    obtain ⟨z, hz, rfl⟩ := List.mem_map.1 hy
    have q1 := h2 z hz
    have q2 := tot_pos z.1 o h1
    have q3 := h.2.1 z hz
    exact ⟨by show 0 ≤ z.2 - _; omega, by show z.2 - _ ≤ 1000; omega⟩
theorem Picks_ok (a : List Pod) (ha : StockP a) (want : List SII) (hw : ItemP want) (n : Nat) (hn : BIG ≤ n) : ∃ o b, spec_Picks n a want = some (o, b) ∧ o.length ≤ 72 ∧ (b = true → PG o want) := by
  have h12 := ha.1
  have h6 := hw.2.2
  obtain ⟨_, r, e, hr⟩ := iter_two (spec_Picks_L1 n a) (spec_Picks_L1 n a) (fun i (x : (List SIII) × Bool × (List SIII) × (List SIII) × (List SII) × (List Bool)) => x.2.2.2.2.1 = leftOf want x.2.2.1 ∧ x.2.2.2.1 = [] ∧ (∀ y ∈ want, tot y.1 x.2.2.1 ≤ y.2) ∧ (∀ p ∈ x.2.2.1, 1 ≤ p.2.2 ∧ ∃ y ∈ want, y.1 = p.2.1) ∧ x.2.2.1.length ≤ 6 * i ∧ x.2.2.2.2.2.length = a.length ∧ fcount x.2.2.2.2.2 + i = a.length)
    (fun r => match r with | .inl _ => False | .inr x => x.1.length ≤ 72 ∧ (x.2 = true → PG x.1 want)) a.length (fun i x hi hI => by
    refine ⟨rfl, ?_⟩
    obtain ⟨x1, x2, o, nn, l, u⟩ := x
    obtain ⟨g1, g2, g3, g4, g5, g6, g7⟩ := hI
    dsimp only at g1 g2 g3 g4 g5 g6 g7
    subst g1; subst g2
    have hL := leftOf_P hw (fun p hp => (g4 p hp).1) g3
    unfold spec_Picks_L1
    rw [picks_L2 (x1, x2, o, [], leftOf want o, u) hL n hn, Option.bind_some]
    dsimp only
    cases hz : (sumL (leftOf want o) == 0) with
    | true =>
      right
      refine ⟨.inr (o, true), rfl, by show o.length ≤ 72; omega, fun _ => ⟨g4, fun y hy => ?_⟩⟩
      have h0 := (sumL_zero (leftOf want o) fun y hy => (hL.2.1 y hy).1).2 (by simpa using hz) (y.1, y.2 - tot y.1 o) (by unfold leftOf; exact List.mem_map.2 ⟨y, hy, rfl⟩)
      dsimp only at h0
      show tot y.1 o = y.2
      omega
    | false =>
      obtain ⟨r3, e3, h3⟩ := picks_L3 a ha (x1, x2, o, [], leftOf want o, u) hL g6 n hn
      rw [cond_false, e3, Option.bind_some]
      rcases h3 with h3 | ⟨j, hj, h3, hu⟩
      · rw [h3]
        right
        exact ⟨.inr ([], false), rfl, by simp, fun h => by cases h⟩
      · rw [h3]
        left
        dsimp only at hu
        have hju : j < u.length := by omega
        obtain ⟨f1, f2⟩ := fcount_upd u j hu
        have hst := (ha.2.2 _ (List.getElem_mem hj)).2.2
        have hcl := couldL_len a[j].1 (freeOf a[j]) (leftOf want o)
        have hll : (leftOf want o).length ≤ 6 := hL.2.2
        have hcm := couldL_mem a[j].1 (freeOf a[j]) (leftOf want o)
        have hct := couldL_tot a[j].1 (freeOf a[j]) (leftOf want o) hL.1 (fun y hy => (hL.2.1 y hy).1)
        have hi12 : i ≤ 12 := by omega
        rw [show decide ((j : Int) < 0) = false by simp, cond_false, inb_lt hju, cond_true, getI_lt hj, Option.bind_some, l6Could_ok a[j] hst (leftOf want o) hL n hn, Option.bind_some]
        dsimp only
        rw [show decide (o.length + (couldL a[j].1 (freeOf a[j]) (leftOf want o)).length ≤ maxRow) = true from row0 (by omega), cond_true, picks_L4 _ (by omega) _ _ hll n hn, Option.bind_some]
        dsimp only
        have hsub := subs_ok (couldL a[j].1 (freeOf a[j]) (leftOf want o)) (leftOf want o) (fun p hp => (hcm p hp).2.1) (fun y hy => ⟨hct y hy, (hL.2.1 y hy).2⟩)
        have htot : ∀ y ∈ want, tot y.1 (o ++ couldL a[j].1 (freeOf a[j]) (leftOf want o)) ≤ y.2 := fun y hy => by
          have := hct (y.1, y.2 - tot y.1 o) (by unfold leftOf; exact List.mem_map.2 ⟨y, hy, rfl⟩)
          dsimp only at this
          rw [tot_app]; omega
        refine ⟨_, rfl, ⟨?_, rfl, htot, fun p hp => ?_, ?_, by show (upd u _ true).length = _; rw [Int.toNat_natCast, f2]; exact g6, by show fcount (upd u _ true) + (i + 1) = _; rw [Int.toNat_natCast]; omega⟩, by omega⟩
        · show (couldL a[j].1 (freeOf a[j]) (leftOf want o)).foldl (fun l p => subP p l) (leftOf want o) = leftOf want (o ++ couldL a[j].1 (freeOf a[j]) (leftOf want o))
          rw [hsub]
          unfold leftOf
          rw [List.map_map]
          refine List.map_congr_left fun y hy => ?_
          simp only [Function.comp_apply, tot_app, Int.sub_sub]
        · rcases List.mem_append.1 hp with hp | hp
          · exact g4 p hp
          · obtain ⟨_, q1, y, hy, q2, _⟩ := hcm p hp
            unfold leftOf at hy
            obtain ⟨z, hz', rfl⟩ := List.mem_map.1 hy
            exact ⟨q1, z, hz', q2⟩
        · show (o ++ _).length ≤ 6 * (i + 1)
          rw [List.length_append]; omega) n (by unfold BIG at hn; omega)
    (([] : List SIII), false, ([] : List SIII), ([] : List SIII), (([] : List SII) ++ want), List.replicate (Int.toNat (a.length : Int)) (false : Bool))
    ⟨by show [] ++ want = leftOf want []; unfold leftOf; simp [tot], rfl, (fun y hy => by show tot y.1 [] ≤ y.2; have := hw.2.1 y hy; simp only [tot]; omega), fun p hp => (by cases hp), (by simp), (by show (List.replicate _ _).length = _; simp), by show fcount (List.replicate _ _) + 0 = _; rw [fcount_rep]; simp⟩
  unfold spec_Picks
  rw [spec_StockOk_ok a ha.sm n hn, ha.ok, hw.ok n hn]
  simp only [Option.bind_some, Bool.not_true, cond_false]
  rw [show decide (([] : List SII).length + want.length ≤ maxRow) = true from row0 (by simp; omega), cond_true]
  rw [show (decide (0 ≤ (a.length : Int)) && decide ((a.length : Int) ≤ (maxRow : Int)) && decide True) = true by rw [show decide ((a.length : Int) ≤ (maxRow : Int)) = true by rw [decide_eq_true_eq]; unfold maxRow; omega]; simp, cond_true, e, Option.bind_some]
  cases r with
  | inl x => exact hr.elim
  | inr x => exact ⟨x.1, x.2, rfl, hr⟩


theorem l6Items_ok (n : Nat) (hn : BIG ≤ n) (b : List Int) (hb : b.length ≤ 1048576) (ci ch : Int) (hci : 0 ≤ ci) : ∃ (l : List SII) (ci' ch' : Int), spec_l6Items n b ci ch = some (l, b, ci', ch') ∧ 0 ≤ ci' ∧ ItemP l := by
  obtain ⟨_, r, e, hr⟩ := iter_two spec_l6Items_L1 spec_l6Items_L1 (fun i (x : (List SII) × Int × (List Int) × Int × Int) => x.2.1 = (i : Int) + 1 ∧ i ≤ 5 ∧ x.2.2.1 = b ∧ 0 ≤ x.2.2.2.1 ∧ x.1.Pairwise (fun a b => a.1 < b.1) ∧ (∀ y ∈ x.1, 1 ≤ y.1 ∧ y.1 ≤ (i : Int) ∧ 1 ≤ y.2 ∧ y.2 ≤ 1000) ∧ x.1.length ≤ i)
    (fun r => r.2.2.1 = b ∧ 0 ≤ r.2.2.2.1 ∧ ItemP r.1) 5 (fun i x hi hI => by
    refine ⟨rfl, ?_⟩
    obtain ⟨l, s, b0, ci, ch⟩ := x
    obtain ⟨h1, h2, h3, h4, h5, h6, h7⟩ := hI
    dsimp only at h1 h3 h4 h5 h6 h7
    subst h1; subst h3
    by_cases hlt : i < 5
    · left
      obtain ⟨v, i1, g1, e1, j1⟩ := l1Once_ok b0 ci ch h4 hb 4
      unfold spec_l6Items_L1
      dsimp only
      rw [show decide ((i : Int) + 1 < 6) = true by simp; omega, cond_true, e1, Option.bind_some]
      dsimp only
      rw [w64_eq (n := (i : Int) + 1 + 1) (by omega) (by omega)]
      have more : ∀ y ∈ l, 1 ≤ y.1 ∧ y.1 ≤ ((i + 1 : Nat) : Int) ∧ 1 ≤ y.2 ∧ y.2 ≤ 1000 := fun y hy => by
        obtain ⟨q1, q2, q3⟩ := h6 y hy
        exact ⟨q1, by omega, q3⟩
      cases v with
      | false =>
        rw [cond_false, Option.bind_some]
        exact ⟨_, rfl, ⟨by show (i : Int) + 1 + 1 = ((i + 1 : Nat) : Int) + 1; omega, by omega, rfl, j1, h5, more, by show l.length ≤ i + 1; omega⟩, hlt⟩
      | true =>
        obtain ⟨u, i2, g2, e2, j2, m2⟩ := l1Int_ok b0 i1 g1 j1 hb [1, 1, 1, 2, 3, 9] (by simp)
        have hu : 1 ≤ u ∧ u ≤ 9 := by
          simp at m2
          omega
        rw [cond_true, e2, Option.bind_some]
        dsimp only
        rw [show decide (l.length + [((i : Int) + 1, u)].length ≤ maxRow) = true from row1 (by omega), cond_true, Option.bind_some]
        refine ⟨_, rfl, ⟨by show (i : Int) + 1 + 1 = ((i + 1 : Nat) : Int) + 1; omega, by omega, rfl, j2, ?_, ?_, ?_⟩, hlt⟩
        · refine List.pairwise_append.2 ⟨h5, List.pairwise_singleton _ _, fun x hx y hy => ?_⟩
          rw [List.mem_singleton.1 hy]
          have := h6 x hx
          show x.1 < (i : Int) + 1
          omega
        · intro y hy
          rcases List.mem_append.1 hy with hy | hy
          · exact more y hy
          · rw [List.mem_singleton.1 hy]
            refine ⟨by show 1 ≤ (i : Int) + 1; omega, by show (i : Int) + 1 ≤ ((i + 1 : Nat) : Int); omega, by show 1 ≤ u; omega, by show u ≤ 1000; omega⟩
        · show (l ++ [_]).length ≤ i + 1
          rw [List.length_append, List.length_singleton]; omega
    · right
      have : i = 5 := by omega
      subst this
      refine ⟨_, by unfold spec_l6Items_L1; rfl, rfl, h4, h5, fun y hy => ?_, by show l.length ≤ 6; omega⟩
      obtain ⟨q1, q2, q3⟩ := h6 y hy
      exact ⟨q1, by omega, q3⟩) n (by unfold BIG at hn; omega) (([] : List SII), 1, b, ci, ch) ⟨rfl, by omega, rfl, hci, List.Pairwise.nil, (fun y hy => by cases hy), by simp⟩
  obtain ⟨l, c, b0, ci', ch'⟩ := r
  obtain ⟨h1, h2, h3⟩ := hr
  dsimp only at h1 h2 h3
  subst h1
  unfold spec_l6Items
  rw [e]
  exact ⟨l, ci', ch', rfl, h2, h3⟩

abbrev Ord := Int × Int × (List SII) × (List SIII) × Int
/-- An order, a book, that are right. -/
def OrdP (nx : Int) (o : Ord) : Prop := (1 ≤ o.1 ∧ o.1 ≤ nx - 1) ∧ (0 ≤ o.2.1 ∧ o.2.1 ≤ 99) ∧ (ItemP o.2.2.1 ∧ 0 < o.2.2.1.length) ∧ (PG o.2.2.2.1 o.2.2.1 ∧ o.2.2.2.1.length ≤ 72) ∧ (1 ≤ o.2.2.2.2 ∧ o.2.2.2.2 ≤ 3)
structure BookP (k : Nat) (nx : Int) (l : List Ord) : Prop where
  len : l.length ≤ k
  lt : l.Pairwise (fun a b => a.1 < b.1)
  each : ∀ o ∈ l, OrdP nx o
  nx : 1 ≤ nx ∧ nx ≤ (k : Int) + 3
  kk : k ≤ 1000
theorem OrdP.sm {nx : Int} {o : Ord} (h : OrdP nx o) : sm_Order o := ⟨by show o.2.2.1.length ≤ _; have := h.2.2.1.1.2.2; omega, by show o.2.2.2.1.length ≤ _; have := h.2.2.2.1.2; omega⟩
theorem BookP.sm {k : Nat} {nx : Int} {l : List Ord} (h : BookP k nx l) : sm_Book (nx, l) := ⟨by show l.length ≤ _; have := h.len; have := h.kk; omega, fun o ho => (h.each o ho).sm⟩
theorem BookP.more {k : Nat} {nx : Int} {l : List Ord} (h : BookP k nx l) (m : Nat) (hm : k ≤ m) (hk : m ≤ 1000) : BookP m nx l :=
  { h with len := Nat.le_trans h.len hm, nx := ⟨h.nx.1, by have := h.nx.2; omega⟩, kk := hk }
theorem BookP.turn {k : Nat} {nx : Int} {l : List Ord} (h : BookP k nx l) (i : Nat) (st : Int) (hs : 1 ≤ st ∧ st ≤ 3) : BookP k nx (l.modify i fun y => (y.1, y.2.1, y.2.2.1, y.2.2.2.1, st)) := by
  refine { len := by rw [List.length_modify]; exact h.len, lt := ?_, each := fun o ho => ?_, nx := h.nx, kk := h.kk }
  · have h2 := h.lt
    rw [List.pairwise_iff_getElem] at h2 ⊢
    intro a b ha hb hab
    rw [List.length_modify] at ha hb
    have := h2 a b ha hb hab
    rw [List.getElem_modify, List.getElem_modify]
    split <;> split <;> exact this
  · obtain ⟨j, hj, rfl⟩ := List.getElem_of_mem ho
    rw [List.length_modify] at hj
    have := h.each _ (List.getElem_mem hj)
    rw [List.getElem_modify]
    split
    · exact ⟨this.1, this.2.1, this.2.2.1, this.2.2.2.1, hs⟩
    · exact this


theorem spec_l11Copy_ok (nx : Int) (l : List Ord) (h : sm_Book (nx, l)) (n : Nat) (hn : BIG ≤ n) : spec_l11Copy n nx l = some (nx, l) := by
  have hl : l.length ≤ 1048576 := h.1
  have hc := iter_rec (σ := List Ord) (spec_l11Copy_L1 l) (fun i s => ((i : Int), nx, s)) l (fun r s => ((l.length : Int), nx, s ++ r)) (fun i s => s.length ≤ i)
    (fun s hs => by simp [spec_l11Copy_L1]) (fun i y r s h1 h2 h3 h4 h5 => by
      left
      have hy : l[i] = y := by rw [List.getElem?_eq_getElem h1] at h2; exact Option.some.inj h2
      refine ⟨s ++ [y], ?_, by rw [List.length_append, List.length_singleton]; omega, by simp⟩
      unfold spec_l11Copy_L1
      dsimp only
      rw [show decide ((i : Int) < (l.length : Int)) = true by simpa using h1, cond_true, getI_lt h1, hy, Option.bind_some, spec_l11CopyOrder_ok y (h.2 y (by rw [← hy]; exact List.getElem_mem h1)), Option.bind_some, w64_nat h1 (by omega)]
      rw [show decide (s.length + [(y.1, y.2.1, y.2.2.1, y.2.2.2.1, y.2.2.2.2)].length ≤ maxRow) = true from row1 (by omega), cond_true])
    n (by unfold BIG at hn; omega) [] (by simp)
  unfold spec_l11Copy
  rw [show ((0 : Nat) : Int) = 0 from rfl] at hc
  rw [hc]
  simp


theorem spec_l11Sum_ok (p : List SIII) (hp : p.length ≤ 1048576) (k : Int) (n : Nat) (hn : BIG ≤ n) : ∃ r, spec_l11Sum n p k = some r := by
  obtain ⟨_, r, e, _⟩ := iter_two (spec_l11Sum_L1 p k) (spec_l11Sum_L1 p k) (fun i (x : SII) => x.2 = (i : Int)) (fun _ => True) p.length (fun i x hi hI => by
    refine ⟨rfl, ?_⟩
    obtain ⟨s, j⟩ := x
    dsimp only at hI
    subst hI
    unfold spec_l11Sum_L1
    dsimp only
    by_cases hl : i < p.length
    · left
      rw [show decide ((i : Int) < (p.length : Int)) = true by simpa using hl, cond_true, getI_lt hl, Option.bind_some, w64_nat hl (by omega)]
      cases (p[i].2.1 == k) with
      | true => exact ⟨_, rfl, rfl, hl⟩
      | false => exact ⟨_, rfl, rfl, hl⟩
    · right
      rw [show decide ((i : Int) < (p.length : Int)) = false by simpa using hl]
      exact ⟨_, rfl, trivial⟩) n (by unfold BIG at hn; omega) (0, 0) rfl
  unfold spec_l11Sum
  rw [e]
  exact ⟨_, rfl⟩
theorem spec_l11Order_total (o : Ord) (h : sm_Order o) (n : Nat) (hn : BIG ≤ n) : ∃ b, spec_l11Order n o.1 o.2.1 o.2.2.1 o.2.2.2.1 o.2.2.2.2 = some b := by
  obtain ⟨id, desk, it, pk, st⟩ := o
  obtain ⟨h1, h2⟩ := h
  have h1 : it.length ≤ 1048576 := h1
  have h2 : pk.length ≤ 1048576 := h2
  dsimp only
  unfold spec_l11Order
  obtain ⟨bi, ei⟩ := itemsOk_some n hn it h1
  simp only [in_ok, ei, Option.bind_some]
  have first : ∃ b, (bif !inB desk 0 99 then some true else bif !bi then some true else bif ((it.length : Int) == 0) then some true else bif !inB st 1 3 then some true else some (decide ((pk.length : Int) > 72))) = some b := by
    cases inB desk 0 99 <;> cases bi <;> cases ((it.length : Int) == 0) <;> cases inB st 1 3 <;> exact ⟨_, rfl⟩
  obtain ⟨b, eb⟩ := first
  rw [eb, Option.bind_some]
  cases b with
  | true => exact ⟨_, rfl⟩
  | false =>
    rw [cond_false]
    obtain ⟨_, r1, e1, _⟩ := iter_two (spec_l11Order_L1 it) (spec_l11Order_L1 it) (fun i (x : SII) => x.2 = (i : Int)) (fun _ => True) it.length (fun i x hi hI => by
      refine ⟨rfl, ?_⟩
      obtain ⟨s, j⟩ := x
      dsimp only at hI
      subst hI
      unfold spec_l11Order_L1
      dsimp only
      by_cases hl : i < it.length
      · left
        rw [show decide ((i : Int) < (it.length : Int)) = true by simpa using hl, cond_true, getI_lt hl, Option.bind_some, w64_nat hl (by omega)]
        exact ⟨_, rfl, rfl, hl⟩
      · right
        rw [show decide ((i : Int) < (it.length : Int)) = false by simpa using hl]
        exact ⟨_, rfl, trivial⟩) n (by unfold BIG at hn; omega) (0, 0) rfl
    rw [e1, Option.bind_some]
    obtain ⟨_, r2, e2, _⟩ := iter_two (spec_l11Order_L2 pk) (spec_l11Order_L2 pk) (fun i (x : SII) => x.2 = (i : Int)) (fun _ => True) pk.length (fun i x hi hI => by
      refine ⟨rfl, ?_⟩
      obtain ⟨s, j⟩ := x
      dsimp only at hI
      subst hI
      unfold spec_l11Order_L2
      dsimp only
      by_cases hl : i < pk.length
      · rw [show decide ((i : Int) < (pk.length : Int)) = true by simpa using hl, cond_true, getI_lt hl, Option.bind_some, w64_nat hl (by omega)]
        simp only [in_ok, Option.bind_some]
        cases inB pk[i].2.2 1 1000 <;> cases inB pk[i].1 1 999 <;> first | exact .inr ⟨_, rfl, trivial⟩ | exact .inl ⟨_, rfl, rfl, hl⟩
      · right
        rw [show decide ((i : Int) < (pk.length : Int)) = false by simpa using hl]
        exact ⟨_, rfl, trivial⟩) n (by unfold BIG at hn; omega) (r1.1, 0) rfl
    rw [e2, Option.bind_some]
    cases r2 with
    | inr b => exact ⟨_, rfl⟩
    | inl x =>
      obtain ⟨r3, e3⟩ := iter_total (spec_l11Order_L3 n it pk) it.length (fun i hi => by
        obtain ⟨s, es⟩ := spec_l11Sum_ok pk h2 it[i].1 n hn
        unfold spec_l11Order_L3
        rw [show decide ((i : Int) < (it.length : Int)) = true by simpa using hi, cond_true, getI_lt hi, Option.bind_some, es, Option.bind_some, Option.bind_some, w64_nat hi (by omega)]
        cases (s != it[i].2) with
        | true => exact .inr ⟨_, rfl⟩
        | false => exact .inl rfl) (by unfold spec_l11Order_L3; simp) n (by unfold BIG at hn; omega)
      dsimp only
      rw [e3, Option.bind_some]
      cases r3 <;> exact ⟨_, rfl⟩
theorem spec_BookOk_total (nx : Int) (l : List Ord) (h : sm_Book (nx, l)) (n : Nat) (hn : BIG ≤ n) : ∃ b, spec_BookOk n nx l = some b := by
  have hl : l.length ≤ 1048576 := h.1
  unfold spec_BookOk
  simp only [in_ok, Option.bind_some]
  obtain ⟨b, eb⟩ : ∃ b, (bif !inB nx 1 1000000 then some true else some (decide ((l.length : Int) > 30))) = some b := by cases inB nx 1 1000000 <;> exact ⟨_, rfl⟩
  rw [eb, Option.bind_some]
  cases b with
  | true => exact ⟨_, rfl⟩
  | false =>
    rw [cond_false]
    obtain ⟨r, e⟩ := iter_total (spec_BookOk_L1 n nx l) l.length (fun i hi => by
      obtain ⟨b, ob⟩ := spec_l11Order_total l[i] (h.2 _ (List.getElem_mem hi)) n hn
      have hp : (bif decide ((i : Int) > 0) then (getI l (w64 ((i : Int) - 1))).bind (fun y => some (decide (y.1 ≥ l[i].1))) else some false) = some (!prevL (·.1) l i l[i]) := prev_F (·.1) l l[i] i hi hl some
      simp only [spec_BookOk_L1, getI_lt hi, Option.bind_some, in_ok, w64_nat hi (by omega), hp, ob]
      rw [show decide ((i : Int) < (l.length : Int)) = true by simpa using hi]
      generalize prevL (·.1) l i l[i] = b4
      cases b <;> cases inB l[i].1 1 (w64 (nx - 1)) <;> cases b4 <;> first | exact .inr ⟨_, rfl⟩ | exact .inl rfl) (by unfold spec_BookOk_L1; simp) n (by unfold BIG at hn; omega)
    rw [e, Option.bind_some]
    cases r <;> exact ⟨_, rfl⟩


theorem Withdraw_ok (s : List Pod) (hs : StockP s) (k : Nat) (nx : Int) (l : List Ord) (h : BookP k nx l) (id : Int) (n : Nat) (hn : BIG ≤ n) : ∃ s' l' b, spec_Withdraw n s nx l id = some (s', nx, l', b) ∧ StockP s' ∧ BookP k nx l' := by
  obtain ⟨b, eb⟩ := spec_BookOk_total nx l h.sm n hn
  unfold spec_Withdraw
  rw [spec_l11Copy_ok nx l h.sm n hn, Option.bind_some, spec_StockOk_ok s hs.sm n hn, hs.ok, eb]
  simp only [Option.bind_some, Bool.not_true, cond_false, spec_l5Copy_ok s hs.sm n hn]
  have keep : ∃ s' l' b, (some (s, nx, l, false) : Option ((List Pod) × Int × (List Ord) × Bool)) = some (s', nx, l', b) ∧ StockP s' ∧ BookP k nx l' := ⟨_, _, _, rfl, hs, h⟩
  cases b with
  | false =>
    rcases spec_l11Find_ok nx l h.sm.1 id n hn with e | ⟨i, hi, e⟩ <;> (rw [e]; exact keep)
  | true =>
    simp only [Bool.not_true, cond_false]
    rcases spec_l11Find_ok nx l h.sm.1 id n hn with e | ⟨i, hi, e⟩
    · rw [e]; exact keep
    · rw [e, Option.bind_some, show decide ((i : Int) < 0) = false by simp, cond_false, getI_lt hi, Option.bind_some, Option.bind_some]
      cases (l[i].2.2.2.2 != 1) with
      | true => exact keep
      | false =>
        rw [cond_false, Option.bind_some]
        have hp := (h.each _ (List.getElem_mem hi)).2.2.2.1.2
        obtain ⟨s2, b2, e2, hs2⟩ := l6Each_ok s hs l[i].2.2.2.1 (by omega) 2 (.inr rfl) n hn
        unfold spec_ReleaseAll
        rw [e2, Option.bind_some, Option.bind_some]
        cases b2 with
        | false => exact keep
        | true =>
          simp only [Bool.not_true, cond_false, inb_lt hi, cond_true, Int.toNat_natCast]
          exact ⟨_, _, _, rfl, hs2, h.turn i 3 ⟨by omega, by omega⟩⟩


theorem Finish_ok (k : Nat) (nx : Int) (l : List Ord) (h : BookP k nx l) (id : Int) (n : Nat) (hn : BIG ≤ n) : ∃ l' b, spec_Finish n nx l id = some (nx, l', b) ∧ BookP k nx l' := by
  obtain ⟨b, eb⟩ := spec_BookOk_total nx l h.sm n hn
  unfold spec_Finish
  rw [spec_l11Copy_ok nx l h.sm n hn, Option.bind_some, eb]
  simp only [Option.bind_some]
  have keep : ∃ l' b, (some (nx, l, false) : Option (Int × (List Ord) × Bool)) = some (nx, l', b) ∧ BookP k nx l' := ⟨_, _, rfl, h⟩
  cases b with
  | false =>
    rcases spec_l11Find_ok nx l h.sm.1 id n hn with e | ⟨i, hi, e⟩ <;> (rw [e]; exact keep)
  | true =>
    simp only [Bool.not_true, cond_false]
    rcases spec_l11Find_ok nx l h.sm.1 id n hn with e | ⟨i, hi, e⟩
    · rw [e]; exact keep
    · rw [e, Option.bind_some, show decide ((i : Int) < 0) = false by simp, cond_false, getI_lt hi, Option.bind_some]
      cases (l[i].2.2.2.2 != 1) with
      | true => exact keep
      | false =>
        simp only [Option.bind_some, cond_false, inb_lt hi, cond_true, Int.toNat_natCast]
        exact ⟨_, _, rfl, h.turn i 2 ⟨by omega, by omega⟩⟩


theorem Accept_ok (s : List Pod) (hs : StockP s) (k : Nat) (nx : Int) (l : List Ord) (h : BookP k nx l) (hk : k + 1 ≤ 1000) (desk : Int) (hd : 0 ≤ desk ∧ desk ≤ 99) (it : List SII) (hi : ItemP it) (n : Nat) (hn : BIG ≤ n) :
    ∃ s' nx' l' id, spec_Accept n s nx l desk it = some (s', nx', l', id) ∧ StockP s' ∧ BookP (k + 1) nx' l' := by
  obtain ⟨b, eb⟩ := spec_BookOk_total nx l h.sm n hn
  have hnx := h.nx
  have hlen := h.len
  unfold spec_Accept
  rw [spec_l11Copy_ok nx l h.sm n hn, Option.bind_some, spec_StockOk_ok s hs.sm n hn, hs.ok, eb]
  simp only [Option.bind_some, Bool.not_true, cond_false, spec_l5Copy_ok s hs.sm n hn, in_ok]
  have keep : ∃ s' nx' l' id, (some (s, nx, l, 0) : Option ((List Pod) × Int × (List Ord) × Int)) = some (s', nx', l', id) ∧ StockP s' ∧ BookP (k + 1) nx' l' := ⟨_, _, _, _, rfl, hs, h.more (k + 1) (by omega) hk⟩
  cases b with
  | false => exact keep
  | true =>
    rw [show inB desk 0 99 = true by simp [inB]; omega]
    simp only [Bool.not_true, cond_false]
    cases hz : ((it.length : Int) == 0) with
    | true => exact keep
    | false =>
      have hz : ¬ ((it.length : Int) = 0) := by simpa using hz
      rw [cond_false]
      cases ((l.length : Int) == 30) with
      | true => exact keep
      | false =>
        rw [cond_false, Option.bind_some]
        cases (nx == 1000000) with
        | true => exact keep
        | false =>
          rw [cond_false]
          obtain ⟨o, ok, ep, ol, hg⟩ := Picks_ok s hs it hi n hn
          rw [ep, Option.bind_some]
          cases ok with
          | false => exact keep
          | true =>
            simp only [Bool.not_true, cond_false]
            obtain ⟨s2, b2, e2, hs2⟩ := l6Each_ok s hs o (by omega) 1 (.inl rfl) n hn
            unfold spec_HoldAll
            rw [e2, Option.bind_some, Option.bind_some]
            dsimp only
            rw [show decide (([] : List SII).length + it.length ≤ maxRow) = true from row0 (by have := hi.2.2; simp; omega), cond_true]
            have hr : decide (l.length + 1 ≤ maxRow) = true := row1 (by omega)
            simp only [List.length_singleton, hr, cond_true]
            rw [w64_eq (n := nx + 1) (by omega) (by omega)]
            refine ⟨_, _, _, _, rfl, hs2, ?_⟩
            refine { len := by rw [List.length_append, List.length_singleton]; omega, lt := ?_, each := fun q hq => ?_, nx := ⟨by omega, by omega⟩, kk := hk }
            · refine List.pairwise_append.2 ⟨h.lt, List.pairwise_singleton _ _, fun x hx y hy => ?_⟩
              rw [List.mem_singleton.1 hy]
              have := (h.each x hx).1
              show x.1 < nx
              omega
            · rcases List.mem_append.1 hq with hq | hq
              · obtain ⟨⟨q1, q2⟩, q3⟩ := h.each q hq
                exact ⟨⟨q1, by omega⟩, q3⟩
              · rw [List.mem_singleton.1 hq]
                exact ⟨⟨by show 1 ≤ nx; omega, by show nx ≤ nx + 1 - 1; omega⟩, hd, ⟨hi, by show 0 < it.length; omega⟩, ⟨hg rfl, ol⟩, ⟨by show (1 : Int) ≤ 1; omega, by show (1 : Int) ≤ 3; omega⟩⟩


theorem l11Draw_ok (n : Nat) (hn : BIG ≤ n) (a : List Int) (ha : a.length ≤ 1048576) (ci ch : Int) (hci : 0 ≤ ci) (M : Int) (hM : M ≤ 29) :
    ∃ s nx l i' h', spec_l11Draw n a ci ch M = some (s, nx, l, a, i', h') ∧ 0 ≤ i' ∧ StockP s ∧ BookP 29 nx l := by
  obtain ⟨s0, i0, h0, e0, j0, hs0⟩ := l5Draw_ok n hn a ha ci ch hci
  unfold spec_l11Draw
  rw [e0, Option.bind_some]
  obtain ⟨v, i1, h1, e1, j1, v0, v1⟩ := l1Below_ok a i0 h0 j0 ha 3
  dsimp only
  rw [e1, Option.bind_some]
  obtain ⟨K, i2, h2, e2, j2, k0, k1⟩ := l1Below_ok a i1 h1 j1 ha M
  dsimp only
  rw [e2, Option.bind_some]
  dsimp only
  obtain ⟨k, rfl⟩ : ∃ k : Nat, K = (k : Int) := ⟨K.toNat, by omega⟩
  have hk : k ≤ 29 := by omega
  rw [w64_eq (n := 1 + v) (by omega) (by omega)]
  have hb0 : BookP 0 (1 + v) [] := { len := by simp, lt := List.Pairwise.nil, each := fun o ho => (by cases ho), nx := ⟨by omega, by omega⟩, kk := by omega }
  obtain ⟨_, r, e, hr⟩ := iter_two (spec_l11Draw_L1 n) (spec_l11Draw_L1 n) (fun i (x : Int × (List Int) × Int × Int × (List Pod) × Int × (List Ord)) => x.1 = (k : Int) - (i : Int) ∧ i ≤ k ∧ x.2.1 = a ∧ 0 ≤ x.2.2.1 ∧ StockP x.2.2.2.2.1 ∧ BookP i x.2.2.2.2.2.1 x.2.2.2.2.2.2)
    (fun r => r.2.1 = a ∧ 0 ≤ r.2.2.1 ∧ StockP r.2.2.2.2.1 ∧ BookP 29 r.2.2.2.2.2.1 r.2.2.2.2.2.2) k (fun i x hi hI => by
    refine ⟨rfl, ?_⟩
    obtain ⟨c, b, ci, ch, s, nx, l⟩ := x
    obtain ⟨g1, g2, g3, g4, g5, g6⟩ := hI
    dsimp only at g1 g3 g4 g5 g6
    subst g1; subst g3
    unfold spec_l11Draw_L1
    dsimp only
    by_cases hlt : i < k
    · left
      rw [show decide ((k : Int) - (i : Int) > 0) = true by simp; omega, cond_true]
      obtain ⟨u, i3, h3, e3, j3, u0, u1⟩ := l1Below_ok b ci ch g4 ha 5
      rw [e3, Option.bind_some]
      dsimp only
      rw [w64_eq (n := (k : Int) - (i : Int) - 1) (by omega) (by omega)]
      cases (u == 0) with
      | true =>
        obtain ⟨c, i4, h4, e4, j4, _⟩ := l1Below_ok b i3 h3 j3 ha 6
        rw [cond_true, e4, Option.bind_some]
        dsimp only
        obtain ⟨s', l', b', e5, hs', hl'⟩ := Withdraw_ok s g5 i nx l g6 c n hn
        rw [e5]
        exact ⟨_, rfl, ⟨by show (k : Int) - (i : Int) - 1 = (k : Int) - ((i + 1 : Nat) : Int); omega, by omega, rfl, j4, hs', hl'.more (i + 1) (by omega) (by omega)⟩, hlt⟩
      | false =>
        rw [cond_false]
        cases (u == 1) with
        | true =>
          obtain ⟨c, i4, h4, e4, j4, _⟩ := l1Below_ok b i3 h3 j3 ha 6
          rw [cond_true, e4, Option.bind_some]
          dsimp only
          obtain ⟨l', b', e5, hl'⟩ := Finish_ok i nx l g6 c n hn
          rw [e5]
          exact ⟨_, rfl, ⟨by show (k : Int) - (i : Int) - 1 = (k : Int) - ((i + 1 : Nat) : Int); omega, by omega, rfl, j4, g5, hl'.more (i + 1) (by omega) (by omega)⟩, hlt⟩
        | false =>
          obtain ⟨d, i4, h4, e4, j4, d0, d1⟩ := l1Below_ok b i3 h3 j3 ha 30
          rw [cond_false, e4, Option.bind_some]
          dsimp only
          obtain ⟨it, i5, h5, e5, j5, hit⟩ := l6Items_ok n hn b ha i4 h4 j4
          rw [e5, Option.bind_some]
          dsimp only
          obtain ⟨s', nx', l', id, e6, hs', hl'⟩ := Accept_ok s g5 i nx l g6 (by omega) d ⟨d0, by omega⟩ it hit n hn
          rw [e6]
          exact ⟨_, rfl, ⟨by show (k : Int) - (i : Int) - 1 = (k : Int) - ((i + 1 : Nat) : Int); omega, by omega, rfl, j5, hs', hl'⟩, hlt⟩
    · right
      have : i = k := by omega
      subst this
      rw [show decide ((i : Int) - (i : Int) > 0) = false by simp]
      exact ⟨_, rfl, rfl, g4, g5, g6.more 29 (by omega) (by omega)⟩) n (by unfold BIG at hn; omega) ((k : Int), a, i2, h2, s0, 1 + v, ([] : List Ord)) ⟨by show (k : Int) = (k : Int) - ((0 : Nat) : Int); omega, by omega, rfl, j2, hs0, hb0⟩
  rw [e, Option.bind_some]
  obtain ⟨c, b, ci2, ch2, s, nx, l⟩ := r
  obtain ⟨g1, g2, g3, g4⟩ := hr
  dsimp only at g1 g2 g3 g4
  subst g1
  exact ⟨_, _, _, _, _, rfl, g2, g3, g4⟩


theorem DrawTasksOf_ok (n : Nat) (hn : BIG ≤ n) (a : List Int) (ha : a.length ≤ 1048576) : ∃ o : SIILIIJLIIIJI, spec_DrawTasksOf n a = some o ∧ o.2.2.2.1.length ≤ 72 := by
  unfold spec_DrawTasksOf
  obtain ⟨h, e1⟩ := l1New_ok a ha n hn
  obtain ⟨s, nx, l, i', h', e3, j3, hs, hl⟩ := l11Draw_ok n hn a ha 0 h (Int.le_refl _) 6 (by omega)
  rw [e1, Option.bind_some]
  dsimp only
  rw [e3, Option.bind_some]
  dsimp only
  cases hz : ((l.length : Int) == 0) with
  | true => exact ⟨_, rfl, by simp⟩
  | false =>
    have hz : ¬ ((l.length : Int) = 0) := by simpa using hz
    obtain ⟨v, i2, h2, e2, j2, v0, v1⟩ := l1Below_ok a i' h' j3 ha (l.length : Int)
    rw [cond_false, e2, Option.bind_some]
    dsimp only
    obtain ⟨k, rfl⟩ : ∃ k : Nat, v = (k : Int) := ⟨v.toNat, by omega⟩
    have hk : k < l.length := by omega
    rw [inb_lt hk, cond_true, Int.toNat_natCast, List.getElem?_eq_getElem hk, Option.bind_some, Option.bind_some, Option.bind_some]
    exact ⟨_, rfl, (hl.each _ (List.getElem_mem hk)).2.2.2.1.2⟩


def podF (s : List Int) (x : SIII) : List Int := bif s.any (fun y => y == x.1) then s else s ++ [x.1]
theorem podF_len (s : List Int) (x : SIII) : (podF s x).length ≤ s.length + 1 := by
  unfold podF; cases s.any (fun y => y == x.1) <;> simp
theorem podF_inv : ∀ (a : List SIII) (s : List Int), s.Nodup → (a.foldl podF s).Nodup ∧ (∀ x ∈ s, x ∈ a.foldl podF s) ∧ (∀ p ∈ a, p.1 ∈ a.foldl podF s) ∧ (∀ x ∈ a.foldl podF s, x ∈ s ∨ ∃ p ∈ a, p.1 = x) ∧ (a.foldl podF s).length ≤ s.length + a.length
  | [], s, h => ⟨h, fun x hx => hx, (fun p hp => by cases hp), fun x hx => .inl hx, by simp⟩
  | p :: a, s, h => by
    have hd : (podF s p).Nodup ∧ p.1 ∈ podF s p ∧ (∀ x ∈ s, x ∈ podF s p) ∧ ∀ x ∈ podF s p, x ∈ s ∨ x = p.1 := by
      unfold podF
      cases hq : s.any (fun y => y == p.1) with
      | true =>
        obtain ⟨y, hy, e⟩ := List.any_eq_true.1 hq
        have e : y = p.1 := by simpa using e
        subst e
        exact ⟨h, hy, fun x hx => hx, fun x hx => .inl hx⟩
      | false =>
        have hn : p.1 ∉ s := fun hin => by
          have : s.any (fun y => y == p.1) = true := List.any_eq_true.2 ⟨_, hin, by simp⟩
          rw [hq] at this; cases this
        refine ⟨List.nodup_append.2 ⟨h, List.nodup_cons.2 ⟨by simp, List.nodup_nil⟩, fun x hx y hy e => ?_⟩, by simp, fun x hx => List.mem_append_left _ hx, fun x hx => ?_⟩
        · rw [List.mem_singleton.1 hy] at e; subst e; exact hn hx
        · rcases List.mem_append.1 hx with hx | hx
          · exact .inl hx
          · exact .inr (List.mem_singleton.1 hx)
    obtain ⟨d1, d2, d3, d4⟩ := hd
    obtain ⟨h1, h2, h3, h4, h5⟩ := podF_inv a (podF s p) d1
    have hl := podF_len s p
    refine ⟨h1, fun x hx => h2 x (d3 x hx), fun q hq => ?_, fun x hx => ?_, by simp only [List.foldl_cons, List.length_cons]; omega⟩
    · rcases List.mem_cons.1 hq with e | hq
      · subst e; exact h2 _ d2
      · exact h3 q hq
    · rcases h4 x hx with hx | ⟨q, hq, e⟩
      · rcases d4 x hx with hx | e
        · exact .inl hx
        · exact .inr ⟨p, List.mem_cons_self, e.symm⟩
      · exact .inr ⟨q, List.mem_cons_of_mem _ hq, e⟩
def podL (a : List SIII) : List Int := a.foldl podF []
theorem impl_hasInt_ok (a : List Int) (h : a.length ≤ 1048576) (c : Int) (n : Nat) (hn : BIG ≤ n) : impl_hasInt n a c = some (a.any fun x => x == c) := by
  have := all_loopF (impl_hasInt_L1 a c) (fun i => (i : Int)) a.length (fun _ => true)
  have hc := iter_rec (σ := Unit) (impl_hasInt_L1 a c) (fun i _ => (i : Int)) a (fun l _ => bif l.any (fun x => x == c) then .inr true else .inl (a.length : Int)) (fun _ _ => True)
    (fun s hs => by simp [impl_hasInt_L1])
    (fun i x l s h1 h2 h3 h4 h5 => by
      have hx : a[i] = x := by rw [List.getElem?_eq_getElem h1] at h2; exact Option.some.inj h2
      cases hq : (x == c) with
      | true => right; simp [impl_hasInt_L1, h1, getI_lt h1, hx, hq]
      | false => left; exact ⟨(), by simp [impl_hasInt_L1, h1, getI_lt h1, hx, hq, w64_nat h1 (by omega)], trivial, by simp [hq]⟩)
    n (by unfold BIG at hn; omega) () trivial
  unfold impl_hasInt
  rw [show ((0 : Nat) : Int) = 0 from rfl] at hc
  rw [hc]
  cases a.any fun x => x == c <;> rfl
theorem impl_PodsOf_is (a : List SIII) (h : a.length ≤ 1048576) (n : Nat) (hn : BIG ≤ n) : impl_PodsOf n a = some (podL a) := by
  have hc := iter_rec (σ := List Int) (impl_PodsOf_L1 n a) (fun i s => (s, (i : Int))) a (fun l s => (l.foldl podF s, (a.length : Int))) (fun i s => s.length ≤ i)
    (fun s hs => by simp [impl_PodsOf_L1])
    (fun i x l s h1 h2 h3 h4 h5 => by
      left
      have hx : a[i] = x := by rw [List.getElem?_eq_getElem h1] at h2; exact Option.some.inj h2
      have hr : decide (s.length + 1 ≤ maxRow) = true := row1 (by omega)
      have ha := impl_hasInt_ok s (by omega) x.1 n hn
      refine ⟨podF s x, ?_, by have := podF_len s x; omega, by simp⟩
      simp only [impl_PodsOf_L1, getI_lt h1, hx, Option.bind_some, ha, w64_nat h1 (by omega)]
      rw [show decide ((i : Int) < (a.length : Int)) = true by simpa using h1]
      unfold podF
      cases s.any (fun y => y == x.1) <;> simp [hr])
    n (by unfold BIG at hn; omega) [] (Nat.le_refl _)
  unfold impl_PodsOf
  rw [show ((0 : Nat) : Int) = 0 from rfl] at hc
  rw [hc]; rfl
theorem impl_TasksOf_is (a : SIILIIJLIIIJI) (h : a.2.2.2.1.length ≤ 72) (n : Nat) (hn : BIG ≤ n) : impl_TasksOf n a.1 a.2.1 a.2.2.1 a.2.2.2.1 a.2.2.2.2 = some ((podL a.2.2.2.1).map fun x => (a.1, x, (0 : Int), (1 : Int))) := by
  have hp : (podL a.2.2.2.1).length ≤ 72 := by have := (podF_inv a.2.2.2.1 [] List.nodup_nil).2.2.2.2; simp at this; exact Nat.le_trans this h
  unfold impl_TasksOf
  rw [impl_PodsOf_is _ (by omega) n hn, Option.bind_some]
  generalize podL a.2.2.2.1 = p at hp
  have hc := iter_rec (σ := List SIIII) (impl_TasksOf_L1 a.1 p) (fun i s => (s, (i : Int))) p (fun l s => (s ++ l.map fun x => (a.1, x, (0 : Int), (1 : Int)), (p.length : Int))) (fun i s => s.length ≤ i)
    (fun s hs => by simp [impl_TasksOf_L1])
    (fun i x l s h1 h2 h3 h4 h5 => by
      left
      have hx : p[i] = x := by rw [List.getElem?_eq_getElem h1] at h2; exact Option.some.inj h2
      have hr : decide (s.length + 1 ≤ maxRow) = true := row1 (by omega)
      exact ⟨s ++ [(a.1, x, 0, 1)], by simp [impl_TasksOf_L1, h1, inb_lt h1, hx, w64_nat h1 (by omega), hr], by simp; omega, by simp⟩)
    n (by unfold BIG at hn; omega) [] (Nat.le_refl _)
  rw [show ((0 : Nat) : Int) = 0 from rfl] at hc
  rw [hc]; simp


def cntOn (a : List SIII) (x : Int) : Nat := (a.filter fun p => p.1 == x).length
def cntAll (a : List SIII) : List Int → Nat
  | [] => 0
  | x :: s => cntOn a x + cntAll a s
theorem cntAll_cons (p : SIII) (a : List SIII) : ∀ (s : List Int), s.Nodup → cntAll (p :: a) s = cntAll a s + (if p.1 ∈ s then 1 else 0)
  | [], _ => rfl
  | x :: s, h => by
    obtain ⟨h1, h2⟩ := List.nodup_cons.1 h
    have ih := cntAll_cons p a s h2
    have e : cntOn (p :: a) x = cntOn a x + (if p.1 = x then 1 else 0) := by
      unfold cntOn
      by_cases hp : p.1 = x
      · simp [hp]
      · simp [hp]
    simp only [cntAll, e, ih, List.mem_cons]
    by_cases hp : p.1 = x
    · subst hp
      simp [h1]; omega
    · simp [hp]; omega
theorem cntAll_eq : ∀ (a : List SIII) (s : List Int), s.Nodup → (∀ p ∈ a, p.1 ∈ s) → cntAll a s = a.length
  | [], s, _, _ => by
    have : ∀ s : List Int, cntAll [] s = 0 := fun s => by
      induction s with
      | nil => rfl
      | cons x s ih => simp only [cntAll, cntOn, List.filter_nil, List.length_nil, Nat.zero_add]; exact ih
    rw [this]; rfl
  | p :: a, s, h, hm => by
    rw [cntAll_cons p a s h, cntAll_eq a s h fun q hq => hm q (List.mem_cons_of_mem _ hq), if_pos (hm p List.mem_cons_self), List.length_cons]


theorem laws_FnTasks_pure (a : List Int) (h : (fSl fU8) a) : ∃ n, laws_FnTasks n a = some true := by
  refine ⟨BIG, ?_⟩
  have hB : BIG ≤ BIG := Nat.le_refl _
  unfold laws_FnTasks laws_big
  rw [Option.bind_some]
  by_cases hbig : (a.length : Int) > 1048576
  · rw [show decide ((a.length : Int) > 1048576) = true by simpa using hbig]; rfl
  rw [show decide ((a.length : Int) > 1048576) = false by simpa using hbig, cond_false]
  have ha : a.length ≤ 1048576 := by omega
  obtain ⟨o, e, ho⟩ := DrawTasksOf_ok BIG hB a ha
  rw [e, Option.bind_some, impl_TasksOf_is o ho BIG hB, Option.bind_some]
  obtain ⟨f1, _, f3, f4, f5⟩ := podF_inv o.2.2.2.1 [] List.nodup_nil
  have hpl : (podL o.2.2.2.1).length ≤ 72 := by have := f5; simp at this; exact Nat.le_trans this ho
  have hmem : ∀ x ∈ podL o.2.2.2.1, ∃ p ∈ o.2.2.2.1, p.1 = x := fun x hx => (f4 x hx).elim (fun h => by cases h) id
  have hcnt := cntAll_eq o.2.2.2.1 (podL o.2.2.2.1) f1 f3
  have hpo := impl_PodsOf_is o.2.2.2.1 (by omega) BIG hB
  generalize podL o.2.2.2.1 = s at hpl hmem hcnt hpo
  have hlen : (s.map fun x => (o.1, x, (0 : Int), (1 : Int))).length = s.length := List.length_map _
  have hloop := iter_rec (σ := Nat) (laws_FnTasks_L1 BIG o (s.map fun x => (o.1, x, (0 : Int), (1 : Int)))) (fun i c => ((c : Int), (i : Int))) s (fun r c => .inl (((c + cntAll o.2.2.2.1 r : Nat) : Int), (s.length : Int))) (fun i c => c ≤ 72 * i ∧ i ≤ 72)
    (fun c hc => by unfold laws_FnTasks_L1; simp [cntAll]) (fun i x r c h1 h2 h3 h4 h5 => by
      left
      have hx : s[i] = x := by rw [List.getElem?_eq_getElem h1] at h2; exact Option.some.inj h2
      have hi' : i < (s.map fun x => (o.1, x, (0 : Int), (1 : Int))).length := by rw [hlen]; exact h1
      have hgi : (s.map fun x => (o.1, x, (0 : Int), (1 : Int)))[i]? = some (o.1, x, (0 : Int), (1 : Int)) := by rw [List.getElem?_map, h2]; rfl
      obtain ⟨p, hp, hpx⟩ := hmem x (by rw [← hx]; exact List.getElem_mem h1)
      have hfl : (o.2.2.2.1.filter fun q => q.1 == x).length ≤ 72 := Nat.le_trans (List.length_filter_le _ _) ho
      have hpos : 0 < (o.2.2.2.1.filter fun q => q.1 == x).length := List.length_pos_of_mem (List.mem_filter.2 ⟨hp, by simpa using hpx⟩)
      have hL2 := all_loop (laws_FnTasks_L2 (s.map fun x => (o.1, x, (0 : Int), (1 : Int))) ((c : Int), (i : Int)) (o.2.2.2.1.filter fun q => q.1 == x)) (o.2.2.2.1.filter fun q => q.1 == x) (fun _ => true) (fun k q hk hq => by
        have hqx : q.1 = x := by simpa using (List.mem_filter.1 (List.mem_of_getElem? hq)).2
        unfold laws_FnTasks_L2
        dsimp only
        rw [show decide ((k : Int) < ((o.2.2.2.1.filter fun q => q.1 == x).length : Int)) = true by simpa using hk, cond_true, inb_lt hk, cond_true, Int.toNat_natCast, hq, Option.bind_some, inb_lt hi', cond_true, Int.toNat_natCast, hgi, Option.bind_some, w64_nat hk (by omega)]
        simp [hqx]) (by unfold laws_FnTasks_L2; simp) BIG (by unfold BIG; omega)
      rw [show (o.2.2.2.1.filter fun q => q.1 == x).all (fun _ => true) = true from List.all_eq_true.2 fun _ _ => rfl, cond_true] at hL2
      have hz : (((o.2.2.2.1.filter fun q => q.1 == x).length : Int) == 0) = false := by rw [← Bool.not_eq_true]; simp only [beq_iff_eq]; omega
      refine ⟨c + cntOn o.2.2.2.1 x, ?_, ⟨by unfold cntOn; omega, by omega⟩, by simp only [cntAll, Nat.add_assoc]⟩
      unfold laws_FnTasks_L1
      dsimp only
      rw [hlen, show decide ((i : Int) < (s.length : Int)) = true by simpa using h1, cond_true, inb_lt hi', cond_true, Int.toNat_natCast, hgi, Option.bind_some]
      dsimp only
      rw [impl_PicksOf_ok o (by omega) x BIG hB, Option.bind_some, hL2, Option.bind_some]
      dsimp only
      rw [hz, w64_nat h1 (by omega), w64_eq (n := (c : Int) + ((o.2.2.2.1.filter fun q => q.1 == x).length : Int)) (by omega) (by omega)]
      simp only [cond_false, Option.bind_some, bne_self_eq_false]
      unfold cntOn
      simp)
    BIG (by unfold BIG; omega) 0 ⟨by omega, by omega⟩
  have hloop : iter BIG (laws_FnTasks_L1 BIG o (s.map fun x => (o.1, x, (0 : Int), (1 : Int)))) (0, 0) = _ := hloop
  rw [hloop, Option.bind_some]
  dsimp only
  rw [Nat.zero_add, hcnt, hpo, hlen]
  simp

end Go.Ev.N
