/- FnExactPieces, as a plain law over native forms: what the program's function answers is what the reference's answers. Conditions: none but the lengths' and numbers' bounds. -/
import Derived.Test.YtcilnijdhaidjaaFnExactPiecesNat
namespace Go.Ev.N
open Go Go.Ev
set_option linter.unusedVariables false
set_option linter.unusedSimpArgs false

theorem w64_eq {n : Int} (h1 : -9223372036854775808 ≤ n) (h2 : n ≤ 9223372036854775807) : w64 n = n := by
  unfold w64 IntKind.wrap
  simp only [IntKind.bits, IntKind.signed]
  simp
  split <;> omega
theorem w64_up {i : Int} {m : Nat} (h0 : 0 ≤ i) (h : i < (m : Int)) (hm : m ≤ 9223372036854775807) : w64 (i + 1) = i + 1 := w64_eq (by omega) (by omega)
theorem w64_nat {i m : Nat} (h : i < m) (hm : m ≤ 9223372036854775807) : w64 ((i : Int) + 1) = ((i + 1 : Nat) : Int) := by rw [w64_eq (by omega) (by omega)]; omega

theorem getI_nat {α : Type} (xs : List α) (i : Nat) : getI xs (i : Int) = xs[i]? := by
  unfold getI
  rw [if_pos (by omega)]
  simp
theorem getI_lt {α : Type} {xs : List α} {i : Nat} (h : i < xs.length) : getI xs (i : Int) = some xs[i] := by rw [getI_nat]; exact List.getElem?_eq_getElem h
theorem inb_nat {α : Type} (xs : List α) (i : Nat) : inb xs (i : Int) = decide (i < xs.length) := by
  unfold inb
  have : decide (0 ≤ (i : Int)) = true := by simp
  rw [this, Bool.true_and]
  simp
theorem inb_lt {α : Type} {xs : List α} {i : Nat} (h : i < xs.length) : inb xs (i : Int) = true := by rw [inb_nat]; simpa using h
theorem upd_is {α : Type} (l : List α) (n : Nat) (y : α) : upd l n y = l.set n y := upd_set l n y

/-! ### what comes in -/
def fI (x : Int) : Prop := IntKind.min .i64 ≤ x ∧ x ≤ IntKind.max .i64
def fB (_ : Bool) : Prop := True
def fStr (x : List UInt8) : Prop := List.length x ≤ maxLen
def fSl {α : Type} (p : α → Prop) (x : List α) : Prop := List.length x ≤ maxLen ∧ ∀ y, List.Mem y x → p y
def fP {α β : Type} (p : α → Prop) (q : β → Prop) (x : α × β) : Prop := p x.1 ∧ q x.2
theorem fI_b {x : Int} (h : fI x) : -9223372036854775808 ≤ x ∧ x ≤ 9223372036854775807 := by
  unfold fI IntKind.min IntKind.max at h
  simpa [IntKind.bits, IntKind.signed] using h
theorem fSl_len {α : Type} {p : α → Prop} {x : List α} (h : fSl p x) : x.length ≤ 9223372036854775807 := h.1
theorem fSl_mem {α : Type} {p : α → Prop} {x : List α} (h : fSl p x) {y : α} (hy : y ∈ x) : p y := h.2 y hy

/-! ### loops -/

section
variable {α γ σ β : Type}
theorem iter_go {f : α → Option (α ⊕ γ)} {x y : α} (h : f x = some (.inl y)) (n : Nat) : iter (n + 1) f x = iter n f y := by simp [iter, h]
theorem iter_end {f : α → Option (α ⊕ γ)} {x : α} {z : γ} (h : f x = some (.inr z)) (n : Nat) : iter (n + 1) f x = some z := by simp [iter, h]

/-- A loop that goes so many rounds. -/
theorem iter_steps (f : α → Option (α ⊕ γ)) (st : Nat → α) (m : Nat) (r : γ) (hs : ∀ i, i < m → f (st i) = some (.inl (st (i + 1)))) (he : f (st m) = some (.inr r)) : ∀ n, m < n → iter n f (st 0) = some r := by
  have key : ∀ d i n, i + d = m → d < n → iter n f (st i) = some r := by
    intro d
    induction d with
    | zero =>
      intro i n hi hn
      obtain ⟨n, rfl⟩ : ∃ k, n = k + 1 := ⟨n - 1, by omega⟩
      have : i = m := by omega
      subst this
      exact iter_end he n
    | succ d ih =>
      intro i n hi hn
      obtain ⟨n, rfl⟩ : ∃ k, n = k + 1 := ⟨n - 1, by omega⟩
      rw [iter_go (hs i (by omega)) n]
      exact ih (i + 1) n (by omega) (by omega)
  exact fun n hn => key m 0 n (by omega) hn

/-- A loop over a list, with a state: what it answers is told by recursion on what is left. -/
theorem iter_rec (f : α → Option (α ⊕ γ)) (st : Nat → σ → α) (xs : List β) (G : List β → σ → γ) (Inv : Nat → σ → Prop)
    (hend : ∀ s, Inv xs.length s → f (st xs.length s) = some (.inr (G [] s)))
    (hstep : ∀ i x l s, i < xs.length → xs[i]? = some x → xs.drop i = x :: l → xs.drop (i + 1) = l → Inv i s → (∃ s', f (st i s) = some (.inl (st (i + 1) s')) ∧ Inv (i + 1) s' ∧ G (x :: l) s = G l s') ∨ f (st i s) = some (.inr (G (x :: l) s))) :
    ∀ n, xs.length < n → ∀ s, Inv 0 s → iter n f (st 0 s) = some (G xs s) := by
  have key : ∀ d i n s, i + d = xs.length → d < n → Inv i s → iter n f (st i s) = some (G (xs.drop i) s) := by
    intro d
    induction d with
    | zero =>
      intro i n s hi hn hI
      obtain ⟨n, rfl⟩ : ∃ k, n = k + 1 := ⟨n - 1, by omega⟩
      have : i = xs.length := by omega
      subst this
      rw [iter_end (hend s hI) n, List.drop_length]
    | succ d ih =>
      intro i n s hi hn hI
      obtain ⟨n, rfl⟩ : ∃ k, n = k + 1 := ⟨n - 1, by omega⟩
      have hlt : i < xs.length := by omega
      have hd : xs.drop i = xs[i] :: xs.drop (i + 1) := List.drop_eq_getElem_cons hlt
      rcases hstep i xs[i] (xs.drop (i + 1)) s hlt (List.getElem?_eq_getElem hlt) hd rfl hI with ⟨s', h1, h2, h3⟩ | h1
      · rw [iter_go h1 n, ih (i + 1) n s' (by omega) (by omega) h2, hd, h3]
      · rw [iter_end h1 n, hd]
  intro n hn s hI
  have := key xs.length 0 n s (by omega) hn hI
  simpa using this
/-- The same where the state is the number of the round alone. -/
theorem iter_list (f : Int → Option (Int ⊕ γ)) (xs : List β) (G : List β → List β → γ) (hend : f (xs.length : Int) = some (.inr (G xs [])))
    (hstep : ∀ i x l p, i < xs.length → xs[i]? = some x → xs = p ++ x :: l → p.length = i → p = xs.take i → (f (i : Int) = some (.inl ((i + 1 : Nat) : Int)) ∧ G p (x :: l) = G (p ++ [x]) l) ∨ f (i : Int) = some (.inr (G p (x :: l)))) :
    ∀ n, xs.length < n → iter n f 0 = some (G [] xs) := by
  intro n hn
  refine iter_rec (σ := List β) f (fun i _ => (i : Int)) xs (fun l p => G p l) (fun i p => p = xs.take i) (fun s hs => ?_) (fun i x l s h1 h2 h3 h4 h5 => ?_) n hn [] (by simp)
  · have : s = xs := by rw [hs]; simp
    rw [this]; exact hend
  · have hlen : s.length = i := by rw [h5]; simp; omega
    have hx : xs = s ++ x :: l := by rw [← h3, h5, List.take_append_drop]
    rcases hstep i x l s h1 h2 hx hlen h5 with ⟨q1, q2⟩ | q1
    · refine .inl ⟨s ++ [x], q1, ?_, q2⟩
      have hxi : x = xs[i] := by rw [List.getElem?_eq_getElem h1] at h2; exact (Option.some.inj h2).symm
      rw [h5, List.take_succ_eq_append_getElem h1, hxi]
    · exact .inr q1
end

/-- A loop that asks the same of each element. -/
theorem all_loop {β : Type} (f : Int → Option (Int ⊕ (Int ⊕ Bool))) (xs : List β) (P : β → Bool) (hs : ∀ (i : Nat) (x : β), i < xs.length → xs[i]? = some x → f (i : Int) = some (bif P x then .inl ((i + 1 : Nat) : Int) else .inr (.inr false)))
    (he : f (xs.length : Int) = some (.inr (.inl (xs.length : Int)))) : ∀ n, xs.length < n → iter n f 0 = some (bif xs.all P then .inl (xs.length : Int) else .inr false) := by
  intro n hn
  refine iter_list f xs (fun p l => bif l.all P then .inl (xs.length : Int) else .inr false) ?_ ?_ n hn
  · rw [he]; simp
  · intro i x l p h1 h2 h3 h4 h5
    rw [hs i x h1 h2]
    cases hp : P x with
    | true => exact .inl ⟨by simp, by simp [hp]⟩
    | false => exact .inr (by simp [hp])

/-! ### conditions that stand as ways -/
theorem or1 (b c : Bool) : (bif b then some true else some c) = some (b || c) := by cases b <;> rfl
theorem and1 (b c : Bool) : (bif b then some c else some false) = some (b && c) := by cases b <;> rfl
theorem andn (b c : Bool) : (bif b then some false else some c) = some (!b && c) := by cases b <;> rfl
theorem orn (b c : Bool) : (bif b then some c else some true) = some (!b || c) := by cases b <;> rfl
theorem cond_some {α : Type} (b : Bool) (x y : α) : (bif b then some x else some y) = some (bif b then x else y) := by cases b <;> rfl

/-! ### copies -/

/-- A loop that copies. -/
theorem copy_ok {β : Type} (L : Int × List β → Option ((Int × List β) ⊕ (Int × List β))) (xs : List β) (z : β)
    (hL : ∀ (i : Nat) (h : i < xs.length) (out : List β), out.length = xs.length → L ((i : Int), out) = some (.inl (((i + 1 : Nat) : Int), out.set i xs[i]))) (hend : ∀ out, L ((xs.length : Int), out) = some (.inr ((xs.length : Int), out))) :
    ∀ n, xs.length < n → iter n L (0, List.replicate xs.length z) = some ((xs.length : Int), xs) := by
  intro n hn
  have := iter_rec (σ := List β) L (fun i s => ((i : Int), s)) xs (fun l s => ((xs.length : Int), s.take (xs.length - l.length) ++ l)) (fun i s => s.length = xs.length ∧ s.take i = xs.take i)
    (fun s hs => by
      rw [hend s, show s.take (xs.length - ([] : List β).length) ++ [] = s by simp [← hs.1]])
    (fun i x l s h1 h2 h3 h4 h5 => by
      left
      have hx : xs[i] = x := by rw [List.getElem?_eq_getElem h1] at h2; exact Option.some.inj h2
      refine ⟨s.set i xs[i], hL i h1 s h5.1, ⟨by simp [h5.1], ?_⟩, ?_⟩
      · rw [List.take_succ_eq_append_getElem h1, List.take_succ_eq_append_getElem (by simp [h5.1]; exact h1)]
        congr 1
        · rw [List.take_set_of_le (Nat.le_refl i), h5.2]
        · simp
      · have hl : l.length = xs.length - (i + 1) := by rw [← h4]; simp
        congr 1
        rw [List.length_cons, hl, show xs.length - (xs.length - (i + 1) + 1) = i by omega, show xs.length - (xs.length - (i + 1)) = i + 1 by omega]
        rw [List.take_succ_eq_append_getElem (by simp [h5.1]; exact h1), List.take_set_of_le (Nat.le_refl i)]
        simp [hx])
    n hn (List.replicate xs.length z) ⟨by simp, by simp⟩
  simpa using this

/-! ### the largest number of rounds -/
def BIG : Nat := 18446744073709551616
theorem maxLen_eq : maxLen = 9223372036854775807 := rfl

section
variable {β : Type}
open Classical in
/-- What one element becomes ('E': what is known of it). -/
noncomputable def mkOne (E : Int → β → Int → β → Prop) (k : Int) (x : β) : Int × β := if h : ∃ p : Int × β, E k x p.1 p.2 then h.choose else (k, x)
theorem mkOne_ok {E : Int → β → Int → β → Prop} {k : Int} {x : β} (h : ∃ k' x', E k x k' x') : E k x (mkOne E k x).1 (mkOne E k x).2 := by
  have h' : ∃ p : Int × β, E k x p.1 p.2 := let ⟨a, b, c⟩ := h; ⟨(a, b), c⟩
  unfold mkOne
  rw [dif_pos h']
  exact h'.choose_spec
noncomputable def mkAll (E : Int → β → Int → β → Prop) : Int → List β → Int × List β
  | k, [] => (k, [])
  | k, x :: l => ((mkAll E (mkOne E k x).1 l).1, (mkOne E k x).2 :: (mkAll E (mkOne E k x).1 l).2)
theorem mkAll_len (E : Int → β → Int → β → Prop) : ∀ (l : List β) (k : Int), (mkAll E k l).2.length = l.length
  | [], k => rfl
  | x :: l, k => by simp [mkAll, mkAll_len E l]

/-- A loop that marks a row. -/
theorem mark_only (L : Int × Int × List β → Option ((Int × Int × List β) ⊕ (Int × Int × List β))) (sm sm' : β → Prop) (c : Nat) (xs : List β) (hx : ∀ x ∈ xs, sm x) (hlen : xs.length ≤ 1048576)
    (k0 : Int) (h0 : 0 ≤ k0) (hb : k0 + (c : Int) * (xs.length : Int) ≤ 4611686018427387904)
    (hstep : ∀ (k : Int) (x : β), 0 ≤ k → k + (c : Int) ≤ 4611686018427387904 → sm x → ∃ k' x', k ≤ k' ∧ k' ≤ k + c ∧ sm' x' ∧
      (∀ (i : Nat) (ys : List β), i < ys.length → ys.length ≤ 1048576 → ys[i]? = some x → L (k, (i : Int), ys) = some (.inl (k', ((i + 1 : Nat) : Int), ys.set i x'))))
    (hL : ∀ (k : Int) (ys : List β), L (k, (ys.length : Int), ys) = some (.inr (k, (ys.length : Int), ys))) :
    ∀ n, xs.length < n → ∃ k' xs', iter n L (k0, 0, xs) = some (k', (xs.length : Int), xs') ∧ xs'.length = xs.length ∧ k0 ≤ k' ∧ k' ≤ k0 + (c : Int) * (xs.length : Int) ∧ (∀ x ∈ xs', sm' x) := by
  intro n hn
  let E : Int → β → Int → β → Prop := fun k x k' x' => k ≤ k' ∧ k' ≤ k + c ∧ sm' x' ∧
      (∀ (i : Nat) (ys : List β), i < ys.length → ys.length ≤ 1048576 → ys[i]? = some x → L (k, (i : Int), ys) = some (.inl (k', ((i + 1 : Nat) : Int), ys.set i x')))
  have hone : ∀ k x, 0 ≤ k → k + (c : Int) ≤ 4611686018427387904 → sm x → E k x (mkOne E k x).1 (mkOne E k x).2 := fun k x h1 h2 h3 => mkOne_ok (hstep k x h1 h2 h3)
  have bnd : ∀ (l : List β) (k : Int), (∀ x ∈ l, sm x) → 0 ≤ k → k + (c : Int) * (l.length : Int) ≤ 4611686018427387904 → k ≤ (mkAll E k l).1 ∧ (mkAll E k l).1 ≤ k + (c : Int) * (l.length : Int) ∧ ∀ y ∈ (mkAll E k l).2, sm' y := by
    intro l
    induction l with
    | nil => intro k _ h1 h2; simp [mkAll]
    | cons x l ih =>
      intro k hs h1 h2
      have hc : (c : Int) * ((x :: l).length : Int) = c + (c : Int) * (l.length : Int) := by simp [Int.mul_add]; omega
      rw [hc] at h2
      have hcl : 0 ≤ (c : Int) * (l.length : Int) := Int.mul_nonneg (by omega) (by omega)
      obtain ⟨e1, e2, e3, _⟩ := hone k x h1 (by omega) (hs x (by simp))
      obtain ⟨i1, i2, i3⟩ := ih (mkOne E k x).1 (fun y hy => hs y (by simp [hy])) (by omega) (by omega)
      refine ⟨?_, ?_, ?_⟩
      · show k ≤ (mkAll E (mkOne E k x).1 l).1; omega
      · show (mkAll E (mkOne E k x).1 l).1 ≤ _
        rw [hc]; omega
      · intro y hy
        rcases List.mem_cons.1 (show y ∈ (mkOne E k x).2 :: (mkAll E (mkOne E k x).1 l).2 from hy) with rfl | hy
        · exact e3
        · exact i3 y hy
  obtain ⟨b1, b2, b3⟩ := bnd xs k0 hx h0 hb
  have hdrop : ∀ i x l, xs.drop i = x :: l → sm x ∧ ∀ y ∈ l, sm y := by
    intro i x l hd
    have : ∀ y ∈ x :: l, sm y := fun y hy => hx y (List.mem_of_mem_drop (hd ▸ hy))
    exact ⟨this x (by simp), fun y hy => this y (by simp [hy])⟩
  refine ⟨(mkAll E k0 xs).1, (mkAll E k0 xs).2, ?_, mkAll_len E xs k0, b1, b2, b3⟩
  have := iter_rec (σ := Int × List β) L (fun i s => (s.1, (i : Int), s.2)) xs (fun l s => ((mkAll E s.1 l).1, (xs.length : Int), s.2.take (xs.length - l.length) ++ (mkAll E s.1 l).2))
      (fun i s => s.2.length = xs.length ∧ s.2.drop i = xs.drop i ∧ 0 ≤ s.1 ∧ s.1 + (c : Int) * ((xs.length - i : Nat) : Int) ≤ 4611686018427387904)
      (fun s hs => by
        have := hL s.1 s.2
        rw [hs.1] at this
        rw [this]
        simp [mkAll, ← hs.1])
      (fun i x l s h1 h2 h3 h4 h5 => by
        left
        obtain ⟨q1, q2, q3, q4⟩ := h5
        have hll : l.length = xs.length - (i + 1) := by rw [← h4]; simp
        have hsub : xs.length - i = (xs.length - (i + 1)) + 1 := by omega
        have hc : (c : Int) * ((xs.length - i : Nat) : Int) = c + (c : Int) * ((xs.length - (i + 1) : Nat) : Int) := by rw [hsub]; simp [Int.mul_add]; omega
        rw [hc] at q4
        have hcl : 0 ≤ (c : Int) * ((xs.length - (i + 1) : Nat) : Int) := Int.mul_nonneg (by omega) (by omega)
        obtain ⟨e1, e2, e3, e4⟩ := hone s.1 x q3 (by omega) (hdrop i x l h3).1
        have hsi : s.2[i]? = some x := by
          have := congrArg (fun l => l[0]?) (q2.trans h3)
          simpa using this
        refine ⟨((mkOne E s.1 x).1, s.2.set i (mkOne E s.1 x).2), e4 i s.2 (by omega) (by omega) hsi, ⟨by simp [q1], ?_, by omega, by omega⟩, ?_⟩
        · show (s.2.set i (mkOne E s.1 x).2).drop (i + 1) = _
          rw [List.drop_set_of_lt (by omega)]
          have := congrArg (List.drop 1) q2
          simpa using this
        · show (((mkAll E (mkOne E s.1 x).1 l).1, (xs.length : Int), s.2.take (xs.length - (l.length + 1)) ++ (mkOne E s.1 x).2 :: (mkAll E (mkOne E s.1 x).1 l).2) : Int × Int × List β) = ((mkAll E (mkOne E s.1 x).1 l).1, (xs.length : Int), (s.2.set i (mkOne E s.1 x).2).take (xs.length - l.length) ++ (mkAll E (mkOne E s.1 x).1 l).2)
          rw [hll, show xs.length - (xs.length - (i + 1) + 1) = i by omega, show xs.length - (xs.length - (i + 1)) = i + 1 by omega]
          rw [List.take_succ_eq_append_getElem (by simp [q1]; exact h1), List.take_set_of_le (Nat.le_refl i)]
          simp)
      n hn (k0, xs) ⟨rfl, rfl, h0, by simpa using hb⟩
  simpa using this

/-- A loop that marks a row, and one that reads the marks. 'c': how much an element counts at most. -/
theorem mark_loop {γ : Type} (L : Int × Int × List β → Option ((Int × Int × List β) ⊕ (Int × Int × List β))) (H : List β → Int × Int → Option ((Int × Int) ⊕ ((Int × Int) ⊕ γ))) (sm sm' : β → Prop) (c : Nat) (xs : List β) (hx : ∀ x ∈ xs, sm x) (hlen : xs.length ≤ 1048576)
    (k0 : Int) (h0 : 0 ≤ k0) (hb : k0 + (c : Int) * (xs.length : Int) ≤ 4611686018427387904)
    (hstep : ∀ (k : Int) (x : β), 0 ≤ k → k + (c : Int) ≤ 4611686018427387904 → sm x → ∃ k' x', k ≤ k' ∧ k' ≤ k + c ∧ sm' x' ∧
      (∀ (i : Nat) (ys : List β), i < ys.length → ys.length ≤ 1048576 → ys[i]? = some x → L (k, (i : Int), ys) = some (.inl (k', ((i + 1 : Nat) : Int), ys.set i x'))) ∧
      (∀ (i : Nat) (ys : List β), i < ys.length → ys.length ≤ 1048576 → ys[i]? = some x' → H ys (k, (i : Int)) = some (.inl (k', ((i + 1 : Nat) : Int)))))
    (hL : ∀ (k : Int) (ys : List β), L (k, (ys.length : Int), ys) = some (.inr (k, (ys.length : Int), ys))) (hH : ∀ (k : Int) (ys : List β), H ys (k, (ys.length : Int)) = some (.inr (.inl (k, (ys.length : Int))))) :
    ∀ n, xs.length < n → ∃ k' xs', iter n L (k0, 0, xs) = some (k', (xs.length : Int), xs') ∧ xs'.length = xs.length ∧ k0 ≤ k' ∧ k' ≤ k0 + (c : Int) * (xs.length : Int) ∧ (∀ x ∈ xs', sm' x) ∧ iter n (H xs') (k0, 0) = some (.inl (k', (xs.length : Int))) := by
  intro n hn
  let E : Int → β → Int → β → Prop := fun k x k' x' => k ≤ k' ∧ k' ≤ k + c ∧ sm' x' ∧
      (∀ (i : Nat) (ys : List β), i < ys.length → ys.length ≤ 1048576 → ys[i]? = some x → L (k, (i : Int), ys) = some (.inl (k', ((i + 1 : Nat) : Int), ys.set i x'))) ∧
      (∀ (i : Nat) (ys : List β), i < ys.length → ys.length ≤ 1048576 → ys[i]? = some x' → H ys (k, (i : Int)) = some (.inl (k', ((i + 1 : Nat) : Int))))
  have hone : ∀ k x, 0 ≤ k → k + (c : Int) ≤ 4611686018427387904 → sm x → E k x (mkOne E k x).1 (mkOne E k x).2 := fun k x h1 h2 h3 => mkOne_ok (hstep k x h1 h2 h3)
  have bnd : ∀ (l : List β) (k : Int), (∀ x ∈ l, sm x) → 0 ≤ k → k + (c : Int) * (l.length : Int) ≤ 4611686018427387904 → k ≤ (mkAll E k l).1 ∧ (mkAll E k l).1 ≤ k + (c : Int) * (l.length : Int) ∧ ∀ y ∈ (mkAll E k l).2, sm' y := by
    intro l
    induction l with
    | nil => intro k _ h1 h2; simp [mkAll]
    | cons x l ih =>
      intro k hs h1 h2
      have hc : (c : Int) * ((x :: l).length : Int) = c + (c : Int) * (l.length : Int) := by simp [Int.mul_add]; omega
      rw [hc] at h2
      have hcl : 0 ≤ (c : Int) * (l.length : Int) := Int.mul_nonneg (by omega) (by omega)
      obtain ⟨e1, e2, e3, _, _⟩ := hone k x h1 (by omega) (hs x (by simp))
      obtain ⟨i1, i2, i3⟩ := ih (mkOne E k x).1 (fun y hy => hs y (by simp [hy])) (by omega) (by omega)
      refine ⟨?_, ?_, ?_⟩
      · show k ≤ (mkAll E (mkOne E k x).1 l).1; omega
      · show (mkAll E (mkOne E k x).1 l).1 ≤ _
        rw [hc]; omega
      · intro y hy
        rcases List.mem_cons.1 (show y ∈ (mkOne E k x).2 :: (mkAll E (mkOne E k x).1 l).2 from hy) with rfl | hy
        · exact e3
        · exact i3 y hy
  obtain ⟨b1, b2, b3⟩ := bnd xs k0 hx h0 hb
  have hdrop : ∀ i x l, xs.drop i = x :: l → sm x ∧ ∀ y ∈ l, sm y := by
    intro i x l hd
    have : ∀ y ∈ x :: l, sm y := fun y hy => hx y (List.mem_of_mem_drop (hd ▸ hy))
    exact ⟨this x (by simp), fun y hy => this y (by simp [hy])⟩
  refine ⟨(mkAll E k0 xs).1, (mkAll E k0 xs).2, ?_, mkAll_len E xs k0, b1, b2, b3, ?_⟩
  · have := iter_rec (σ := Int × List β) L (fun i s => (s.1, (i : Int), s.2)) xs (fun l s => ((mkAll E s.1 l).1, (xs.length : Int), s.2.take (xs.length - l.length) ++ (mkAll E s.1 l).2))
      (fun i s => s.2.length = xs.length ∧ s.2.drop i = xs.drop i ∧ 0 ≤ s.1 ∧ s.1 + (c : Int) * ((xs.length - i : Nat) : Int) ≤ 4611686018427387904)
      (fun s hs => by
        have := hL s.1 s.2
        rw [hs.1] at this
        rw [this]
        simp [mkAll, ← hs.1])
      (fun i x l s h1 h2 h3 h4 h5 => by
        left
        obtain ⟨q1, q2, q3, q4⟩ := h5
        have hll : l.length = xs.length - (i + 1) := by rw [← h4]; simp
        have hsub : xs.length - i = (xs.length - (i + 1)) + 1 := by omega
        have hc : (c : Int) * ((xs.length - i : Nat) : Int) = c + (c : Int) * ((xs.length - (i + 1) : Nat) : Int) := by rw [hsub]; simp [Int.mul_add]; omega
        rw [hc] at q4
        have hcl : 0 ≤ (c : Int) * ((xs.length - (i + 1) : Nat) : Int) := Int.mul_nonneg (by omega) (by omega)
        obtain ⟨e1, e2, e3, e4, e5⟩ := hone s.1 x q3 (by omega) (hdrop i x l h3).1
        have hsi : s.2[i]? = some x := by
          have := congrArg (fun l => l[0]?) (q2.trans h3)
          simpa using this
        refine ⟨((mkOne E s.1 x).1, s.2.set i (mkOne E s.1 x).2), e4 i s.2 (by omega) (by omega) hsi, ⟨by simp [q1], ?_, by omega, by omega⟩, ?_⟩
        · show (s.2.set i (mkOne E s.1 x).2).drop (i + 1) = _
          rw [List.drop_set_of_lt (by omega)]
          have := congrArg (List.drop 1) q2
          simpa using this
        · show (((mkAll E (mkOne E s.1 x).1 l).1, (xs.length : Int), s.2.take (xs.length - (l.length + 1)) ++ (mkOne E s.1 x).2 :: (mkAll E (mkOne E s.1 x).1 l).2) : Int × Int × List β) = ((mkAll E (mkOne E s.1 x).1 l).1, (xs.length : Int), (s.2.set i (mkOne E s.1 x).2).take (xs.length - l.length) ++ (mkAll E (mkOne E s.1 x).1 l).2)
          rw [hll, show xs.length - (xs.length - (i + 1) + 1) = i by omega, show xs.length - (xs.length - (i + 1)) = i + 1 by omega]
          rw [List.take_succ_eq_append_getElem (by simp [q1]; exact h1), List.take_set_of_le (Nat.le_refl i)]
          simp)
      n hn (k0, xs) ⟨rfl, rfl, h0, by simpa using hb⟩
    simpa using this
  · have hxl : (mkAll E k0 xs).2.length = xs.length := mkAll_len E xs k0
    have := iter_rec (σ := Int) (H (mkAll E k0 xs).2) (fun i k => (k, (i : Int))) xs (fun l k => (.inl ((mkAll E k l).1, (xs.length : Int)) : (Int × Int) ⊕ γ))
      (fun i k => (mkAll E k0 xs).2.drop i = (mkAll E k (xs.drop i)).2 ∧ 0 ≤ k ∧ k + (c : Int) * ((xs.length - i : Nat) : Int) ≤ 4611686018427387904)
      (fun k hk => by
        have := hH k (mkAll E k0 xs).2
        rw [hxl] at this
        rw [this]; simp [mkAll])
      (fun i x l k h1 h2 h3 h4 h5 => by
        left
        obtain ⟨q2, q3, q4⟩ := h5
        have hsub : xs.length - i = (xs.length - (i + 1)) + 1 := by omega
        have hc : (c : Int) * ((xs.length - i : Nat) : Int) = c + (c : Int) * ((xs.length - (i + 1) : Nat) : Int) := by rw [hsub]; simp [Int.mul_add]; omega
        rw [hc] at q4
        have hcl : 0 ≤ (c : Int) * ((xs.length - (i + 1) : Nat) : Int) := Int.mul_nonneg (by omega) (by omega)
        obtain ⟨e1, e2, e3, e4, e5⟩ := hone k x q3 (by omega) (hdrop i x l h3).1
        rw [h3] at q2
        have q2 : (mkAll E k0 xs).2.drop i = (mkOne E k x).2 :: (mkAll E (mkOne E k x).1 l).2 := q2
        have hsi : (mkAll E k0 xs).2[i]? = some (mkOne E k x).2 := by
          have := congrArg (fun l => l[0]?) q2
          simpa using this
        refine ⟨(mkOne E k x).1, e5 i _ (by omega) (by omega) hsi, ⟨?_, by omega, by omega⟩, rfl⟩
        have := congrArg (List.drop 1) q2
        rw [h4]
        simpa using this)
      n hn k0 ⟨rfl, h0, by simpa using hb⟩
    simpa using this

/-- A loop that counts how much is left. -/
theorem sz_loop (L : Int × Int → Option ((Int × Int) ⊕ ((Int × Int) ⊕ Int))) (xs : List β) (sm : β → Prop)
    (hstep : ∀ (i : Nat) (x : β) (left : Int), i < xs.length → xs[i]? = some x → 0 ≤ left → left ≤ 1048576 → (∃ r, L (left, (i : Int)) = some (.inl (r, ((i + 1 : Nat) : Int))) ∧ 0 ≤ r ∧ r ≤ left ∧ sm x) ∨ ∃ r, L (left, (i : Int)) = some (.inr (.inr r)) ∧ r < 0)
    (hend : ∀ left, L (left, (xs.length : Int)) = some (.inr (.inl (left, (xs.length : Int))))) : ∀ n, xs.length < n → ∀ left : Int, 0 ≤ left → left ≤ 1048576 →
    (∃ r, iter n L (left, 0) = some (.inr r) ∧ r < 0) ∨ ∃ r, iter n L (left, 0) = some (.inl (r, (xs.length : Int))) ∧ 0 ≤ r ∧ r ≤ left ∧ ∀ x ∈ xs, sm x := by
  have key : ∀ d i n (left : Int), i + d = xs.length → d < n → 0 ≤ left → left ≤ 1048576 → (∃ r, iter n L (left, (i : Int)) = some (.inr r) ∧ r < 0) ∨ ∃ r, iter n L (left, (i : Int)) = some (.inl (r, (xs.length : Int))) ∧ 0 ≤ r ∧ r ≤ left ∧ ∀ x ∈ xs.drop i, sm x := by
    intro d
    induction d with
    | zero =>
      intro i n left hi hn h0 h1
      obtain ⟨n, rfl⟩ : ∃ k, n = k + 1 := ⟨n - 1, by omega⟩
      have : i = xs.length := by omega
      subst this
      exact .inr ⟨left, iter_end (hend left) n, h0, Int.le_refl _, by simp⟩
    | succ d ih =>
      intro i n left hi hn h0 h1
      obtain ⟨n, rfl⟩ : ∃ k, n = k + 1 := ⟨n - 1, by omega⟩
      have hlt : i < xs.length := by omega
      rcases hstep i xs[i] left hlt (List.getElem?_eq_getElem hlt) h0 h1 with ⟨r, e, r0, r1, hs⟩ | ⟨r, e, r0⟩
      · rw [iter_go e n]
        rcases ih (i + 1) n r (by omega) (by omega) r0 (by omega) with ⟨q, e2, q0⟩ | ⟨q, e2, q0, q1, q2⟩
        · exact .inl ⟨q, e2, q0⟩
        · refine .inr ⟨q, e2, q0, by omega, ?_⟩
          rw [List.drop_eq_getElem_cons hlt]
          intro x hx
          rcases List.mem_cons.1 hx with rfl | hx
          · exact hs
          · exact q2 x hx
      · exact .inl ⟨r, iter_end e n, r0⟩
  intro n hn left h0 h1
  have := key xs.length 0 n left (by omega) hn h0 h1
  simpa using this
end

theorem make_ok (m : Nat) (h : m ≤ 1048576) : (decide (0 ≤ (m : Int)) && decide ((m : Int) ≤ (maxRow : Int)) && decide ((m : Int) = (m : Int))) = true := by
  have hm : maxRow = 68719476736 := rfl
  have h2 : decide ((m : Int) ≤ (maxRow : Int)) = true := by rw [hm]; simp; omega
  rw [h2]; simp
theorem modify_set {α : Type} (xs : List α) (i : Nat) (f : α → α) (h : i < xs.length) : List.modify xs i f = xs.set i (f xs[i]) := by
  apply List.ext_getElem
  · simp
  · intro j h1 h2
    rw [List.getElem_modify, List.getElem_set]
    by_cases e : i = j
    · subst e; simp
    · simp [e]


def sm_ItemS (a : List (Int × Int)) : Prop := a.length ≤ 1048576

def sm_PickS (a : List (Int × Int × Int)) : Prop := a.length ≤ 1048576

def sm_Order (a : Int × Int × (List (Int × Int)) × (List (Int × Int × Int)) × Int) : Prop := sm_ItemS a.2.2.1 ∧ sm_PickS a.2.2.2.1

def sm_OrderS (a : List (Int × Int × (List (Int × Int)) × (List (Int × Int × Int)) × Int)) : Prop := a.length ≤ 1048576 ∧ ∀ y ∈ a, sm_Order y

def sm_Book (a : Int × (List (Int × Int × (List (Int × Int)) × (List (Int × Int × Int)) × Int))) : Prop := sm_OrderS a.2

theorem laws_toItemS_ok (a : List (Int × Int)) (h : sm_ItemS a) (n : Nat) (hn : BIG ≤ n) : laws_toItemS n a = some a := by
  have hl : a.length ≤ 1048576 := h
  have hc := copy_ok (laws_toItemS_L1 a) a ((0, 0) : Int × Int) (fun i hi out ho => by
    simp [laws_toItemS_L1, hi, getI_lt hi, laws_toItem, inb_lt (xs := out) (by omega : i < out.length), w64_nat hi (by omega), upd_is]) (fun out => by
    simp [laws_toItemS_L1]) n (by unfold BIG at hn; omega)
  unfold laws_toItemS
  rw [make_ok a.length hl, cond_true, show Int.toNat (a.length : Int) = a.length by simp, hc]
  rfl


theorem laws_toPickS_ok (a : List (Int × Int × Int)) (h : sm_PickS a) (n : Nat) (hn : BIG ≤ n) : laws_toPickS n a = some a := by
  have hl : a.length ≤ 1048576 := h
  have hc := copy_ok (laws_toPickS_L1 a) a ((0, 0, 0) : Int × Int × Int) (fun i hi out ho => by
    simp [laws_toPickS_L1, hi, getI_lt hi, laws_toPick, inb_lt (xs := out) (by omega : i < out.length), w64_nat hi (by omega), upd_is]) (fun out => by
    simp [laws_toPickS_L1]) n (by unfold BIG at hn; omega)
  unfold laws_toPickS
  rw [make_ok a.length hl, cond_true, show Int.toNat (a.length : Int) = a.length by simp, hc]
  rfl


theorem laws_toOrder_ok (a : Int × Int × (List (Int × Int)) × (List (Int × Int × Int)) × Int) (h : sm_Order a) (n : Nat) (hn : BIG ≤ n) : laws_toOrder n a.1 a.2.1 a.2.2.1 a.2.2.2.1 a.2.2.2.2 = some a := by
  unfold laws_toOrder
  unfold sm_Order at h
  simp [laws_toItemS_ok a.2.2.1 h.1 n hn, laws_toPickS_ok a.2.2.2.1 h.2 n hn]


theorem laws_toOrderS_ok (a : List (Int × Int × (List (Int × Int)) × (List (Int × Int × Int)) × Int)) (h : sm_OrderS a) (n : Nat) (hn : BIG ≤ n) : laws_toOrderS n a = some a := by
  have hl : a.length ≤ 1048576 := h.1
  have hc := copy_ok (laws_toOrderS_L1 n a) a ((0, 0, ([] : List (Int × Int)), ([] : List (Int × Int × Int)), 0) : Int × Int × (List (Int × Int)) × (List (Int × Int × Int)) × Int) (fun i hi out ho => by
    have he := laws_toOrder_ok a[i] (h.2 _ (List.getElem_mem hi)) n hn
    simp [laws_toOrderS_L1, hi, getI_lt hi, he, inb_lt (xs := out) (by omega : i < out.length), w64_nat hi (by omega), upd_is]) (fun out => by
    simp [laws_toOrderS_L1]) n (by unfold BIG at hn; omega)
  unfold laws_toOrderS
  rw [make_ok a.length hl, cond_true, show Int.toNat (a.length : Int) = a.length by simp, hc]
  rfl


theorem laws_toBook_ok (a : Int × (List (Int × Int × (List (Int × Int)) × (List (Int × Int × Int)) × Int))) (h : sm_Book a) (n : Nat) (hn : BIG ≤ n) : laws_toBook n a.1 a.2 = some a := by
  unfold laws_toBook
  unfold sm_Book at h
  simp [laws_toOrderS_ok a.2 h n hn]


theorem laws_eqItemS_ok (a : List (Int × Int)) (h : sm_ItemS a) (n : Nat) (hn : BIG ≤ n) : laws_eqItemS n a a = some true := by
  have hl : a.length ≤ 1048576 := h
  have hc := iter_steps (laws_eqItemS_L1 a a) (fun i => (i : Int)) a.length (.inl (a.length : Int)) (fun i hi => by
    simp [laws_eqItemS_L1, hi, getI_lt hi, laws_eqItem, w64_nat hi (by omega)]) (by simp [laws_eqItemS_L1]) n (by unfold BIG at hn; omega)
  unfold laws_eqItemS
  rw [show ((a.length : Int) != (a.length : Int)) = false by simp, cond_false]
  rw [show ((0 : Nat) : Int) = 0 from rfl] at hc
  rw [hc]; rfl


theorem laws_eqPickS_ok (a : List (Int × Int × Int)) (h : sm_PickS a) (n : Nat) (hn : BIG ≤ n) : laws_eqPickS n a a = some true := by
  have hl : a.length ≤ 1048576 := h
  have hc := iter_steps (laws_eqPickS_L1 a a) (fun i => (i : Int)) a.length (.inl (a.length : Int)) (fun i hi => by
    simp [laws_eqPickS_L1, hi, getI_lt hi, laws_eqPick, w64_nat hi (by omega)]) (by simp [laws_eqPickS_L1]) n (by unfold BIG at hn; omega)
  unfold laws_eqPickS
  rw [show ((a.length : Int) != (a.length : Int)) = false by simp, cond_false]
  rw [show ((0 : Nat) : Int) = 0 from rfl] at hc
  rw [hc]; rfl


theorem laws_eqOrder_ok (a : Int × Int × (List (Int × Int)) × (List (Int × Int × Int)) × Int) (h : sm_Order a) (n : Nat) (hn : BIG ≤ n) : laws_eqOrder n a.1 a.2.1 a.2.2.1 a.2.2.2.1 a.2.2.2.2 a.1 a.2.1 a.2.2.1 a.2.2.2.1 a.2.2.2.2 = some true := by
  unfold laws_eqOrder
  unfold sm_Order at h
  simp [laws_eqItemS_ok a.2.2.1 h.1 n hn, laws_eqPickS_ok a.2.2.2.1 h.2 n hn]


theorem laws_eqOrderS_ok (a : List (Int × Int × (List (Int × Int)) × (List (Int × Int × Int)) × Int)) (h : sm_OrderS a) (n : Nat) (hn : BIG ≤ n) : laws_eqOrderS n a a = some true := by
  have hl : a.length ≤ 1048576 := h.1
  have hc := iter_steps (laws_eqOrderS_L1 n a a) (fun i => (i : Int)) a.length (.inl (a.length : Int)) (fun i hi => by
    have he := laws_eqOrder_ok a[i] (h.2 _ (List.getElem_mem hi)) n hn
    simp [laws_eqOrderS_L1, hi, getI_lt hi, he, w64_nat hi (by omega)]) (by simp [laws_eqOrderS_L1]) n (by unfold BIG at hn; omega)
  unfold laws_eqOrderS
  rw [show ((a.length : Int) != (a.length : Int)) = false by simp, cond_false]
  rw [show ((0 : Nat) : Int) = 0 from rfl] at hc
  rw [hc]; rfl


theorem laws_eqBook_ok (a : Int × (List (Int × Int × (List (Int × Int)) × (List (Int × Int × Int)) × Int))) (h : sm_Book a) (n : Nat) (hn : BIG ≤ n) : laws_eqBook n a.1 a.2 a.1 a.2 = some true := by
  unfold laws_eqBook
  unfold sm_Book at h
  simp [laws_eqOrderS_ok a.2 h n hn]


theorem laws_szItemS_ok (a : List (Int × Int)) (hf : (fSl (fP fI fI)) a) (left : Int) (h0 : 0 ≤ left) (h1 : left ≤ 1048576) : ∃ r, laws_szItemS a left = some r ∧ (r < 0 ∨ (0 ≤ r ∧ r ≤ left ∧ sm_ItemS a)) := by
  have hm := fSl_len hf
  unfold laws_szItemS sm_ItemS
  rw [w64_eq (n := left - (a.length : Int)) (by omega) (by omega)]
  by_cases hl : left - (a.length : Int) < 0
  · rw [show decide (left - (a.length : Int) < 0) = true by simpa using hl]; exact ⟨_, rfl, .inl (by omega)⟩
  · rw [show decide (left - (a.length : Int) < 0) = false by simpa using hl]; exact ⟨_, rfl, .inr ⟨by omega, by omega, by omega⟩⟩


theorem laws_szPickS_ok (a : List (Int × Int × Int)) (hf : (fSl (fP fI (fP fI fI))) a) (left : Int) (h0 : 0 ≤ left) (h1 : left ≤ 1048576) : ∃ r, laws_szPickS a left = some r ∧ (r < 0 ∨ (0 ≤ r ∧ r ≤ left ∧ sm_PickS a)) := by
  have hm := fSl_len hf
  unfold laws_szPickS sm_PickS
  rw [w64_eq (n := left - (a.length : Int)) (by omega) (by omega)]
  by_cases hl : left - (a.length : Int) < 0
  · rw [show decide (left - (a.length : Int) < 0) = true by simpa using hl]; exact ⟨_, rfl, .inl (by omega)⟩
  · rw [show decide (left - (a.length : Int) < 0) = false by simpa using hl]; exact ⟨_, rfl, .inr ⟨by omega, by omega, by omega⟩⟩


theorem laws_szOrder_ok (a : Int × Int × (List (Int × Int)) × (List (Int × Int × Int)) × Int) (hf : (fP fI (fP fI (fP (fSl (fP fI fI)) (fP (fSl (fP fI (fP fI fI))) fI)))) a) (left : Int) (h0 : 0 ≤ left) (h1 : left ≤ 1048576) : ∃ r, laws_szOrder a.1 a.2.1 a.2.2.1 a.2.2.2.1 a.2.2.2.2 left = some r ∧ (r < 0 ∨ (0 ≤ r ∧ r ≤ left ∧ sm_Order a)) := by
  unfold laws_szOrder sm_Order
  obtain ⟨r0, e0, q0⟩ := laws_szItemS_ok a.2.2.1 hf.2.2.1 left h0 h1
  rw [e0]; simp only [Option.bind_some]
  rcases q0 with q0 | ⟨p0, s0, t0⟩
  · rw [show decide (r0 < 0) = true by simpa using q0]; exact ⟨_, rfl, .inl (by omega)⟩
  rw [show decide (r0 < 0) = false by simp; omega]; simp only [cond_false]
  obtain ⟨r1, e1, q1⟩ := laws_szPickS_ok a.2.2.2.1 hf.2.2.2.1 r0 p0 (by omega)
  rw [e1]; simp only [Option.bind_some]
  rcases q1 with q1 | ⟨p1, s1, t1⟩
  · rw [show decide (r1 < 0) = true by simpa using q1]; exact ⟨_, rfl, .inl (by omega)⟩
  rw [show decide (r1 < 0) = false by simp; omega]; simp only [cond_false]
  exact ⟨_, rfl, .inr ⟨by omega, by omega, ⟨t0, t1⟩⟩⟩


theorem laws_szOrderS_ok (a : List (Int × Int × (List (Int × Int)) × (List (Int × Int × Int)) × Int)) (hf : (fSl (fP fI (fP fI (fP (fSl (fP fI fI)) (fP (fSl (fP fI (fP fI fI))) fI))))) a) (left : Int) (h0 : 0 ≤ left) (h1 : left ≤ 1048576) (n : Nat) (hn : BIG ≤ n) : ∃ r, laws_szOrderS n a left = some r ∧ (r < 0 ∨ (0 ≤ r ∧ r ≤ left ∧ sm_OrderS a)) := by
  have hm := fSl_len hf
  unfold laws_szOrderS sm_OrderS
  rw [w64_eq (n := left - (a.length : Int)) (by omega) (by omega)]
  by_cases hl : left - (a.length : Int) < 0
  · rw [show decide (left - (a.length : Int) < 0) = true by simpa using hl]; exact ⟨_, rfl, .inl (by omega)⟩
  rw [show decide (left - (a.length : Int) < 0) = false by simpa using hl, cond_false]
  have hs := sz_loop (laws_szOrderS_L1 a) a (sm_Order) (fun i x left hi hx l0 l1 => by
    have hx' : a[i] = x := by rw [List.getElem?_eq_getElem hi] at hx; exact Option.some.inj hx
    obtain ⟨r, e, q⟩ := laws_szOrder_ok x (fSl_mem hf (hx' ▸ List.getElem_mem hi)) left l0 l1
    have hw : w64 ((i : Int) + 1) = ((i + 1 : Nat) : Int) := w64_nat hi (by omega)
    unfold laws_szOrderS_L1
    rw [show decide ((i : Int) < (a.length : Int)) = true by simpa using hi, cond_true, getI_lt hi, Option.bind_some, hx', e, Option.bind_some, hw]
    rcases q with q | ⟨q0, q1, q2⟩
    · rw [show decide (r < 0) = true by simpa using q]; exact .inr ⟨-1, rfl, by omega⟩
    · rw [show decide (r < 0) = false by simp; omega]; exact .inl ⟨r, rfl, q0, q1, q2⟩) (fun left => by simp [laws_szOrderS_L1]) n (by unfold BIG at hn; omega) (left - (a.length : Int)) (by omega) (by omega)
  rcases hs with ⟨r, e, q⟩ | ⟨r, e, q0, q1, q2⟩
  · rw [e]; exact ⟨r, rfl, .inl q⟩
  · rw [e]; exact ⟨r, rfl, .inr ⟨q0, by omega, by omega, q2⟩⟩


theorem laws_szBook_ok (a : Int × (List (Int × Int × (List (Int × Int)) × (List (Int × Int × Int)) × Int))) (hf : (fP fI (fSl (fP fI (fP fI (fP (fSl (fP fI fI)) (fP (fSl (fP fI (fP fI fI))) fI)))))) a) (left : Int) (h0 : 0 ≤ left) (h1 : left ≤ 1048576) (n : Nat) (hn : BIG ≤ n) : ∃ r, laws_szBook n a.1 a.2 left = some r ∧ (r < 0 ∨ (0 ≤ r ∧ r ≤ left ∧ sm_Book a)) := by
  unfold laws_szBook sm_Book
  obtain ⟨r0, e0, q0⟩ := laws_szOrderS_ok a.2 hf.2 left h0 h1 n hn
  rw [e0]; simp only [Option.bind_some]
  rcases q0 with q0 | ⟨p0, s0, t0⟩
  · rw [show decide (r0 < 0) = true by simpa using q0]; exact ⟨_, rfl, .inl (by omega)⟩
  rw [show decide (r0 < 0) = false by simp; omega]; simp only [cond_false]
  exact ⟨_, rfl, .inr ⟨by omega, by omega, t0⟩⟩


def sm_IntS (a : List Int) : Prop := a.length ≤ 1048576

def sm_Floor (a : Int × Int × (List Int)) : Prop := sm_IntS a.2.2

def sm_StackS (a : List (Int × Int × Int)) : Prop := a.length ≤ 1048576

def sm_Pod (a : Int × Int × (List (Int × Int × Int))) : Prop := sm_StackS a.2.2

def sm_PodS (a : List (Int × Int × (List (Int × Int × Int)))) : Prop := a.length ≤ 1048576 ∧ ∀ y ∈ a, sm_Pod y

def sm_Stock (a : (List (Int × Int × (List (Int × Int × Int))))) : Prop := sm_PodS a

def sm_RobotS (a : List (Int × Int × Int × Bool × Int)) : Prop := a.length ≤ 1048576

def sm_TaskS (a : List (Int × Int × Int × Int)) : Prop := a.length ≤ 1048576

def sm_Depot (a : Int × Int × (List Int) × (List (Int × Int × (List (Int × Int × Int)))) × Int × (List (Int × Int × (List (Int × Int)) × (List (Int × Int × Int)) × Int)) × (List (Int × Int × Int × Bool × Int)) × (List (Int × Int × Int × Int)) × (List Int) × (List Int) × Int) : Prop := sm_Floor (a.1, a.2.1, a.2.2.1) ∧ sm_Stock a.2.2.2.1 ∧ sm_Book (a.2.2.2.2.1, a.2.2.2.2.2.1) ∧ sm_RobotS a.2.2.2.2.2.2.1 ∧ sm_TaskS a.2.2.2.2.2.2.2.1 ∧ sm_IntS a.2.2.2.2.2.2.2.2.1 ∧ sm_IntS a.2.2.2.2.2.2.2.2.2.1

theorem laws_toIntS_ok (a : List Int) (h : sm_IntS a) (n : Nat) (hn : BIG ≤ n) : laws_toIntS n a = some a := by
  have hl : a.length ≤ 1048576 := h
  have hc := copy_ok (laws_toIntS_L1 a) a (0 : Int) (fun i hi out ho => by
    simp [laws_toIntS_L1, hi, getI_lt hi, inb_lt (xs := out) (by omega : i < out.length), w64_nat hi (by omega), upd_is]) (fun out => by
    simp [laws_toIntS_L1]) n (by unfold BIG at hn; omega)
  unfold laws_toIntS
  rw [make_ok a.length hl, cond_true, show Int.toNat (a.length : Int) = a.length by simp, hc]
  rfl


theorem laws_toFloor_ok (a : Int × Int × (List Int)) (h : sm_Floor a) (n : Nat) (hn : BIG ≤ n) : laws_toFloor n a.1 a.2.1 a.2.2 = some a := by
  unfold laws_toFloor
  unfold sm_Floor at h
  simp [laws_toIntS_ok a.2.2 h n hn]


theorem laws_toStackS_ok (a : List (Int × Int × Int)) (h : sm_StackS a) (n : Nat) (hn : BIG ≤ n) : laws_toStackS n a = some a := by
  have hl : a.length ≤ 1048576 := h
  have hc := copy_ok (laws_toStackS_L1 a) a ((0, 0, 0) : Int × Int × Int) (fun i hi out ho => by
    simp [laws_toStackS_L1, hi, getI_lt hi, laws_toStack, inb_lt (xs := out) (by omega : i < out.length), w64_nat hi (by omega), upd_is]) (fun out => by
    simp [laws_toStackS_L1]) n (by unfold BIG at hn; omega)
  unfold laws_toStackS
  rw [make_ok a.length hl, cond_true, show Int.toNat (a.length : Int) = a.length by simp, hc]
  rfl


theorem laws_toPod_ok (a : Int × Int × (List (Int × Int × Int))) (h : sm_Pod a) (n : Nat) (hn : BIG ≤ n) : laws_toPod n a.1 a.2.1 a.2.2 = some a := by
  unfold laws_toPod
  unfold sm_Pod at h
  simp [laws_toStackS_ok a.2.2 h n hn]


theorem laws_toPodS_ok (a : List (Int × Int × (List (Int × Int × Int)))) (h : sm_PodS a) (n : Nat) (hn : BIG ≤ n) : laws_toPodS n a = some a := by
  have hl : a.length ≤ 1048576 := h.1
  have hc := copy_ok (laws_toPodS_L1 n a) a ((0, 0, ([] : List (Int × Int × Int))) : Int × Int × (List (Int × Int × Int))) (fun i hi out ho => by
    have he := laws_toPod_ok a[i] (h.2 _ (List.getElem_mem hi)) n hn
    simp [laws_toPodS_L1, hi, getI_lt hi, he, inb_lt (xs := out) (by omega : i < out.length), w64_nat hi (by omega), upd_is]) (fun out => by
    simp [laws_toPodS_L1]) n (by unfold BIG at hn; omega)
  unfold laws_toPodS
  rw [make_ok a.length hl, cond_true, show Int.toNat (a.length : Int) = a.length by simp, hc]
  rfl


theorem laws_toStock_ok (a : (List (Int × Int × (List (Int × Int × Int))))) (h : sm_Stock a) (n : Nat) (hn : BIG ≤ n) : laws_toStock n a = some a := by
  unfold laws_toStock
  unfold sm_Stock at h
  simp [laws_toPodS_ok a h n hn]


theorem laws_toRobotS_ok (a : List (Int × Int × Int × Bool × Int)) (h : sm_RobotS a) (n : Nat) (hn : BIG ≤ n) : laws_toRobotS n a = some a := by
  have hl : a.length ≤ 1048576 := h
  have hc := copy_ok (laws_toRobotS_L1 a) a ((0, 0, 0, false, 0) : Int × Int × Int × Bool × Int) (fun i hi out ho => by
    simp [laws_toRobotS_L1, hi, getI_lt hi, laws_toRobot, inb_lt (xs := out) (by omega : i < out.length), w64_nat hi (by omega), upd_is]) (fun out => by
    simp [laws_toRobotS_L1]) n (by unfold BIG at hn; omega)
  unfold laws_toRobotS
  rw [make_ok a.length hl, cond_true, show Int.toNat (a.length : Int) = a.length by simp, hc]
  rfl


theorem laws_toTaskS_ok (a : List (Int × Int × Int × Int)) (h : sm_TaskS a) (n : Nat) (hn : BIG ≤ n) : laws_toTaskS n a = some a := by
  have hl : a.length ≤ 1048576 := h
  have hc := copy_ok (laws_toTaskS_L1 a) a ((0, 0, 0, 0) : Int × Int × Int × Int) (fun i hi out ho => by
    simp [laws_toTaskS_L1, hi, getI_lt hi, laws_toTask, inb_lt (xs := out) (by omega : i < out.length), w64_nat hi (by omega), upd_is]) (fun out => by
    simp [laws_toTaskS_L1]) n (by unfold BIG at hn; omega)
  unfold laws_toTaskS
  rw [make_ok a.length hl, cond_true, show Int.toNat (a.length : Int) = a.length by simp, hc]
  rfl


theorem laws_toDepot_ok (a : Int × Int × (List Int) × (List (Int × Int × (List (Int × Int × Int)))) × Int × (List (Int × Int × (List (Int × Int)) × (List (Int × Int × Int)) × Int)) × (List (Int × Int × Int × Bool × Int)) × (List (Int × Int × Int × Int)) × (List Int) × (List Int) × Int) (h : sm_Depot a) (n : Nat) (hn : BIG ≤ n) : laws_toDepot n a.1 a.2.1 a.2.2.1 a.2.2.2.1 a.2.2.2.2.1 a.2.2.2.2.2.1 a.2.2.2.2.2.2.1 a.2.2.2.2.2.2.2.1 a.2.2.2.2.2.2.2.2.1 a.2.2.2.2.2.2.2.2.2.1 a.2.2.2.2.2.2.2.2.2.2 = some a := by
  unfold laws_toDepot
  unfold sm_Depot at h
  simp [laws_toFloor_ok (a.1, a.2.1, a.2.2.1) h.1 n hn, laws_toStock_ok a.2.2.2.1 h.2.1 n hn, laws_toBook_ok (a.2.2.2.2.1, a.2.2.2.2.2.1) h.2.2.1 n hn, laws_toRobotS_ok a.2.2.2.2.2.2.1 h.2.2.2.1 n hn, laws_toTaskS_ok a.2.2.2.2.2.2.2.1 h.2.2.2.2.1 n hn, laws_toIntS_ok a.2.2.2.2.2.2.2.2.1 h.2.2.2.2.2.1 n hn, laws_toIntS_ok a.2.2.2.2.2.2.2.2.2.1 h.2.2.2.2.2.2 n hn]


theorem laws_eqIntS_ok (a : List Int) (h : sm_IntS a) (n : Nat) (hn : BIG ≤ n) : laws_eqIntS n a a = some true := by
  have hl : a.length ≤ 1048576 := h
  have hc := iter_steps (laws_eqIntS_L1 a a) (fun i => (i : Int)) a.length (.inl (a.length : Int)) (fun i hi => by
    simp [laws_eqIntS_L1, hi, getI_lt hi, w64_nat hi (by omega)]) (by simp [laws_eqIntS_L1]) n (by unfold BIG at hn; omega)
  unfold laws_eqIntS
  rw [show ((a.length : Int) != (a.length : Int)) = false by simp, cond_false]
  rw [show ((0 : Nat) : Int) = 0 from rfl] at hc
  rw [hc]; rfl


theorem laws_eqFloor_ok (a : Int × Int × (List Int)) (h : sm_Floor a) (n : Nat) (hn : BIG ≤ n) : laws_eqFloor n a.1 a.2.1 a.2.2 a.1 a.2.1 a.2.2 = some true := by
  unfold laws_eqFloor
  unfold sm_Floor at h
  simp [laws_eqIntS_ok a.2.2 h n hn]


theorem laws_eqStackS_ok (a : List (Int × Int × Int)) (h : sm_StackS a) (n : Nat) (hn : BIG ≤ n) : laws_eqStackS n a a = some true := by
  have hl : a.length ≤ 1048576 := h
  have hc := iter_steps (laws_eqStackS_L1 a a) (fun i => (i : Int)) a.length (.inl (a.length : Int)) (fun i hi => by
    simp [laws_eqStackS_L1, hi, getI_lt hi, laws_eqStack, w64_nat hi (by omega)]) (by simp [laws_eqStackS_L1]) n (by unfold BIG at hn; omega)
  unfold laws_eqStackS
  rw [show ((a.length : Int) != (a.length : Int)) = false by simp, cond_false]
  rw [show ((0 : Nat) : Int) = 0 from rfl] at hc
  rw [hc]; rfl


theorem laws_eqPod_ok (a : Int × Int × (List (Int × Int × Int))) (h : sm_Pod a) (n : Nat) (hn : BIG ≤ n) : laws_eqPod n a.1 a.2.1 a.2.2 a.1 a.2.1 a.2.2 = some true := by
  unfold laws_eqPod
  unfold sm_Pod at h
  simp [laws_eqStackS_ok a.2.2 h n hn]


theorem laws_eqPodS_ok (a : List (Int × Int × (List (Int × Int × Int)))) (h : sm_PodS a) (n : Nat) (hn : BIG ≤ n) : laws_eqPodS n a a = some true := by
  have hl : a.length ≤ 1048576 := h.1
  have hc := iter_steps (laws_eqPodS_L1 n a a) (fun i => (i : Int)) a.length (.inl (a.length : Int)) (fun i hi => by
    have he := laws_eqPod_ok a[i] (h.2 _ (List.getElem_mem hi)) n hn
    simp [laws_eqPodS_L1, hi, getI_lt hi, he, w64_nat hi (by omega)]) (by simp [laws_eqPodS_L1]) n (by unfold BIG at hn; omega)
  unfold laws_eqPodS
  rw [show ((a.length : Int) != (a.length : Int)) = false by simp, cond_false]
  rw [show ((0 : Nat) : Int) = 0 from rfl] at hc
  rw [hc]; rfl


theorem laws_eqStock_ok (a : (List (Int × Int × (List (Int × Int × Int))))) (h : sm_Stock a) (n : Nat) (hn : BIG ≤ n) : laws_eqStock n a a = some true := by
  unfold laws_eqStock
  unfold sm_Stock at h
  simp [laws_eqPodS_ok a h n hn]


theorem laws_eqRobotS_ok (a : List (Int × Int × Int × Bool × Int)) (h : sm_RobotS a) (n : Nat) (hn : BIG ≤ n) : laws_eqRobotS n a a = some true := by
  have hl : a.length ≤ 1048576 := h
  have hc := iter_steps (laws_eqRobotS_L1 a a) (fun i => (i : Int)) a.length (.inl (a.length : Int)) (fun i hi => by
    simp [laws_eqRobotS_L1, hi, getI_lt hi, laws_eqRobot, w64_nat hi (by omega)]) (by simp [laws_eqRobotS_L1]) n (by unfold BIG at hn; omega)
  unfold laws_eqRobotS
  rw [show ((a.length : Int) != (a.length : Int)) = false by simp, cond_false]
  rw [show ((0 : Nat) : Int) = 0 from rfl] at hc
  rw [hc]; rfl


theorem laws_eqTaskS_ok (a : List (Int × Int × Int × Int)) (h : sm_TaskS a) (n : Nat) (hn : BIG ≤ n) : laws_eqTaskS n a a = some true := by
  have hl : a.length ≤ 1048576 := h
  have hc := iter_steps (laws_eqTaskS_L1 a a) (fun i => (i : Int)) a.length (.inl (a.length : Int)) (fun i hi => by
    simp [laws_eqTaskS_L1, hi, getI_lt hi, laws_eqTask, w64_nat hi (by omega)]) (by simp [laws_eqTaskS_L1]) n (by unfold BIG at hn; omega)
  unfold laws_eqTaskS
  rw [show ((a.length : Int) != (a.length : Int)) = false by simp, cond_false]
  rw [show ((0 : Nat) : Int) = 0 from rfl] at hc
  rw [hc]; rfl


theorem laws_eqDepot_ok (a : Int × Int × (List Int) × (List (Int × Int × (List (Int × Int × Int)))) × Int × (List (Int × Int × (List (Int × Int)) × (List (Int × Int × Int)) × Int)) × (List (Int × Int × Int × Bool × Int)) × (List (Int × Int × Int × Int)) × (List Int) × (List Int) × Int) (h : sm_Depot a) (n : Nat) (hn : BIG ≤ n) : laws_eqDepot n a.1 a.2.1 a.2.2.1 a.2.2.2.1 a.2.2.2.2.1 a.2.2.2.2.2.1 a.2.2.2.2.2.2.1 a.2.2.2.2.2.2.2.1 a.2.2.2.2.2.2.2.2.1 a.2.2.2.2.2.2.2.2.2.1 a.2.2.2.2.2.2.2.2.2.2 a.1 a.2.1 a.2.2.1 a.2.2.2.1 a.2.2.2.2.1 a.2.2.2.2.2.1 a.2.2.2.2.2.2.1 a.2.2.2.2.2.2.2.1 a.2.2.2.2.2.2.2.2.1 a.2.2.2.2.2.2.2.2.2.1 a.2.2.2.2.2.2.2.2.2.2 = some true := by
  unfold laws_eqDepot
  unfold sm_Depot at h
  simp [laws_eqFloor_ok (a.1, a.2.1, a.2.2.1) h.1 n hn, laws_eqStock_ok a.2.2.2.1 h.2.1 n hn, laws_eqBook_ok (a.2.2.2.2.1, a.2.2.2.2.2.1) h.2.2.1 n hn, laws_eqRobotS_ok a.2.2.2.2.2.2.1 h.2.2.2.1 n hn, laws_eqTaskS_ok a.2.2.2.2.2.2.2.1 h.2.2.2.2.1 n hn, laws_eqIntS_ok a.2.2.2.2.2.2.2.2.1 h.2.2.2.2.2.1 n hn, laws_eqIntS_ok a.2.2.2.2.2.2.2.2.2.1 h.2.2.2.2.2.2 n hn]


theorem laws_szIntS_ok (a : List Int) (hf : (fSl fI) a) (left : Int) (h0 : 0 ≤ left) (h1 : left ≤ 1048576) : ∃ r, laws_szIntS a left = some r ∧ (r < 0 ∨ (0 ≤ r ∧ r ≤ left ∧ sm_IntS a)) := by
  have hm := fSl_len hf
  unfold laws_szIntS sm_IntS
  rw [w64_eq (n := left - (a.length : Int)) (by omega) (by omega)]
  by_cases hl : left - (a.length : Int) < 0
  · rw [show decide (left - (a.length : Int) < 0) = true by simpa using hl]; exact ⟨_, rfl, .inl (by omega)⟩
  · rw [show decide (left - (a.length : Int) < 0) = false by simpa using hl]; exact ⟨_, rfl, .inr ⟨by omega, by omega, by omega⟩⟩


theorem laws_szFloor_ok (a : Int × Int × (List Int)) (hf : (fP fI (fP fI (fSl fI))) a) (left : Int) (h0 : 0 ≤ left) (h1 : left ≤ 1048576) : ∃ r, laws_szFloor a.1 a.2.1 a.2.2 left = some r ∧ (r < 0 ∨ (0 ≤ r ∧ r ≤ left ∧ sm_Floor a)) := by
  unfold laws_szFloor sm_Floor
  obtain ⟨r0, e0, q0⟩ := laws_szIntS_ok a.2.2 hf.2.2 left h0 h1
  rw [e0]; simp only [Option.bind_some]
  rcases q0 with q0 | ⟨p0, s0, t0⟩
  · rw [show decide (r0 < 0) = true by simpa using q0]; exact ⟨_, rfl, .inl (by omega)⟩
  rw [show decide (r0 < 0) = false by simp; omega]; simp only [cond_false]
  exact ⟨_, rfl, .inr ⟨by omega, by omega, t0⟩⟩


theorem laws_szStackS_ok (a : List (Int × Int × Int)) (hf : (fSl (fP fI (fP fI fI))) a) (left : Int) (h0 : 0 ≤ left) (h1 : left ≤ 1048576) : ∃ r, laws_szStackS a left = some r ∧ (r < 0 ∨ (0 ≤ r ∧ r ≤ left ∧ sm_StackS a)) := by
  have hm := fSl_len hf
  unfold laws_szStackS sm_StackS
  rw [w64_eq (n := left - (a.length : Int)) (by omega) (by omega)]
  by_cases hl : left - (a.length : Int) < 0
  · rw [show decide (left - (a.length : Int) < 0) = true by simpa using hl]; exact ⟨_, rfl, .inl (by omega)⟩
  · rw [show decide (left - (a.length : Int) < 0) = false by simpa using hl]; exact ⟨_, rfl, .inr ⟨by omega, by omega, by omega⟩⟩


theorem laws_szPod_ok (a : Int × Int × (List (Int × Int × Int))) (hf : (fP fI (fP fI (fSl (fP fI (fP fI fI))))) a) (left : Int) (h0 : 0 ≤ left) (h1 : left ≤ 1048576) : ∃ r, laws_szPod a.1 a.2.1 a.2.2 left = some r ∧ (r < 0 ∨ (0 ≤ r ∧ r ≤ left ∧ sm_Pod a)) := by
  unfold laws_szPod sm_Pod
  obtain ⟨r0, e0, q0⟩ := laws_szStackS_ok a.2.2 hf.2.2 left h0 h1
  rw [e0]; simp only [Option.bind_some]
  rcases q0 with q0 | ⟨p0, s0, t0⟩
  · rw [show decide (r0 < 0) = true by simpa using q0]; exact ⟨_, rfl, .inl (by omega)⟩
  rw [show decide (r0 < 0) = false by simp; omega]; simp only [cond_false]
  exact ⟨_, rfl, .inr ⟨by omega, by omega, t0⟩⟩


theorem laws_szPodS_ok (a : List (Int × Int × (List (Int × Int × Int)))) (hf : (fSl (fP fI (fP fI (fSl (fP fI (fP fI fI)))))) a) (left : Int) (h0 : 0 ≤ left) (h1 : left ≤ 1048576) (n : Nat) (hn : BIG ≤ n) : ∃ r, laws_szPodS n a left = some r ∧ (r < 0 ∨ (0 ≤ r ∧ r ≤ left ∧ sm_PodS a)) := by
  have hm := fSl_len hf
  unfold laws_szPodS sm_PodS
  rw [w64_eq (n := left - (a.length : Int)) (by omega) (by omega)]
  by_cases hl : left - (a.length : Int) < 0
  · rw [show decide (left - (a.length : Int) < 0) = true by simpa using hl]; exact ⟨_, rfl, .inl (by omega)⟩
  rw [show decide (left - (a.length : Int) < 0) = false by simpa using hl, cond_false]
  have hs := sz_loop (laws_szPodS_L1 a) a (sm_Pod) (fun i x left hi hx l0 l1 => by
    have hx' : a[i] = x := by rw [List.getElem?_eq_getElem hi] at hx; exact Option.some.inj hx
    obtain ⟨r, e, q⟩ := laws_szPod_ok x (fSl_mem hf (hx' ▸ List.getElem_mem hi)) left l0 l1
    have hw : w64 ((i : Int) + 1) = ((i + 1 : Nat) : Int) := w64_nat hi (by omega)
    unfold laws_szPodS_L1
    rw [show decide ((i : Int) < (a.length : Int)) = true by simpa using hi, cond_true, getI_lt hi, Option.bind_some, hx', e, Option.bind_some, hw]
    rcases q with q | ⟨q0, q1, q2⟩
    · rw [show decide (r < 0) = true by simpa using q]; exact .inr ⟨-1, rfl, by omega⟩
    · rw [show decide (r < 0) = false by simp; omega]; exact .inl ⟨r, rfl, q0, q1, q2⟩) (fun left => by simp [laws_szPodS_L1]) n (by unfold BIG at hn; omega) (left - (a.length : Int)) (by omega) (by omega)
  rcases hs with ⟨r, e, q⟩ | ⟨r, e, q0, q1, q2⟩
  · rw [e]; exact ⟨r, rfl, .inl q⟩
  · rw [e]; exact ⟨r, rfl, .inr ⟨q0, by omega, by omega, q2⟩⟩


theorem laws_szStock_ok (a : (List (Int × Int × (List (Int × Int × Int))))) (hf : (fSl (fP fI (fP fI (fSl (fP fI (fP fI fI)))))) a) (left : Int) (h0 : 0 ≤ left) (h1 : left ≤ 1048576) (n : Nat) (hn : BIG ≤ n) : ∃ r, laws_szStock n a left = some r ∧ (r < 0 ∨ (0 ≤ r ∧ r ≤ left ∧ sm_Stock a)) := by
  unfold laws_szStock sm_Stock
  obtain ⟨r0, e0, q0⟩ := laws_szPodS_ok a hf left h0 h1 n hn
  rw [e0]; simp only [Option.bind_some]
  rcases q0 with q0 | ⟨p0, s0, t0⟩
  · rw [show decide (r0 < 0) = true by simpa using q0]; exact ⟨_, rfl, .inl (by omega)⟩
  rw [show decide (r0 < 0) = false by simp; omega]; simp only [cond_false]
  exact ⟨_, rfl, .inr ⟨by omega, by omega, t0⟩⟩


theorem laws_szRobotS_ok (a : List (Int × Int × Int × Bool × Int)) (hf : (fSl (fP fI (fP fI (fP fI (fP fB fI))))) a) (left : Int) (h0 : 0 ≤ left) (h1 : left ≤ 1048576) : ∃ r, laws_szRobotS a left = some r ∧ (r < 0 ∨ (0 ≤ r ∧ r ≤ left ∧ sm_RobotS a)) := by
  have hm := fSl_len hf
  unfold laws_szRobotS sm_RobotS
  rw [w64_eq (n := left - (a.length : Int)) (by omega) (by omega)]
  by_cases hl : left - (a.length : Int) < 0
  · rw [show decide (left - (a.length : Int) < 0) = true by simpa using hl]; exact ⟨_, rfl, .inl (by omega)⟩
  · rw [show decide (left - (a.length : Int) < 0) = false by simpa using hl]; exact ⟨_, rfl, .inr ⟨by omega, by omega, by omega⟩⟩


theorem laws_szTaskS_ok (a : List (Int × Int × Int × Int)) (hf : (fSl (fP fI (fP fI (fP fI fI)))) a) (left : Int) (h0 : 0 ≤ left) (h1 : left ≤ 1048576) : ∃ r, laws_szTaskS a left = some r ∧ (r < 0 ∨ (0 ≤ r ∧ r ≤ left ∧ sm_TaskS a)) := by
  have hm := fSl_len hf
  unfold laws_szTaskS sm_TaskS
  rw [w64_eq (n := left - (a.length : Int)) (by omega) (by omega)]
  by_cases hl : left - (a.length : Int) < 0
  · rw [show decide (left - (a.length : Int) < 0) = true by simpa using hl]; exact ⟨_, rfl, .inl (by omega)⟩
  · rw [show decide (left - (a.length : Int) < 0) = false by simpa using hl]; exact ⟨_, rfl, .inr ⟨by omega, by omega, by omega⟩⟩


theorem laws_szDepot_ok (a : Int × Int × (List Int) × (List (Int × Int × (List (Int × Int × Int)))) × Int × (List (Int × Int × (List (Int × Int)) × (List (Int × Int × Int)) × Int)) × (List (Int × Int × Int × Bool × Int)) × (List (Int × Int × Int × Int)) × (List Int) × (List Int) × Int) (hf : (fP fI (fP fI (fP (fSl fI) (fP (fSl (fP fI (fP fI (fSl (fP fI (fP fI fI)))))) (fP fI (fP (fSl (fP fI (fP fI (fP (fSl (fP fI fI)) (fP (fSl (fP fI (fP fI fI))) fI))))) (fP (fSl (fP fI (fP fI (fP fI (fP fB fI))))) (fP (fSl (fP fI (fP fI (fP fI fI)))) (fP (fSl fI) (fP (fSl fI) fI)))))))))) a) (left : Int) (h0 : 0 ≤ left) (h1 : left ≤ 1048576) (n : Nat) (hn : BIG ≤ n) : ∃ r, laws_szDepot n a.1 a.2.1 a.2.2.1 a.2.2.2.1 a.2.2.2.2.1 a.2.2.2.2.2.1 a.2.2.2.2.2.2.1 a.2.2.2.2.2.2.2.1 a.2.2.2.2.2.2.2.2.1 a.2.2.2.2.2.2.2.2.2.1 a.2.2.2.2.2.2.2.2.2.2 left = some r ∧ (r < 0 ∨ (0 ≤ r ∧ r ≤ left ∧ sm_Depot a)) := by
  unfold laws_szDepot sm_Depot
  obtain ⟨r0, e0, q0⟩ := laws_szFloor_ok (a.1, a.2.1, a.2.2.1) (by exact ⟨hf.1, hf.2.1, hf.2.2.1⟩) left h0 h1
  rw [e0]; simp only [Option.bind_some]
  rcases q0 with q0 | ⟨p0, s0, t0⟩
  · rw [show decide (r0 < 0) = true by simpa using q0]; exact ⟨_, rfl, .inl (by omega)⟩
  rw [show decide (r0 < 0) = false by simp; omega]; simp only [cond_false]
  obtain ⟨r1, e1, q1⟩ := laws_szStock_ok a.2.2.2.1 hf.2.2.2.1 r0 p0 (by omega) n hn
  rw [e1]; simp only [Option.bind_some]
  rcases q1 with q1 | ⟨p1, s1, t1⟩
  · rw [show decide (r1 < 0) = true by simpa using q1]; exact ⟨_, rfl, .inl (by omega)⟩
  rw [show decide (r1 < 0) = false by simp; omega]; simp only [cond_false]
  obtain ⟨r2, e2, q2⟩ := laws_szBook_ok (a.2.2.2.2.1, a.2.2.2.2.2.1) (by exact ⟨hf.2.2.2.2.1, hf.2.2.2.2.2.1⟩) r1 p1 (by omega) n hn
  rw [e2]; simp only [Option.bind_some]
  rcases q2 with q2 | ⟨p2, s2, t2⟩
  · rw [show decide (r2 < 0) = true by simpa using q2]; exact ⟨_, rfl, .inl (by omega)⟩
  rw [show decide (r2 < 0) = false by simp; omega]; simp only [cond_false]
  obtain ⟨r3, e3, q3⟩ := laws_szRobotS_ok a.2.2.2.2.2.2.1 hf.2.2.2.2.2.2.1 r2 p2 (by omega)
  rw [e3]; simp only [Option.bind_some]
  rcases q3 with q3 | ⟨p3, s3, t3⟩
  · rw [show decide (r3 < 0) = true by simpa using q3]; exact ⟨_, rfl, .inl (by omega)⟩
  rw [show decide (r3 < 0) = false by simp; omega]; simp only [cond_false]
  obtain ⟨r4, e4, q4⟩ := laws_szTaskS_ok a.2.2.2.2.2.2.2.1 hf.2.2.2.2.2.2.2.1 r3 p3 (by omega)
  rw [e4]; simp only [Option.bind_some]
  rcases q4 with q4 | ⟨p4, s4, t4⟩
  · rw [show decide (r4 < 0) = true by simpa using q4]; exact ⟨_, rfl, .inl (by omega)⟩
  rw [show decide (r4 < 0) = false by simp; omega]; simp only [cond_false]
  obtain ⟨r5, e5, q5⟩ := laws_szIntS_ok a.2.2.2.2.2.2.2.2.1 hf.2.2.2.2.2.2.2.2.1 r4 p4 (by omega)
  rw [e5]; simp only [Option.bind_some]
  rcases q5 with q5 | ⟨p5, s5, t5⟩
  · rw [show decide (r5 < 0) = true by simpa using q5]; exact ⟨_, rfl, .inl (by omega)⟩
  rw [show decide (r5 < 0) = false by simp; omega]; simp only [cond_false]
  obtain ⟨r6, e6, q6⟩ := laws_szIntS_ok a.2.2.2.2.2.2.2.2.2.1 hf.2.2.2.2.2.2.2.2.2.1 r5 p5 (by omega)
  rw [e6]; simp only [Option.bind_some]
  rcases q6 with q6 | ⟨p6, s6, t6⟩
  · rw [show decide (r6 < 0) = true by simpa using q6]; exact ⟨_, rfl, .inl (by omega)⟩
  rw [show decide (r6 < 0) = false by simp; omega]; simp only [cond_false]
  exact ⟨_, rfl, .inr ⟨by omega, by omega, ⟨t0, t1, t2, t3, t4, t5, t6⟩⟩⟩


def sm_WordS (a : List (Bool × Int × Int)) : Prop := a.length ≤ 1048576

def sm_Link (a : (List Int) × Int × Bool × Int × Int × Int × (List Int) × (List (Bool × Int × Int))) : Prop := sm_IntS a.1 ∧ sm_IntS a.2.2.2.2.2.2.1 ∧ sm_WordS a.2.2.2.2.2.2.2

def sm_Act (a : Int × Int × (List (Int × Int)) × Int × Int × Int × Int) : Prop := sm_ItemS a.2.2.1

def sm_BoolS (a : List Bool) : Prop := a.length ≤ 1048576

theorem row1 {m : Nat} (h : m ≤ 1048576) : decide (m + 1 ≤ maxRow) = true := by
  have hm : maxRow = 68719476736 := rfl
  rw [hm]; simp; omega

theorem row0 {m : Nat} (h : m ≤ 1048576) : decide (m ≤ maxRow) = true := by
  have hm : maxRow = 68719476736 := rfl
  rw [hm]; simp; omega


/-- Two loops that go alike, and end. -/
theorem iter_two {α γ : Type} (f g : α → Option (α ⊕ γ)) (I : Nat → α → Prop) (Q : γ → Prop) (m : Nat)
    (h : ∀ i x, i ≤ m → I i x → g x = f x ∧ ((∃ y, f x = some (.inl y) ∧ I (i + 1) y ∧ i < m) ∨ ∃ r, f x = some (.inr r) ∧ Q r)) :
    ∀ n, m < n → ∀ x, I 0 x → iter n g x = iter n f x ∧ ∃ r, iter n f x = some r ∧ Q r := by
  have key : ∀ d i n x, i + d = m → d < n → I i x → iter n g x = iter n f x ∧ ∃ r, iter n f x = some r ∧ Q r := by
    intro d
    induction d with
    | zero =>
      intro i n x hi hn hI
      obtain ⟨n, rfl⟩ : ∃ k, n = k + 1 := ⟨n - 1, by omega⟩
      obtain ⟨e, h1 | ⟨r, h1, h2⟩⟩ := h i x (by omega) hI
      · obtain ⟨y, _, _, hlt⟩ := h1; omega
      · exact ⟨by rw [iter_end h1 n, iter_end (e.trans h1) n], r, iter_end h1 n, h2⟩
    | succ d ih =>
      intro i n x hi hn hI
      obtain ⟨n, rfl⟩ : ∃ k, n = k + 1 := ⟨n - 1, by omega⟩
      obtain ⟨e, ⟨y, h1, h2, _⟩ | ⟨r, h1, h2⟩⟩ := h i x (by omega) hI
      · obtain ⟨j1, j2⟩ := ih (i + 1) n y (by omega) (by omega) h2
        rw [iter_go h1 n, iter_go (e.trans h1) n]
        exact ⟨j1, j2⟩
      · exact ⟨by rw [iter_end h1 n, iter_end (e.trans h1) n], r, iter_end h1 n, h2⟩
  exact fun n hn x hx => key m 0 n x (by omega) hn hx


/-- A loop that looks for the first. -/
theorem find_loop {β : Type} (f : Int → Option (Int ⊕ (Int ⊕ Int))) (xs : List β) (P : β → Bool) (hs : ∀ (i : Nat) (x : β), i < xs.length → xs[i]? = some x → f (i : Int) = some (bif P x then .inr (.inr (i : Int)) else .inl ((i + 1 : Nat) : Int)))
    (he : f (xs.length : Int) = some (.inr (.inl (xs.length : Int)))) : ∀ n, xs.length < n → iter n f 0 = some (.inl (xs.length : Int)) ∨ ∃ i, ∃ h : i < xs.length, P xs[i] = true ∧ iter n f 0 = some (.inr (i : Int)) := by
  have key : ∀ d i n, i + d = xs.length → d < n → iter n f (i : Int) = some (.inl (xs.length : Int)) ∨ ∃ j, ∃ h : j < xs.length, P xs[j] = true ∧ iter n f (i : Int) = some (.inr (j : Int)) := by
    intro d
    induction d with
    | zero =>
      intro i n hi hn
      obtain ⟨n, rfl⟩ : ∃ k, n = k + 1 := ⟨n - 1, by omega⟩
      have : i = xs.length := by omega
      subst this
      exact .inl (iter_end he n)
    | succ d ih =>
      intro i n hi hn
      obtain ⟨n, rfl⟩ : ∃ k, n = k + 1 := ⟨n - 1, by omega⟩
      have hlt : i < xs.length := by omega
      have hf := hs i xs[i] hlt (List.getElem?_eq_getElem hlt)
      cases hp : P xs[i] with
      | true => rw [hp, cond_true] at hf; exact .inr ⟨i, hlt, hp, iter_end hf n⟩
      | false => rw [hp, cond_false] at hf; rw [iter_go hf n]; exact ih (i + 1) n (by omega) (by omega)
  exact fun n hn => key xs.length 0 n (by omega) hn


abbrev Dp := Int × Int × (List Int) × (List (Int × Int × (List SIII))) × Int × (List SIILIIJLIIIJI) × (List (Int × Int × Int × Bool × Int)) × (List (Int × Int × Int × Int)) × (List Int) × (List Int) × Int
def fDp : Dp → Prop := fP fI (fP fI (fP (fSl fI) (fP (fSl (fP fI (fP fI (fSl (fP fI (fP fI fI)))))) (fP fI (fP (fSl (fP fI (fP fI (fP (fSl (fP fI fI)) (fP (fSl (fP fI (fP fI fI))) fI))))) (fP (fSl (fP fI (fP fI (fP fI (fP fB fI))))) (fP (fSl (fP fI (fP fI (fP fI fI)))) (fP (fSl fI) (fP (fSl fI) fI)))))))))


theorem in_eq : impl_in = spec_l1In := rfl
theorem l1In_ok (a b c : Int) : spec_l1In a b c = some (decide (b ≤ a) && decide (a ≤ c)) := by
  unfold spec_l1In
  by_cases h : a ≥ b <;> simp [h]


/-- A loop that asks the same of each number. -/
theorem all_loopF {α : Type} (f : α → Option (α ⊕ (α ⊕ Bool))) (st : Nat → α) (m : Nat) (P : Nat → Bool) (hs : ∀ i, i < m → f (st i) = some (bif P i then .inl (st (i + 1)) else .inr (.inr false))) (he : f (st m) = some (.inr (.inl (st m)))) :
    ∀ n, m < n → iter n f (st 0) = some (bif (List.range m).all P then .inl (st m) else .inr false) := by
  have key : ∀ d i n, i + d = m → d < n → iter n f (st i) = some (bif (List.range' i d).all P then .inl (st m) else .inr false) := by
    intro d
    induction d with
    | zero =>
      intro i n hi hn
      obtain ⟨n, rfl⟩ : ∃ k, n = k + 1 := ⟨n - 1, by omega⟩
      have : i = m := by omega
      subst this
      rw [iter_end he n]; rfl
    | succ d ih =>
      intro i n hi hn
      obtain ⟨n, rfl⟩ : ∃ k, n = k + 1 := ⟨n - 1, by omega⟩
      have hf := hs i (by omega)
      rw [List.range'_succ, List.all_cons]
      cases hp : P i with
      | true => rw [hp, cond_true] at hf; rw [iter_go hf n, ih (i + 1) n (by omega) (by omega)]; rfl
      | false => rw [hp, cond_false] at hf; rw [iter_end hf n]; rfl
  intro n hn
  rw [List.range_eq_range']
  exact key m 0 n (by omega) hn
/-- A loop that goes on as long as something holds. -/
theorem while_loop (f : Int → Option (Int ⊕ Int)) (m : Nat) (P : Nat → Bool) (hs : ∀ i, i < m → f (i : Int) = some (bif P i then .inl ((i + 1 : Nat) : Int) else .inr (i : Int))) (he : f (m : Int) = some (.inr (m : Int))) :
    ∀ n, m < n → ∃ j, j ≤ m ∧ iter n f 0 = some (j : Int) ∧ (∀ i, i < j → P i = true) ∧ (j < m → P j = false) := by
  have key : ∀ d i n, i + d = m → d < n → ∃ j, i ≤ j ∧ j ≤ m ∧ iter n f (i : Int) = some (j : Int) ∧ (∀ q, i ≤ q → q < j → P q = true) ∧ (j < m → P j = false) := by
    intro d
    induction d with
    | zero =>
      intro i n hi hn
      obtain ⟨n, rfl⟩ : ∃ k, n = k + 1 := ⟨n - 1, by omega⟩
      have : i = m := by omega
      subst this
      exact ⟨i, Nat.le_refl _, Nat.le_refl _, iter_end he n, fun q h1 h2 => by omega, fun h => by omega⟩
    | succ d ih =>
      intro i n hi hn
      obtain ⟨n, rfl⟩ : ∃ k, n = k + 1 := ⟨n - 1, by omega⟩
      have hf := hs i (by omega)
      cases hp : P i with
      | true =>
        rw [hp, cond_true] at hf
        obtain ⟨j, h1, h2, h3, h4, h5⟩ := ih (i + 1) n (by omega) (by omega)
        refine ⟨j, by omega, h2, by rw [iter_go hf n]; exact h3, fun q q1 q2 => ?_, h5⟩
        by_cases e : q = i
        · subst e; exact hp
        · exact h4 q (by omega) q2
      | false => rw [hp, cond_false] at hf; exact ⟨i, Nat.le_refl _, by omega, iter_end hf n, fun q h1 h2 => by omega, fun _ => hp⟩
  intro n hn
  obtain ⟨j, _, h2, h3, h4, h5⟩ := key m 0 n (by omega) hn
  exact ⟨j, h2, h3, fun i hi => h4 i (by omega) hi, h5⟩

theorem take_get {β : Type} {a : List β} {i j : Nat} {y : β} (h : j < (a.take i).length) (hy : (a.take i)[j]? = some y) : j < i ∧ ∃ h : j < a.length, a[j] = y := by
  rw [List.length_take] at h
  rw [List.getElem?_take, if_pos (by omega), List.getElem?_eq_getElem (by omega)] at hy
  exact ⟨by omega, by omega, Option.some.inj hy⟩


/-- Is what stands ahead smaller? -/
def prevL {β : Type} (key : β → Int) (a : List β) (i : Nat) (x : β) : Bool := match i with
  | 0 => true
  | j + 1 => match a[j]? with
    | some y => !decide (key y ≥ key x)
    | none => true
theorem prev_F {β γ : Type} (key : β → Int) (a : List β) (x : β) (i : Nat) (hi : i < a.length) (hl : a.length ≤ 1048576) (F : Bool → Option γ) :
    (bif decide ((i : Int) > 0) then (getI a (w64 ((i : Int) - 1))).bind (fun y => F (decide (key y ≥ key x))) else F false) = F (!prevL key a i x) := by
  cases i with
  | zero => rfl
  | succ j =>
    have hw : w64 (((j + 1 : Nat) : Int) - 1) = (j : Int) := by rw [w64_eq (by omega) (by omega)]; omega
    rw [show decide (((j + 1 : Nat) : Int) > 0) = true by rw [decide_eq_true_eq]; omega, cond_true, hw, getI_lt (by omega), Option.bind_some]
    simp only [prevL, List.getElem?_eq_getElem (show j < a.length by omega), Bool.not_not]
def inB (a b c : Int) : Bool := decide (b ≤ a) && decide (a ≤ c)


theorem in_ok (a b c : Int) : spec_l1In a b c = some (inB a b c) := l1In_ok a b c


def freeC (c : List Int) (i : Int) : Bool := inB i 0 ((c.length : Int) - 1) && (c.getD i.toNat 0 != 0)
theorem in_nat {c : List Int} {i : Int} (h : inB i 0 ((c.length : Int) - 1) = true) : ∃ m : Nat, i = (m : Int) ∧ m < c.length := by
  unfold inB at h
  simp only [Bool.and_eq_true, decide_eq_true_eq] at h
  exact ⟨i.toNat, by omega, by omega⟩


def stackOk (l : List SIII) (i : Nat) : Bool := match l[i]? with
  | none => false
  | some x => inB x.1 1 50 && inB x.2.1 1 1000 && inB x.2.2 0 x.2.1 && prevL (·.1) l i x
def stacksOk (l : List SIII) : Bool := (List.range l.length).all (stackOk l) && decide (l.length ≤ 8)
abbrev Pod := Int × Int × List SIII
def podAt (a : List Pod) (i : Nat) : Bool := match a[i]? with
  | none => false
  | some x => inB x.1 1 999 && inB x.2.1 0 99 && stacksOk x.2.2 && prevL (·.1) a i x && (a.take i).all fun y => !(y.2.1 == x.2.1)
def stockOk (a : List Pod) : Bool := decide (a.length ≤ 12) && (List.range a.length).all (podAt a)


theorem spec_l5Stacks_ok (l : List SIII) (hl : l.length ≤ 1048576) (n : Nat) (hn : BIG ≤ n) : spec_l5Stacks n l = some (stacksOk l) := by
  have := all_loopF (spec_l5Stacks_L1 l) (fun i => (i : Int)) l.length (stackOk l) (fun i hi => by
    have hp : (bif decide ((i : Int) > 0) then (getI l (w64 ((i : Int) - 1))).bind (fun y => some (decide (y.1 ≥ l[i].1))) else some false) = some (!prevL (·.1) l i l[i]) := prev_F (·.1) l l[i] i hi hl some
    simp only [spec_l5Stacks_L1, stackOk, getI_lt hi, List.getElem?_eq_getElem hi, Option.bind_some, in_ok, w64_nat hi (by omega), hp]
    rw [show decide ((i : Int) < (l.length : Int)) = true by simpa using hi]
    generalize l[i] = x
    generalize prevL (·.1) l i x = b4
    cases inB x.1 1 50 <;> cases inB x.2.1 1 1000 <;> cases inB x.2.2 0 x.2.1 <;> cases b4 <;> rfl) (by simp [spec_l5Stacks_L1]) n (by unfold BIG at hn; omega)
  unfold spec_l5Stacks stacksOk
  rw [show ((0 : Nat) : Int) = 0 from rfl] at this
  rw [this]
  rw [show decide ((l.length : Int) ≤ 8) = decide (l.length ≤ 8) by rw [Bool.eq_iff_iff]; simp; omega]
  cases (List.range l.length).all (stackOk l) <;> rfl
theorem spec_StockOk_in (a : List Pod) (hl : a.length ≤ 1048576) (i : Nat) (hi : i < a.length) (x : Pod) (n : Nat) (hn : BIG ≤ n) :
    iter n (spec_StockOk_L2 a (i : Int) x) 0 = some (bif (a.take i).all fun y => !(y.2.1 == x.2.1) then .inl (i : Int) else .inr false) := by
  have hlen : (a.take i).length = i := by simp; omega
  have := all_loop (spec_StockOk_L2 a (i : Int) x) (a.take i) (fun y => !(y.2.1 == x.2.1)) (fun j y h1 h2 => by
    obtain ⟨hj, hj2, hy⟩ := take_get h1 h2
    simp only [spec_StockOk_L2, getI_lt hj2, hy, Option.bind_some, w64_nat hj2 (by omega)]
    rw [show decide ((j : Int) < (i : Int)) = true by rw [decide_eq_true_eq]; omega]
    cases (y.2.1 == x.2.1) <;> rfl) (by first | (simp [spec_StockOk_L2, hlen]; done) | (simp [spec_StockOk_L2, hlen]; omega)) n (by unfold BIG at hn; omega)
  rw [hlen] at this
  exact this
theorem spec_StockOk_ok (a : List Pod) (hs : sm_PodS a) (n : Nat) (hn : BIG ≤ n) : spec_StockOk n a = some (stockOk a) := by
  have hl : a.length ≤ 1048576 := hs.1
  have := all_loopF (spec_StockOk_L1 n a) (fun i => (i : Int)) a.length (podAt a) (fun i hi => by
    have hp : (bif decide ((i : Int) > 0) then (getI a (w64 ((i : Int) - 1))).bind (fun y => some (decide (y.1 ≥ a[i].1))) else some false) = some (!prevL (·.1) a i a[i]) := prev_F (·.1) a a[i] i hi hl some
    have hst : a[i].2.2.length ≤ 1048576 := hs.2 _ (List.getElem_mem hi)
    simp only [spec_StockOk_L1, podAt, getI_lt hi, List.getElem?_eq_getElem hi, Option.bind_some, in_ok, w64_nat hi (by omega), hp, spec_l5Stacks_ok _ hst n hn, spec_StockOk_in a hl i hi a[i] n hn]
    rw [show decide ((i : Int) < (a.length : Int)) = true by simpa using hi]
    generalize a[i] = x
    generalize ((a.take i).all fun y => !(y.2.1 == x.2.1)) = b5
    generalize prevL (·.1) a i x = b4
    cases inB x.1 1 999 <;> cases inB x.2.1 0 99 <;> cases stacksOk x.2.2 <;> cases b4 <;> cases b5 <;> rfl) (by simp [spec_StockOk_L1]) n (by unfold BIG at hn; omega)
  unfold spec_StockOk stockOk
  rw [show ((0 : Nat) : Int) = 0 from rfl] at this
  rw [this, show decide ((a.length : Int) > 12) = !decide (a.length ≤ 12) by by_cases q : a.length ≤ 12 <;> simp [q] <;> omega]
  cases decide (a.length ≤ 12) <;> cases (List.range a.length).all (podAt a) <;> rfl


theorem impl_podOk_ok (p : Pod) (hl : p.2.2.length ≤ 1048576) (n : Nat) (hn : BIG ≤ n) : impl_podOk n p.1 p.2.1 p.2.2 = some (inB p.1 1 999 && inB p.2.1 0 99 && stacksOk p.2.2) := by
  have := all_loopF (impl_podOk_L1 p.2.2) (fun i => (i : Int)) p.2.2.length (stackOk p.2.2) (fun i hi => by
    have hp : (bif decide ((i : Int) > 0) then (getI p.2.2 (w64 ((i : Int) - 1))).bind (fun y => some (decide (y.1 ≥ p.2.2[i].1))) else some false) = some (!prevL (·.1) p.2.2 i p.2.2[i]) := prev_F (·.1) p.2.2 p.2.2[i] i hi hl some
    simp only [impl_podOk_L1, stackOk, getI_lt hi, List.getElem?_eq_getElem hi, Option.bind_some, in_eq, in_ok, w64_nat hi (by omega), hp]
    rw [show decide ((i : Int) < (p.2.2.length : Int)) = true by simpa using hi]
    generalize p.2.2[i] = x
    generalize prevL (·.1) p.2.2 i x = b4
    cases inB x.1 1 50 <;> cases inB x.2.1 1 1000 <;> cases inB x.2.2 0 x.2.1 <;> cases b4 <;> rfl) (by simp [impl_podOk_L1]) n (by unfold BIG at hn; omega)
  unfold impl_podOk stacksOk
  rw [show ((0 : Nat) : Int) = 0 from rfl] at this
  rw [this, show decide ((p.2.2.length : Int) > 8) = !decide (p.2.2.length ≤ 8) by by_cases q : p.2.2.length ≤ 8 <;> simp [q] <;> omega]
  simp only [in_eq, in_ok, Option.bind_some]
  cases inB p.1 1 999 <;> cases inB p.2.1 0 99 <;> cases decide (p.2.2.length ≤ 8) <;> cases (List.range p.2.2.length).all (stackOk p.2.2) <;> rfl
theorem impl_StockOk_in (a : List Pod) (hl : a.length ≤ 1048576) (i : Nat) (hi : i < a.length) (x : Pod) (n : Nat) (hn : BIG ≤ n) :
    iter n (impl_StockOk_L2 a (i : Int) x) 0 = some (bif (a.take i).all fun y => !(y.2.1 == x.2.1) then .inl (i : Int) else .inr false) := by
  have hsub : sub a (Int.toNat (0 : Int)) (Int.toNat (i : Int)) = a.take i := by simp [sub]
  have hlen : (a.take i).length = i := by simp; omega
  have := all_loop (impl_StockOk_L2 a (i : Int) x) (a.take i) (fun y => !(y.2.1 == x.2.1)) (fun j y h1 h2 => by
    obtain ⟨hj, hj2, hy⟩ := take_get h1 h2
    simp only [impl_StockOk_L2, hsub, getI_nat, h2, Option.bind_some, w64_nat hj2 (by omega), hlen]
    rw [show decide ((j : Int) < (i : Int)) = true by rw [decide_eq_true_eq]; omega]
    cases (y.2.1 == x.2.1) <;> rfl) (by simp only [impl_StockOk_L2, hsub, hlen]; simp) n (by unfold BIG at hn; omega)
  rw [hlen] at this
  exact this
theorem impl_StockOk_ok (a : List Pod) (hs : sm_PodS a) (n : Nat) (hn : BIG ≤ n) : impl_StockOk n a = some (stockOk a) := by
  have hl : a.length ≤ 1048576 := hs.1
  have := all_loopF (impl_StockOk_L1 n a) (fun i => (i : Int)) a.length (podAt a) (fun i hi => by
    have hp : (bif decide ((i : Int) > 0) then (getI a (w64 ((i : Int) - 1))).bind (fun y => some (decide (y.1 ≥ a[i].1))) else some false) = some (!prevL (·.1) a i a[i]) := prev_F (·.1) a a[i] i hi hl some
    have hst : a[i].2.2.length ≤ 1048576 := hs.2 _ (List.getElem_mem hi)
    have hr : (decide (0 ≤ (0 : Int)) && decide ((0 : Int) ≤ (i : Int)) && decide ((i : Int) ≤ (a.length : Int))) = true := by simp; omega
    simp only [impl_StockOk_L1, podAt, getI_lt hi, List.getElem?_eq_getElem hi, Option.bind_some, w64_nat hi (by omega), hp, impl_podOk_ok _ hst n hn, impl_StockOk_in a hl i hi a[i] n hn, hr]
    rw [show decide ((i : Int) < (a.length : Int)) = true by simpa using hi]
    generalize a[i] = x
    generalize ((a.take i).all fun y => !(y.2.1 == x.2.1)) = b5
    generalize prevL (·.1) a i x = b4
    cases inB x.1 1 999 <;> cases inB x.2.1 0 99 <;> cases stacksOk x.2.2 <;> cases b4 <;> cases b5 <;> rfl) (by simp [impl_StockOk_L1]) n (by unfold BIG at hn; omega)
  unfold impl_StockOk stockOk
  rw [show ((0 : Nat) : Int) = 0 from rfl] at this
  rw [this]
  rw [show decide ((a.length : Int) ≤ 12) = decide (a.length ≤ 12) by rw [Bool.eq_iff_iff]; simp; omega]
  cases decide (a.length ≤ 12) <;> cases (List.range a.length).all (podAt a) <;> rfl


def cntOf (l : List SIII) (k : Int) : Int := match l.find? fun x => x.1 == k with
  | some x => x.2.1
  | none => 0
theorem stack_lt {l : List SIII} (h : stacksOk l = true) : ∀ (i j : Nat) (hj : j < l.length) (hij : i < j), (l[i]'(by omega)).1 < l[j].1 := by
  unfold stacksOk at h
  simp only [Bool.and_eq_true, List.all_eq_true, List.mem_range] at h
  have step : ∀ j (hj : j + 1 < l.length), (l[j]'(by omega)).1 < l[j + 1].1 := by
    intro j hj
    have := h.1 (j + 1) hj
    simp only [stackOk, List.getElem?_eq_getElem hj, Bool.and_eq_true, prevL, List.getElem?_eq_getElem (show j < l.length by omega)] at this
    have := this.2
    simpa using this
  intro i j
  induction j with
  | zero => intro hj hij; omega
  | succ j ih =>
    intro hj hij
    have h1 := step j hj
    by_cases e : i = j
    · subst e; exact h1
    · have := ih (by omega) (by omega); omega
theorem stack_cnt {l : List SIII} (h : stacksOk l = true) (k : Int) : 0 ≤ cntOf l k ∧ cntOf l k ≤ 1000 := by
  unfold cntOf
  cases hf : l.find? fun x => x.1 == k with
  | none => simp
  | some x =>
    have hm := List.mem_of_find?_eq_some hf
    obtain ⟨i, hi, rfl⟩ := List.getElem_of_mem hm
    unfold stacksOk at h
    simp only [Bool.and_eq_true, List.all_eq_true, List.mem_range] at h
    have := h.1 i hi
    simp only [stackOk, List.getElem?_eq_getElem hi, Bool.and_eq_true, inB, decide_eq_true_eq] at this
    show 0 ≤ l[i].2.1 ∧ l[i].2.1 ≤ 1000
    omega
theorem cnt_at {l : List SIII} (h : stacksOk l = true) {j : Nat} (hj : j < l.length) {k : Int} (hk : l[j].1 = k) : cntOf l k = l[j].2.1 := by
  unfold cntOf
  cases hf : l.find? fun x => x.1 == k with
  | none =>
    have := List.find?_eq_none.1 hf l[j] (List.getElem_mem hj)
    simp [hk] at this
  | some x =>
    obtain ⟨i, hi, rfl⟩ := List.getElem_of_mem (List.mem_of_find?_eq_some hf)
    have hki : l[i].1 = k := by have := List.find?_some hf; simpa using this
    rcases Nat.lt_trichotomy i j with q | q | q
    · have := stack_lt h i j hj q; omega
    · subst q; rfl
    · have := stack_lt h j i hi q; omega
theorem cnt_no {l : List SIII} {k : Int} (h : ∀ x ∈ l, x.1 ≠ k) : cntOf l k = 0 := by
  unfold cntOf
  rw [List.find?_eq_none.2 fun x hx => by simpa using h x hx]
/-- How many pieces lie in the stock. -/
def countOf (a : List Pod) (k : Int) : Int := bif stockOk a then (a.map fun p => cntOf p.2.2 k).foldl (· + ·) 0 else 0
theorem pods_ok {a : List Pod} (h : stockOk a = true) : a.length ≤ 12 ∧ ∀ i (hi : i < a.length), stacksOk a[i].2.2 = true := by
  unfold stockOk at h
  simp only [Bool.and_eq_true, List.all_eq_true, List.mem_range, decide_eq_true_eq] at h
  refine ⟨h.1, fun i hi => ?_⟩
  have := h.2 i hi
  simp only [podAt, List.getElem?_eq_getElem hi, Bool.and_eq_true] at this
  exact this.1.1.2


theorem spec_l5Stack_ok (p : Pod) (hl : p.2.2.length ≤ 1048576) (k : Int) (n : Nat) (hn : BIG ≤ n) : ∃ s, spec_l5Stack n p.1 p.2.1 p.2.2 k = some s ∧ s.2.1 = cntOf p.2.2 k := by
  have hc := iter_rec (σ := Unit) (spec_l5Stack_L1 p.2.2 k) (fun i _ => ((i : Int), (0 : Int), (0 : Int), (0 : Int))) p.2.2 (fun l _ => match l.find? (fun x => x.1 == k) with | some x => .inr x | none => .inl ((p.2.2.length : Int), 0, 0, 0)) (fun _ _ => True)
    (fun s hs => by simp [spec_l5Stack_L1])
    (fun i x l s h1 h2 h3 h4 h5 => by
      have hx : p.2.2[i] = x := by rw [List.getElem?_eq_getElem h1] at h2; exact Option.some.inj h2
      cases hq : (x.1 == k) with
      | true => right; simp [spec_l5Stack_L1, h1, getI_lt h1, hx, hq]
      | false => left; exact ⟨(), by simp [spec_l5Stack_L1, h1, getI_lt h1, hx, hq, w64_nat h1 (by omega)], trivial, by simp [hq]⟩)
    n (by unfold BIG at hn; omega) () trivial
  unfold spec_l5Stack
  rw [show ((0 : Nat) : Int) = 0 from rfl] at hc
  rw [hc]
  unfold cntOf
  cases p.2.2.find? fun x => x.1 == k with
  | none => exact ⟨(k, 0, 0), rfl, rfl⟩
  | some x => exact ⟨x, rfl, rfl⟩
theorem spec_Count_ok (a : List Pod) (hs : sm_PodS a) (k : Int) (n : Nat) (hn : BIG ≤ n) : spec_Count n a k = some (countOf a k) := by
  have hl : a.length ≤ 1048576 := hs.1
  have hst := spec_StockOk_ok a hs n hn
  unfold spec_Count countOf
  cases hk : stockOk a with
  | false =>
    obtain ⟨m, rfl⟩ : ∃ m, n = m + 1 := ⟨n - 1, by unfold BIG at hn; omega⟩
    have : spec_Count_L1 (m + 1) a k ((0 : Int), (0 : Int)) = some (.inr (0, 0)) := by
      unfold spec_Count_L1
      rw [hst, hk]
      cases decide ((0 : Int) < (a.length : Int)) <;> rfl
    rw [iter_end this m]; rfl
  | true =>
    obtain ⟨h12, hp⟩ := pods_ok hk
    have hc := iter_rec (σ := Int) (spec_Count_L1 n a k) (fun i s => (s, (i : Int))) a (fun l s => ((l.map fun p => cntOf p.2.2 k).foldl (· + ·) s, (a.length : Int))) (fun i s => 0 ≤ s ∧ s ≤ 1000 * (i : Int) ∧ i ≤ 12)
      (fun s hs => by simp [spec_Count_L1])
      (fun i x l s h1 h2 h3 h4 h5 => by
        left
        have hx : a[i] = x := by rw [List.getElem?_eq_getElem h1] at h2; exact Option.some.inj h2
        have hlen : x.2.2.length ≤ 1048576 := by rw [← hx]; exact hs.2 _ (List.getElem_mem h1)
        obtain ⟨q, e, he⟩ := spec_l5Stack_ok x hlen k n hn
        have hb := stack_cnt (hx ▸ hp i h1) k
        refine ⟨s + cntOf x.2.2 k, ?_, by omega, rfl⟩
        unfold spec_Count_L1
        rw [hst, hk, show decide ((i : Int) < (a.length : Int)) = true by simpa using h1]
        simp only [cond_true, Option.bind_some, getI_lt h1, hx, e, he, w64_nat h1 (by omega)]
        rw [w64_eq (by omega) (by omega)])
      n (by unfold BIG at hn; omega) 0 ⟨by omega, by omega, by omega⟩
    rw [show ((0 : Nat) : Int) = 0 from rfl] at hc
    rw [hc]; rfl


theorem impl_stackAt_ok (p : Pod) (hl : p.2.2.length ≤ 1048576) (hs : stacksOk p.2.2 = true) (k : Int) (n : Nat) (hn : BIG ≤ n) :
    ∃ (j : Nat) (b : Bool), impl_stackAt n p.1 p.2.1 p.2.2 k = some ((j : Int), b) ∧ (b = true → ∃ h : j < p.2.2.length, cntOf p.2.2 k = p.2.2[j].2.1) ∧ (b = false → cntOf p.2.2 k = 0) := by
  obtain ⟨j, h1, h2, h3, h4⟩ := while_loop (impl_stackAt_L1 p.2.2 k) p.2.2.length (fun i => decide ((p.2.2.getD i (0, 0, 0)).1 < k)) (fun i hi => by
    simp only [impl_stackAt_L1, getI_lt hi, Option.bind_some, w64_nat hi (by omega)]
    rw [show decide ((i : Int) < (p.2.2.length : Int)) = true by simpa using hi]
    rw [show p.2.2.getD i (0, 0, 0) = p.2.2[i] by simp [hi]]
    cases decide (p.2.2[i].1 < k) <;> rfl) (by simp [impl_stackAt_L1]) n (by unfold BIG at hn; omega)
  have hlow : ∀ i (hi : i < p.2.2.length), i < j → p.2.2[i].1 < k := by
    intro i hi hij
    have := h3 i hij
    simpa [hi] using this
  unfold impl_stackAt
  rw [h2]
  by_cases hj : j < p.2.2.length
  · have hge := h4 hj
    have hge : k ≤ p.2.2[j].1 := by simpa [hj] using hge
    refine ⟨j, p.2.2[j].1 == k, ?_, fun hb => ⟨hj, cnt_at hs hj (by simpa using hb)⟩, fun hb => cnt_no fun x hx => ?_⟩
    · simp [hj, getI_lt hj]
    · obtain ⟨i, hi, rfl⟩ := List.getElem_of_mem hx
      have hne : p.2.2[j].1 ≠ k := by simpa using hb
      rcases Nat.lt_trichotomy i j with q | q | q
      · have := hlow i hi q; omega
      · subst q; exact hne
      · have := stack_lt hs j i hi q; omega
  · refine ⟨j, false, ?_, fun hb => (by cases hb), fun _ => cnt_no fun x hx => ?_⟩
    · rw [Option.bind_some, show decide ((j : Int) < (p.2.2.length : Int)) = false by simp; omega]; rfl
    · obtain ⟨i, hi, rfl⟩ := List.getElem_of_mem hx
      have := hlow i hi (by omega); omega
theorem impl_Count_ok (a : List Pod) (hs : sm_PodS a) (k : Int) (n : Nat) (hn : BIG ≤ n) : impl_Count n a k = some (countOf a k) := by
  have hl : a.length ≤ 1048576 := hs.1
  unfold impl_Count countOf
  rw [impl_StockOk_ok a hs n hn]
  cases hk : stockOk a with
  | false => rfl
  | true =>
    obtain ⟨h12, hp⟩ := pods_ok hk
    have hc := iter_rec (σ := Int) (impl_Count_L1 n a k) (fun i s => (s, (i : Int))) a (fun l s => ((l.map fun p => cntOf p.2.2 k).foldl (· + ·) s, (a.length : Int))) (fun i s => 0 ≤ s ∧ s ≤ 1000 * (i : Int) ∧ i ≤ 12)
      (fun s hs => by simp [impl_Count_L1])
      (fun i x l s h1 h2 h3 h4 h5 => by
        left
        have hx : a[i] = x := by rw [List.getElem?_eq_getElem h1] at h2; exact Option.some.inj h2
        have hlen : x.2.2.length ≤ 1048576 := by rw [← hx]; exact hs.2 _ (List.getElem_mem h1)
        obtain ⟨j, b, e, hb1, hb2⟩ := impl_stackAt_ok x hlen (hx ▸ hp i h1) k n hn
        have hb := stack_cnt (hx ▸ hp i h1) k
        refine ⟨s + cntOf x.2.2 k, ?_, by omega, rfl⟩
        unfold impl_Count_L1
        rw [show decide ((i : Int) < (a.length : Int)) = true by simpa using h1]
        simp only [cond_true, Option.bind_some, getI_lt h1, hx, e, w64_nat h1 (by omega)]
        cases b with
        | false => simp [hb2 rfl]
        | true =>
          obtain ⟨hj, hc⟩ := hb1 rfl
          simp only [cond_true, getI_lt hj, Option.bind_some, ← hc]
          rw [w64_eq (by omega) (by omega)])
      n (by unfold BIG at hn; omega) 0 ⟨by omega, by omega, by omega⟩
    rw [show ((0 : Nat) : Int) = 0 from rfl] at hc
    simp only [Option.bind_some, Bool.not_true, cond_false]
    rw [hc]; rfl


theorem spec_Pieces_ok (a : Dp) (h : sm_Depot a) (n : Nat) (hn : BIG ≤ n) : ∃ b, spec_Pieces n a.1 a.2.1 a.2.2.1 a.2.2.2.1 a.2.2.2.2.1 a.2.2.2.2.2.1 a.2.2.2.2.2.2.1 a.2.2.2.2.2.2.2.1 a.2.2.2.2.2.2.2.2.1 a.2.2.2.2.2.2.2.2.2.1 a.2.2.2.2.2.2.2.2.2.2 = some b := by
  have hp : sm_PodS a.2.2.2.1 := h.2.1
  have key : ∀ i : Nat, ∃ q, ∀ i' : Nat, i' = i → i' < 50 → spec_Pieces_L1 n a.2.2.2.1 a.2.2.2.2.2.2.2.2.1 a.2.2.2.2.2.2.2.2.2.1 (((i' + 1 : Nat)) : Int) = some (bif q then .inl ((i' + 1 + 1 : Nat) : Int) else .inr (.inr false)) := by
    intro i
    by_cases hi : i < 50
    case neg => exact ⟨true, fun i' e h => by omega⟩
    have hw : w64 (((i + 1 : Nat) : Int) + 1) = ((i + 1 + 1 : Nat) : Int) := by rw [w64_eq (by omega) (by omega)]; omega
    have gen : ∀ X : Option Bool, (∃ b, X = some b) → ∃ q, (X.bind fun x7 => bif x7 then some (.inr (.inr false)) else some (.inl (w64 (((i + 1 : Nat) : Int) + 1)))) = (some (bif q then .inl ((i + 1 + 1 : Nat) : Int) else .inr (.inr false)) : Option (Int ⊕ (Int ⊕ Bool))) := by
      rintro X ⟨b, rfl⟩
      exact ⟨!b, by rw [hw]; cases b <;> rfl⟩
    have : ∃ q, spec_Pieces_L1 n a.2.2.2.1 a.2.2.2.2.2.2.2.2.1 a.2.2.2.2.2.2.2.2.2.1 (((i + 1 : Nat)) : Int) = some (bif q then .inl ((i + 1 + 1 : Nat) : Int) else .inr (.inr false)) := by
      unfold spec_Pieces_L1
      rw [show decide (((i + 1 : Nat) : Int) ≤ 50) = true by rw [decide_eq_true_eq]; omega, cond_true]
      refine gen _ ?_
      by_cases h8 : i + 1 < a.2.2.2.2.2.2.2.2.1.length
      case neg => rw [show decide (((i + 1 : Nat) : Int) ≥ (a.2.2.2.2.2.2.2.2.1.length : Int)) = true by rw [decide_eq_true_eq]; omega]; exact ⟨true, rfl⟩
      rw [show decide (((i + 1 : Nat) : Int) ≥ (a.2.2.2.2.2.2.2.2.1.length : Int)) = false by rw [decide_eq_false_iff_not]; omega, cond_false]
      by_cases h9 : i + 1 < a.2.2.2.2.2.2.2.2.2.1.length
      case neg => rw [show decide (((i + 1 : Nat) : Int) ≥ (a.2.2.2.2.2.2.2.2.2.1.length : Int)) = true by rw [decide_eq_true_eq]; omega]; exact ⟨true, rfl⟩
      rw [show decide (((i + 1 : Nat) : Int) ≥ (a.2.2.2.2.2.2.2.2.2.1.length : Int)) = false by rw [decide_eq_false_iff_not]; omega, cond_false]
      simp only [getI_lt h9, getI_lt h8, Option.bind_some, in_ok, spec_Count_ok _ hp _ n hn]
      cases inB a.2.2.2.2.2.2.2.2.2.1[i + 1] 0 1000000
      · exact ⟨_, rfl⟩
      · exact ⟨_, rfl⟩
    obtain ⟨q, hq⟩ := this
    exact ⟨q, fun i' e _ => by subst e; exact hq⟩
  have := all_loopF (spec_Pieces_L1 n a.2.2.2.1 a.2.2.2.2.2.2.2.2.1 a.2.2.2.2.2.2.2.2.2.1) (fun i => ((i + 1 : Nat) : Int)) 50 (fun i => (key i).choose) (fun i hi => (key i).choose_spec i rfl hi) (by simp [spec_Pieces_L1]) n (by unfold BIG at hn; omega)
  unfold spec_Pieces
  rw [show ((0 + 1 : Nat) : Int) = 1 from rfl] at this
  rw [this]
  cases (List.range 50).all fun i => (key i).choose
  · exact ⟨_, rfl⟩
  · exact ⟨_, rfl⟩


theorem impl_Pieces_ok (a : Dp) (h : sm_Depot a) (n : Nat) (hn : BIG ≤ n) : impl_Pieces n a.1 a.2.1 a.2.2.1 a.2.2.2.1 a.2.2.2.2.1 a.2.2.2.2.2.1 a.2.2.2.2.2.2.1 a.2.2.2.2.2.2.2.1 a.2.2.2.2.2.2.2.2.1 a.2.2.2.2.2.2.2.2.2.1 a.2.2.2.2.2.2.2.2.2.2 = spec_Pieces n a.1 a.2.1 a.2.2.1 a.2.2.2.1 a.2.2.2.2.1 a.2.2.2.2.2.1 a.2.2.2.2.2.2.1 a.2.2.2.2.2.2.2.1 a.2.2.2.2.2.2.2.2.1 a.2.2.2.2.2.2.2.2.2.1 a.2.2.2.2.2.2.2.2.2.2 := by
  have hp : sm_PodS a.2.2.2.1 := h.2.1
  have : impl_Pieces_L1 n a.2.2.2.1 = spec_Pieces_L1 n a.2.2.2.1 := by
    funext s o x
    unfold impl_Pieces_L1 spec_Pieces_L1
    simp only [impl_Count_ok _ hp _ n hn, spec_Count_ok _ hp _ n hn, in_eq]
  unfold impl_Pieces spec_Pieces
  rw [this]


theorem laws_FnExactPieces_pure (a0_0 : Int) (a0_1 : Int) (a0_2 : List Int) (a0_3 : List SIILIIIJ) (a0_4 : Int) (a0_5 : List SIILIIJLIIIJI) (a0_6 : List SIIIBI) (a0_7 : List SIIII) (a0_8 : List Int) (a0_9 : List Int) (a0_10 : Int) (h : fDp (a0_0, a0_1, a0_2, a0_3, a0_4, a0_5, a0_6, a0_7, a0_8, a0_9, a0_10)) :
    ∃ n, laws_FnExactPieces n a0_0 a0_1 a0_2 a0_3 a0_4 a0_5 a0_6 a0_7 a0_8 a0_9 a0_10 = some true := by
  refine ⟨BIG, ?_⟩
  let a : Dp := (a0_0, a0_1, a0_2, a0_3, a0_4, a0_5, a0_6, a0_7, a0_8, a0_9, a0_10)
  obtain ⟨r, e0, q0⟩ := laws_szDepot_ok a h 1048576 (by omega) (by omega) BIG (Nat.le_refl _)
  unfold laws_FnExactPieces
  simp only [a] at e0
  rw [e0, Option.bind_some]
  rcases q0 with q0 | ⟨q0, q1, q2⟩
  · rw [show decide (r < 0) = true by simpa using q0]; rfl
  rw [show decide (r < 0) = false by simp; omega, cond_false]
  have t := laws_toDepot_ok a q2 BIG (Nat.le_refl _)
  obtain ⟨b, s⟩ := spec_Pieces_ok a q2 BIG (Nat.le_refl _)
  have i := impl_Pieces_ok a q2 BIG (Nat.le_refl _)
  rw [s] at i
  have eo := laws_eqDepot_ok a q2 BIG (Nat.le_refl _)
  simp only [a] at t s i eo
  simp only [Option.bind_some, t, i, s, eo, Bool.not_true, cond_false, bne_self_eq_false]

end Go.Ev.N
