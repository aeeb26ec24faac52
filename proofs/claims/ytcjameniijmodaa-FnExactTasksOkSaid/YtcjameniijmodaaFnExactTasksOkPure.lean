/- FnExactTasksOk, as a plain law over native forms: what the program's function answers is what the reference's answers. Conditions: none but the lengths' and numbers' bounds. -/
import Derived.Test.YtcjameniijmodaaFnExactTasksOkNat
namespace Go.Ev.N
open Go Go.Ev
set_option linter.unusedVariables false

theorem w64_eq {n : Int} (h1 : -9223372036854775808 ≤ n) (h2 : n ≤ 9223372036854775807) : w64 n = n := by
  unfold w64 IntKind.wrap
  simp only [IntKind.bits, IntKind.signed]
  simp
  split <;> omega
theorem w64_up {i : Int} {m : Nat} (h0 : 0 ≤ i) (h : i < (m : Int)) (hm : m ≤ 9223372036854775807) : w64 (i + 1) = i + 1 := w64_eq (by omega) (by omega)
theorem w64_nat {i m : Nat} (h : i < m) (hm : m ≤ 9223372036854775807) : w64 ((i : Int) + 1) = ((i + 1 : Nat) : Int) := by rw [w64_eq (by omega) (by omega)]; omega

theorem getI_nat {α : Type} (xs : List α) (i : Nat) : getI xs (i : Int) = xs[i]? := by
  unfold getI
  rw [if_pos (by omega)]
  simp
theorem getI_lt {α : Type} {xs : List α} {i : Nat} (h : i < xs.length) : getI xs (i : Int) = some xs[i] := by rw [getI_nat]; exact List.getElem?_eq_getElem h
theorem inb_nat {α : Type} (xs : List α) (i : Nat) : inb xs (i : Int) = decide (i < xs.length) := by
  unfold inb
  have : decide (0 ≤ (i : Int)) = true := by simp
  rw [this, Bool.true_and]
  simp
theorem inb_lt {α : Type} {xs : List α} {i : Nat} (h : i < xs.length) : inb xs (i : Int) = true := by rw [inb_nat]; simpa using h
theorem upd_is {α : Type} (l : List α) (n : Nat) (y : α) : upd l n y = l.set n y := upd_set l n y

/-! ### what comes in -/
def fI (x : Int) : Prop := IntKind.min .i64 ≤ x ∧ x ≤ IntKind.max .i64
def fB (_ : Bool) : Prop := True
def fStr (x : List UInt8) : Prop := List.length x ≤ maxLen
def fSl {α : Type} (p : α → Prop) (x : List α) : Prop := List.length x ≤ maxLen ∧ ∀ y, List.Mem y x → p y
def fP {α β : Type} (p : α → Prop) (q : β → Prop) (x : α × β) : Prop := p x.1 ∧ q x.2
theorem fI_b {x : Int} (h : fI x) : -9223372036854775808 ≤ x ∧ x ≤ 9223372036854775807 := by
  unfold fI IntKind.min IntKind.max at h
  simpa [IntKind.bits, IntKind.signed] using h
theorem fSl_len {α : Type} {p : α → Prop} {x : List α} (h : fSl p x) : x.length ≤ 9223372036854775807 := h.1
theorem fSl_mem {α : Type} {p : α → Prop} {x : List α} (h : fSl p x) {y : α} (hy : y ∈ x) : p y := h.2 y hy

/-! ### loops -/

section
variable {α γ σ β : Type}
theorem iter_go {f : α → Option (α ⊕ γ)} {x y : α} (h : f x = some (.inl y)) (n : Nat) : iter (n + 1) f x = iter n f y := by simp [iter, h]
theorem iter_end {f : α → Option (α ⊕ γ)} {x : α} {z : γ} (h : f x = some (.inr z)) (n : Nat) : iter (n + 1) f x = some z := by simp [iter, h]

/-- A loop that goes so many rounds. -/
theorem iter_steps (f : α → Option (α ⊕ γ)) (st : Nat → α) (m : Nat) (r : γ) (hs : ∀ i, i < m → f (st i) = some (.inl (st (i + 1)))) (he : f (st m) = some (.inr r)) : ∀ n, m < n → iter n f (st 0) = some r := by
  have key : ∀ d i n, i + d = m → d < n → iter n f (st i) = some r := by
    intro d
    induction d with
    | zero =>
      intro i n hi hn
      obtain ⟨n, rfl⟩ : ∃ k, n = k + 1 := ⟨n - 1, by omega⟩
      have : i = m := by omega
      subst this
      exact iter_end he n
    | succ d ih =>
      intro i n hi hn
      obtain ⟨n, rfl⟩ : ∃ k, n = k + 1 := ⟨n - 1, by omega⟩
      rw [iter_go (hs i (by omega)) n]
      exact ih (i + 1) n (by omega) (by omega)
  exact fun n hn => key m 0 n (by omega) hn

/-- A loop over a list, with a state: what it answers is told by recursion on what is left. -/
theorem iter_rec (f : α → Option (α ⊕ γ)) (st : Nat → σ → α) (xs : List β) (G : List β → σ → γ) (Inv : Nat → σ → Prop)
    (hend : ∀ s, Inv xs.length s → f (st xs.length s) = some (.inr (G [] s)))
    (hstep : ∀ i x l s, i < xs.length → xs[i]? = some x → xs.drop i = x :: l → xs.drop (i + 1) = l → Inv i s → (∃ s', f (st i s) = some (.inl (st (i + 1) s')) ∧ Inv (i + 1) s' ∧ G (x :: l) s = G l s') ∨ f (st i s) = some (.inr (G (x :: l) s))) :
    ∀ n, xs.length < n → ∀ s, Inv 0 s → iter n f (st 0 s) = some (G xs s) := by
  have key : ∀ d i n s, i + d = xs.length → d < n → Inv i s → iter n f (st i s) = some (G (xs.drop i) s) := by
    intro d
    induction d with
    | zero =>
      intro i n s hi hn hI
      obtain ⟨n, rfl⟩ : ∃ k, n = k + 1 := ⟨n - 1, by omega⟩
      have : i = xs.length := by omega
      subst this
      rw [iter_end (hend s hI) n, List.drop_length]
    | succ d ih =>
      intro i n s hi hn hI
      obtain ⟨n, rfl⟩ : ∃ k, n = k + 1 := ⟨n - 1, by omega⟩
      have hlt : i < xs.length := by omega
      have hd : xs.drop i = xs[i] :: xs.drop (i + 1) := List.drop_eq_getElem_cons hlt
      rcases hstep i xs[i] (xs.drop (i + 1)) s hlt (List.getElem?_eq_getElem hlt) hd rfl hI with ⟨s', h1, h2, h3⟩ | h1
      · rw [iter_go h1 n, ih (i + 1) n s' (by omega) (by omega) h2, hd, h3]
      · rw [iter_end h1 n, hd]
  intro n hn s hI
  have := key xs.length 0 n s (by omega) hn hI
  simpa using this
/-- The same where the state is the number of the round alone. -/
theorem iter_list (f : Int → Option (Int ⊕ γ)) (xs : List β) (G : List β → List β → γ) (hend : f (xs.length : Int) = some (.inr (G xs [])))
    (hstep : ∀ i x l p, i < xs.length → xs[i]? = some x → xs = p ++ x :: l → p.length = i → p = xs.take i → (f (i : Int) = some (.inl ((i + 1 : Nat) : Int)) ∧ G p (x :: l) = G (p ++ [x]) l) ∨ f (i : Int) = some (.inr (G p (x :: l)))) :
    ∀ n, xs.length < n → iter n f 0 = some (G [] xs) := by
  intro n hn
  refine iter_rec (σ := List β) f (fun i _ => (i : Int)) xs (fun l p => G p l) (fun i p => p = xs.take i) (fun s hs => ?_) (fun i x l s h1 h2 h3 h4 h5 => ?_) n hn [] (by simp)
  · have : s = xs := by rw [hs]; simp
    rw [this]; exact hend
  · have hlen : s.length = i := by rw [h5]; simp; omega
    have hx : xs = s ++ x :: l := by rw [← h3, h5, List.take_append_drop]
    rcases hstep i x l s h1 h2 hx hlen h5 with ⟨q1, q2⟩ | q1
    · refine .inl ⟨s ++ [x], q1, ?_, q2⟩
      have hxi : x = xs[i] := by rw [List.getElem?_eq_getElem h1] at h2; exact (Option.some.inj h2).symm
      rw [h5, List.take_succ_eq_append_getElem h1, hxi]
    · exact .inr q1
end

/-! ### copies -/

/-- A loop that copies. -/
theorem copy_ok {β : Type} (L : Int × List β → Option ((Int × List β) ⊕ (Int × List β))) (xs : List β) (z : β)
    (hL : ∀ (i : Nat) (h : i < xs.length) (out : List β), out.length = xs.length → L ((i : Int), out) = some (.inl (((i + 1 : Nat) : Int), out.set i xs[i]))) (hend : ∀ out, L ((xs.length : Int), out) = some (.inr ((xs.length : Int), out))) :
    ∀ n, xs.length < n → iter n L (0, List.replicate xs.length z) = some ((xs.length : Int), xs) := by
  intro n hn
  have := iter_rec (σ := List β) L (fun i s => ((i : Int), s)) xs (fun l s => ((xs.length : Int), s.take (xs.length - l.length) ++ l)) (fun i s => s.length = xs.length ∧ s.take i = xs.take i)
    (fun s hs => by
      rw [hend s, show s.take (xs.length - ([] : List β).length) ++ [] = s by simp [← hs.1]])
    (fun i x l s h1 h2 h3 h4 h5 => by
      left
      have hx : xs[i] = x := by rw [List.getElem?_eq_getElem h1] at h2; exact Option.some.inj h2
      refine ⟨s.set i xs[i], hL i h1 s h5.1, ⟨by simp [h5.1], ?_⟩, ?_⟩
      · rw [List.take_succ_eq_append_getElem h1, List.take_succ_eq_append_getElem (by simp [h5.1]; exact h1)]
        congr 1
        · rw [List.take_set_of_le (Nat.le_refl i), h5.2]
        · simp
      · have hl : l.length = xs.length - (i + 1) := by rw [← h4]; simp
        congr 1
        rw [List.length_cons, hl, show xs.length - (xs.length - (i + 1) + 1) = i by omega, show xs.length - (xs.length - (i + 1)) = i + 1 by omega]
        rw [List.take_succ_eq_append_getElem (by simp [h5.1]; exact h1), List.take_set_of_le (Nat.le_refl i)]
        simp [hx])
    n hn (List.replicate xs.length z) ⟨by simp, by simp⟩
  simpa using this

/-! ### the largest number of rounds -/
def BIG : Nat := 18446744073709551616
theorem maxLen_eq : maxLen = 9223372036854775807 := rfl


theorem cond_dec {α : Type} (p : Prop) [Decidable p] (x y : α) : (bif decide p then x else y) = if p then x else y := by
  by_cases h : p <;> simp [h]

theorem laws_toTaskS_ok (a : List (Int × Int × Int × Int)) (h : a.length ≤ 1048576) (n : Nat) (hn : BIG ≤ n) : laws_toTaskS n a = some a := by
  have hc := copy_ok (laws_toTaskS_L1 a) a (0, 0, 0, 0) (fun i hi out ho => by
    simp [laws_toTaskS_L1, hi, getI_lt hi, laws_toTask, inb_lt (xs := out) (by omega : i < out.length), w64_nat hi (by omega), upd_is]) (fun out => by
    simp [laws_toTaskS_L1]) n (by unfold BIG at hn; omega)
  unfold laws_toTaskS
  have h1 : (decide (0 ≤ (a.length : Int)) && decide ((a.length : Int) ≤ (maxRow : Int)) && decide ((a.length : Int) = (a.length : Int))) = true := by
    have hm : maxRow = 68719476736 := rfl
    have h2 : decide ((a.length : Int) ≤ (maxRow : Int)) = true := by rw [hm]; simp; omega
    rw [h2]; simp
  rw [h1, cond_true, show Int.toNat (a.length : Int) = a.length by simp, hc]
  rfl
theorem laws_eqTaskS_ok (a : List (Int × Int × Int × Int)) (h : a.length ≤ 1048576) (n : Nat) (hn : BIG ≤ n) : laws_eqTaskS n a a = some true := by
  have hc := iter_steps (laws_eqTaskS_L1 a a) (fun i => (i : Int)) a.length (.inl (a.length : Int)) (fun i hi => by
    simp [laws_eqTaskS_L1, hi, getI_lt hi, laws_eqTask, w64_nat hi (by omega)]) (by simp [laws_eqTaskS_L1]) n (by unfold BIG at hn; omega)
  unfold laws_eqTaskS
  rw [show ((a.length : Int) != (a.length : Int)) = false by simp, cond_false]
  rw [show ((0 : Nat) : Int) = 0 from rfl] at hc
  rw [hc]; rfl

theorem spec_l1In_ok (a b c : Int) : spec_l1In a b c = some (decide (b ≤ a) && decide (a ≤ c)) := by
  unfold spec_l1In
  by_cases h : a ≥ b <;> simp [h]
theorem impl_in_ok (a b c : Int) : impl_in a b c = some (decide (b ≤ a) && decide (a ≤ c)) := by
  unfold impl_in
  by_cases h : a ≥ b <;> simp [h]

/-- A task that is right by itself. -/
def taskGood (t : Int × Int × Int × Int) : Bool :=
  decide (1 ≤ t.1) && decide (t.1 ≤ 1000000) && decide (1 ≤ t.2.1) && decide (t.2.1 ≤ 999) && decide (1 ≤ t.2.2.2) && decide (t.2.2.2 ≤ 4) && decide (0 ≤ t.2.2.1) && decide (t.2.2.1 ≤ 99) && ((t.2.2.1 == 0) == (t.2.2.2 == 1))
def taskClash (t u : Int × Int × Int × Int) : Bool :=
  (t.1 == u.1 && t.2.1 == u.2.1) || (!(t.2.2.2 == 1) && (t.2.2.1 == u.2.2.1 || (t.2.1 == u.2.1 && !(u.2.2.2 == 1))))
def tasksGo : List (Int × Int × Int × Int) → List (Int × Int × Int × Int) → Bool
  | _, [] => true
  | p, x :: l => taskGood x && p.all (fun u => !taskClash x u) && tasksGo (p ++ [x]) l
def tasksOk (l : List (Int × Int × Int × Int)) : Bool := decide (l.length ≤ 60) && tasksGo [] l



theorem sub_zero {α : Type} (xs : List α) (i : Nat) : sub xs (Int.toNat (0 : Int)) (Int.toNat (i : Int)) = xs.take i := by simp [sub]
theorem impl_clash (x u : Int × Int × Int × Int) (i : Nat) (a : List (Int × Int × Int × Int)) (k : Nat) (hk : k < (a.take i).length) (hu : (a.take i)[k]? = some u) (hm : a.length ≤ 1048576) :
    impl_TasksOk_L2 a i x k = some (bif taskClash x u then .inr (.inr false) else .inl ((k + 1 : Nat) : Int)) := by
  unfold impl_TasksOk_L2
  rw [sub_zero, getI_nat, hu]
  have hk' : decide ((k : Int) < ((a.take i).length : Int)) = true := by simp only [decide_eq_true_eq]; omega
  rw [hk', cond_true, w64_nat hk (by simp; omega)]
  simp only [Option.bind_some, taskClash]
  cases (x.1 == u.1) <;> cases (x.2.1 == u.2.1) <;> cases (x.2.2.2 == 1) <;> cases (x.2.2.1 == u.2.2.1) <;> cases hq : (u.2.2.2 == 1) <;> simp [bne, hq]
theorem spec_clash (x u : Int × Int × Int × Int) (i : Nat) (a : List (Int × Int × Int × Int)) (k : Nat) (hk : k < i) (hu : a[k]? = some u) (hi : i ≤ a.length) (hm : a.length ≤ 1048576) :
    spec_TasksOk_L2 a i x k = some (bif taskClash x u then .inr (.inr false) else .inl ((k + 1 : Nat) : Int)) := by
  unfold spec_TasksOk_L2
  rw [getI_nat, hu]
  have hk' : decide ((k : Int) < (i : Int)) = true := by simp only [decide_eq_true_eq]; omega
  rw [hk', cond_true, w64_nat hk (by omega)]
  simp only [Option.bind_some, taskClash]
  rw [BEq.comm (a := u.1), BEq.comm (a := u.2.1), BEq.comm (a := u.2.2.1)]
  cases (x.1 == u.1) <;> cases (x.2.1 == u.2.1) <;> cases (x.2.2.2 == 1) <;> cases (x.2.2.1 == u.2.2.1) <;> cases hq : (u.2.2.2 == 1) <;> simp [bne, hq]

theorem impl_inner (x : Int × Int × Int × Int) (i : Nat) (a : List (Int × Int × Int × Int)) (hi : i ≤ a.length) (hm : a.length ≤ 1048576) (n : Nat) (hn : BIG ≤ n) :
    iter n (impl_TasksOk_L2 a i x) 0 = some (bif (a.take i).all (fun u => !taskClash x u) then .inl (i : Int) else .inr false) := by
  have hl : (a.take i).length = i := by simp; omega
  refine (iter_list (impl_TasksOk_L2 a i x) (a.take i) (fun p l => bif l.all (fun u => !taskClash x u) then .inl (i : Int) else .inr false) ?_ ?_ n (by unfold BIG at hn; omega))
  · unfold impl_TasksOk_L2
    rw [sub_zero, hl]; simp [hl]
  · intro k u l p h1 h2 h3 h4 h5
    rw [impl_clash x u i a k h1 h2 hm]
    cases hc : taskClash x u with
    | true => exact .inr (by simp [hc])
    | false => exact .inl ⟨by simp, by simp [hc]⟩
theorem spec_inner (x : Int × Int × Int × Int) (i : Nat) (a : List (Int × Int × Int × Int)) (hi : i ≤ a.length) (hm : a.length ≤ 1048576) (n : Nat) (hn : BIG ≤ n) :
    iter n (spec_TasksOk_L2 a i x) 0 = some (bif (a.take i).all (fun u => !taskClash x u) then .inl (i : Int) else .inr false) := by
  have hl : (a.take i).length = i := by simp; omega
  refine (iter_list (spec_TasksOk_L2 a i x) (a.take i) (fun p l => bif l.all (fun u => !taskClash x u) then .inl (i : Int) else .inr false) ?_ ?_ n (by unfold BIG at hn; omega))
  · unfold spec_TasksOk_L2
    rw [hl]; simp
  · intro k u l p h1 h2 h3 h4 h5
    have hk : k < i := by omega
    rw [spec_clash x u i a k hk (by rw [List.getElem?_take_of_lt hk] at h2; exact h2) hi hm]
    cases hc : taskClash x u with
    | true => exact .inr (by simp [hc])
    | false => exact .inl ⟨by simp, by simp [hc]⟩

theorem impl_good (x : Int × Int × Int × Int) :
    ((impl_in x.1 1 1000000).bind fun (x3 : Bool) => bif (!x3) then some true else (impl_in x.2.1 1 999).bind fun (x4 : Bool) => bif (!x4) then some true else (impl_in x.2.2.2 1 4).bind fun (x5 : Bool) => bif (!x5) then some true else
      bif ((x.2.2.2 == 1) != (x.2.2.1 == 0)) then some true else (impl_in x.2.2.1 0 99).bind fun (x6 : Bool) => some (!x6)) = some (!taskGood x) := by
  simp only [impl_in_ok, Option.bind_some, taskGood]
  cases decide (1 ≤ x.1) <;> cases decide (x.1 ≤ 1000000) <;> cases decide (1 ≤ x.2.1) <;> cases decide (x.2.1 ≤ 999) <;> cases decide (1 ≤ x.2.2.2) <;> cases decide (x.2.2.2 ≤ 4) <;> simp <;>
    cases (x.2.2.2 == 1) <;> cases (x.2.2.1 == 0) <;> simp
theorem spec_good (x : Int × Int × Int × Int) :
    ((spec_l1In x.1 1 1000000).bind fun (x3 : Bool) => bif (!x3) then some true else (spec_l1In x.2.1 1 999).bind fun (x4 : Bool) => bif (!x4) then some true else (spec_l1In x.2.2.2 1 4).bind fun (x5 : Bool) => bif (!x5) then some true else
      (spec_l1In x.2.2.1 0 99).bind fun (x6 : Bool) => bif (!x6) then some true else some ((x.2.2.1 == 0) != (x.2.2.2 == 1))) = some (!taskGood x) := by
  simp only [spec_l1In_ok, Option.bind_some, taskGood]
  cases decide (1 ≤ x.1) <;> cases decide (x.1 ≤ 1000000) <;> cases decide (1 ≤ x.2.1) <;> cases decide (x.2.1 ≤ 999) <;> cases decide (1 ≤ x.2.2.2) <;> cases decide (x.2.2.2 ≤ 4) <;> simp <;>
    cases (x.2.2.2 == 1) <;> cases (x.2.2.1 == 0) <;> cases decide (0 ≤ x.2.2.1) <;> cases decide (x.2.2.1 ≤ 99) <;> simp

theorem impl_TasksOk_ok (a : List (Int × Int × Int × Int)) (hm : a.length ≤ 1048576) (n : Nat) (hn : BIG ≤ n) : impl_TasksOk n a = some (tasksOk a) := by
  have key : iter n (impl_TasksOk_L1 n a) 0 = some (bif tasksGo [] a then .inl (a.length : Int) else .inr false) := by
    refine iter_list (impl_TasksOk_L1 n a) a (fun p l => bif tasksGo p l then .inl (a.length : Int) else .inr false) ?_ ?_ n (by unfold BIG at hn; omega)
    · unfold impl_TasksOk_L1; simp [tasksGo]
    · intro i x l p h1 h2 h3 h4 h5
      have e : impl_TasksOk_L1 n a i = some (bif taskGood x && p.all (fun u => !taskClash x u) then .inl ((i + 1 : Nat) : Int) else .inr (.inr false)) := by
        unfold impl_TasksOk_L1
        rw [show decide ((i : Int) < (a.length : Int)) = true by simp only [decide_eq_true_eq]; omega, cond_true, getI_nat, h2]
        simp only [Option.bind_some, impl_good, w64_nat h1 (by omega)]
        cases hg : taskGood x with
        | false => simp
        | true =>
          rw [show (decide ((0 : Int) ≤ (0 : Int)) && decide ((0 : Int) ≤ (i : Int)) && decide ((i : Int) ≤ (a.length : Int))) = true by simp; omega]
          rw [impl_inner x i a (by omega) hm n hn, ← h5]
          cases hp : p.all (fun u => !taskClash x u) <;> simp
      rw [e]
      cases hg : (taskGood x && p.all fun u => !taskClash x u) with
      | true => exact .inl ⟨by simp, by simp [tasksGo, hg]⟩
      | false => exact .inr (by simp [tasksGo, hg])
  unfold impl_TasksOk
  rw [key]
  cases h : tasksGo [] a with
  | true => simp [tasksOk, h]; omega
  | false => simp [tasksOk, h]
theorem spec_TasksOk_ok (a : List (Int × Int × Int × Int)) (hm : a.length ≤ 1048576) (n : Nat) (hn : BIG ≤ n) : spec_TasksOk n a = some (tasksOk a) := by
  have key : iter n (spec_TasksOk_L1 n a) 0 = some (bif tasksGo [] a then .inl (a.length : Int) else .inr false) := by
    refine iter_list (spec_TasksOk_L1 n a) a (fun p l => bif tasksGo p l then .inl (a.length : Int) else .inr false) ?_ ?_ n (by unfold BIG at hn; omega)
    · unfold spec_TasksOk_L1; simp [tasksGo]
    · intro i x l p h1 h2 h3 h4 h5
      have e : spec_TasksOk_L1 n a i = some (bif taskGood x && p.all (fun u => !taskClash x u) then .inl ((i + 1 : Nat) : Int) else .inr (.inr false)) := by
        unfold spec_TasksOk_L1
        rw [show decide ((i : Int) < (a.length : Int)) = true by simp only [decide_eq_true_eq]; omega, cond_true, getI_nat, h2]
        simp only [Option.bind_some, spec_good, w64_nat h1 (by omega)]
        cases hg : taskGood x with
        | false => simp
        | true =>
          rw [spec_inner x i a (by omega) hm n hn, ← h5]
          cases hp : p.all (fun u => !taskClash x u) <;> simp
      rw [e]
      cases hg : (taskGood x && p.all fun u => !taskClash x u) with
      | true => exact .inl ⟨by simp, by simp [tasksGo, hg]⟩
      | false => exact .inr (by simp [tasksGo, hg])
  unfold spec_TasksOk
  rw [key]
  by_cases hl : a.length ≤ 60
  · rw [show decide ((a.length : Int) > 60) = false by simp; omega]
    cases h : tasksGo [] a with
    | true => simp [tasksOk, h, hl]
    | false => simp [tasksOk, h]
  · rw [show decide ((a.length : Int) > 60) = true by simp; omega]
    simp [tasksOk, hl]

theorem laws_FnExactTasksOk_pure (a : List (Int × Int × Int × Int)) (h : fSl (fP fI (fP fI (fP fI fI))) a) : ∃ n, laws_FnExactTasksOk n a = some true := by
  refine ⟨BIG, ?_⟩
  have hm := fSl_len h
  unfold laws_FnExactTasksOk laws_szTaskS
  have hw : w64 (1048576 - (a.length : Int)) = 1048576 - (a.length : Int) := w64_eq (by omega) (by omega)
  rw [hw]
  by_cases hl : a.length ≤ 1048576
  · rw [show decide (1048576 - (a.length : Int) < 0) = false by simp; omega]
    simp only [cond_false, Option.bind_some]
    rw [show decide (1048576 - (a.length : Int) < 0) = false by simp; omega]
    simp [laws_toTaskS_ok a hl, laws_eqTaskS_ok a hl, spec_TasksOk_ok a hl, impl_TasksOk_ok a hl]
  · rw [show decide (1048576 - (a.length : Int) < 0) = true by simp; omega]
    simp

end Go.Ev.N
