/- The sum of a text, by the program and by the reference, is the same number at every text. Conditions: none but the text's size, as the row has it. -/
import Derived.Test.YtcjameniijmodaaPFnExactCheckOfx1
namespace Go.Proofs.Ytcjameniijmodaa.Pure
open Go.RowKit Go.Proofs.Ytcjameniijmodaa.PFnExactCheckOf Go.Proofs.YtcjameniijmodaaW.PrintWords Go.Proofs.YtcjameniijmodaaW.PrintLast

theorem checkOf_both (s : ByteArray) (hn : s.size ≤ 1048576) (d : Nat) : ∀ (k : Nat) (n i : Int), 0 ≤ i → i ≤ s.size → (s.size : Int) - i = d → d < k →
    ∃ r, spec_CheckOf.l0 k s n i = some r ∧ impl_CheckOf.l0 k s n (s.size : Int) i = some r := by
  induction d with
  | zero =>
    intro k n i h0 h1 hd hk
    obtain ⟨k, rfl⟩ : ∃ m, k = m + 1 := ⟨k - 1, by omega⟩
    refine ⟨n, ?_, ?_⟩
    · simp only [spec_CheckOf.l0]; rw [if_neg (by omega)]
    · simp only [impl_CheckOf.l0]; rw [if_neg (by omega)]
  | succ d ih =>
    intro k n i h0 h1 hd hk
    obtain ⟨k, rfl⟩ : ∃ m, k = m + 1 := ⟨k - 1, by omega⟩
    have hlt : i < (s.size : Int) := by omega
    have hw : wrap64 (i + 1) = i + 1 := by unfold wrap64; omega
    obtain ⟨r, ha, hb⟩ := ih k (Int.tmod (wrap64 ((wrap64 (31 * n)) + (wrap64 (bt s i)))) 9973) (i + 1) (by omega) (by omega) (by omega) (by omega)
    refine ⟨r, ?_, ?_⟩
    · simp only [spec_CheckOf.l0]; rw [if_pos hlt, if_pos h0, hw, Int.mul_comm n 31]; exact ha
    · simp only [impl_CheckOf.l0]; rw [if_pos hlt, if_pos h0, if_pos hlt, hw]; exact hb

theorem FnExactCheckOf : laws_FnExactCheckOf.Pure := by
  intro s _
  refine ⟨s.size + 1, ?_⟩
  unfold laws_FnExactCheckOf.f spec_CheckOf.f impl_CheckOf.f
  by_cases h : (s.size : Int) > 1048576
  · rw [if_pos h]
  · rw [if_neg h]
    obtain ⟨r, ha, hb⟩ := checkOf_both s (by omega) s.size (s.size + 1) 0 0 (by omega) (by omega) (by omega) (by omega)
    rw [ha, hb]; simp

end Go.Proofs.Ytcjameniijmodaa.Pure
