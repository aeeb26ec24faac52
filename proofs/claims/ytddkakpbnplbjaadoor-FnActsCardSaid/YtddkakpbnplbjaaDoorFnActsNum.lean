/- impl.number by hand: the walk over the shelf's contracts of strconv.Atoi and Itoa. Conditions: none. -/
import Derived.Test.YtddkakpbnplbjaaDoorLib5
import Derived.Test.YtddkakpbnplbjaaDoorProg
import Derived.Shelf.Lay
import Derived.Ground.NamesProg
import Derived.WalkKit
import Derived.BigCall
import Derived.KernelRfl
namespace Go.Proofs
open Go.Shelf
shelf_lay LaysC.n172 Nm 172 at Tryd as Tryd.lays172
shelf_lay LaysM.n171 Nm 171 at Tryd as Tryd.lays171
shelf_lay LaysM.n145 Nm 145 at Tryd as Tryd.lays145
shelf_lay LaysM.n146 Nm 146 at Tryd as Tryd.lays146
end Go.Proofs
namespace Go.Proofs.YtddkakpbnplbjaaDoor.Ev
open Go Go.Ev Go.Proofs Go.Shelf Go.RowKit
set_option maxRecDepth 100000 in
theorem TE : NJ Tryd.prog 37 := by
  intro s tp p tp2 p2 w jZ Zf bt fZ
  rcases h : Lib.atoiAll s.data.toList with v | _ | _
  · obtain ⟨vb0, vb1⟩ := Lib.atoiAll_bounds h
    have hr : Lo s.data.toList = if v < 0 ∨ 6 < s.data.toList.length ∨ Lib.itoa v ≠ s.data.toList then (0, false) else (v, true) := by simp only [Lo, h]
    rw [hr]
    clear hr
    go_enter Tryd.func37, Tryd.ntmps37
    go_wp2_with (first
      | (go_at_call 48; refine (Any.strconv_Atoi_ok Tryd.lays172 s (by omega) v h _).mono ?_; rintro e W1 ⟨rfl, hw⟩)
      | (go_at_call 29; refine (Any.strconv_Itoa Tryd.lays171 v vb0 vb1 _ (fZ _ (Ni hw))).mono ?_; rintro e W2 ⟨rfl, k, os, rfl⟩))
    all_goals
      try rw [ByteArray.toList_eq] at *
    all_goals first
      | (exfalso; simp_all <;> omega)
      | (go_ret2; exact ⟨rfl, N3 (Ni hw) _ _⟩)
      | (go_ret2; exact ⟨rfl, Ni hw⟩)
  · have hr : Lo s.data.toList = (0, false) := by simp only [Lo, h]
    rw [hr]
    go_enter Tryd.func37, Tryd.ntmps37
    go_wp2_with (go_at_call 48; refine (Any.strconv_Atoi_syntax_var Tryd.lays172 s jZ h tp p _ ?_).mono ?_)
    · exact Zf
    rintro e W1 ⟨N, rfl, -, -, hb⟩
    go_wp2
    go_ret2
    exact ⟨rfl, hb⟩
  · have hr : Lo s.data.toList = (0, false) := by simp only [Lo, h]
    rw [hr]
    go_enter Tryd.func37, Tryd.ntmps37
    go_wp2_with (go_at_call 48; refine (Any.strconv_Atoi_range_var Tryd.lays172 s jZ h tp2 p2 _ ?_).mono ?_)
    · exact bt
    rintro e W1 ⟨N, rfl, -, -, hb⟩
    go_wp2
    go_ret2
    exact ⟨rfl, hb⟩
end Go.Proofs.YtddkakpbnplbjaaDoor.Ev
