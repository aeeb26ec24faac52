/- FnExactDispatch, as a plain law over native forms: what the program's function answers is what the reference's answers. Conditions: none but the lengths' and numbers' bounds. -/
import Derived.Test.YtglbgceejloiaaaFnExactDispatchPureA
namespace Go.Ev.N
open Go Go.Ev
set_option linter.unusedVariables false
set_option linter.unusedSimpArgs false
theorem spec_ready_ok (a : List Pod) (ha : a.length ≤ 1048576) (l : List Tsk) (hl60 : l.length ≤ 60) (M : Nat) (n : Nat) (hn : BIG ≤ n) : spec_l12Ready n a l (M : Int) = some (castL (readyIx a l M)) := by
  have hl : l.length ≤ 1048576 := by clear hn; omega
  have h1 := busy_loop (spec_l12Ready_L1 l) l hl (fun i out hi ho => by
    have hd : decide ((i : Int) < (l.length : Int)) = true := by simpa using hi
    have hr : decide (out.length + [l[i].2.1].length ≤ maxRow) = true := row1 (by clear hn; omega)
    simp only [spec_l12Ready_L1, hd, cond_true, getI_lt hi, Option.bind_some, hr, w64_nat hi (show l.length ≤ 9223372036854775807 by clear hn; omega), bne]
    cases (l[i].2.2.2 == 1) <;> rfl) (fun out => by simp [spec_l12Ready_L1]) n hn
  have hbl : (busyP l).length ≤ 60 := by unfold busyP; rw [List.length_map]; exact Nat.le_trans (List.length_filter_le _ _) hl60
  obtain ⟨z, z1, z2⟩ := rdy_loop (spec_l12Ready_L2 n a l (M : Int)) a l M (busyP l) (fun i out tk hi h1 h2 h3 => by
    have hd : decide ((i : Int) < (l.length : Int)) = true := by simpa using hi
    have hd2 : decide ((out.length : Int) < (M : Int)) = true := by rw [decide_eq_true_eq]; clear hn; omega
    have hr : decide (out.length + [(i : Int)].length ≤ maxRow) = true := row1 (by clear hn; omega)
    have hr2 : decide (tk.length + [l[i].2.1].length ≤ maxRow) = true := by
      rw [decide_eq_true_eq]; simp [maxRow]; clear hn; omega
    simp only [spec_l12Ready_L2, hd, hd2, cond_true, getI_lt hi, Option.bind_some, hr, hr2, w64_nat hi (show l.length ≤ 9223372036854775807 by clear hn; omega), (podIx_ok a ha l[i].2.1 n hn).1]
    have ham : spec_l6Among n tk l[i].2.1 = some (tk.any fun y => y == l[i].2.1) := spec_l6Among_ok tk (by clear hn; omega) _ n hn
    simp only [ham, Option.bind_some]
    unfold rdyOk
    cases (l[i].2.2.2 == 1) <;> cases decide (podIx a l[i].2.1 ≥ 0) <;> cases (tk.any fun y => y == l[i].2.1) <;> rfl) (fun i out tk hi h1 h3 => by
    right
    have hd : decide ((i : Int) < (l.length : Int)) = true := by simpa using hi
    have hd2 : decide ((out.length : Int) < (M : Int)) = false := by rw [decide_eq_false_iff_not]; clear hn; omega
    simp only [spec_l12Ready_L2, hd, hd2, cond_true, cond_false, Option.bind_some]) (fun out tk => by
    have hd : decide ((l.length : Int) < (l.length : Int)) = false := by simp
    simp only [spec_l12Ready_L2, hd, cond_false, Option.bind_some]) n (by unfold BIG at hn; omega)
  unfold spec_l12Ready
  rw [h1]
  simp only [Option.bind_some, z2, z1]
  rfl

theorem impl_ready_ok (a : List Pod) (ha : a.length ≤ 1048576) (l : List Tsk) (hl60 : l.length ≤ 60) (M : Nat) (n : Nat) (hn : BIG ≤ n) : impl_ready n a l (M : Int) = some (castL (readyIx a l M)) := by
  have hl : l.length ≤ 1048576 := by clear hn; omega
  have h1 := busy_loop (impl_ready_L1 l) l hl (fun i out hi ho => by
    have hd : decide ((i : Int) < (l.length : Int)) = true := by simpa using hi
    have hr : decide (out.length + [l[i].2.1].length ≤ maxRow) = true := row1 (by clear hn; omega)
    simp only [impl_ready_L1, hd, cond_true, getI_lt hi, Option.bind_some, hr, w64_nat hi (show l.length ≤ 9223372036854775807 by clear hn; omega), bne]
    cases (l[i].2.2.2 == 1) <;> rfl) (fun out => by simp [impl_ready_L1]) n hn
  have hbl : (busyP l).length ≤ 60 := by unfold busyP; rw [List.length_map]; exact Nat.le_trans (List.length_filter_le _ _) hl60
  obtain ⟨z, z1, z2⟩ := rdy_loop (impl_ready_L2 n a l (M : Int)) a l M (busyP l) (fun i out tk hi h1 h2 h3 => by
    have hd : decide ((i : Int) < (l.length : Int)) = true := by simpa using hi
    have hd2 : decide ((out.length : Int) < (M : Int)) = true := by rw [decide_eq_true_eq]; clear hn; omega
    have hr : decide (out.length + [(i : Int)].length ≤ maxRow) = true := row1 (by clear hn; omega)
    have hr2 : decide (tk.length + [l[i].2.1].length ≤ maxRow) = true := by
      rw [decide_eq_true_eq]; simp [maxRow]; clear hn; omega
    simp only [impl_ready_L2, podAt_eq, hasInt_eq, hd, hd2, cond_true, getI_lt hi, Option.bind_some, hr, hr2, w64_nat hi (show l.length ≤ 9223372036854775807 by clear hn; omega), (podIx_ok a ha l[i].2.1 n hn).1]
    have ham : spec_l6Among n tk l[i].2.1 = some (tk.any fun y => y == l[i].2.1) := spec_l6Among_ok tk (by clear hn; omega) _ n hn
    simp only [ham, Option.bind_some]
    unfold rdyOk
    cases (l[i].2.2.2 == 1) <;> cases decide (podIx a l[i].2.1 ≥ 0) <;> cases (tk.any fun y => y == l[i].2.1) <;> rfl) (fun i out tk hi h1 h3 => by
    left
    have hd : decide ((i : Int) < (l.length : Int)) = true := by simpa using hi
    have hd2 : decide ((out.length : Int) < (M : Int)) = false := by rw [decide_eq_false_iff_not]; clear hn; omega
    obtain ⟨b, hb⟩ : ∃ b, spec_l6Among n tk l[i].2.1 = some b := ⟨_, spec_l6Among_ok tk (by clear hn; omega) _ n hn⟩
    simp only [impl_ready_L2, podAt_eq, hasInt_eq, hd, hd2, cond_true, cond_false, getI_lt hi, Option.bind_some, w64_nat hi (show l.length ≤ 9223372036854775807 by clear hn; omega), (podIx_ok a ha l[i].2.1 n hn).1, hb]
    cases (l[i].2.2.2 == 1) <;> cases decide (podIx a l[i].2.1 ≥ 0) <;> cases b <;> rfl) (fun out tk => by
    have hd : decide ((l.length : Int) < (l.length : Int)) = false := by simp
    simp only [impl_ready_L2, hd, cond_false]) n (by unfold BIG at hn; omega)
  unfold impl_ready
  rw [h1]
  simp only [Option.bind_some, z2, z1]
  rfl

def rbD (crew : List Rbt) (k : Nat) : Rbt := crew.getD k (0, 0, 0, false, 0)
def tkD (l : List Tsk) (i : Nat) : Tsk := l.getD i (0, 0, 0, 0)
theorem rbD_get {crew : List Rbt} {k : Nat} (h : k < crew.length) : crew[k]? = some (rbD crew k) := by unfold rbD; rw [List.getD, List.getElem?_eq_getElem h]; rfl
theorem tkD_get {l : List Tsk} {k : Nat} (h : k < l.length) : l[k]? = some (tkD l k) := by unfold tkD; rw [List.getD, List.getElem?_eq_getElem h]; rfl
def homeOf (a : List Pod) (id : Int) : Int := match a[(podIx a id).toNat]? with
  | some p => p.2.1
  | none => 0
def sendOne (a : List Pod) (crew : List Rbt) (l : List Tsk) (p : Nat × Nat) (st : List Rbt × List Tsk) : List Rbt × List Tsk :=
  (List.modify (List.modify st.1 p.2 fun y => (y.1, y.2.1, homeOf a (tkD l p.1).2.1, y.2.2.2.1, y.2.2.2.2)) p.2 fun y => (y.1, y.2.1, y.2.2.1, y.2.2.2.1, 0),
   List.modify (List.modify st.2 p.1 fun y => (y.1, y.2.1, (rbD crew p.2).1, y.2.2.2)) p.1 fun y => (y.1, y.2.1, y.2.2.1, 2))
def sendAll (a : List Pod) (crew : List Rbt) (l : List Tsk) (prs : List (Nat × Nat)) : List Rbt × List Tsk := prs.foldl (fun st p => sendOne a crew l p st) (crew, l)
structure SI (crew : List Rbt) (l : List Tsk) (st : List Rbt × List Tsk) : Prop where
  l1 : st.1.length = crew.length
  l2 : st.2.length = l.length
  id : ∀ k, k < crew.length → ∃ r, st.1[k]? = some r ∧ r.1 = (rbD crew k).1
  pod : ∀ i, i < l.length → ∃ t, st.2[i]? = some t ∧ t.2.1 = (tkD l i).2.1
theorem SI.first (crew : List Rbt) (l : List Tsk) : SI crew l (crew, l) := ⟨rfl, rfl, fun k h => ⟨_, rbD_get h, rfl⟩, fun i h => ⟨_, tkD_get h, rfl⟩⟩
theorem SI.one {a : List Pod} {crew : List Rbt} {l : List Tsk} {st : List Rbt × List Tsk} (h : SI crew l st) (p : Nat × Nat) : SI crew l (sendOne a crew l p st) := by
  refine ⟨by simp [sendOne, h.l1], by simp [sendOne, h.l2], fun k hk => ?_, fun i hi => ?_⟩
  · obtain ⟨r, h1, h2⟩ := h.id k hk
    simp only [sendOne, List.getElem?_modify, h1]
    by_cases e : p.2 = k
    · simp [e, h2]
    · simp [e, h2]
  · obtain ⟨r, h1, h2⟩ := h.pod i hi
    simp only [sendOne, List.getElem?_modify, h1]
    by_cases e : p.1 = i
    · simp [e, h2]
    · simp [e, h2]
theorem SI.all {a : List Pod} {crew : List Rbt} {l : List Tsk} : ∀ (prs : List (Nat × Nat)) (st : List Rbt × List Tsk), SI crew l st → SI crew l (prs.foldl (fun st p => sendOne a crew l p st) st)
  | [], st, h => h
  | p :: prs, st, h => SI.all prs _ (h.one p)

def costM (w h : Int) (c : List Int) (a : List Pod) (crew : List Rbt) (l : List Tsk) : List (List Int) :=
  (readyIx a l (idleIx crew l).length).map fun t => (idleIx crew l).map fun k => costN w h c (rbD crew k).2.1 (homeOf a (tkD l t).2.1)
def colsD (w h : Int) (c : List Int) (a : List Pod) (crew : List Rbt) (l : List Tsk) : List Nat := pk (rowsF (costM w h c a crew l)) (List.range (idleIx crew l).length)
def pairD (w h : Int) (c : List Int) (a : List Pod) (crew : List Rbt) (l : List Tsk) (j : Nat) : Option (Nat × Nat) :=
  if costN w h c (rbD crew ((idleIx crew l).getD ((colsD w h c a crew l).getD j 0) 0)).2.1 (homeOf a (tkD l ((readyIx a l (idleIx crew l).length).getD j 0)).2.1) < 100000
  then some ((readyIx a l (idleIx crew l).length).getD j 0, (idleIx crew l).getD ((colsD w h c a crew l).getD j 0) 0) else none
def dispP (w h : Int) (c : List Int) (a : List Pod) (crew : List Rbt) (l : List Tsk) : List (Nat × Nat) := (List.range (colsD w h c a crew l).length).filterMap (pairD w h c a crew l)
def dispOk (w h : Int) (c : List Int) (a : List Pod) (crew : List Rbt) (l : List Tsk) : Bool := stockOk a && crewOk w h c crew && tasksOk l
def dispF (w h : Int) (c : List Int) (a : List Pod) (crew : List Rbt) (l : List Tsk) : List Rbt × List Tsk := bif dispOk w h c a crew l then sendAll a crew l (dispP w h c a crew l) else (crew, l)
theorem dispF_si (w h : Int) (c : List Int) (a : List Pod) (crew : List Rbt) (l : List Tsk) : SI crew l (dispF w h c a crew l) := by
  unfold dispF
  cases dispOk w h c a crew l with
  | true => exact SI.all _ _ (SI.first crew l)
  | false => exact SI.first crew l
theorem costN_b {w h : Int} {c : List Int} (hc : c.length ≤ 1048576) (hf : floorOk w h c = true) (a b : Int) : 0 ≤ costN w h c a b ∧ costN w h c a b ≤ 100000 := by
  obtain ⟨_, _, h1, h2⟩ := steps_ok hc hf a b BIG (Nat.le_refl _)
  unfold costN
  split <;> omega
theorem costM_cm {w h : Int} {c : List Int} (hc : c.length ≤ 1048576) (hf : floorOk w h c = true) (a : List Pod) (crew : List Rbt) (l : List Tsk) : CM (costM w h c a crew l) (idleIx crew l).length := by
  refine ⟨fun r hr => ?_, ?_, idleIx_len crew l, fun r hr x hx => ?_⟩
  · obtain ⟨t, _, rfl⟩ := List.mem_map.1 hr
    simp
  · unfold costM
    rw [List.length_map]
    exact rdy_len a l _ _ _
  · obtain ⟨t, _, rfl⟩ := List.mem_map.1 hr
    obtain ⟨k, _, rfl⟩ := List.mem_map.1 hx
    exact costN_b hc hf _ _
theorem both_match {M : List (List Int)} {m : Nat} (hc : CM M m) (n : Nat) (hn : BIG ≤ n) : ∃ s, impl_Match n M = some (castL (pk (rowsF M) (List.range m)), s) ∧ spec_Match n M = some (castL (pk (rowsF M) (List.range m)), s) := by
  by_cases h0 : M = []
  · subst h0
    have hc0 : CM [] 0 := ⟨by simp, by simp, by omega, by simp⟩
    obtain ⟨s, s1, s2⟩ := impl_Match_ok hc0 (fun _ => rfl) n hn
    obtain ⟨s', s3, s4⟩ := spec_Match_ok hc0 (fun _ => rfl) n hn
    rw [s2] at s4
    injection s4 with s4
    subst s4
    exact ⟨s, s1, s3⟩
  · obtain ⟨s, s1, s2⟩ := impl_Match_ok hc (fun e => absurd e h0) n hn
    obtain ⟨s', s3, s4⟩ := spec_Match_ok hc (fun e => absurd e h0) n hn
    rw [s2] at s4
    injection s4 with s4
    subst s4
    exact ⟨s, s1, s3⟩
theorem map_range_getD {β : Type} (F : Nat → β) (s : List Nat) : (List.range s.length).map (fun i => F (s.getD i 0)) = s.map F := by
  apply List.ext_getElem (by simp)
  intro i h1 h2
  simp at h2
  simp [h2]
theorem castL_get {s : List Nat} {i : Nat} (h : i < s.length) : inb (castL s) (i : Int) = true ∧ (castL s)[i]? = some ((s.getD i 0 : Nat) : Int) := by
  refine ⟨inb_lt (by simpa [castL] using h), ?_⟩
  unfold castL
  rw [List.getElem?_map, List.getElem?_eq_getElem h, List.getD, List.getElem?_eq_getElem h]
  rfl
theorem getD_mem {s : List Nat} {i : Nat} (h : i < s.length) : s.getD i 0 ∈ s := by
  rw [List.getD, List.getElem?_eq_getElem h]; exact List.getElem_mem h
/-- What is known of who is there. -/
theorem ready_facts {a : List Pod} (ha : a.length ≤ 1048576) {l : List Tsk} {M t : Nat} (h : t ∈ readyIx a l M) : t < l.length ∧ (tkD l t).2.2.2 = 1 ∧ (tkD l t).2.1 ∉ busyP l ∧ ∃ i, ∃ hi : i < a.length, podIx a (tkD l t).2.1 = (i : Int) ∧ a[i].1 = (tkD l t).2.1 ∧ homeOf a (tkD l t).2.1 = a[i].2.1 := by
  obtain ⟨_, h2, h3, h4, h5⟩ := rdy_in a l M (busyP l) 0 t h
  simp only [Nat.sub_zero] at h2 h3 h4 h5
  have e : tkD l t = l[t] := by unfold tkD; rw [List.getD, List.getElem?_eq_getElem h2]; rfl
  rw [e]
  refine ⟨h2, h3, h5, ?_⟩
  rcases (podIx_ok a ha l[t].2.1 BIG (Nat.le_refl _)).2 with ⟨q, _⟩ | ⟨i, hi, q, q2⟩
  · omega
  · refine ⟨i, hi, q, q2, ?_⟩
    unfold homeOf
    rw [q, Int.toNat_natCast, List.getElem?_eq_getElem hi]

theorem spec_costs {w h : Int} {c : List Int} (hc : c.length ≤ 1048576) (hf : floorOk w h c = true) {a : List Pod} (ha : a.length ≤ 1048576) {crew : List Rbt} (hcr : crew.length ≤ 1048576) {l : List Tsk} (hl : l.length ≤ 60) (n : Nat) (hn : BIG ≤ n) :
    iter n (spec_Dispatch_L1 n w h c a crew l (castL (idleIx crew l)) (castL (readyIx a l (idleIx crew l).length))) ([], 0) = some (costM w h c a crew l, ((readyIx a l (idleIx crew l).length).length : Int)) := by
  generalize hwho : idleIx crew l = who
  generalize hwhat : readyIx a l who.length = what
  have h10 : who.length ≤ 10 := by rw [← hwho]; exact idleIx_len crew l
  have hwl : what.length ≤ 10 := by rw [← hwhat]; exact Nat.le_trans (rdy_len a l _ _ _) h10
  have hlw : (castL who).length = who.length := by simp [castL]
  have hlt : (castL what).length = what.length := by simp [castL]
  have := build_loop (spec_Dispatch_L1 n w h c a crew l (castL who) (castL what)) (fun i => who.map fun k => costN w h c (rbD crew k).2.1 (homeOf a (tkD l (what.getD i 0)).2.1)) what.length (fun i hi => by
    have hd : decide ((i : Int) < ((castL what).length : Int)) = true := by rw [decide_eq_true_eq, hlt]; clear hn; omega
    obtain ⟨t1, t2⟩ := castL_get hi
    have htm : what.getD i 0 ∈ readyIx a l who.length := by rw [hwhat]; exact getD_mem hi
    obtain ⟨f1, f2, f3, p, hp, f4, f5, f6⟩ := ready_facts ha htm
    generalize what.getD i 0 = t at t2 htm f1 f2 f3 f4 f5 f6
    generalize hout : (List.range i).map (fun i => who.map fun k => costN w h c (rbD crew k).2.1 (homeOf a (tkD l (what.getD i 0)).2.1)) = out
    have hol : out.length = i := by rw [← hout]; simp
    have hin := build_loop (spec_Dispatch_L2 n w h c a crew l (castL who) (castL what) (out, (i : Int))) (fun k => costN w h c (rbD crew (who.getD k 0)).2.1 (homeOf a (tkD l t).2.1)) who.length (fun k hk => by
      have hd2 : decide ((k : Int) < ((castL who).length : Int)) = true := by rw [decide_eq_true_eq, hlw]; clear hn; omega
      obtain ⟨w1, w2⟩ := castL_get hk
      have hkm : who.getD k 0 ∈ idleIx crew l := by rw [hwho]; exact getD_mem hk
      obtain ⟨g1, g2⟩ := idleIx_mem hkm
      have hg : getI crew ((who.getD k 0 : Nat) : Int) = some (rbD crew (who.getD k 0)) := by rw [getI_nat]; exact rbD_get g1
      have hgt : getI l ((t : Nat) : Int) = some (tkD l t) := by rw [getI_nat]; exact tkD_get f1
      have hgp : getI a ((p : Nat) : Int) = some a[p] := getI_lt hp
      have hcost : spec_l12Cost n w h c (rbD crew (who.getD k 0)).2.1 (homeOf a (tkD l t).2.1) = some (costN w h c (rbD crew (who.getD k 0)).2.1 (homeOf a (tkD l t).2.1)) := by
        unfold spec_l12Cost costN
        rw [(steps_ok hc hf _ _ n hn).1, Option.bind_some]
        by_cases q : stepsN w h c (rbD crew (who.getD k 0)).2.1 (homeOf a (tkD l t).2.1) < 0
        · rw [decide_eq_true q, if_pos q]; rfl
        · rw [decide_eq_false q, if_neg q]; rfl
      have hrow : ∀ x : Int, decide (((List.range k).map fun k => costN w h c (rbD crew (who.getD k 0)).2.1 (homeOf a (tkD l t).2.1)).length + [x].length ≤ maxRow) = true := fun x => row1 (by simp; clear hn; omega)
      simp only [spec_Dispatch_L2, hd2, cond_true, w1, w2, t1, t2, Int.toNat_natCast, Option.bind_some, hg, hgt, (podIx_ok a ha _ n hn).1, f4, hgp, ← f6, hcost, hrow, w64_nat hk (show who.length ≤ 9223372036854775807 by clear hn; omega)]) (by
      have hd2 : decide ((who.length : Int) < ((castL who).length : Int)) = false := by rw [decide_eq_false_iff_not, hlw]; clear hn; omega
      simp only [spec_Dispatch_L2, hd2, cond_false]) n (by unfold BIG at hn; omega)
    rw [map_range_getD (fun k => costN w h c (rbD crew k).2.1 (homeOf a (tkD l t).2.1)) who] at hin
    have hrow : ∀ x : List Int, decide (out.length + [x].length ≤ maxRow) = true := fun x => row1 (by clear hn; omega)
    simp only [spec_Dispatch_L1, hd, cond_true, hin, Option.bind_some, hrow, w64_nat hi (show what.length ≤ 9223372036854775807 by clear hn; omega)]) (by
    have hd : decide ((what.length : Int) < ((castL what).length : Int)) = false := by rw [decide_eq_false_iff_not, hlt]; clear hn; omega
    simp only [spec_Dispatch_L1, hd, cond_false]) n (by unfold BIG at hn; omega)
  rw [this, map_range_getD (fun t => who.map fun k => costN w h c (rbD crew k).2.1 (homeOf a (tkD l t).2.1)) what, ← hwhat, ← hwho]
  rfl

theorem impl_costs {w h : Int} {c : List Int} (hc : c.length ≤ 1048576) (hf : floorOk w h c = true) {a : List Pod} (ha : a.length ≤ 1048576) {crew : List Rbt} (hcr : crew.length ≤ 1048576) {l : List Tsk} (hl : l.length ≤ 60) (n : Nat) (hn : BIG ≤ n) :
    iter n (impl_Dispatch_L1 n w h c a crew l (castL (idleIx crew l)) (castL (readyIx a l (idleIx crew l).length))) ([], 0) = some (costM w h c a crew l, ((readyIx a l (idleIx crew l).length).length : Int)) := by
  generalize hwho : idleIx crew l = who
  generalize hwhat : readyIx a l who.length = what
  have h10 : who.length ≤ 10 := by rw [← hwho]; exact idleIx_len crew l
  have hwl : what.length ≤ 10 := by rw [← hwhat]; exact Nat.le_trans (rdy_len a l _ _ _) h10
  have hlw : (castL who).length = who.length := by simp [castL]
  have hlt : (castL what).length = what.length := by simp [castL]
  have := build_loop (impl_Dispatch_L1 n w h c a crew l (castL who) (castL what)) (fun i => who.map fun k => costN w h c (rbD crew k).2.1 (homeOf a (tkD l (what.getD i 0)).2.1)) what.length (fun i hi => by
    have hd : decide ((i : Int) < ((castL what).length : Int)) = true := by rw [decide_eq_true_eq, hlt]; clear hn; omega
    obtain ⟨t1, t2⟩ := castL_get hi
    have htm : what.getD i 0 ∈ readyIx a l who.length := by rw [hwhat]; exact getD_mem hi
    obtain ⟨f1, f2, f3, p, hp, f4, f5, f6⟩ := ready_facts ha htm
    generalize what.getD i 0 = t at t2 htm f1 f2 f3 f4 f5 f6
    generalize hout : (List.range i).map (fun i => who.map fun k => costN w h c (rbD crew k).2.1 (homeOf a (tkD l (what.getD i 0)).2.1)) = out
    have hol : out.length = i := by rw [← hout]; simp
    have hin := build_loop (impl_Dispatch_L2 n w h c a crew l (castL who) (t : Int)) (fun k => costN w h c (rbD crew (who.getD k 0)).2.1 (homeOf a (tkD l t).2.1)) who.length (fun k hk => by
      have hd2 : decide ((k : Int) < ((castL who).length : Int)) = true := by rw [decide_eq_true_eq, hlw]; clear hn; omega
      obtain ⟨w1, w2⟩ := castL_get hk
      have hkm : who.getD k 0 ∈ idleIx crew l := by rw [hwho]; exact getD_mem hk
      obtain ⟨g1, g2⟩ := idleIx_mem hkm
      have hg : getI crew ((who.getD k 0 : Nat) : Int) = some (rbD crew (who.getD k 0)) := by rw [getI_nat]; exact rbD_get g1
      have hgt : getI l ((t : Nat) : Int) = some (tkD l t) := by rw [getI_nat]; exact tkD_get f1
      have hgp : getI a ((p : Nat) : Int) = some a[p] := getI_lt hp
      have hcost : (bif decide (stepsN w h c (rbD crew (who.getD k 0)).2.1 (homeOf a (tkD l t).2.1) < 0) then some (100000 : Int) else some (stepsN w h c (rbD crew (who.getD k 0)).2.1 (homeOf a (tkD l t).2.1))) = some (costN w h c (rbD crew (who.getD k 0)).2.1 (homeOf a (tkD l t).2.1)) := by
        unfold costN
        by_cases q : stepsN w h c (rbD crew (who.getD k 0)).2.1 (homeOf a (tkD l t).2.1) < 0
        · rw [decide_eq_true q, if_pos q]; rfl
        · rw [decide_eq_false q, if_neg q]; rfl
      have hrow : ∀ x : Int, decide (((List.range k).map fun k => costN w h c (rbD crew (who.getD k 0)).2.1 (homeOf a (tkD l t).2.1)).length + [x].length ≤ maxRow) = true := fun x => row1 (by simp; clear hn; omega)
      simp only [impl_Dispatch_L2, podAt_eq, hd2, cond_true, w1, w2, Int.toNat_natCast, Option.bind_some, hg, hgt, (podIx_ok a ha _ n hn).1, f4, hgp, ← f6, (steps_ok hc hf _ _ n hn).2.1, hcost, hrow, w64_nat hk (show who.length ≤ 9223372036854775807 by clear hn; omega)]) (by
      have hd2 : decide ((who.length : Int) < ((castL who).length : Int)) = false := by rw [decide_eq_false_iff_not, hlw]; clear hn; omega
      simp only [impl_Dispatch_L2, hd2, cond_false]) n (by unfold BIG at hn; omega)
    rw [map_range_getD (fun k => costN w h c (rbD crew k).2.1 (homeOf a (tkD l t).2.1)) who] at hin
    have hrow : ∀ x : List Int, decide (out.length + [x].length ≤ maxRow) = true := fun x => row1 (by clear hn; omega)
    simp only [impl_Dispatch_L1, hd, cond_true, t1, t2, Int.toNat_natCast, hin, Option.bind_some, hrow, w64_nat hi (show what.length ≤ 9223372036854775807 by clear hn; omega)]) (by
    have hd : decide ((what.length : Int) < ((castL what).length : Int)) = false := by rw [decide_eq_false_iff_not, hlt]; clear hn; omega
    simp only [impl_Dispatch_L1, hd, cond_false]) n (by unfold BIG at hn; omega)
  rw [this, map_range_getD (fun t => who.map fun k => costN w h c (rbD crew k).2.1 (homeOf a (tkD l t).2.1)) what, ← hwhat, ← hwho]
  rfl

theorem colsD_ok {w h : Int} {c : List Int} (hc : c.length ≤ 1048576) (hf : floorOk w h c = true) (a : List Pod) (crew : List Rbt) (l : List Tsk) : (colsD w h c a crew l).length = (readyIx a l (idleIx crew l).length).length ∧ (colsD w h c a crew l).Nodup ∧ ∀ k ∈ colsD w h c a crew l, k < (idleIx crew l).length := by
  have hcm := costM_cm hc hf a crew l
  obtain ⟨p1, p2, p3⟩ := pk_ok (rowsF (costM w h c a crew l)) (List.range (idleIx crew l).length) List.nodup_range (by rw [List.length_range]; simpa [rowsF] using hcm.nm)
  refine ⟨by unfold colsD; rw [p1]; simp [rowsF, costM], p2, fun k hk => List.mem_range.1 (p3 k hk)⟩
/-- What both look at in a round. -/
theorem send_facts {w h : Int} {c : List Int} (hc : c.length ≤ 1048576) (hf : floorOk w h c = true) {a : List Pod} (ha : a.length ≤ 1048576) {crew : List Rbt} {l : List Tsk} {j : Nat} (hj : j < (colsD w h c a crew l).length) :
    ∃ (q k t p : Nat) (row : List Int), (castL (colsD w h c a crew l))[j]? = some (q : Int) ∧ inb (castL (colsD w h c a crew l)) (j : Int) = true ∧ inb (castL (idleIx crew l)) (q : Int) = true ∧ (castL (idleIx crew l))[q]? = some (k : Int) ∧
      inb (costM w h c a crew l) (j : Int) = true ∧ (costM w h c a crew l)[j]? = some row ∧ inb row (q : Int) = true ∧ row[q]? = some (costN w h c (rbD crew k).2.1 (homeOf a (tkD l t).2.1)) ∧
      inb (castL (readyIx a l (idleIx crew l).length)) (j : Int) = true ∧ (castL (readyIx a l (idleIx crew l).length))[j]? = some (t : Int) ∧ k < crew.length ∧ t < l.length ∧
      podIx a (tkD l t).2.1 = (p : Int) ∧ (∃ x, getI a (p : Int) = some x ∧ x.2.1 = homeOf a (tkD l t).2.1) ∧
      pairD w h c a crew l j = if costN w h c (rbD crew k).2.1 (homeOf a (tkD l t).2.1) < 100000 then some (t, k) else none := by
  obtain ⟨c1, c2, c3⟩ := colsD_ok hc hf a crew l
  have hq := c3 _ (getD_mem hj)
  have hw : j < (readyIx a l (idleIx crew l).length).length := by omega
  obtain ⟨a1, a2⟩ := castL_get hj
  obtain ⟨b1, b2⟩ := castL_get hq
  obtain ⟨d1, d2⟩ := castL_get hw
  obtain ⟨f1, f2, f3, p, hp, f4, f5, f6⟩ := ready_facts ha (getD_mem hw)
  obtain ⟨g1, _⟩ := idleIx_mem (getD_mem hq)
  have hM : j < (costM w h c a crew l).length := by simpa [costM] using hw
  have hrow : (costM w h c a crew l)[j]? = some ((idleIx crew l).map fun k => costN w h c (rbD crew k).2.1 (homeOf a (tkD l ((readyIx a l (idleIx crew l).length).getD j 0)).2.1)) := by
    unfold costM
    rw [List.getElem?_map, List.getElem?_eq_getElem hw, List.getD, List.getElem?_eq_getElem hw]
    rfl
  refine ⟨(colsD w h c a crew l).getD j 0, (idleIx crew l).getD ((colsD w h c a crew l).getD j 0) 0, (readyIx a l (idleIx crew l).length).getD j 0, p, _, a2, a1, b1, b2, inb_lt hM, hrow, inb_lt (by simpa using hq), ?_, d1, d2, g1, f1, f4, ⟨a[p], getI_lt hp, f6.symm⟩, rfl⟩
  generalize (colsD w h c a crew l).getD j 0 = q at hq
  have e : (idleIx crew l).getD q 0 = (idleIx crew l)[q] := by rw [List.getD, List.getElem?_eq_getElem hq]; rfl
  rw [e, List.getElem?_map, List.getElem?_eq_getElem hq]
  rfl
theorem sent_step (a : List Pod) (crew : List Rbt) (l : List Tsk) (w h : Int) (c : List Int) (j : Nat) : sendAll a crew l ((List.range (j + 1)).filterMap (pairD w h c a crew l)) = match pairD w h c a crew l j with
    | some p => sendOne a crew l p (sendAll a crew l ((List.range j).filterMap (pairD w h c a crew l)))
    | none => sendAll a crew l ((List.range j).filterMap (pairD w h c a crew l)) := by
  unfold sendAll
  rw [List.range_succ, List.filterMap_append, List.foldl_append]
  cases h : pairD w h c a crew l j <;> simp [h]

theorem spec_send {w h : Int} {c : List Int} (hc : c.length ≤ 1048576) (hf : floorOk w h c = true) {a : List Pod} (ha : a.length ≤ 1048576) {crew : List Rbt} (hcr : crew.length ≤ 1048576) {l : List Tsk} (hl : l.length ≤ 60) (s x : Int) (n : Nat) (hn : BIG ≤ n) :
    iter n (spec_Dispatch_L3 n a l (castL (idleIx crew l)) (castL (readyIx a l (idleIx crew l).length)) (costM w h c a crew l, x) (castL (colsD w h c a crew l), s)) (0, crew, l) = some (((colsD w h c a crew l).length : Int), sendAll a crew l (dispP w h c a crew l)) := by
  have h10 := idleIx_len crew l
  obtain ⟨c1, c2, c3⟩ := colsD_ok hc hf a crew l
  have hcl : (colsD w h c a crew l).length ≤ 10 := by rw [c1]; exact Nat.le_trans (rdy_len a l _ _ _) h10
  have := iter_steps (spec_Dispatch_L3 n a l (castL (idleIx crew l)) (castL (readyIx a l (idleIx crew l).length)) (costM w h c a crew l, x) (castL (colsD w h c a crew l), s)) (fun j => ((j : Int), sendAll a crew l ((List.range j).filterMap (pairD w h c a crew l)))) (colsD w h c a crew l).length (((colsD w h c a crew l).length : Int), sendAll a crew l (dispP w h c a crew l)) (fun j hj => by
    obtain ⟨q, k, t, p, row, e1, e2, e3, e4, e5, e6, e7, e8, e9, e10, e11, e12, e13, ⟨y, e14, e15⟩, e16⟩ := send_facts hc hf ha hj
    have hlc : (castL (colsD w h c a crew l)).length = (colsD w h c a crew l).length := by simp [castL]
    have hd : decide ((j : Int) < ((castL (colsD w h c a crew l)).length : Int)) = true := by rw [decide_eq_true_eq, hlc]; clear hn; omega
    rw [sent_step, e16]
    have hsi : SI crew l (sendAll a crew l ((List.range j).filterMap (pairD w h c a crew l))) := SI.all _ _ (SI.first crew l)
    generalize sendAll a crew l ((List.range j).filterMap (pairD w h c a crew l)) = st at hsi
    obtain ⟨cr, tk⟩ := st
    have hgt : getI l (t : Int) = some (tkD l t) := by rw [getI_nat]; exact tkD_get e12
    have hw : w64 ((j : Int) + 1) = ((j + 1 : Nat) : Int) := w64_nat hj (by clear hn; omega)
    by_cases hcost : costN w h c (rbD crew k).2.1 (homeOf a (tkD l t).2.1) < 100000
    · rw [if_pos hcost]
      obtain ⟨r, r1, r2⟩ := hsi.id k e11
      have l1 := hsi.l1
      have l2 := hsi.l2
      dsimp only at r1 l1 l2
      have i1 : inb cr (k : Int) = true := inb_lt (by clear hn; omega)
      have i2 : ∀ f, inb (List.modify cr k f) (k : Int) = true := fun f => inb_lt (by rw [List.length_modify]; clear hn; omega)
      have i3 : ∀ f g, inb (List.modify (List.modify cr k f) k g) (k : Int) = true := fun f g => inb_lt (by rw [List.length_modify, List.length_modify]; clear hn; omega)
      have i4 : inb tk (t : Int) = true := inb_lt (by clear hn; omega)
      have i5 : ∀ f, inb (List.modify tk t f) (t : Int) = true := fun f => inb_lt (by rw [List.length_modify]; clear hn; omega)
      have g1 : ∀ f g, (List.modify (List.modify cr k f) k g)[k]? = some (g (f r)) := fun f g => by
        rw [List.getElem?_modify, List.getElem?_modify, r1]; simp
      simp only [spec_Dispatch_L3, hd, cond_true, Int.toNat_natCast, e1, e2, e3, e4, e5, e6, e7, e8, e9, e10, Option.bind_some, decide_eq_true hcost, hgt, (podIx_ok a ha _ n hn).1, e13, e14, e15, i1, i2, i3, i4, i5, g1, hw, sendOne, r2]
    · rw [if_neg hcost]
      simp only [spec_Dispatch_L3, hd, cond_true, cond_false, Int.toNat_natCast, e1, e2, e3, e4, e5, e6, e7, e8, e9, e10, Option.bind_some, decide_eq_false hcost, hw]) (by
    have hlc : (castL (colsD w h c a crew l)).length = (colsD w h c a crew l).length := by simp [castL]
    have hd : decide (((colsD w h c a crew l).length : Int) < ((castL (colsD w h c a crew l)).length : Int)) = false := by rw [decide_eq_false_iff_not, hlc]; clear hn; omega
    simp only [spec_Dispatch_L3, hd, cond_false]
    rfl) n (by unfold BIG at hn; omega)
  exact this

theorem impl_send {w h : Int} {c : List Int} (hc : c.length ≤ 1048576) (hf : floorOk w h c = true) {a : List Pod} (ha : a.length ≤ 1048576) {crew : List Rbt} (hcr : crew.length ≤ 1048576) {l : List Tsk} (hl : l.length ≤ 60) (s x : Int) (n : Nat) (hn : BIG ≤ n) :
    iter n (impl_Dispatch_L3 n a (castL (idleIx crew l)) (castL (readyIx a l (idleIx crew l).length)) (costM w h c a crew l, x) (castL (colsD w h c a crew l), s)) (0, crew, l) = some (((colsD w h c a crew l).length : Int), sendAll a crew l (dispP w h c a crew l)) := by
  have h10 := idleIx_len crew l
  obtain ⟨c1, c2, c3⟩ := colsD_ok hc hf a crew l
  have hcl : (colsD w h c a crew l).length ≤ 10 := by rw [c1]; exact Nat.le_trans (rdy_len a l _ _ _) h10
  have := iter_steps (impl_Dispatch_L3 n a (castL (idleIx crew l)) (castL (readyIx a l (idleIx crew l).length)) (costM w h c a crew l, x) (castL (colsD w h c a crew l), s)) (fun j => ((j : Int), sendAll a crew l ((List.range j).filterMap (pairD w h c a crew l)))) (colsD w h c a crew l).length (((colsD w h c a crew l).length : Int), sendAll a crew l (dispP w h c a crew l)) (fun j hj => by
    obtain ⟨q, k, t, p, row, e1, e2, e3, e4, e5, e6, e7, e8, e9, e10, e11, e12, e13, ⟨y, e14, e15⟩, e16⟩ := send_facts hc hf ha hj
    have hlc : (castL (colsD w h c a crew l)).length = (colsD w h c a crew l).length := by simp [castL]
    have hd : decide ((j : Int) < ((castL (colsD w h c a crew l)).length : Int)) = true := by rw [decide_eq_true_eq, hlc]; clear hn; omega
    rw [sent_step, e16]
    have hsi : SI crew l (sendAll a crew l ((List.range j).filterMap (pairD w h c a crew l))) := SI.all _ _ (SI.first crew l)
    generalize sendAll a crew l ((List.range j).filterMap (pairD w h c a crew l)) = st at hsi
    obtain ⟨cr, tk⟩ := st
    have hw : w64 ((j : Int) + 1) = ((j + 1 : Nat) : Int) := w64_nat hj (by clear hn; omega)
    by_cases hcost : costN w h c (rbD crew k).2.1 (homeOf a (tkD l t).2.1) < 100000
    · rw [if_pos hcost]
      have hge : decide (costN w h c (rbD crew k).2.1 (homeOf a (tkD l t).2.1) ≥ 100000) = false := decide_eq_false (by clear hn; omega)
      obtain ⟨r, r1, r2⟩ := hsi.id k e11
      obtain ⟨u, u1, u2⟩ := hsi.pod t e12
      have l1 := hsi.l1
      have l2 := hsi.l2
      dsimp only at r1 u1 l1 l2
      have i1 : inb cr (k : Int) = true := inb_lt (by clear hn; omega)
      have i4 : inb tk (t : Int) = true := inb_lt (by clear hn; omega)
      have g1 : ∀ f g, (List.modify (List.modify tk t f) t g)[t]? = some (g (f u)) := fun f g => by
        rw [List.getElem?_modify, List.getElem?_modify, u1]; simp
      simp only [impl_Dispatch_L3, podAt_eq, hd, cond_true, cond_false, Int.toNat_natCast, e1, e2, e3, e4, e5, e6, e7, e8, e9, e10, Option.bind_some, hge, i1, i4, r1, g1, u2, (podIx_ok a ha _ n hn).1, e13, e14, e15, hw, sendOne, r2]
    · rw [if_neg hcost]
      have hge : decide (costN w h c (rbD crew k).2.1 (homeOf a (tkD l t).2.1) ≥ 100000) = true := decide_eq_true (by clear hn; omega)
      simp only [impl_Dispatch_L3, hd, cond_true, Int.toNat_natCast, e1, e2, e3, e4, e5, e6, e7, e8, Option.bind_some, hge, hw]) (by
    have hlc : (castL (colsD w h c a crew l)).length = (colsD w h c a crew l).length := by simp [castL]
    have hd : decide (((colsD w h c a crew l).length : Int) < ((castL (colsD w h c a crew l)).length : Int)) = false := by rw [decide_eq_false_iff_not, hlc]; clear hn; omega
    simp only [impl_Dispatch_L3, hd, cond_false]
    rfl) n (by unfold BIG at hn; omega)
  exact this

theorem crew_floor {w h : Int} {c : List Int} {crew : List Rbt} (hk : crewOk w h c crew = true) : floorOk w h c = true := by
  unfold crewOk at hk
  simp only [Bool.and_eq_true] at hk
  exact hk.1.1
theorem spec_Dispatch_ok {w h : Int} {c : List Int} (hc : c.length ≤ 1048576) {a : List Pod} (ha : sm_PodS a) {crew : List Rbt} (hcr : crew.length ≤ 1048576) {l : List Tsk} (hl : l.length ≤ 1048576) (n : Nat) (hn : BIG ≤ n) : spec_Dispatch n w h c a crew l = some (dispF w h c a crew l) := by
  have r1 : decide (([] : List Rbt).length + crew.length ≤ maxRow) = true := by rw [decide_eq_true_eq]; simp [maxRow]; clear hn; omega
  have r2 : decide (([] : List Tsk).length + l.length ≤ maxRow) = true := by rw [decide_eq_true_eq]; simp [maxRow]; clear hn; omega
  have hal : a.length ≤ 1048576 := ha.1
  unfold spec_Dispatch dispF dispOk
  simp only [r1, r2, cond_true, spec_StockOk_ok a ha n hn, spec_CrewOk_ok w h c hc crew hcr n hn, spec_TasksOk_ok l hl n hn, Option.bind_some, List.nil_append]
  cases hs : stockOk a with
  | false => rfl
  | true => cases hk : crewOk w h c crew with
    | false => rfl
    | true => cases ht : tasksOk l with
      | false => rfl
      | true =>
        have hf := crew_floor hk
        have h60 : l.length ≤ 60 := by
          unfold tasksOk at ht
          simp only [Bool.and_eq_true, decide_eq_true_eq] at ht
          exact ht.1
        have hil : (castL (idleIx crew l)).length = (idleIx crew l).length := by simp [castL]
        obtain ⟨s, _, s2⟩ := both_match (costM_cm hc hf a crew l) n hn
        simp only [Bool.not_true, cond_false, Option.bind_some, spec_idle_ok crew hcr l hl n hn, hil, spec_ready_ok a hal l h60 _ n hn, spec_costs hc hf hal hcr h60 n hn, s2, Bool.and_self, cond_true]
        rw [show castL (pk (rowsF (costM w h c a crew l)) (List.range (idleIx crew l).length)) = castL (colsD w h c a crew l) from rfl, spec_send hc hf hal hcr h60 _ _ n hn]
        rfl
theorem impl_Dispatch_ok {w h : Int} {c : List Int} (hc : c.length ≤ 1048576) {a : List Pod} (ha : sm_PodS a) {crew : List Rbt} (hcr : crew.length ≤ 1048576) {l : List Tsk} (hl : l.length ≤ 1048576) (n : Nat) (hn : BIG ≤ n) : impl_Dispatch n w h c a crew l = some (dispF w h c a crew l) := by
  have r1 : decide (crew.length ≤ maxRow) = true := by rw [decide_eq_true_eq]; simp [maxRow]; clear hn; omega
  have r2 : decide (l.length ≤ maxRow) = true := by rw [decide_eq_true_eq]; simp [maxRow]; clear hn; omega
  have hal : a.length ≤ 1048576 := ha.1
  have c1 : impl_copyCrew crew = some crew := by unfold impl_copyCrew; rw [r1]; rfl
  have c2 : impl_copyTasks l = some l := by unfold impl_copyTasks; rw [r2]; rfl
  unfold impl_Dispatch dispF dispOk
  rw [floor_eq]
  simp only [c1, c2, spec_FloorOk_ok w h c hc n hn, impl_StockOk_ok a ha n hn, impl_CrewOk_ok w h c hc crew hcr n hn, impl_TasksOk_ok l hl n hn, Option.bind_some]
  cases hk : crewOk w h c crew with
  | false => cases floorOk w h c <;> cases stockOk a <;> rfl
  | true =>
    have hf := crew_floor hk
    rw [hf]
    cases hs : stockOk a with
    | false => rfl
    | true => cases ht : tasksOk l with
      | false => rfl
      | true =>
        have h60 : l.length ≤ 60 := by
          unfold tasksOk at ht
          simp only [Bool.and_eq_true, decide_eq_true_eq] at ht
          exact ht.1
        have hil : (castL (idleIx crew l)).length = (idleIx crew l).length := by simp [castL]
        obtain ⟨s, s1, _⟩ := both_match (costM_cm hc hf a crew l) n hn
        simp only [Bool.not_true, cond_false, Option.bind_some, impl_idle_ok crew hcr l hl n hn, hil, impl_ready_ok a hal l h60 _ n hn, impl_costs hc hf hal hcr h60 n hn, s1, Bool.and_self, cond_true]
        rw [show castL (pk (rowsF (costM w h c a crew l)) (List.range (idleIx crew l).length)) = castL (colsD w h c a crew l) from rfl, impl_send hc hf hal hcr h60 _ _ n hn]
        rfl

theorem laws_FnExactDispatch_pure (w h : Int) (c : List Int) (a : List SIILIIIJ) (crew : List SIIIBI) (l : List SIIII) (hx : fP fI (fP fI (fP (fSl fI) (fP (fSl (fP fI (fP fI (fSl (fP fI (fP fI fI)))))) (fP (fSl (fP fI (fP fI (fP fI (fP fB fI))))) (fSl (fP fI (fP fI (fP fI fI)))))))) (w, h, c, a, crew, l)) : ∃ n, laws_FnExactDispatch n w h c a crew l = some true := by
  refine ⟨BIG, ?_⟩
  have hB : BIG ≤ BIG := Nat.le_refl _
  obtain ⟨r, e0, q0⟩ := laws_szFloor_ok (w, h, c) ⟨hx.1, hx.2.1, hx.2.2.1⟩ 1048576 (by omega) (by omega)
  unfold laws_FnExactDispatch
  dsimp only at e0
  rw [e0, Option.bind_some]
  rcases q0 with q0 | ⟨q0, q1, qf⟩
  · rw [show decide (r < 0) = true by simpa using q0]; rfl
  rw [show decide (r < 0) = false by simp; omega, cond_false]
  obtain ⟨r2, e2, q2⟩ := laws_szStock_ok a hx.2.2.2.1 r q0 q1 BIG hB
  rw [e2, Option.bind_some]
  rcases q2 with q2 | ⟨q2, q3, qs⟩
  · rw [show decide (r2 < 0) = true by simpa using q2]; rfl
  rw [show decide (r2 < 0) = false by simp; omega, cond_false]
  obtain ⟨r3, e3, q4⟩ := laws_szRobotS_ok crew hx.2.2.2.2.1 r2 q2 (by omega)
  rw [e3, Option.bind_some]
  rcases q4 with q4 | ⟨q4, q5, qr⟩
  · rw [show decide (r3 < 0) = true by simpa using q4]; rfl
  rw [show decide (r3 < 0) = false by simp; omega, cond_false]
  obtain ⟨r4, e4, q6⟩ := laws_szTaskS_ok l hx.2.2.2.2.2 r3 q4 (by omega)
  rw [e4, Option.bind_some]
  rcases q6 with q6 | ⟨q6, q7, qt⟩
  · rw [show decide (r4 < 0) = true by simpa using q6]; rfl
  rw [show decide (r4 < 0) = false by simp; omega, cond_false]
  have tf := laws_toFloor_ok (w, h, c) qf _ hB
  have ts := laws_toStock_ok a qs _ hB
  have tr := laws_toRobotS_ok crew qr _ hB
  have tt := laws_toTaskS_ok l qt _ hB
  have ef := laws_eqFloor_ok (w, h, c) qf _ hB
  have es := laws_eqStock_ok a qs _ hB
  have er := laws_eqRobotS_ok crew qr _ hB
  have et := laws_eqTaskS_ok l qt _ hB
  have i1 := impl_Dispatch_ok (w := w) (h := h) (c := c) qf (a := a) qs (crew := crew) qr (l := l) qt BIG hB
  have s1 := spec_Dispatch_ok (w := w) (h := h) (c := c) qf (a := a) qs (crew := crew) qr (l := l) qt BIG hB
  have si := dispF_si w h c a crew l
  generalize dispF w h c a crew l = st at i1 s1 si
  obtain ⟨cr, tk⟩ := st
  have qo : sm_RobotS cr := by have := si.l1; unfold sm_RobotS at qr ⊢; dsimp only at this; rw [this]; exact qr
  have qw : sm_TaskS tk := by have := si.l2; unfold sm_TaskS at qt ⊢; dsimp only at this; rw [this]; exact qt
  have eo := laws_eqRobotS_ok cr qo _ hB
  have ew := laws_eqTaskS_ok tk qw _ hB
  obtain ⟨k1, b2, m1, m2, m3, m4⟩ := laws_markFloor_only (w, h, c) qf 1 (by omega) (by omega) _ hB
  obtain ⟨k2, b3, m5, m6, m7, m8⟩ := laws_markStock_only a qs k1 (by omega) (by omega) _ hB
  obtain ⟨k3, b4, m9, m10, m11, m12⟩ := laws_markRobotS_only crew qr k2 (by omega) (by omega) _ hB
  obtain ⟨k4, b5, n1, n2, n3, n4⟩ := laws_markTaskS_only l qt k3 (by omega) (by omega) _ hB
  obtain ⟨k5, b6, o1, o2, o3, o4, o5⟩ := laws_markRobotS_ok cr qo 1 (by omega) (by omega) _ hB
  obtain ⟨k6, b7, p1, p2, p3, p4, p5⟩ := laws_markTaskS_ok tk qw k5 (by omega) (by omega) _ hB
  have hk4 : decide (k4 < 0) = false := by simp; omega
  have hk5 : decide (k5 < 0) = false := by simp; omega
  have hk6 : decide (k6 < 0) = false := by simp; omega
  dsimp only at tf ef m1
  simp only [tf, ts, tr, tt, Option.bind_some, s1, i1, eo, ew, ef, es, er, et, m1, m5, m9, n1, o1, p1, o5, p5, hk4, hk5, hk6, Bool.not_true, cond_false, bne_self_eq_false]

end Go.Ev.N
