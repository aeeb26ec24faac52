/- A plain evaluator for Go's loaded code, and that it is sound; part 4. Conditions: none. -/
import Derived.Test.YtglbgceejloiaaaLib3
import Derived.Deep.LoopGhost
import Derived.Tactics
import Derived.SizedLaws
import Derived.Carry
import Derived.ChangeShapes
import Derived.RowKit
namespace Go.Ev
set_option linter.unusedVariables false
set_option linter.unusedSimpArgs false

section
variable {E : Ent} {cx : Cx} {N : Nat} {ms : List Nat} {ps : List VP} {s0 s1 σ : St} {tm : Array Value} {W : Wd} {vss : List (List Lv)}

theorem not_has {ms : List Nat} {r : Nat} (h : has ms r = false) : r ∉ ms := fun hh => by rw [(has_mem _ _).2 hh] at h; cases h
theorem has_not {ms : List Nat} {r : Nat} (h : r ∉ ms) : has ms r = false := by
  cases hh : has ms r with
  | false => rfl
  | true => exact absurd ((has_mem _ _).1 hh) h
/-- A root that stays. -/
theorem anew_root (hk : Keeps (cx.in ms ps) s0 s1) (ha : Anew ms ps s0 s1 σ W tm (fzOf W ps) vss) {r : Nat} (h1 : r ∉ ms) (h2 : r ∉ ps.flatMap VP.roots) : σ.root r = s1.root r := by
  rw [ha.root r h2, base_root, has_not h1, hk.roots r (in_lock h1 h2)]
  rfl
theorem anew_clean (hk : Keeps (cx.in ms ps) s0 s1) (hp : patOk cx ms ps = true) (ha : Anew ms ps s0 s1 σ W tm (fzOf W ps) vss) {a a' : LA} {v : Value} (hc : LClean (cx.in ms ps) a a') (hv : LAok s1 W a' v) :
    LAok σ (anewW σ W ps) (a.clean (fun r => has ms r || has (ps.flatMap VP.slots) r) fun r => has ms r || has (ps.flatMap VP.roots) r) v := by
  have far : ∀ r, ¬ (has ms r || has (ps.flatMap VP.roots) r) = true → (cx.in ms ps).lock r = true ∧ σ.root r = s1.root r := by
    intro r hr
    simp only [Bool.or_eq_true, not_or, Bool.not_eq_true] at hr
    exact ⟨in_lock (not_has hr.1) (not_has hr.2), anew_root hk ha (not_has hr.1) (not_has hr.2)⟩
  have same : ∀ {b : LA}, a = b → ¬ dirty (cx.in ms ps) b → LAok s1 W b v := by
    intro b e hd
    subst e
    rcases hc with rfl | ⟨_, hh⟩
    · exact hv
    · exact absurd hh hd
  cases a with
  | ref c =>
    simp only [LA.clean]
    split
    · trivial
    · rename_i hr
      obtain ⟨q1, q2⟩ := far c.r hr
      refine anew_la hk hp ha (fun c' hc' => ?_) (same rfl (by simp [dirty, q1]))
      rcases hc' with e | ⟨_, _, e⟩ | e | ⟨_, e⟩ <;> cases e
      exact q2
  | win c lo hi =>
    simp only [LA.clean]
    split
    · trivial
    · rename_i hr
      obtain ⟨q1, q2⟩ := far c.r hr
      refine anew_la hk hp ha (fun c' hc' => ?_) (same rfl (by simp [dirty, q1]))
      rcases hc' with e | ⟨_, _, e⟩ | e | ⟨_, e⟩ <;> cases e
      exact q2
  | eptr c =>
    simp only [LA.clean]
    split
    · trivial
    · rename_i hr
      obtain ⟨q1, q2⟩ := far c.r hr
      refine anew_la hk hp ha (fun c' hc' => ?_) (same rfl (by simp [dirty, q1]))
      rcases hc' with e | ⟨_, _, e⟩ | e | ⟨_, e⟩ <;> cases e
      exact q2
  | ptr r j ver =>
    simp only [LA.clean]
    split
    · trivial
    · rename_i hr
      simp only [Bool.or_eq_true, not_or, Bool.not_eq_true] at hr
      have q1 := in_slk (cx := cx) (not_has hr.1) (not_has hr.2)
      refine anew_la hk hp ha (fun c' hc' => ?_) (same rfl (by simp [dirty, q1]))
      rcases hc' with e | ⟨_, _, e⟩ | e | ⟨_, e⟩ <;> cases e
  | ifc t c =>
    simp only [LA.clean]
    split
    · trivial
    · rename_i hr
      obtain ⟨q1, q2⟩ := far c.r hr
      refine anew_la hk hp ha (fun c' hc' => ?_) (same rfl (by simp [dirty, q1]))
      rcases hc' with e | ⟨_, _, e⟩ | e | ⟨_, e⟩ <;> cases e
      exact q2
  | clo g qs q2 =>
    simp only [LA.clean]
    split
    · trivial
    · rename_i hr
      refine anew_la hk hp ha (fun c' hc' => ?_) (same rfl ?_)
      · rcases hc' with e | ⟨_, _, e⟩ | e | ⟨_, e⟩ <;> cases e
      · rintro ⟨p, hp', hd⟩
        refine hr (List.any_eq_true.2 ⟨p, hp', ?_⟩)
        refine Classical.byContradiction fun hn => ?_
        simp only [Bool.or_eq_true, not_or, Bool.not_eq_true] at hn
        rw [in_slk (cx := cx) (not_has hn.1) (not_has hn.2)] at hd
        cases hd
  | _ =>
    refine anew_la hk hp ha (fun c' hc' => ?_) (same rfl (fun hd => (hd : False)))
    rcases hc' with e | ⟨_, _, e⟩ | e | ⟨_, e⟩ <;> cases e

theorem anew_slot (hk : Keeps (cx.in ms ps) s0 s1) (hp : patOk cx ms ps = true) (ha : Anew ms ps s0 s1 σ W tm (fzOf W ps) vss) {a a' : AV} {v : Value} (hc : AClean (cx.in ms ps) a a') (hv : AVok s1 W a' v) :
    AVok σ (anewW σ W ps) (a.clean (fun r => has ms r || has (ps.flatMap VP.slots) r) fun r => has ms r || has (ps.flatMap VP.roots) r) v := by
  have hV : ∀ {g : Bool} {as as' : List LA}, as'.length = as.length → (∀ (j : Nat) (b : LA), as[j]? = some b → ∃ b', as'[j]? = some b' ∧ LClean (cx.in ms ps) b b') → Vok s1 W g as' v →
      Vok σ (anewW σ W ps) g (as.map (LA.clean (fun r => has ms r || has (ps.flatMap VP.slots) r) fun r => has ms r || has (ps.flatMap VP.roots) r)) v := by
    intro g as as' hlen hl hv
    cases g with
    | false =>
      match as, as', hlen, hl, hv with
      | [b], [b'], _, hl, hv =>
        obtain ⟨b2, h1, h2⟩ := hl 0 b rfl
        simp at h1; subst h1
        exact anew_clean hk hp ha h2 hv
      | [], [], _, hl, hv => exact hv.elim
      | _ :: _ :: _, _ :: _ :: _, _, hl, hv => exact hv.elim
    | true =>
      obtain ⟨cs, hcs, hsz, hget⟩ := hv
      refine ⟨cs, hcs, by rw [hsz, hlen]; simp, fun j b hj => ?_⟩
      rw [List.getElem?_map] at hj
      cases hq : as[j]? with
      | none => rw [hq] at hj; cases hj
      | some c =>
        rw [hq] at hj; injection hj with hj; subst hj
        obtain ⟨c', h1, h2⟩ := hl j c hq
        obtain ⟨u, hu, hok⟩ := hget j c' h1
        exact ⟨u, hu, anew_clean hk hp ha h2 hok⟩
  cases hc with
  | same =>
    cases a with
    | tup vs => trivial
    | bx as => trivial
    | v g as => exact hV rfl (fun j b hj => ⟨b, hj, .inl rfl⟩) hv
  | v g as as' h hl => exact hV h hl hv
  | tup vs => trivial
  | bx as => trivial
end
end Go.Ev

namespace Go.Ev
set_option linter.unusedVariables false
set_option linter.unusedSimpArgs false

section
variable {E : Ent} {cx : Cx} {N : Nat} {ms : List Nat} {ps : List VP} {s0 s1 σ : St} {tm : Array Value} {W : Wd} {vss : List (List Lv)}

theorem told_leaf {a : LA} {v : Nat} {fz : Nat → Prop} {y : Value} {o : List Nat} (h : match a with
    | .arr ver gen t e xs d => ver = v ∧ gen = v ∧ RowRd e d W.w W.fz y xs o
    | .sc l x => l.rd 0 W.w (fzOf W ps) y x []
    | .bad => True
    | _ => False) : LeafOk σ (anewW σ W ps) a (some y) (bif a.isArr then o else []) := by
  cases a with
  | arr ver gen t e xs d => exact ⟨y, rfl, h.2.2.frame (fun _ _ => rfl) fun b hb => .inl hb⟩
  | sc l x => exact ⟨rfl, fun u hu => by injection hu with hu; subst hu; exact h⟩
  | bad => exact ⟨rfl, fun _ _ => trivial⟩
  | _ => exact h.elim

theorem anew_rep (h : Rep E s1 tm W) (r1 : RootsIn s1) (h2 : 2 ≤ s0.ctr) (hk : Keeps (cx.in ms ps) s0 s1) (hp : patOk cx ms ps = true) (ha : Anew ms ps s0 s1 σ W tm (fzOf W ps) vss) : Rep E σ tm (anewW σ W ps) where
  len1 := by rw [ha.l1, ← hk.l1, h.len1]
  len2 := by rw [ha.l2, ← hk.l2, h.len2]
  slots t := by
    by_cases ht : t ∈ ps.flatMap VP.slots
    · obtain ⟨p, hm, ht⟩ := List.mem_flatMap.1 ht
      obtain ⟨vs, hto, hat⟩ := ha.get hm
      cases p with
      | slot u l =>
        simp [VP.slots] at ht; subst ht
        obtain ⟨_, x, rfl, hr⟩ := hto
        rw [hat _ rfl]
        exact L.rd_frame l hr (fun _ _ => rfl) fun b hb => .inl hb
      | own u ty e d k =>
        simp [VP.slots] at ht; subst ht
        obtain ⟨_, xs, rfl, _, hcv, hr, _⟩ := hto
        rw [(hat _ rfl).1]
        intro gen t' e' xs' d' hl hg
        exact ⟨_, e', hcv, rfl, rfl⟩
      | box r ls => simp [VP.slots] at ht
    · rw [ha.slot t ht, base_slot]
      cases hms : has ms t with
      | true => exact trivial
      | false => exact anew_slot hk hp ha (hk.slots t (in_slk (not_has hms) ht)) (h.slots t)
  roots r := by
    by_cases hr : r ∈ ps.flatMap VP.roots
    · obtain ⟨p, hm, hr⟩ := List.mem_flatMap.1 hr
      obtain ⟨vs, hto, hat⟩ := ha.get hm
      cases p with
      | slot u l => simp [VP.roots] at hr
      | own u ty e d k =>
        simp [VP.roots] at hr; subst hr
        obtain ⟨_, xs, rfl, hbx, hcv, hrd, _⟩ := hto
        have hro := (hat _ rfl).2
        refine ⟨fun j => ?_, ?_⟩
        · have hom : (anewW σ W ps).om (.lf r j) = bif (nth .bad (σ.root r).ls j).isArr then W.om (.lf r j) else [] := rfl
          rw [hom, hro]
          cases j with
          | zero =>
            show LeafOk _ _ (ownLeaf s0.ctr d k ⟨.sl ty e, xs⟩) (W.cv r 0) (bif (ownLeaf s0.ctr d k ⟨.sl ty e, xs⟩).isArr then W.om (.lf r 0) else [])
            rw [hcv]
            cases d with
            | zero =>
              have := RowRd.zero hrd
              rw [this] at hrd
              exact ⟨rfl, fun u hu => by injection hu with hu; subst hu; exact L.rd_frame (.sl ty e) hrd (fun _ _ => rfl) fun b hb => .inl hb⟩
            | succ d => exact ⟨_, rfl, hrd.frame (fun _ _ => rfl) fun b hb => .inl hb⟩
          | succ j => exact ⟨rfl, fun _ _ => trivial⟩
        · rw [hro]
          show (if false = true then _ else _)
          rw [if_neg (by simp)]
          show (bif (σ.root r).box then W.om (.blk r) else []) = []
          rw [hro]; rfl
      | box q ls =>
        simp [VP.roots] at hr; subst hr
        have hat : σ.root r = _ := hat
        obtain ⟨hbx, hlen, _, hto⟩ := hto
        obtain ⟨_, h2'⟩ := h.roots r
        rw [if_pos hbx] at h2'
        obtain ⟨ho, arr, T, fr, hh, a1, a2, a3⟩ := h2'
        refine ⟨fun j => ?_, ?_⟩
        · have hom : (anewW σ W ps).om (.lf r j) = bif (nth .bad (σ.root r).ls j).isArr then W.om (.lf r j) else [] := rfl
          rw [hom, hat]
          show LeafOk _ _ (nth .bad (boxLeaves s0.ctr ls vs) j) (W.cv r j) (bif (nth .bad (boxLeaves s0.ctr ls vs) j).isArr then W.om (.lf r j) else [])
          cases hcv : W.cv r j with
          | some y => exact told_leaf (v := s0.ctr) (fz := fzOf W ps) (hto s0.ctr j y hcv)
          | none =>
            have hj : ls.length ≤ j := by
              rw [hlen, ← a2]
              rw [a3 j] at hcv
              exact Array.getElem?_eq_none_iff.1 hcv
            rw [nth_ge _ (by rw [boxLeaves_len]; exact hj)]
            exact ⟨rfl, fun _ hu => by cases hu⟩
        · rw [hat]
          show (if true = true then _ else _)
          rw [if_pos rfl]
          refine ⟨?_, arr, T, fr, hh, a1, by rw [boxLeaves_len, hlen]; exact a2, a3⟩
          show (bif (σ.root r).box then W.om (.blk r) else []) = _
          rw [hat]; exact ho
    · cases hms : has ms r with
      | true =>
        have hro : σ.root r = dead := by rw [ha.root r hr, base_root, hms]; rfl
        rw [hro]
        refine ⟨fun j => ?_, ?_⟩
        · have hom : (anewW σ W ps).om (.lf r j) = bif (nth .bad (σ.root r).ls j).isArr then W.om (.lf r j) else [] := rfl
          rw [hom, hro]
          exact ⟨rfl, fun _ _ => trivial⟩
        · show (if false = true then _ else _)
          rw [if_neg (by simp)]
          show (bif (σ.root r).box then W.om (.blk r) else []) = []
          rw [hro]; rfl
      | false =>
        have hro := anew_root hk ha (not_has hms) hr
        rw [hro]
        obtain ⟨q1, q2⟩ := h.roots r
        refine ⟨fun j => ?_, ?_⟩
        · have hom : (anewW σ W ps).om (.lf r j) = bif (nth .bad (σ.root r).ls j).isArr then W.om (.lf r j) else [] := rfl
          rw [hom, hro]
          have hq := q1 j
          show LeafOk _ _ _ (W.cv r j) _
          have hri : ∀ b, nth LA.bad (s1.root r).ls j = b → b.inRoot = true := by
            intro b hb
            by_cases hj : j < (s1.root r).ls.length
            · rw [← hb]; exact r1 r _ (nth_mem hj)
            · rw [nth_ge _ (by omega)] at hb; subst hb; rfl
          generalize nth LA.bad (s1.root r).ls j = b at hq hri
          have hri := hri b rfl
          have hla : ∀ v, LAok s1 W b v → LAok σ (anewW σ W ps) b v := fun v hv => anew_la hk hp ha (fun c hc => by
            rcases hc with e | ⟨_, _, e⟩ | e | ⟨_, e⟩ <;> (subst e; cases hri)) hv
          cases b with
          | arr ver gen t e xs d =>
            obtain ⟨u, hu, hrd⟩ := hq
            exact ⟨u, hu, hrd.frame (fun _ _ => rfl) fun b hb => .inl hb⟩
          | _ => exact ⟨rfl, fun u hu => hla u (hq.2 u hu)⟩
        · have hom : (anewW σ W ps).om (.blk r) = bif (σ.root r).box then W.om (.blk r) else [] := rfl
          rw [hom, hro]
          cases hb : (s1.root r).box with
          | true =>
            rw [hb] at q2
            rw [if_pos rfl] at q2 ⊢
            exact q2
          | false => rw [if_neg (by simp)]; rfl
  sep := anew_sep h ha
  init := by
    refine ⟨fun r j gen t e xs d hl => ?_, fun r hb hver => ?_⟩
    · by_cases hr : r ∈ ps.flatMap VP.roots
      · obtain ⟨p, hm, hr⟩ := List.mem_flatMap.1 hr
        obtain ⟨vs, hto, hat⟩ := ha.get hm
        cases p with
        | slot u l => simp [VP.roots] at hr
        | own u ty e' d' k =>
          simp [VP.roots] at hr; subst hr
          obtain ⟨_, ys, rfl, _, _, _, hkk⟩ := hto
          have hro := (hat _ rfl).2
          unfold St.leaf at hl
          rw [hro] at hl
          cases j with
          | zero =>
            have hl : ownLeaf s0.ctr d' k ⟨.sl ty e', ys⟩ = .arr 1 gen t e xs d := hl
            cases k with
            | true =>
              obtain ⟨g1, t1, e1, xs1, d1, hl1⟩ := hkk rfl
              exact h.init.1 r 0 g1 t1 e1 xs1 d1 hl1
            | false =>
              cases d' with
              | zero => cases hl
              | succ d' =>
                have hl : LA.arr s0.ctr s0.ctr ty e' ys (d' + 1) = .arr 1 gen t e xs d := hl
                injection hl with h1; omega
          | succ j => cases hl
        | box q ls =>
          simp [VP.roots] at hr; subst hr
          have hat : σ.root r = _ := hat
          unfold St.leaf at hl
          rw [hat] at hl
          have hl : nth LA.bad (boxLeaves s0.ctr ls vs) j = .arr 1 gen t e xs d := hl
          obtain ⟨hbx, hlen, _, hto⟩ := hto
          obtain ⟨_, h2'⟩ := h.roots r
          rw [if_pos hbx] at h2'
          obtain ⟨_, arr, T, fr, hh, a1, a2, a3⟩ := h2'
          have hj : j < ls.length := by
            rcases Nat.lt_or_ge j ls.length with hj | hj
            · exact hj
            · rw [nth_ge _ (by rw [boxLeaves_len]; exact hj)] at hl; cases hl
          have hcv : W.cv r j = some (arr[j]'(by omega)) := by rw [a3 j]; exact Array.getElem?_eq_getElem _
          have := hto s0.ctr j _ hcv
          rw [hl] at this
          have := this.1; omega
      · have hro := ha.root r hr
        cases hms : has ms r with
        | true =>
          rw [base_root, hms] at hro
          unfold St.leaf at hl
          rw [hro] at hl
          cases j <;> cases hl
        | false =>
          have hro := anew_root hk ha (not_has hms) hr
          exact h.init.1 r j gen t e xs d (by rw [← leaf_eq hro]; exact hl)
    · obtain ⟨b1, b2, _⟩ := anew_box hk hp ha hb
      exact h.init.2 r b1 (b2.trans hver)
end
end Go.Ev

namespace Go.Ev
set_option linter.unusedVariables false
set_option linter.unusedSimpArgs false

section
variable {E : Ent} {cx : Cx} {N : Nat} {ms : List Nat} {ps : List VP} {s0 s1 σ : St} {tm : Array Value} {W : Wd} {vss : List (List Lv)}

/-- 'c' locks nothing that the code between turns, or that is told. -/
structure Open (c : Cx) (ms : List Nat) (ps : List VP) : Prop where
  m1 : ∀ r ∈ ms, c.lock r = false ∧ c.slk r = false
  p1 : ∀ r ∈ ps.flatMap VP.roots, c.lock r = false
  p2 : ∀ r ∈ ps.flatMap VP.slots, c.slk r = false
theorem open_out (hlk : ∀ t ∈ ms, cx.lock t = false ∧ cx.slk t = false) (hp : patOk cx ms ps = true) : Open cx ms ps := by
  simp only [patOk, Bool.and_eq_true] at hp
  refine ⟨hlk, fun r hr => ?_, fun r hr => ?_⟩
  · obtain ⟨p, hm, hr⟩ := List.mem_flatMap.1 hr
    have := List.all_eq_true.1 hp.2 p hm
    cases p with
    | slot u l => simp [VP.roots] at hr
    | own u ty e d k => simp [VP.roots] at hr; subst hr; simp only [Bool.and_eq_true, Bool.not_eq_true'] at this; exact this.1.1
    | box q ls => simp [VP.roots] at hr; subst hr; simp only [Bool.and_eq_true, Bool.not_eq_true'] at this; exact this.1.2
  · obtain ⟨p, hm, hr⟩ := List.mem_flatMap.1 hr
    have := List.all_eq_true.1 hp.2 p hm
    cases p with
    | slot u l => simp [VP.slots] at hr; subst hr; simpa using this
    | own u ty e d k => simp [VP.slots] at hr; subst hr; simp only [Bool.and_eq_true, Bool.not_eq_true'] at this; exact this.1.2
    | box q ls => simp [VP.slots] at hr
theorem open_in (h : Open cx ms ps) : Open (cx.in ms ps) ms ps := by
  refine ⟨fun r hr => ?_, fun r hr => ?_, fun r hr => ?_⟩
  · have := h.m1 r hr
    simp [Cx.in, this.1, this.2, (has_mem ms r).2 hr]
  · simp [Cx.in, h.p1 r hr, (has_mem _ r).2 hr]
  · simp [Cx.in, h.p2 r hr, (has_mem _ r).2 hr]
theorem anew_keeps {c : Cx} (ho : Open c ms ps) (hk : Keeps (cx.in ms ps) s0 s1) (hp : patOk cx ms ps = true) (ha : Anew ms ps s0 s1 σ W tm (fzOf W ps) vss) (hctr : s0.ctr ≤ σ.ctr) : Keeps c s0 σ where
  slots t ht := by
    have n1 : t ∉ ms := fun hh => by rw [(ho.m1 t hh).2] at ht; cases ht
    have n2 : t ∉ ps.flatMap VP.slots := fun hh => by rw [ho.p2 t hh] at ht; cases ht
    rw [ha.slot t n2, base_slot, has_not n1]
    refine clean_rel (fun r hr => ?_) (fun r hr => ?_) _
    · simp only [Bool.or_eq_true] at hr
      exact hr.elim (fun hr => (ho.m1 r ((has_mem _ _).1 hr)).2) fun hr => ho.p2 r ((has_mem _ _).1 hr)
    · simp only [Bool.or_eq_true] at hr
      exact hr.elim (fun hr => (ho.m1 r ((has_mem _ _).1 hr)).1) fun hr => ho.p1 r ((has_mem _ _).1 hr)
  roots r hr := by
    have n1 : r ∉ ms := fun hh => by rw [(ho.m1 r hh).1] at hr; cases hr
    have n2 : r ∉ ps.flatMap VP.roots := fun hh => by rw [ho.p1 r hh] at hr; cases hr
    rw [ha.root r n2, base_root, has_not n1]; rfl
  box r hr := by
    have n1 : r ∉ ms := fun hh => by rw [(ho.m1 r hh).2] at hr; cases hr
    have n3 : r ∉ ps.flatMap VP.slots := fun hh => by rw [ho.p2 r hh] at hr; cases hr
    by_cases n2 : r ∈ ps.flatMap VP.roots
    · obtain ⟨p, hm, hr'⟩ := List.mem_flatMap.1 n2
      obtain ⟨vs, hto, hat⟩ := ha.get hm
      cases p with
      | slot u l => simp [VP.roots] at hr'
      | own u ty e d k => simp [VP.roots] at hr'; subst hr'; exact absurd (List.mem_flatMap.2 ⟨_, hm, by simp [VP.slots]⟩) n3
      | box q ls =>
        simp [VP.roots] at hr'; subst hr'
        have hat : σ.root r = _ := hat
        obtain ⟨b1, b2, b3⟩ := hk.box r (in_slk n1 n3)
        rw [hat]
        exact ⟨hto.1.symm.trans b1, rfl, (boxLeaves_len _ _ _).trans (hto.2.1.trans b3)⟩
    · rw [ha.root r n2, base_root, has_not n1]; exact ⟨rfl, rfl, rfl⟩
  l1 := ha.l1
  l2 := ha.l2
  ctr := hctr
end
end Go.Ev

namespace Go.Ev
set_option linter.unusedVariables false
set_option linter.unusedSimpArgs false

theorem newLeaf_ok2 (v m : Nat) (x : Lv) : (∀ n ∈ (newLeaf v m x).vers, n = v) ∧ (newLeaf v m x).inRoot = true := by
  obtain ⟨l, x⟩ := x
  cases l with
  | sl t e => cases m with
    | zero => exact ⟨fun n hn => by simp [newLeaf, LA.vers] at hn, rfl⟩
    | succ m => exact ⟨fun n hn => by simp [newLeaf, LA.vers] at hn; exact hn, rfl⟩
  | _ => exact ⟨fun n hn => by simp [newLeaf, LA.vers] at hn, rfl⟩
theorem ownVer_ok (v : Nat) (k : Bool) : ownVer v k = v ∨ ownVer v k = 1 := by cases k; exact .inl rfl; exact .inr rfl
theorem ownLeaf_ok2 (v m : Nat) (k : Bool) (x : Lv) : (∀ n ∈ (ownLeaf v m k x).vers, n = v ∨ n = 1) ∧ (ownLeaf v m k x).inRoot = true := by
  obtain ⟨l, x⟩ := x
  cases l with
  | sl t e => cases m with
    | zero => exact ⟨(fun n hn => by have hn : n ∈ ([] : List Nat) := hn; cases hn), rfl⟩
    | succ m =>
      refine ⟨fun n hn => ?_, rfl⟩
      have hn : n ∈ [ownVer v k, v] := hn
      simp at hn
      rcases hn with rfl | rfl
      · exact ownVer_ok _ _
      · exact .inl rfl
  | _ => exact ⟨(fun n hn => by have hn : n ∈ ([] : List Nat) := hn; cases hn), rfl⟩
theorem boxLeaves_ok2 (v : Nat) : ∀ (ls : List (Option (L × Nat))) (vs : List Lv), ∀ a ∈ boxLeaves v ls vs, (∀ n ∈ a.vers, n = v) ∧ a.inRoot = true
  | [], vs, a, h => by cases h
  | none :: ls, vs, a, h => by
    rcases List.mem_cons.1 (show a ∈ .bad :: boxLeaves v ls vs from h) with rfl | h
    · exact ⟨(fun n hn => by cases hn), rfl⟩
    · exact boxLeaves_ok2 v ls vs a h
  | some (l, d) :: ls, [], a, h => by
    rcases List.mem_cons.1 (show a ∈ .bad :: boxLeaves v ls [] from h) with rfl | h
    · exact ⟨(fun n hn => by cases hn), rfl⟩
    · exact boxLeaves_ok2 v ls [] a h
  | some (l, d) :: ls, x :: vs, a, h => by
    rcases List.mem_cons.1 (show a ∈ newLeaf v d x :: boxLeaves v ls vs from h) with rfl | h
    · exact newLeaf_ok2 v d x
    · exact boxLeaves_ok2 v ls vs a h

section
variable {E : Ent} {cx : Cx} {N : Nat} {ms : List Nat} {ps : List VP} {s0 s1 σ : St} {tm : Array Value} {W : Wd} {vss : List (List Lv)}

theorem anew_inv (i0 : Inv N s0) (ha : Anew ms ps s0 s1 σ W tm (fzOf W ps) vss) (hctr : σ.ctr = s0.ctr + 1) : Inv N σ where
  vers := by
    rw [hctr]
    refine ⟨fun t n hn => ?_, fun r n hn => ?_⟩
    · by_cases ht : t ∈ ps.flatMap VP.slots
      · obtain ⟨p, hm, ht⟩ := List.mem_flatMap.1 ht
        obtain ⟨vs, hto, hat⟩ := ha.get hm
        cases p with
        | slot u l =>
          simp [VP.slots] at ht; subst ht
          obtain ⟨_, x, rfl, hr⟩ := hto
          rw [hat _ rfl] at hn
          simp [one, AV.vers, LA.vers] at hn
        | own u ty e d k =>
          simp [VP.slots] at ht; subst ht
          obtain ⟨_, xs, rfl, _⟩ := hto
          rw [(hat _ rfl).1] at hn
          have := ownVer_ok s0.ctr k
          have := i0.two
          simp [one, AV.vers, LA.vers] at hn; omega
        | box r ls => simp [VP.slots] at ht
      · rw [ha.slot t ht, base_slot] at hn
        split at hn
        · simp [one, AV.vers, LA.vers] at hn
        · have := i0.vers.1 t n (clean_vers _ _ _ n hn); omega
    · by_cases hr : r ∈ ps.flatMap VP.roots
      · obtain ⟨p, hm, hr⟩ := List.mem_flatMap.1 hr
        obtain ⟨vs, hto, hat⟩ := ha.get hm
        cases p with
        | slot u l => simp [VP.roots] at hr
        | own u ty e d k =>
          simp [VP.roots] at hr; subst hr
          obtain ⟨_, xs, rfl, _⟩ := hto
          rw [(hat _ rfl).2] at hn
          rcases List.mem_cons.1 hn with hn | hn
          · have hn : n = s0.ctr := hn; omega
          · obtain ⟨a, ha', hn⟩ := List.mem_flatMap.1 hn
            simp at ha'; subst ha'
            have := (ownLeaf_ok2 _ _ _ _).1 n hn; have := i0.two; omega
        | box q ls =>
          simp [VP.roots] at hr; subst hr
          have hat : σ.root r = _ := hat
          rw [hat] at hn
          rcases List.mem_cons.1 hn with hn | hn
          · have hn : n = (s0.root r).ver := hn
            have := i0.vers.2 r n (by rw [hn]; exact List.mem_cons_self); omega
          · obtain ⟨a, ha', hn⟩ := List.mem_flatMap.1 hn
            have := (boxLeaves_ok2 _ _ _ a ha').1 n hn; omega
      · rw [ha.root r hr, base_root] at hn
        split at hn
        · simp [dead, Root.vers] at hn; omega
        · have := i0.vers.2 r n hn; omega
  two := by have := i0.two; omega
  len := ha.l1.trans i0.len
  len2 := ha.l2.trans i0.len2
  rin := by
    intro r a hm'
    by_cases hr : r ∈ ps.flatMap VP.roots
    · obtain ⟨p, hm, hr⟩ := List.mem_flatMap.1 hr
      obtain ⟨vs, hto, hat⟩ := ha.get hm
      cases p with
      | slot u l => simp [VP.roots] at hr
      | own u ty e d k =>
        simp [VP.roots] at hr; subst hr
        obtain ⟨_, xs, rfl, _⟩ := hto
        rw [(hat _ rfl).2] at hm'
        simp at hm'; subst hm'
        exact (ownLeaf_ok2 _ _ _ _).2
      | box q ls =>
        simp [VP.roots] at hr; subst hr
        have hat : σ.root r = _ := hat
        rw [hat] at hm'
        exact (boxLeaves_ok2 _ _ _ a hm').2
    · rw [ha.root r hr, base_root] at hm'
      split at hm'
      · cases hm'
      · exact i0.rin r a hm'

theorem embed_ctr (x : (patK ps).D) : (embed ms ps s0 x).ctr = s0.ctr + 1 := by unfold embed; rw [app_ctr]; rfl

/-- A join: what is told begins anew. -/
theorem embed_ok {x : (patK ps).D} (h1 : Rep E s1 tm W) (i1 : RootsIn s1) (i0 : Inv N s0) (hk : Keeps (cx.in ms ps) s0 s1) (hlk : ∀ t ∈ ms, cx.lock t = false ∧ cx.slk t = false) (hp : patOk cx ms ps = true) (hx : packTo ps s1 = some x) :
    ∃ W', W'.w = W.w ∧ Rep E (embed ms ps s0 x) tm W' ∧ Inv N (embed ms ps s0 x) ∧ Keeps cx s0 (embed ms ps s0 x) ∧ Keeps (cx.in ms ps) s0 (embed ms ps s0 x) := by
  obtain ⟨vss, ha⟩ := anew_ok (N := N) h1 i1 hk hp hx
  have hc := embed_ctr (ms := ms) (s0 := s0) x
  have ho := open_out hlk hp
  exact ⟨anewW (embed ms ps s0 x) W ps, rfl, anew_rep h1 i1 i0.two hk hp ha, anew_inv i0 ha hc, anew_keeps ho hk hp ha (by omega), anew_keeps (open_in ho) hk hp ha (by omega)⟩
end
end Go.Ev

namespace Go.Ev
set_option linter.unusedVariables false
set_option linter.unusedSimpArgs false

section
variable {P : Program} {E : Ent} {cx : Cx} {N : Nat} {s : St} {W : Wd} {a : Act} {Q : Exit → Act → World → Prop}

theorem ctr_rep {n : Nat} {tm : Array Value} (h : Rep E s tm W) : Rep E { s with ctr := n } tm W where
  len1 := h.len1
  len2 := h.len2
  slots t := AVok.map (fun b hb => ⟨hb, rfl⟩) (fun a v hv => by cases a <;> exact hv) (h.slots t)
  roots r := by
    obtain ⟨q1, q2⟩ := h.roots r
    exact ⟨fun j => (q1 j).map (fun a v hv => by cases a <;> exact hv) fun _ _ _ _ hr => hr, q2⟩
  sep := h.sep
  init := h.init

/-- The operations of a region, in whatever order they may go. -/
theorem ops_ok (hc : CxF P cx) (henv : EnvOk P E cx.env) (hm : P.follows .mixedOrders = true) {id : Nat} {ops : Array Oper} {draw : Bool} {R : Type} {k : St → Option R} {x : R} (hcode : codeOk N (.region id ops draw) = true) (hslk : ∀ o ∈ ops.toList, ∀ d, o.dst = some d → cx.slk d = false)
    (hrep : Rep E s a.tmps W) (hinv : Inv N s) (he : evOps cx ⟨ops, s.ctr, draw⟩ (number 0 ops.toList) (befs ops.toList []) [] s k = some x)
    (hK : ∀ s' a' W', a'.defers = a.defers → Rep E s' a'.tmps W' → Keeps cx s s' → RootsIn s' → VersIn s' (· < s.ctr + ops.size) → k s' = some x → Q .normal a' W'.w) : (Code.region id ops draw).wp P Q a W.w := by
  obtain ⟨tr, ht, hlen, hk⟩ := evOps_trace ops.toList 0 [] s he
  simp only [codeOk, Bool.and_eq_true] at hcode
  obtain ⟨hE, hdst⟩ := hcode
  have hd : ∀ o ∈ ops.toList, ∀ d, o.dst = some d → d < s.sl.length := by
    intro o ho d hd
    have := List.all_eq_true.1 hdst o ho
    rw [hd] at this
    rw [hinv.len]; simpa using this
  obtain ⟨hkeep, hrin⟩ := keeps_trace ops.toList 0 [] s tr ht hslk hinv.rin
  have hfin : ∀ a' W', a'.defers = a.defers → Rep E (appsIf (fun _ => true) 0 tr s) a'.tmps W' → VersIn (appsIf (fun _ => true) 0 tr s) (pA s.ctr (· < ops.size)) → Q .normal a' W'.w := fun a' W' h1 h2 h3 =>
    hK _ a' W' h1 h2 hkeep hrin (h3.mono fun n hn => by
      rcases hn with hn | ⟨j, hj, e⟩
      · omega
      · have : j < ops.size := hj; omega) hk
  have h2 := hinv.two
  cases draw with
  | false =>
    refine wp_region ?_
    have := seq_wp (g := ⟨ops, s.ctr, false⟩) (bs := befs ops.toList []) (Q := Q) hc henv (show 1 < s.ctr by omega) (fun i j hi hj => by
      have hi : i < ops.size := hi
      exact ready_bit (ops := ops) hE (A := (· < i)) (fun k o hk ho e he hb => by
          have := edgesOk_get ops.toList 0 hE k o (by simpa using ho) e he hb
          have hk : k < i := hk
          show e.on < i
          omega) (fun k hk => Nat.lt_trans hk hi) (i := i) (o := ops[i]) (by simp [hi]) (fun e he hb => by
          have := edgesOk_get ops.toList 0 hE i ops[i] (by simp [hi]) e he hb
          show e.on < i
          omega) j hj) ops.toList 0 [] s tr a W ht (fun k o hk => by simpa using hk) hrep (hinv.vers.mono fun n hn => .inl hn) hd (fun a' W' q1 q2 q3 => hfin a' W' q1 q2 (by simpa using q3))
    have e : List.range ops.size = List.range' 0 ops.toList.length := by rw [List.range_eq_range']; simp
    rw [e]; exact this
  | true =>
    refine wp_region_any hm ?_
    have hnone : ∀ (tr : List (Nat × List Wr)) (i : Nat) (s : St), appsIf (fun i => (Array.replicate ops.size false).getD i false) i tr s = s := by
      intro tr
      induction tr with
      | nil => intro i s; rfl
      | cons y tr ih =>
        intro i s
        simp only [appsIf]
        have : (Array.replicate ops.size false).getD i false = false := by
          rw [Array.getD_eq_getD_getElem?, Array.getElem?_replicate]; split <;> rfl
        rw [this]; exact ih (i + 1) s
    have hrepd : Rep E s a.tmps { W with w := { W.w with drawn := W.w.drawn + 1 } } := hrep.world (fun _ _ => rfl) (fun _ _ _ => rfl) (Nat.le_refl _) ⟨rfl, rfl, rfl⟩
    exact any_wp (g := ⟨ops, s.ctr, true⟩) (Q := Q) hc henv (show 1 < s.ctr by omega) hE rfl ht (by simpa using hlen) hinv.vers hd hfin ops.size (Array.replicate ops.size false) a { W with w := { W.w with drawn := W.w.drawn + 1 } } (by simp) (by simp) rfl
      (by rw [hnone]; exact hrepd) (by rw [hnone]; exact hinv.vers.mono fun n hn => .inl hn) (fun i o hi => by
        rw [Array.getD_eq_getD_getElem?, Array.getElem?_replicate] at hi
        split at hi <;> cases hi)
end
end Go.Ev

namespace Go.Ev
set_option linter.unusedVariables false
set_option linter.unusedSimpArgs false

section
variable {P : Program} {E : Ent} {cx : Cx} {N : Nat} {s : St} {W : Wd} {a : Act} {Q : Exit → Act → World → Prop}

theorem dsts_mem : ∀ (os : List Oper) (i : Nat) (o : Oper) (d : Nat), o ∈ os → o.dst = some d → d ∈ dsts (number i os)
  | [], i, o, d, h, _ => by cases h
  | x :: os, i, o, d, h, hd => by
    simp only [number, dsts]
    rcases List.mem_cons.1 h with rfl | h
    · rw [hd]; exact List.mem_cons_self
    · have := dsts_mem os (i + 1) o d h hd
      cases x.dst with
      | none => exact this
      | some y => exact List.mem_cons_of_mem _ this
theorem keeps_ctr {s' : St} {n : Nat} (h : Keeps cx s s') (hn : s.ctr ≤ n) : Keeps cx s { s' with ctr := n } := ⟨h.slots, h.roots, h.box, h.l1, h.l2, hn⟩

theorem region_ok0 {an : An} (hc : CxF P cx) (henv : EnvOk P E cx.env) (hm : P.follows .mixedOrders = true) {id : Nat} {ops : Array Oper} {draw : Bool} {R : Type} {k : St → Option R} {x : R} (hcode : codeOk N (.region id ops draw) = true)
    (hlk : ∀ t ∈ mods (.region id ops draw), cx.lock t = false ∧ cx.slk t = false) (hrep : Rep E s a.tmps W) (hinv : Inv N s) (he : evRegion0 cx an id ops draw s k = some x)
    (hK : ∀ s' a' W', a'.defers = a.defers → Rep E s' a'.tmps W' → Inv N s' → Keeps cx s s' → k s' = some x → Q .normal a' W'.w) : (Code.region id ops draw).wp P Q a W.w := by
  unfold evRegion0 at he
  dsimp only at he
  split at he
  · refine ops_ok hc henv hm hcode (fun o ho d hd => (hlk d (dsts_mem _ _ o d ho hd)).2) hrep hinv he fun s' a' W' q1 q2 q3 q4 q5 q6 => ?_
    exact hK { s' with ctr := s.ctr + ops.size } a' W' q1 (ctr_rep q2) ⟨q5, by have := hinv.two; show 2 ≤ s.ctr + ops.size; omega, q3.l1.trans hinv.len, q3.l2.trans hinv.len2, q4⟩ (keeps_ctr q3 (by omega)) q6
  · have he : (fun ps : List VP => if patOk cx (dsts (number 0 ops.toList)) ps then (evOps (cx.in (dsts (number 0 ops.toList)) ps) ⟨ops, s.ctr, draw⟩ (number 0 ops.toList) (befs ops.toList []) [] s (packTo ps)).bind fun x => k (embed (dsts (number 0 ops.toList)) ps s x) else none) (match an.grp id with
      | some p => p
      | none => lastPat ops.toList) = some x := he
    generalize (match an.grp id with
      | some p => p
      | none => lastPat ops.toList) = ps at he
    dsimp only at he
    split at he
    · rename_i hpat
      cases hq : evOps (cx.in (dsts (number 0 ops.toList)) ps) ⟨ops, s.ctr, draw⟩ (number 0 ops.toList) (befs ops.toList []) [] s (packTo ps) with
      | none => rw [hq] at he; cases he
      | some y =>
        rw [hq] at he
        have he : k (embed (dsts (number 0 ops.toList)) ps s y) = some x := he
        have hcin : CxF P (cx.in (dsts (number 0 ops.toList)) ps) := hc
        refine ops_ok hcin henv hm hcode (fun o ho d hd => ?_) hrep hinv hq fun s' a' W' q1 q2 q3 q4 q5 q6 => ?_
        · have hmem := dsts_mem ops.toList 0 o d ho hd
          have h1 : cx.slk d = false := (hlk d hmem).2
          simp [Cx.in, h1, (has_mem _ d).2 hmem]
        · obtain ⟨W2, w2, r2, i2, k2, _⟩ := embed_ok (N := N) q2 q4 hinv q3 (fun t ht => hlk t ht) hpat q6
          rw [← w2]
          exact hK _ a' W2 q1 r2 i2 k2 he
    · cases he
theorem froze_keeps {rs : List Nat} {s' : St} {W' : Wd} (fr : Froze s s' W W' rs) (hlk : ∀ r ∈ rs, cx.lock r = false) (hroot : ∀ r, r ∉ rs → s'.root r = s.root r) (hctr : s'.ctr = s.ctr) : Keeps cx s s' where
  slots t _ := by
    have : s'.slot t = s.slot t := by show nth _ s'.sl t = _; rw [fr.same.sl]; rfl
    rw [this]; exact .same _
  roots r hr := hroot r fun hm => by rw [hlk r hm] at hr; cases hr
  box r _ := fr.same.box r
  l1 := by rw [fr.same.sl]
  l2 := fr.same.len
  ctr := by rw [hctr]; exact Nat.le_refl _
theorem leafWrs_ctr (r : Nat) : ∀ (as : List LA) (j : Nat) (s : St), (s.app (leafWrs r j as)).ctr = s.ctr ∧ ∀ x, x ≠ r → (s.app (leafWrs r j as)).root x = s.root x
  | [], j, s => ⟨rfl, fun _ _ => rfl⟩
  | a :: as, j, s => by
    obtain ⟨h1, h2⟩ := leafWrs_ctr r as (j + 1) (s.app1 (.leaf r j a))
    refine ⟨h1, fun x hx => (h2 x hx).trans ?_⟩
    show nth _ (upd s.ro r _) x = _
    rw [nth_upd, if_neg fun hh => hx hh.1.symm]; rfl
theorem freezes_root : ∀ {rs : List Nat} {ws : List Wr} (s0 s : St), freezes cx s0 rs = some ws → (s.app ws).ctr = s.ctr ∧ ∀ x, x ∉ rs → (s.app ws).root x = s.root x
  | [], ws, s0, s, h => by injection h with h; subst h; exact ⟨rfl, fun _ _ => rfl⟩
  | r :: rs, ws, s0, s, h => by
    simp only [freezes] at h
    split at h
    · cases h
    · split at h
      · rename_i ws' hws
        injection h with h; subst h
        rw [app_append]
        obtain ⟨a1, a2⟩ := leafWrs_ctr r ((s0.root r).ls.map freezeL) 0 s
        obtain ⟨b1, b2⟩ := freezes_root s0 (s.app (leafWrs r 0 ((s0.root r).ls.map freezeL))) hws
        exact ⟨b1.trans a1, fun x hx => (b2 x fun hm => hx (List.mem_cons_of_mem _ hm)).trans (a2 x fun e => hx (e ▸ List.mem_cons_self))⟩
      · cases h
theorem freezeL_vers (a : LA) : (freezeL a).vers = a.vers := by cases a <;> rfl
theorem freezeL_in (a : LA) (h : a.inRoot = true) : (freezeL a).inRoot = true := by cases a <;> first | exact h | rfl
theorem leafWrs_ls (r : Nat) : ∀ (as : List LA) (j : Nat) (s : St) (x : Nat), ∀ a ∈ ((s.app (leafWrs r j as)).root x).ls, a ∈ (s.root x).ls ∨ (x = r ∧ a ∈ as)
  | [], j, s, x, a, h => .inl h
  | b :: as, j, s, x, a, h => by
    rcases leafWrs_ls r as (j + 1) (s.app1 (.leaf r j b)) x a h with h | ⟨h1, h2⟩
    · have hroot : (s.app1 (.leaf r j b)).root x = if r = x ∧ r < s.ro.length then { s.root r with ls := upd (s.root r).ls j b } else s.root x := nth_upd _ _ _ _ _
      rw [hroot] at h
      split at h
      · rename_i hx
        have h : a ∈ upd (s.root r).ls j b := h
        rw [upd_set] at h
        rcases List.mem_or_eq_of_mem_set h with h | h
        · rw [← hx.1]; exact .inl h
        · exact .inr ⟨hx.1.symm, by rw [h]; exact List.mem_cons_self⟩
      · exact .inl h
    · exact .inr ⟨h1, List.mem_cons_of_mem _ h2⟩
theorem freezes_ls : ∀ {rs : List Nat} {ws : List Wr} (s0 s : St), freezes cx s0 rs = some ws → ∀ (x : Nat), ∀ a ∈ ((s.app ws).root x).ls, a ∈ (s.root x).ls ∨ ∃ b ∈ (s0.root x).ls, a = freezeL b
  | [], ws, s0, s, h, x, a, ha => by injection h with h; subst h; exact .inl ha
  | r :: rs, ws, s0, s, h, x, a, ha => by
    simp only [freezes] at h
    split at h
    · cases h
    · split at h
      · rename_i ws' hws
        injection h with h; subst h
        rw [app_append] at ha
        rcases freezes_ls s0 _ hws x a ha with ha | ha
        · rcases leafWrs_ls r _ 0 s x a ha with ha | ⟨h1, h2⟩
          · exact .inl ha
          · subst h1
            obtain ⟨b, hb, e⟩ := List.mem_map.1 h2
            exact .inr ⟨b, hb, e.symm⟩
        · exact .inr ha
      · cases h
theorem leafWrs_ver (r : Nat) : ∀ (as : List LA) (j : Nat) (s : St) (x : Nat), ((s.app (leafWrs r j as)).root x).ver = (s.root x).ver
  | [], j, s, x => rfl
  | b :: as, j, s, x => by
    refine (leafWrs_ver r as (j + 1) (s.app1 (.leaf r j b)) x).trans ?_
    exact ((app_leaf_same s r j b).box x).2.1
theorem region_ok {an : An} (hc : CxF P cx) (henv : EnvOk P E cx.env) (hm : P.follows .mixedOrders = true) {id : Nat} {ops : Array Oper} {draw : Bool} {R : Type} {k : St → Option R} {x : R} (hcode : codeOk N (.region id ops draw) = true)
    (hlk : ∀ t ∈ mods (.region id ops draw), cx.lock t = false ∧ cx.slk t = false) (hrep : Rep E s a.tmps W) (hinv : Inv N s) (he : evRegion cx an id ops draw s k = some x)
    (hK : ∀ s' a' W', a'.defers = a.defers → Rep E s' a'.tmps W' → Inv N s' → Keeps cx s s' → k s' = some x → Q .normal a' W'.w) : (Code.region id ops draw).wp P Q a W.w := by
  unfold evRegion at he
  split at he
  · exact region_ok0 hc henv hm hcode hlk hrep hinv he hK
  · rename_i r rs _
    split at he
    · rename_i hall
      split at he
      · rename_i fs hfs
        have hnv : NoVer s s.ctr := hinv.vers.noVer (v := s.ctr) (Nat.lt_irrefl _) (by have := hinv.two; omega)
        obtain ⟨W1, hr1, fr, _⟩ := freeze_ok hrep hnv hfs
        obtain ⟨c1, c2⟩ := freezes_root (cx := cx) s s hfs
        have hk1 : Keeps cx s (s.app fs) := froze_keeps fr (fun y hy => by simpa using List.all_eq_true.1 hall y hy) c2 c1
        have hi1 : Inv N (s.app fs) := {
          vers := by
            have hv := hinv.vers
            rw [c1]
            refine ⟨fun t n hn => ?_, fun y n hn => ?_⟩
            · have : (s.app fs).slot t = s.slot t := by show nth _ (s.app fs).sl t = _; rw [fr.same.sl]; rfl
              rw [this] at hn; exact hv.1 t n hn
            · have hver : ((s.app fs).root y).ver = (s.root y).ver := (fr.same.box y).2.1
              unfold Root.vers at hn
              rw [hver] at hn
              rcases List.mem_cons.1 hn with e | hn
              · exact hv.2 y n (by unfold Root.vers; rw [e]; exact List.mem_cons_self)
              · obtain ⟨b, hb, hbn⟩ := List.mem_flatMap.1 hn
                rcases freezes_ls (cx := cx) s s hfs y b hb with hb | ⟨b0, hb0, e⟩
                · exact hv.2 y n (by unfold Root.vers; exact List.mem_cons_of_mem _ (List.mem_flatMap.2 ⟨b, hb, hbn⟩))
                · rw [e, freezeL_vers] at hbn
                  exact hv.2 y n (by unfold Root.vers; exact List.mem_cons_of_mem _ (List.mem_flatMap.2 ⟨b0, hb0, hbn⟩))
          two := by rw [c1]; exact hinv.two
          len := hk1.l1.trans hinv.len
          len2 := hk1.l2.trans hinv.len2
          rin := fun y b hb => by
            rcases freezes_ls (cx := cx) s s hfs y b hb with hb | ⟨b0, hb0, e⟩
            · exact hinv.rin y b hb
            · rw [e]; exact freezeL_in b0 (hinv.rin y b0 hb0) }
        rw [← fr.w]
        exact region_ok0 hc henv hm hcode hlk hr1 hi1 he fun s' a' W' q1 q2 q3 q4 q5 => hK s' a' W' q1 q2 q3 (hk1.trans q4) q5
      · cases he
    · cases he
end
end Go.Ev

namespace Go.Ev
set_option linter.unusedVariables false
set_option linter.unusedSimpArgs false

section
variable {P : Program} {E : Ent} {N : Nat}

theorem mods_open {cx : Cx} {ms : List Nat} {ps : List VP} (h : ∀ t ∈ ms, cx.lock t = false ∧ cx.slk t = false) : ∀ t ∈ ms, (cx.in ms ps).lock t = false ∧ (cx.in ms ps).slk t = false := fun t ht => by
  have := h t ht
  simp [Cx.in, this.1, this.2, (has_mem ms t).2 ht]

def Claim (P : Program) (E : Ent) (N : Nat) (an : An) (n : Nat) {RD : Type} (rp : St → Option RD) (c : Code) : Prop := ∀ {R : Type} {cx : Cx} {s : St} {kn : St → Option R} {kx : Nat → St → Option R} {kr : RD → Option R} {x : R} {a : Act} {W : Wd} {Q : Exit → Act → World → Prop},
    CxF P cx → EnvOk P E cx.env → codeOk N c = true → (∀ t ∈ mods c, cx.lock t = false ∧ cx.slk t = false) → Rep E s a.tmps W → Inv N s → ev an n rp c cx s kn kx kr = some x →
    (∀ s' a' W', a'.defers = a.defers → Rep E s' a'.tmps W' → Inv N s' → Keeps cx s s' → kn s' = some x → Q .normal a' W'.w) →
    (∀ id s' a' W', a'.defers = a.defers → Rep E s' a'.tmps W' → Inv N s' → Keeps cx s s' → kx id s' = some x → Q (.exit id) a' W'.w) →
    (∀ y s' a' W', a'.defers = a.defers → Rep E s' a'.tmps W' → Inv N s' → rp s' = some y → kr y = some x → Q .ret a' W'.w) → c.wp P Q a W.w

/-- A loop by its rounds. -/
theorem loop_wp {an : An} {n : Nat} {RD : Type} {rp : St → Option RD} {c' : Code} (ihb : Claim P E N an n rp c') {cx : Cx} {s : St} {ps : List VP} {id : Nat} {a0 : Act}
    (hc : CxF P cx) (henv : EnvOk P E cx.env) (hcode : codeOk N c' = true) (hlk : ∀ t ∈ mods c', cx.lock t = false ∧ cx.slk t = false) (hinv : Inv N s) (hp : patOk cx (mods c') ps = true)
    {γ : Type} {g : (patK ps).D → γ} {kr' : RD → Option ((patK ps).D ⊕ γ)} (hkr : ∀ r y, kr' r = some (.inl y) → False) {q : γ} {Q : Exit → Act → World → Prop}
    (hdone : ∀ x' s' a' W', a'.defers = a0.defers → Rep E s' a'.tmps W' → Inv N s' → Keeps (cx.in (mods c') ps) s s' → packTo ps s' = some x' → g x' = q → Q (.exit id) a' W'.w)
    (hret : ∀ y s' a' W', a'.defers = a0.defers → Rep E s' a'.tmps W' → Inv N s' → rp s' = some y → kr' y = some (.inr q) → Q .ret a' W'.w)
    {m : Nat} {x0 : (patK ps).D} {a : Act} {W : Wd} {s1 : St} (hd : a.defers = a0.defers) (hrep : Rep E s1 a.tmps W) (hin : RootsIn s1) (hk : Keeps (cx.in (mods c') ps) s s1) (hx : packTo ps s1 = some x0)
    (hit : iter (α := (patK ps).D) (γ := γ) m (fun x => ev an n rp c' (cx.in (mods c') ps) (embed (mods c') ps s x) (fun s => (packTo ps s).bind fun x => some (.inl x)) (fun i s => if i == id then (packTo ps s).bind fun x => some (.inr (g x)) else none) kr') x0 = some q) :
    (Code.loop c').wp P Q a W.w := by
  refine wp_loop_ghost (fun k a w => ∃ (W : Wd) (s1 : St) (x : (patK ps).D), W.w = w ∧ a.defers = a0.defers ∧ Rep E s1 a.tmps W ∧ RootsIn s1 ∧ Keeps (cx.in (mods c') ps) s s1 ∧ packTo ps s1 = some x ∧
    iter (α := (patK ps).D) (γ := γ) k (fun x => ev an n rp c' (cx.in (mods c') ps) (embed (mods c') ps s x) (fun s => (packTo ps s).bind fun x => some (.inl x)) (fun i s => if i == id then (packTo ps s).bind fun x => some (.inr (g x)) else none) kr') x = some q) m
    ⟨W, s1, x0, rfl, hd, hrep, hin, hk, hx, hit⟩ ?_
  rintro k a w ⟨W, s1, x, rfl, hd, hrep, hin, hk, hx, hit⟩
  cases k with
  | zero => cases hit
  | succ k =>
    simp only [iter] at hit
    obtain ⟨W2, w2, r2, i2, k2, k3⟩ := embed_ok (N := N) hrep hin hinv hk hlk hp hx
    cases hq : ev an n rp c' (R := (patK ps).D ⊕ γ) (cx.in (mods c') ps) (embed (mods c') ps s x) (fun s => (packTo ps s).bind fun x => some (.inl x)) (fun i s => if i == id then (packTo ps s).bind fun x => some (.inr (g x)) else none) kr' with
    | none => rw [hq] at hit; cases hit
    | some y =>
      rw [hq] at hit
      rw [← w2]
      have hcin : CxF P (cx.in (mods c') ps) := hc
      refine ihb hcin henv hcode (mods_open hlk) r2 i2 hq (fun s3 a3 W3 q1 q2 q3 q4 q5 => ?_) (fun i s3 a3 W3 q1 q2 q3 q4 q5 => ?_) (fun z s3 a3 W3 q1 q2 q3 q4 q5 => ?_)
      · cases hpk : packTo ps s3 with
        | none => rw [hpk] at q5; cases q5
        | some z =>
          rw [hpk] at q5
          injection q5 with q5
          subst q5
          exact ⟨k, Nat.lt_succ_self k, W3, s3, z, rfl, q1.trans hd, q2, q3.rin, k3.trans q4, hpk, hit⟩
      · split at q5
        · rename_i hi
          have hi : i = id := by simpa using hi
          subst hi
          cases hpk : packTo ps s3 with
          | none => rw [hpk] at q5; cases q5
          | some z =>
            rw [hpk] at q5
            injection q5 with q5
            subst q5
            injection hit with hit
            exact hdone z s3 a3 W3 (q1.trans hd) q2 q3 (k3.trans q4) hpk hit
        · cases q5
      · cases y with
        | inl y => exact (hkr _ _ q5).elim
        | inr y =>
          injection hit with hit
          subst hit
          exact hret z s3 a3 W3 (q1.trans hd) q2 q3 q4 q5

theorem ev_both {an : An} {n : Nat} {RD : Type} {rp : St → Option RD} (hm : P.follows .mixedOrders = true) : ∀ (c : Code), Claim P E N an n rp c ∧ ∀ c', c = .loop c' → Claim P E N an n rp c' := by
  intro c
  induction c with
  | skip =>
    refine ⟨?_, fun c' e => by cases e⟩
    intro R cx s kn kx kr x a W Q hc henv hcode hlk hrep hinv he hn hx hr
    exact wp_skip (hn s a W rfl hrep hinv (Keeps.refl _ _) he)
  | region id ops draw =>
    refine ⟨?_, fun c' e => by cases e⟩
    intro R cx s kn kx kr x a W Q hc henv hcode hlk hrep hinv he hn hx hr
    exact region_ok hc henv hm hcode hlk hrep hinv he hn
  | seq b c ihb ihc =>
    refine ⟨?_, fun c' e => by cases e⟩
    intro R cx s kn kx kr x a W Q hc henv hcode hlk hrep hinv he hn hx hr
    simp only [codeOk, Bool.and_eq_true] at hcode
    have hla : ∀ t ∈ mods b, cx.lock t = false ∧ cx.slk t = false := fun t ht => hlk t (List.mem_append_left _ ht)
    have hlb : ∀ t ∈ mods c, cx.lock t = false ∧ cx.slk t = false := fun t ht => hlk t (List.mem_append_right _ ht)
    refine wp_seq ?_
    have next : ∀ {s1 : St} {a1 : Act} {W1 : Wd}, a1.defers = a.defers → Rep E s1 a1.tmps W1 → Inv N s1 → Keeps cx s s1 → ev an n rp c cx s1 kn kx kr = some x → c.wp P Q a1 W1.w := fun hd1 hr1 hi1 hk1 he1 =>
      ihc.1 hc henv hcode.2 hlb hr1 hi1 he1 (fun s2 a2 W2 q1 q2 q3 q4 q5 => hn s2 a2 W2 (q1.trans hd1) q2 q3 (hk1.trans q4) q5) (fun i s2 a2 W2 q1 q2 q3 q4 q5 => hx i s2 a2 W2 (q1.trans hd1) q2 q3 (hk1.trans q4) q5)
        (fun y s2 a2 W2 q1 q2 q3 q4 q5 => hr y s2 a2 W2 (q1.trans hd1) q2 q3 q4 q5)
    simp only [ev] at he
    split at he
    · exact ihb.1 hc henv hcode.1 hla hrep hinv he (fun s1 a1 W1 q1 q2 q3 q4 q5 => next q1 q2 q3 q4 q5) hx hr
    · rename_i ps rets hj
      split at he
      · rename_i hp
        have hcin : CxF P (cx.in (mods b) ps) := hc
        cases rets with
        | false =>
          dsimp only at he
          cases hq : ev an n rp b (R := (patK ps).D) (cx.in (mods b) ps) s (packTo ps) (fun _ _ => none) (fun _ => none) with
          | none => rw [hq] at he; cases he
          | some y =>
            rw [hq] at he
            refine ihb.1 hcin henv hcode.1 (mods_open hla) hrep hinv hq (fun s1 a1 W1 q1 q2 q3 q4 q5 => ?_) (fun _ _ _ _ _ _ _ _ q => by cases q) (fun _ _ _ _ _ _ _ _ q => by cases q)
            obtain ⟨W2, w2, r2, i2, k2, _⟩ := embed_ok (N := N) q2 q3.rin hinv q4 hla hp q5
            show c.wp P Q a1 W1.w
            rw [← w2]
            exact next q1 r2 i2 k2 he
        | true =>
          dsimp only at he
          cases hq : ev an n rp b (R := (patK ps).D ⊕ RD) (cx.in (mods b) ps) s (fun s => (packTo ps s).bind fun x => some (.inl x)) (fun _ _ => none) (fun r => some (.inr r)) with
          | none => rw [hq] at he; cases he
          | some y =>
            rw [hq] at he
            refine ihb.1 hcin henv hcode.1 (mods_open hla) hrep hinv hq (fun s1 a1 W1 q1 q2 q3 q4 q5 => ?_) (fun _ _ _ _ _ _ _ _ q => by cases q) (fun y' s1 a1 W1 q1 q2 q3 q4 q5 => ?_)
            · cases hpk : packTo ps s1 with
              | none => rw [hpk] at q5; cases q5
              | some z =>
                rw [hpk] at q5
                injection q5 with q5
                subst q5
                obtain ⟨W2, w2, r2, i2, k2, _⟩ := embed_ok (N := N) q2 q3.rin hinv q4 hla hp hpk
                show c.wp P Q a1 W1.w
                rw [← w2]
                exact next q1 r2 i2 k2 he
            · injection q5 with q5
              subst q5
              exact hr y' s1 a1 W1 q1 q2 q3 q4 he
      · cases he
  | cond o b c ihb ihc =>
    refine ⟨?_, fun c' e => by cases e⟩
    intro R cx s kn kx kr x a W Q hc henv hcode hlk hrep hinv he hn hx hr
    simp only [codeOk, Bool.and_eq_true] at hcode
    have hla : ∀ t ∈ mods b, cx.lock t = false ∧ cx.slk t = false := fun t ht => hlk t (List.mem_append_left _ ht)
    have hlb : ∀ t ∈ mods c, cx.lock t = false ∧ cx.slk t = false := fun t ht => hlk t (List.mem_append_right _ ht)
    have h1 := opd1_ok hrep o
    simp only [ev] at he
    split at he
    · rename_i t hq
      rw [hq] at h1
      have h1 : a.eval o = .bool t := h1.1
      refine wp_cond h1 ?_
      cases t with
      | true => exact ihb.1 hc henv hcode.1 hla hrep hinv he hn hx hr
      | false => exact ihc.1 hc henv hcode.2 hlb hrep hinv he hn hx hr
    · cases he
  | block id c ih =>
    refine ⟨?_, fun c' e => by cases e⟩
    intro R cx s kn kx kr x a W Q hc henv hcode hlk hrep hinv he hn hx hr
    simp only [ev] at he
    cases hb : an.blk id with
    | none =>
      rw [hb] at he
      refine wp_block (ih.1 hc henv hcode hlk hrep hinv he hn (fun i s' a' W' q1 q2 q3 q4 q5 => ?_) hr)
      show (if i = id then Q .normal a' W'.w else Q (.exit i) a' W'.w)
      by_cases hi : i = id
      · rw [if_pos hi]
        rw [show (i == id) = true by simpa using hi] at q5
        exact hn s' a' W' q1 q2 q3 q4 q5
      · rw [if_neg hi]
        rw [show (i == id) = false by simpa using hi] at q5
        exact hx i s' a' W' q1 q2 q3 q4 q5
    | some p =>
      obtain ⟨ps, rets⟩ := p
      rw [hb] at he
      dsimp only at he
      split at he
      · rename_i c'
        have ihb : Claim P E N an n rp c' := ih.2 c' rfl
        have hcode : codeOk N c' = true := hcode
        have hlk : ∀ t ∈ mods c', cx.lock t = false ∧ cx.slk t = false := hlk
        split at he
        · rename_i hp
          refine wp_block ?_
          cases rets with
          | false =>
            dsimp only at he
            cases hpk : packTo ps s with
            | none => rw [hpk] at he; cases he
            | some x0 =>
              rw [hpk] at he
              simp only [Option.bind_some] at he
              obtain ⟨q, hq, he⟩ := Option.bind_eq_some_iff.1 he
              refine loop_wp (g := fun x => x) ihb hc henv hcode hlk hinv hp (fun _ _ q => by cases q) (fun x' s' a' W' q1 q2 q3 q4 q5 q6 => ?_) (fun _ _ _ _ _ _ _ _ q => by cases q) rfl hrep hinv.rin (Keeps.refl _ _) hpk hq
              subst q6
              obtain ⟨W2, w2, r2, i2, k2, _⟩ := embed_ok (N := N) q2 q3.rin hinv q4 hlk hp q5
              show (if id = id then Q .normal a' W'.w else Q (.exit id) a' W'.w)
              rw [if_pos rfl, ← w2]
              exact hn _ a' W2 q1 r2 i2 k2 he
          | true =>
            dsimp only at he
            cases hpk : packTo ps s with
            | none => rw [hpk] at he; cases he
            | some x0 =>
              rw [hpk] at he
              simp only [Option.bind_some] at he
              obtain ⟨q, hq, he⟩ := Option.bind_eq_some_iff.1 he
              refine loop_wp (g := fun x => (.inl x : (patK ps).D ⊕ RD)) ihb hc henv hcode hlk hinv hp (fun _ _ q => by cases q) (fun x' s' a' W' q1 q2 q3 q4 q5 q6 => ?_) (fun y s' a' W' q1 q2 q3 q4 q5 => ?_) rfl hrep hinv.rin (Keeps.refl _ _) hpk hq
              · subst q6
                obtain ⟨W2, w2, r2, i2, k2, _⟩ := embed_ok (N := N) q2 q3.rin hinv q4 hlk hp q5
                show (if id = id then Q .normal a' W'.w else Q (.exit id) a' W'.w)
                rw [if_pos rfl, ← w2]
                exact hn _ a' W2 q1 r2 i2 k2 he
              · injection q5 with q5
                injection q5 with q5
                subst q5
                exact hr y s' a' W' q1 q2 q3 q4 he
        · cases he
      · cases he
  | exit id =>
    refine ⟨?_, fun c' e => by cases e⟩
    intro R cx s kn kx kr x a W Q hc henv hcode hlk hrep hinv he hn hx hr
    exact wp_exit (hx id s a W rfl hrep hinv (Keeps.refl _ _) he)
  | ret =>
    refine ⟨?_, fun c' e => by cases e⟩
    intro R cx s kn kx kr x a W Q hc henv hcode hlk hrep hinv he hn hx hr
    simp only [ev] at he
    cases hq : rp s with
    | none => rw [hq] at he; cases he
    | some y => rw [hq] at he; exact wp_ret (hr y s a W rfl hrep hinv hq he)
  | loop c ih =>
    refine ⟨?_, fun c' e => by cases e; exact ih.1⟩
    intro R cx s kn kx kr x a W Q hc henv hcode hlk hrep hinv he hn hx hr
    simp only [ev] at he
    cases he
  | _ =>
    refine ⟨?_, fun c' e => by cases e⟩
    intro R cx s kn kx kr x a W Q hc henv hcode hlk hrep hinv he hn hx hr
    simp only [ev] at he
    cases he
end
end Go.Ev

namespace Go.Ev
set_option linter.unusedVariables false
set_option linter.unusedSimpArgs false

/-- What is taken, leaf by leaf: from 'us' to 'us'' ; the blocks of each. -/
inductive BL (W : Wd) : List (Nat × Nat) → List (Nat × Nat) → List (List Nat) → Prop
  | nil (us) : BL W us us []
  | skip {us us' os} (h : BL W us us' os) : BL W us us' ([] :: os)
  | take {us us' os u o} (hu : u ∉ us) (hs : ∀ b ∈ o, b ∈ W.om (.lf u.1 u.2)) (hn : o.Nodup) (h : BL W (u :: us) us' os) : BL W us us' (o :: os)

section
variable {P : Program} {E : Ent} {s : St} {W : Wd} {tm : Array Value} {β : Type} {t : β}

theorem BL.append {us us1 us2 : List (Nat × Nat)} {xs ys : List (List Nat)} (h1 : BL W us us1 xs) (h2 : BL W us1 us2 ys) : BL W us us2 (xs ++ ys) := by
  induction h1 with
  | nil => exact h2
  | skip h ih => exact .skip (ih h2)
  | take hu hs hn h ih => exact .take hu hs hn (ih h2)
theorem BL.sub {us us' : List (Nat × Nat)} {os : List (List Nat)} (h : BL W us us' os) : ∀ u ∈ us, u ∈ us' := by
  induction h with
  | nil => exact fun u hu => hu
  | skip h ih => exact ih
  | take hu hs hn h ih => exact fun u hu => ih u (List.mem_cons_of_mem _ hu)
theorem BL.mem {us us' : List (Nat × Nat)} {os : List (List Nat)} (h : BL W us us' os) : ∀ o ∈ os, ∀ b ∈ o, ∃ u, u ∉ us ∧ b ∈ W.om (.lf u.1 u.2) := by
  induction h with
  | nil => intro o ho; cases ho
  | skip h ih =>
    intro o ho b hb
    rcases List.mem_cons.1 ho with rfl | ho
    · cases hb
    · exact ih o ho b hb
  | take hu hs hn h ih =>
    intro o ho b hb
    rcases List.mem_cons.1 ho with rfl | ho
    · exact ⟨_, hu, hs b hb⟩
    · obtain ⟨u', h1, h2⟩ := ih o ho b hb
      exact ⟨u', fun hh => h1 (List.mem_cons_of_mem _ hh), h2⟩
theorem BL.nodup {us us' : List (Nat × Nat)} {os : List (List Nat)} (h : BL W us us' os) : ∀ o ∈ os, o.Nodup := by
  induction h with
  | nil => intro o ho; cases ho
  | skip h ih =>
    intro o ho
    rcases List.mem_cons.1 ho with rfl | ho
    · exact List.nodup_nil
    · exact ih o ho
  | take hu hs hn h ih =>
    intro o ho
    rcases List.mem_cons.1 ho with rfl | ho
    · exact hn
    · exact ih o ho
/-- No block in both. -/
def Apart2 (a b : List Nat) : Prop := ∀ x ∈ a, x ∉ b
theorem Apart2.symm {a b : List Nat} (h : Apart2 a b) : Apart2 b a := fun x hx hy => h x hy hx
theorem BL.pair (hd : ∀ k k', k ≠ k' → ∀ b ∈ W.om k, b ∉ W.om k') {us us' : List (Nat × Nat)} {os : List (List Nat)} (h : BL W us us' os) : os.Pairwise Apart2 := by
  induction h with
  | nil => exact .nil
  | skip h ih => exact .cons (fun a _ x hx => by cases hx) ih
  | @take us us' os u o hu hs hn h ih =>
    refine .cons (fun a ha x hx hxa => ?_) ih
    obtain ⟨u', h1, h2⟩ := h.mem a ha x hxa
    have hne : Key.lf u.1 u.2 ≠ Key.lf u'.1 u'.2 := by
      intro he
      injection he with e1 e2
      exact h1 (by rw [show u' = u from Prod.ext e1.symm e2.symm]; simp)
    exact hd _ _ hne x (hs x hx) h2
theorem pair_at {α : Type} {R : α → α → Prop} (hs : ∀ a b, R a b → R b a) {l : List α} (h : l.Pairwise R) {i j : Nat} {a b : α} (hij : i ≠ j) (hi : l[i]? = some a) (hj : l[j]? = some b) : R a b := by
  obtain ⟨h1, rfl⟩ := List.getElem?_eq_some_iff.1 hi
  obtain ⟨h2, rfl⟩ := List.getElem?_eq_some_iff.1 hj
  rcases Nat.lt_or_gt_of_ne hij with hlt | hlt
  · exact List.pairwise_iff_getElem.1 h i j h1 h2 hlt
  · exact hs _ _ (List.pairwise_iff_getElem.1 h j i h2 h1 hlt)

/-- One leaf that is handed back. -/
theorem backLeaf_ok (h : Rep E s tm W) {us : List (Nat × Nat)} {l : L} {m : Nat} {a : LA} {v : Value} {k : Lv → List (Nat × Nat) → Step β} (hv : LAok s W a v) (hl : (backLeaf s us l m a k).leads t) :
    ∃ (x : l.D) (us' : List (Nat × Nat)) (o : List Nat), (k ⟨l, x⟩ us').leads t ∧ l.rd m W.w W.fz v x o ∧ BL W us us' [o] := by
  cases l with
  | int kk => obtain ⟨x, hl, hr⟩ := datum_ok h hv hl; exact ⟨x, us, [], hl, (L.flat_rd _ rfl hr).1, .skip (.nil _)⟩
  | bool => obtain ⟨x, hl, hr⟩ := datum_ok h hv hl; exact ⟨x, us, [], hl, (L.flat_rd _ rfl hr).1, .skip (.nil _)⟩
  | str => obtain ⟨x, hl, hr⟩ := datum_ok h hv hl; exact ⟨x, us, [], hl, (L.flat_rd _ rfl hr).1, .skip (.nil _)⟩
  | sl t0 e =>
    unfold backLeaf at hl
    cases m with
    | zero =>
      simp only at hl
      split at hl
      · rename_i hs
        obtain ⟨x, hl, hr⟩ := still_ok h hv hs hl
        exact ⟨x, us, [], hl, hr, .skip (.nil _)⟩
      · exact hl.elim
    | succ m =>
      cases a with
      | nils => exact ⟨_, us, [], hl, by rw [show v = .slice none 0 0 from hv]; exact nil_row, .skip (.nil _)⟩
      | ref c =>
        simp only at hl
        split at hl
        · rename_i ver gen t' e' xs d hleaf
          split at hl
          · rename_i hc
            simp only [Bool.and_eq_true, beq_iff_eq, Bool.not_eq_true'] at hc
            obtain ⟨⟨⟨hver, hp⟩, hd⟩, hus⟩ := hc
            subst hver; subst hd
            have hp : c.p = [] := by cases hq : c.p <;> simp_all [isNil]
            split at hl
            · rename_i y hy
              obtain ⟨q1, q2⟩ := L.cast_some hy
              cases q1
              have q2 : xs = y := q2
              subst q2
              obtain ⟨h', e2, hcv, hn⟩ := hv gen _ _ _ _ hleaf (.inl hp)
              rw [hp] at hn
              obtain ⟨rfl, rfl⟩ := hn
              obtain ⟨u', hu', hrd⟩ := (h.roots c.r).row hleaf
              rw [hcv] at hu'; injection hu' with hu'; subst hu'
              refine ⟨xs, _, W.om (.lf c.r c.j), hl, hrd, .take (u := (c.r, c.j)) (fun hh => ?_) (fun b hb => hb) (h.sep.nodup _) (.nil _)⟩
              rw [show us.contains (c.r, c.j) = true from List.contains_iff_mem.2 hh] at hus; cases hus
            · exact hl.elim
          · exact hl.elim
        · exact hl.elim
      | win c lo hi =>
        simp only at hl
        split at hl
        · rename_i ver gen t' e' xs d hleaf
          split at hl
          · rename_i hc
            simp only [Bool.and_eq_true, beq_iff_eq, Bool.not_eq_true'] at hc
            obtain ⟨⟨⟨hver, hp⟩, hd⟩, hus⟩ := hc
            subst hver; subst hd
            have hp : c.p = [] := by cases hq : c.p <;> simp_all [isNil]
            split at hl
            · rename_i y hy
              obtain ⟨q1, q2⟩ := L.cast_some hy
              cases q1
              have q2 : sub xs lo hi = y := q2
              subst q2
              obtain ⟨h', e2, A, n, k0, hcv, hn, h1, h2, huv⟩ := hv gen _ _ _ _ hleaf (.inl hp)
              rw [hp] at hn
              obtain ⟨rfl, rfl⟩ := hn
              obtain ⟨u', hu', hrd⟩ := (h.roots c.r).row hleaf
              rw [hcv] at hu'; injection hu' with hu'; subst hu'
              obtain ⟨o', q1, q2, q3⟩ := SlRd.sub hrd h1 h2
              refine ⟨sub xs lo hi, _, o', hl, ?_, .take (u := (c.r, c.j)) (fun hh => ?_) (fun b hb => q2 b hb) (q3 (h.sep.nodup _)) (.nil _)⟩
              · rw [huv]; exact q1
              · rw [show us.contains (c.r, c.j) = true from List.contains_iff_mem.2 hh] at hus; cases hus
            · exact hl.elim
          · exact hl.elim
        · exact hl.elim
      | _ => exact hl.elim

theorem backLeaves_ok (h : Rep E s tm W) : ∀ (ls : List (L × Nat)) (as : List LA) (g : Nat → Option Value) {us : List (Nat × Nat)} {k : List Lv → List (Nat × Nat) → Step β}, (∀ (j : Nat) (a : LA), as[j]? = some a → ∃ u, g j = some u ∧ LAok s W a u) → (backLeaves s ls as us k).leads t →
    ∃ (vs : List Lv) (us' : List (Nat × Nat)) (os : List (List Nat)), (k vs us').leads t ∧ vs.map (·.l) = ls.map (·.1) ∧ os.length = ls.length ∧ as.length = ls.length ∧ BL W us us' os ∧
      ∀ (j : Nat) (p : L × Nat) (lv : Lv), ls[j]? = some p → vs[j]? = some lv → ∃ y, g j = some y ∧ lv.l.rd p.2 W.w W.fz y lv.x ((os[j]?).getD [])
  | [], [], g, us, k, hg, hl => ⟨[], us, [], hl, rfl, rfl, rfl, .nil _, fun j p lv hj => by simp at hj⟩
  | [], _ :: _, g, us, k, hg, hl => hl.elim
  | _ :: _, [], g, us, k, hg, hl => hl.elim
  | (l, m) :: ls, a :: as, g, us, k, hg, hl => by
    obtain ⟨u, hu, hok⟩ := hg 0 a rfl
    obtain ⟨x, us1, o, hl, hr, hb⟩ := backLeaf_ok h hok hl
    obtain ⟨vs, us2, os, hl, h1, h2, h3, h4, h5⟩ := backLeaves_ok h ls as (fun j => g (j + 1)) (fun j a hj => hg (j + 1) a (by simpa using hj)) hl
    refine ⟨⟨l, x⟩ :: vs, us2, o :: os, hl, by simp [h1], by simp [h2], by simp [h3], hb.append h4, fun j p lv hj hv => ?_⟩
    cases j with
    | zero => simp at hj hv; subst hj; subst hv; exact ⟨u, hu, by simpa using hr⟩
    | succ j =>
      obtain ⟨y, hy, hr⟩ := h5 j p lv (by simpa using hj) (by simpa using hv)
      exact ⟨y, hy, by simpa using hr⟩

/-- The value of a result's variable. -/
def RvOk (P : Program) (w : World) (tm : Array Value) : List ResultVar → List Value → Prop
  | [], [] => True
  | .tmp t :: rv, u :: us => u = tm.getD t Go.undef ∧ RvOk P w tm rv us
  | .cell t T :: rv, u :: us => (do loadVar T (← asAddr (tm.getD t Go.undef)) : Sem Value).run P w = .ok u w ∧ RvOk P w tm rv us
  | _, _ => False

/-- A variable is read whole. -/
theorem loadVar_ok {T : TypeId} {y : Ty} (hty : TyF P T y) {as : List LA} {b : Nat} (hlen : as.length = y.ls.n) (hget : ∀ (j : Nat) (x : LA), as[j]? = some x → ∃ u, W.w.cell? ⟨b, 0 + j, none⟩ = some u ∧ LAok s W x u) :
    ∃ u, (loadVar T ⟨b, 0, none⟩).run P W.w = .ok u W.w ∧ Vok s W y.agg as u := by
  cases hag : y.agg with
  | false =>
    obtain ⟨l, hls, hlo⟩ := hty.lone hag
    rw [hls] at hlen
    obtain ⟨a, rfl⟩ : ∃ a, as = [a] := by
      match as, hlen with
      | [a], _ => exact ⟨a, rfl⟩
    obtain ⟨u, hu, hy⟩ := hget 0 a rfl
    obtain ⟨d, hd, hnd⟩ := hlo.notAgg
    have hagg : (isAgg T).run P W.w = .ok false W.w := by
      unfold isAgg
      rw [Sem.run_bind, run_underlying hd]
      cases d <;> simp_all
    simp only [Nat.add_zero] at hu
    exact ⟨u, by simp [loadVar, hagg, load, Sem.run, hu], hy⟩
  | true =>
    obtain ⟨fs, hfs, _⟩ := hty.agg hag
    obtain ⟨i, hi, hsz, _⟩ := hty.info
    let f : Nat → Value := fun j => (W.w.cell? ⟨b, 0 + j, none⟩).getD Go.undef
    let cs : List Value := (List.range as.length).map f
    have hcs : ∀ j u, cs[j]? = some u → W.w.cell? ⟨b, 0 + j, none⟩ = some u := by
      intro j u hj
      simp only [cs, List.getElem?_map] at hj
      by_cases hlt : j < as.length
      · rw [List.getElem?_range hlt] at hj
        simp at hj
        obtain ⟨u', hu', _⟩ := hget j as[j] (List.getElem?_eq_getElem hlt)
        simp only [Nat.zero_add] at hu'
        rw [← hj]; simp [f, hu']
      · rw [List.getElem?_eq_none (by simp; omega)] at hj; cases hj
    have hrun := run_loadVar_mid (P := P) W.w b 0 T cs (.struct fs) (fun j u hj => hcs j u hj) hfs rfl (by simp [hi, hsz, cs, hlen])
    refine ⟨.agg cs.toArray, hrun, cs.toArray, rfl, by simp [cs], fun j y hy => ?_⟩
    obtain ⟨u, hu, hok⟩ := hget j y hy
    refine ⟨u, ?_, hok⟩
    have hlt : j < as.length := (List.getElem?_eq_some_iff.1 hy).1
    simp only [Nat.zero_add] at hu
    simp [cs, f, hlt, hu]

theorem backRes_ok {ty : TypeId → Option Ty} (hty : ∀ t x, ty t = some x → TyF P t x) (h : Rep E s tm W) : ∀ (rs : List (Bool × List (L × Nat))) (rv : List ResultVar) {us : List (Nat × Nat)} {k : List Lv → List (Nat × Nat) → Step β}, (backRes ty s rs rv us k).leads t →
    ∃ (vals : List Value) (vss : List (List Lv)) (us' : List (Nat × Nat)) (os : List (List Nat)), (k vss.flatten us').leads t ∧ BL W us us' os ∧ RvOk P W.w tm rv vals ∧
      ∀ (off : Nat) (om : Nat → List Nat), (∀ j, j < os.length → om (off + j) = (os[j]?).getD []) → ROut W.w W.fz om rs vals vss off
  | [], [], us, k, hl => ⟨[], [], us, [], hl, .nil _, trivial, fun off om hom => trivial⟩
  | [], _ :: _, us, k, hl => hl.elim
  | _ :: _, [], us, k, hl => hl.elim
  | (g, ls) :: rs, r :: rv, us, k, hl => by
    have main : ∀ {u : Value} {as : List LA}, Vok s W g as u → (∀ us, RvOk P W.w tm rv us → RvOk P W.w tm (r :: rv) (u :: us)) → (backLeaves s ls as us fun xs us => backRes ty s rs rv us fun ys us => k (xs ++ ys) us).leads t →
        ∃ (vals : List Value) (vss : List (List Lv)) (us' : List (Nat × Nat)) (os : List (List Nat)), (k vss.flatten us').leads t ∧ BL W us us' os ∧ RvOk P W.w tm (r :: rv) vals ∧
          ∀ (off : Nat) (om : Nat → List Nat), (∀ j, j < os.length → om (off + j) = (os[j]?).getD []) → ROut W.w W.fz om ((g, ls) :: rs) vals vss off := by
      intro u as hok hrv hl
      obtain ⟨vs, us1, os1, hl, h1, h2, h3, h4, h5⟩ := backLeaves_ok h ls as (partG g u) (fun j a hj => partG_ok hok j a hj) hl
      obtain ⟨vals, vss, us2, os2, hl, h6, h7, h8⟩ := backRes_ok hty h rs rv hl
      refine ⟨u :: vals, vs :: vss, us2, os1 ++ os2, by simpa using hl, h4.append h6, hrv _ h7, fun off om hom => ⟨⟨h1, ?_, fun j p lv hj hv => ?_⟩, ?_⟩⟩
      · cases g with
        | true => obtain ⟨cs, hcs, hsz, _⟩ := hok; exact ⟨cs, hcs, hsz.trans h3⟩
        | false =>
          cases as with
          | nil => exact hok.elim
          | cons b bs => cases bs with
            | nil => exact h3.symm
            | cons => exact hok.elim
      · obtain ⟨y, hy, hr⟩ := h5 j p lv hj hv
        have hlt : j < ls.length := (List.getElem?_eq_some_iff.1 hj).1
        refine ⟨y, hy, ?_⟩
        show lv.l.rd p.2 W.w W.fz y lv.x (om (off + j))
        rw [hom j (by simp; omega), List.getElem?_append_left (by omega)]
        exact hr
      · refine h8 (off + ls.length) om fun j hj => ?_
        rw [show off + ls.length + j = off + (ls.length + j) by omega, hom (ls.length + j) (by simp; omega), List.getElem?_append_right (by omega)]
        rw [show ls.length + j - os1.length = j by omega]
    cases r with
    | tmp u =>
      simp only [backRes] at hl
      split at hl
      · rename_i g' as hsl
        split at hl
        · rename_i hgg
          have hgg : g = g' := by simpa using hgg
          subst hgg
          have hok : Vok s W g as (tm.getD u Go.undef) := by have := h.slots u; rw [hsl] at this; exact this
          exact main hok (fun us hu => ⟨rfl, hu⟩) hl
        · exact hl.elim
      · exact hl.elim
    | cell u T =>
      simp only [backRes] at hl
      split at hl
      · rename_i y r0 ver hyT hsl
        split at hl
        · rename_i hgg
          simp only [Bool.and_eq_true, beq_iff_eq] at hgg
          obtain ⟨hgg, hyn⟩ := hgg
          subst hgg
          have hv : LAok s W (.ptr r0 0 ver) (tm.getD u Go.undef) := by have := h.slots u; rw [hsl] at this; exact this
          have hbx : (s.root r0).box = true ∧ (s.root r0).ver = ver := by
            have hl2 := hl
            simp only [St.loads] at hl2
            split at hl2
            · rename_i hc
              simp only [Bool.and_eq_true, beq_iff_eq] at hc
              exact hc.1
            · exact hl2.elim
          obtain ⟨as, hl, _, b, off, hp, hget⟩ := loads_ok h hv hl
          split at hl
          · rename_i hlen
            have hlen : as.length = ls.length := by simpa using hlen
            have hoff : off = 0 := by
              rw [hv hbx.1 hbx.2] at hp
              injection hp with hp; injection hp with hp; injection hp with _ h2
              exact h2.symm
            subst hoff
            obtain ⟨v, hv1, hv2⟩ := loadVar_ok (hty T y hyT) (by rw [hlen, hyn]) hget
            exact main hv2 (fun us hu => ⟨by simp [hp, asAddr, hv1], hu⟩) hl
          · exact hl.elim
        · exact hl.elim
      · exact hl.elim

/-- What a parameter hands back. -/
def PBack (E : Ent) (s : St) (W : Wd) (i : Nat) (pm : PM) (vs0 vs : List Lv) (os : List (List Nat)) : Prop := match pm with
  | .box ls => (s.root i).box = true ∧ (s.root i).ver = 1 ∧ (s.root i).ls.length = ls.length ∧ vs.map (·.l) = ls.map (·.1) ∧ os.length = ls.length ∧
      ∀ (j : Nat) (p : L × Nat) (lv : Lv), ls[j]? = some p → vs[j]? = some lv → ∃ y, W.w.cell? ⟨W.bk i, j, none⟩ = some y ∧ lv.l.rd p.2 W.w W.fz y lv.x ((os[j]?).getD [])
  | .row g ls => vs.length = ls.length ∧ os.length = ls.length ∧ ∀ (j : Nat) (p : L × Nat) (lv : Lv), ls[j]? = some p → vs[j]? = some lv →
      (isSl p.1 = true ∧ lv.l = p.1 ∧ ∃ u, E.cv0 i j = some u ∧ lv.l.rd p.2 W.w W.fz u lv.x ((os[j]?).getD [])) ∨ (isSl p.1 = false ∧ vs0[j]? = some lv ∧ os[j]? = some [])
  | _ => vs = [] ∧ os = []

theorem backRow_ok (h : Rep E s tm W) (i : Nat) : ∀ (j : Nat) (ls : List (L × Nat)) (vs0 rest : List Lv) {us : List (Nat × Nat)} {k : List Lv → List (Nat × Nat) → Step β}, vs0.length = ls.length → (backRow s i j ls (vs0 ++ rest) us k).leads t →
    ∃ (vs : List Lv) (us' : List (Nat × Nat)) (os : List (List Nat)), (k vs us').leads t ∧ vs.length = ls.length ∧ os.length = ls.length ∧ BL W us us' os ∧ ∀ (m : Nat) (p : L × Nat) (lv : Lv), ls[m]? = some p → vs[m]? = some lv →
      (isSl p.1 = true ∧ lv.l = p.1 ∧ ∃ u, E.cv0 i (j + m) = some u ∧ lv.l.rd p.2 W.w W.fz u lv.x ((os[m]?).getD [])) ∨ (isSl p.1 = false ∧ vs0[m]? = some lv ∧ os[m]? = some [])
  | j, [], vs0, rest, us, k, hlen, hl => ⟨[], us, [], hl, rfl, rfl, .nil _, fun m p lv hp => by simp at hp⟩
  | j, _ :: _, [], rest, us, k, hlen, hl => by simp at hlen
  | j, (l, d) :: ls, x :: vs0, rest, us, k, hlen, hl => by
    have hlen' : vs0.length = ls.length := by simpa using hlen
    have plain : isSl l = false → (backRow s i (j + 1) ls (vs0 ++ rest) us fun ys us => k (x :: ys) us).leads t → ∃ (vs : List Lv) (us' : List (Nat × Nat)) (os : List (List Nat)), (k vs us').leads t ∧ vs.length = ((l, d) :: ls).length ∧ os.length = ((l, d) :: ls).length ∧ BL W us us' os ∧ ∀ (m : Nat) (p : L × Nat) (lv : Lv), ((l, d) :: ls)[m]? = some p → vs[m]? = some lv →
        (isSl p.1 = true ∧ lv.l = p.1 ∧ ∃ u, E.cv0 i (j + m) = some u ∧ lv.l.rd p.2 W.w W.fz u lv.x ((os[m]?).getD [])) ∨ (isSl p.1 = false ∧ (x :: vs0)[m]? = some lv ∧ os[m]? = some []) := by
      intro hs hl
      obtain ⟨vs, us1, os, hl, h1, h2, h3, h4⟩ := backRow_ok h i (j + 1) ls vs0 rest hlen' hl
      refine ⟨x :: vs, us1, [] :: os, hl, by simp [h1], by simp [h2], .skip h3, fun m p lv hp hv => ?_⟩
      cases m with
      | zero => simp at hp hv; subst hp; subst hv; exact .inr ⟨hs, rfl, rfl⟩
      | succ m =>
        have := h4 m p lv (by simpa using hp) (by simpa using hv)
        rw [show j + 1 + m = j + (m + 1) by omega] at this
        simpa using this
    cases l with
    | int i => exact plain rfl hl
    | bool => exact plain rfl hl
    | str => exact plain rfl hl
    | sl t0 e =>
      simp only [List.cons_append, backRow] at hl
      split at hl
      · rename_i gen t' e' xs' d' hleaf
        obtain ⟨u, hu, hrd⟩ := (h.roots i).row hleaf
        have hini := h.init.1 _ _ _ _ _ _ _ hleaf
        have hv : LAok s W (.ref ⟨i, j, 1, gen, []⟩) u := by
          intro gen2 t2 e2 xs2 d2 hl2 _
          have hl2 : s.leaf i j = _ := hl2
          exact ⟨u, e2, hu, rfl, rfl⟩
        obtain ⟨y, us1, o, hl, hr, hb⟩ := backLeaf_ok h hv hl
        obtain ⟨vs, us2, os, hl, h1, h2, h3, h4⟩ := backRow_ok h i (j + 1) ls vs0 rest hlen' hl
        refine ⟨⟨.sl t0 e, y⟩ :: vs, us2, o :: os, hl, by simp [h1], by simp [h2], hb.append h3, fun m p lv hp hv => ?_⟩
        cases m with
        | zero => simp at hp hv; subst hp; subst hv; exact .inl ⟨rfl, rfl, u, by rw [Nat.add_zero, ← hini]; exact hu, by simpa using hr⟩
        | succ m =>
          have := h4 m p lv (by simpa using hp) (by simpa using hv)
          rw [show j + 1 + m = j + (m + 1) by omega] at this
          simpa using this
      · obtain ⟨x, us1, o, hl, hr, hb⟩ := backLeaf_ok h (v := Go.undef) (show LAok s W .bad Go.undef from trivial) hl
        cases d with
        | zero =>
          exfalso
          exact absurd hl id
        | succ d => exact absurd hl id

theorem backPs_ok (h : Rep E s tm W) : ∀ (i : Nat) (ps : List PM) (vss0 : List (List Lv)) {us : List (Nat × Nat)} {k : List Lv → Step β}, vss0.length = ps.length → (∀ (j : Nat) (pm : PM) (vs : List Lv), ps[j]? = some pm → vss0[j]? = some vs → vs.length = pm.ins.length) → (backPs s i ps vss0.flatten us k).leads t →
    ∃ (vss : List (List Lv)) (us' : List (Nat × Nat)) (oss : List (List (List Nat))), (k vss.flatten).leads t ∧ vss.length = ps.length ∧ oss.length = ps.length ∧ BL W us us' oss.flatten ∧
      ∀ (j : Nat) (pm : PM) (vs0 vs : List Lv) (os : List (List Nat)), ps[j]? = some pm → vss0[j]? = some vs0 → vss[j]? = some vs → oss[j]? = some os → PBack E s W (i + j) pm vs0 vs os
  | i, [], vss0, us, k, hlen, hvl, hl => ⟨[], us, [], hl, rfl, rfl, .nil _, fun j pm vs0 vs os hj => by simp at hj⟩
  | i, _ :: _, [], us, k, hlen, hvl, hl => by simp at hlen
  | i, pm :: ps, vs0 :: vss0, us, k, hlen, hvl, hl => by
    have hlen' : vss0.length = ps.length := by simpa using hlen
    have hvl' : ∀ (j : Nat) (pm : PM) (vs : List Lv), ps[j]? = some pm → vss0[j]? = some vs → vs.length = pm.ins.length := fun j pm' vs h1 h2 => hvl (j + 1) pm' vs (by simpa using h1) (by simpa using h2)
    have hv0 := hvl 0 pm vs0 rfl rfl
    have fin : ∀ {us1 : List (Nat × Nat)} (vs : List Lv) (os : List (List Nat)), BL W us us1 os → PBack E s W i pm vs0 vs os → (backPs s (i + 1) ps vss0.flatten us1 fun ys => k (vs ++ ys)).leads t →
        ∃ (vss : List (List Lv)) (us' : List (Nat × Nat)) (oss : List (List (List Nat))), (k vss.flatten).leads t ∧ vss.length = (pm :: ps).length ∧ oss.length = (pm :: ps).length ∧ BL W us us' oss.flatten ∧
          ∀ (j : Nat) (pm' : PM) (vs1 vs : List Lv) (os : List (List Nat)), (pm :: ps)[j]? = some pm' → (vs0 :: vss0)[j]? = some vs1 → vss[j]? = some vs → oss[j]? = some os → PBack E s W (i + j) pm' vs1 vs os := by
      intro us1 vs os hb hp hl
      obtain ⟨vss, us2, oss, hl, h1, h2, h3, h4⟩ := backPs_ok h (i + 1) ps vss0 hlen' hvl' hl
      refine ⟨vs :: vss, us2, os :: oss, by simpa using hl, by simp [h1], by simp [h2], by simpa using hb.append h3, fun j pm' vs1 vs' os' hj hv1 hv ho => ?_⟩
      cases j with
      | zero => simp at hj hv1 hv ho; subst hj; subst hv1; subst hv; subst ho; exact hp
      | succ j =>
        have := h4 j pm' vs1 vs' os' (by simpa using hj) (by simpa using hv1) (by simpa using hv) (by simpa using ho)
        rw [show i + 1 + j = i + (j + 1) by omega] at this
        exact this
    cases pm with
    | val g ls =>
      have e : vs0.length = ls.length := hv0
      simp only [List.flatten_cons, backPs] at hl
      rw [← e, List.drop_left] at hl
      exact fin [] [] (.nil _) ⟨rfl, rfl⟩ (by simpa using hl)
    | fn f =>
      have e : vs0 = [] := List.eq_nil_of_length_eq_zero hv0
      subst e
      simp only [List.flatten_cons, List.nil_append, backPs] at hl
      exact fin [] [] (.nil _) ⟨rfl, rfl⟩ (by simpa using hl)
    | box ls =>
      have e : vs0.length = ls.length := by simpa [PM.ins] using hv0
      simp only [List.flatten_cons, backPs] at hl
      rw [show (vs0 ++ vss0.flatten).drop ls.length = vss0.flatten by rw [← e, List.drop_left]] at hl
      split at hl
      · rename_i hc
        simp only [Bool.and_eq_true, beq_iff_eq] at hc
        obtain ⟨⟨hb, hver⟩, hlen⟩ := hc
        have hv : LAok s W (.ptr i 0 1) (.pointer (some ⟨W.bk i, 0, none⟩)) := fun _ _ => rfl
        obtain ⟨as, hl, _, b, off, hp, hget⟩ := loads_ok h hv hl
        injection hp with hp; injection hp with hp; injection hp with hp1 hp2
        subst hp1; subst hp2
        obtain ⟨vs, us1, os, hl, h1, h2, h3, h4, h5⟩ := backLeaves_ok h ls as (fun j => W.w.cell? ⟨W.bk i, 0 + j, none⟩) hget hl
        refine fin vs os h4 ⟨hb, hver, hlen, h1, h2, fun j p lv hj hv => ?_⟩ hl
        obtain ⟨y, hy, hr⟩ := h5 j p lv hj hv
        exact ⟨y, by simpa using hy, hr⟩
      · exact hl.elim
    | row g ls =>
      have e : vs0.length = ls.length := by simpa [PM.ins] using hv0
      simp only [List.flatten_cons, backPs] at hl
      rw [show (vs0 ++ vss0.flatten).drop ls.length = vss0.flatten by rw [← e, List.drop_left]] at hl
      obtain ⟨vs, us1, os, hl, h1, h2, h3, h4⟩ := backRow_ok h i 0 ls vs0 _ e hl
      exact fin vs os h3 ⟨h1, h2, fun j p lv hp hv => by have := h4 j p lv hp hv; rwa [Nat.zero_add] at this⟩ hl

end
end Go.Ev

namespace Go.Ev
set_option linter.unusedVariables false
set_option linter.unusedSimpArgs false

def slotIn (i : Nat) (pm : PM) (vs : List Lv) : AV := match pm with
  | .val g _ => .v g (vs.map fun x => .sc x.l x.x)
  | .box _ => one (.ptr i 0 1)
  | .row g ls => .v g (rowRefs i 0 ls vs)
  | .fn f => one (.fn f)
def rootIn (pm : PM) (vs : List Lv) (r : Root) : Root := match pm with
  | .box ls => ⟨true, 1, newLeaves 1 ls vs⟩
  | .row _ ls => ⟨false, 1, newLeaves 1 ls vs⟩
  | _ => r

theorem rowRefs_len (i : Nat) : ∀ (j : Nat) (ls : List (L × Nat)) (vs : List Lv), vs.length = ls.length → (rowRefs i j ls vs).length = ls.length
  | _, [], [], _ => rfl
  | _, [], _ :: _, h => by simp at h
  | _, _ :: _, [], h => by simp at h
  | j, (l, d) :: ls, x :: vs, h => by simp [rowRefs, rowRefs_len i (j + 1) ls vs (by simpa using h)]
theorem rowRefs_more (i : Nat) : ∀ (j : Nat) (ls : List (L × Nat)) (vs rest : List Lv), vs.length = ls.length → rowRefs i j ls (vs ++ rest) = rowRefs i j ls vs
  | _, [], [], rest, _ => by cases rest <;> simp [rowRefs]
  | _, [], _ :: _, _, h => by simp at h
  | _, _ :: _, [], _, h => by simp at h
  | j, (l, d) :: ls, x :: vs, rest, h => by simp [rowRefs, rowRefs_more i (j + 1) ls vs rest (by simpa using h)]
theorem rowRefs_get (i : Nat) : ∀ (j : Nat) (ls : List (L × Nat)) (vs : List Lv) (m : Nat) (p : L × Nat) (lv : Lv), ls[m]? = some p → vs[m]? = some lv → (rowRefs i j ls vs)[m]? = some (if isSl p.1 then .ref ⟨i, j + m, 1, 1, []⟩ else .sc lv.l lv.x)
  | _, [], _, m, p, lv, h, _ => by simp at h
  | _, _ :: _, [], m, p, lv, _, h => by simp at h
  | j, (l, d) :: ls, x :: vs, 0, p, lv, h1, h2 => by
    simp at h1 h2; subst h1; subst h2
    cases l <;> rfl
  | j, (l, d) :: ls, x :: vs, m + 1, p, lv, h1, h2 => by
    have := rowRefs_get i (j + 1) ls vs m p lv (by simpa using h1) (by simpa using h2)
    rw [show j + 1 + m = j + (m + 1) by omega] at this
    simpa [rowRefs] using this
theorem rowRefs_vers (i : Nat) : ∀ (j : Nat) (ls : List (L × Nat)) (vs : List Lv) (a : LA), a ∈ rowRefs i j ls vs → ∀ n ∈ a.vers, n = 1
  | _, [], _, a, h => by simp [rowRefs] at h
  | _, _ :: _, [], a, h => by simp [rowRefs] at h
  | j, (l, d) :: ls, x :: vs, a, h => by
    rcases List.mem_cons.1 (show a ∈ _ :: rowRefs i (j + 1) ls vs from h) with rfl | h
    · intro n hn
      cases l <;> simp [LA.vers] at hn
      exact hn
    · exact rowRefs_vers i (j + 1) ls vs a h

theorem app1_lens (s : St) (w : Wr) : (s.app1 w).sl.length = s.sl.length ∧ (s.app1 w).ro.length = s.ro.length := by
  cases w <;> simp [St.app1, upd_len]

/-- One parameter's writes. -/
def initW (i : Nat) (pm : PM) (vs : List Lv) : List Wr := match pm with
  | .val _ _ => [.slot i (slotIn i pm vs)]
  | .fn _ => [.slot i (slotIn i pm vs)]
  | _ => [.root i (rootIn pm vs dead), .slot i (slotIn i pm vs)]
theorem initW_ok (i : Nat) (pm : PM) (vs : List Lv) (s : St) (h1 : i < s.sl.length) (h2 : i < s.ro.length) :
    (s.app (initW i pm vs)).sl.length = s.sl.length ∧ (s.app (initW i pm vs)).ro.length = s.ro.length ∧ (∀ t, t ≠ i → (s.app (initW i pm vs)).slot t = s.slot t ∧ (s.app (initW i pm vs)).root t = s.root t) ∧
      (s.app (initW i pm vs)).slot i = slotIn i pm vs ∧ (s.app (initW i pm vs)).root i = rootIn pm vs (s.root i) := by
  have one : ∀ x, (s.app [.slot i x]).sl.length = s.sl.length ∧ (s.app [.slot i x]).ro.length = s.ro.length ∧ (∀ t, t ≠ i → (s.app [.slot i x]).slot t = s.slot t ∧ (s.app [.slot i x]).root t = s.root t) ∧
      (s.app [.slot i x]).slot i = x ∧ (s.app [.slot i x]).root i = s.root i := by
    intro x
    refine ⟨(app1_lens s _).1, (app1_lens s _).2, fun t ht => ⟨?_, rfl⟩, ?_, rfl⟩
    · show (s.app1 (.slot i x)).slot t = _
      rw [slot_app, if_neg (fun hh => ht hh.1.symm)]
    · show (s.app1 (.slot i x)).slot i = _
      rw [slot_app, if_pos ⟨rfl, h1⟩]
  have two : ∀ y x, (s.app [.root i y, .slot i x]).sl.length = s.sl.length ∧ (s.app [.root i y, .slot i x]).ro.length = s.ro.length ∧ (∀ t, t ≠ i → (s.app [.root i y, .slot i x]).slot t = s.slot t ∧ (s.app [.root i y, .slot i x]).root t = s.root t) ∧
      (s.app [.root i y, .slot i x]).slot i = x ∧ (s.app [.root i y, .slot i x]).root i = y := by
    intro y x
    have hsl : (s.app1 (.root i y)).sl = s.sl := rfl
    refine ⟨(app1_lens (s.app1 (.root i y)) (.slot i x)).1.trans (app1_lens s _).1, (app1_lens (s.app1 (.root i y)) (.slot i x)).2.trans (app1_lens s _).2, fun t ht => ⟨?_, ?_⟩, ?_, ?_⟩
    · show ((s.app1 (.root i y)).app1 (.slot i x)).slot t = _
      rw [slot_app, if_neg (fun hh => ht hh.1.symm)]; rfl
    · show (s.app1 (.root i y)).root t = _
      rw [root_app, if_neg (fun hh => ht hh.1.symm)]
    · show ((s.app1 (.root i y)).app1 (.slot i x)).slot i = _
      rw [slot_app, if_pos ⟨rfl, h1⟩]
    · show (s.app1 (.root i y)).root i = _
      rw [root_app, if_pos ⟨rfl, h2⟩]
  cases pm with
  | val g ls => exact one _
  | fn f => exact one _
  | box ls => exact two _ _
  | row g ls => exact two _ _

theorem initP_ok : ∀ (ps : List PM) (vss : List (List Lv)) (i : Nat) {ws : List Wr} (s : St), vss.length = ps.length → (∀ (j : Nat) (pm : PM) (vs : List Lv), ps[j]? = some pm → vss[j]? = some vs → vs.length = pm.ins.length) →
    initP i ps vss.flatten = some ws → i + ps.length ≤ s.sl.length → i + ps.length ≤ s.ro.length →
    (s.app ws).sl.length = s.sl.length ∧ (s.app ws).ro.length = s.ro.length ∧ (∀ t, (t < i ∨ i + ps.length ≤ t) → (s.app ws).slot t = s.slot t ∧ (s.app ws).root t = s.root t) ∧
      ∀ (j : Nat) (pm : PM) (vs : List Lv), ps[j]? = some pm → vss[j]? = some vs → (s.app ws).slot (i + j) = slotIn (i + j) pm vs ∧ (s.app ws).root (i + j) = rootIn pm vs (s.root (i + j))
  | [], [], i, ws, s, hlen, hv, h, h1, h2 => by
    have : ws = [] := by simpa [initP] using h.symm
    subst this
    exact ⟨rfl, rfl, fun t ht => ⟨rfl, rfl⟩, fun j pm vs hj => by simp at hj⟩
  | [], _ :: _, i, ws, s, hlen, hv, h, h1, h2 => by simp at hlen
  | _ :: _, [], i, ws, s, hlen, hv, h, h1, h2 => by simp at hlen
  | pm :: ps, vs :: vss, i, ws, s, hlen, hv, h, h1, h2 => by
    have hl0 : vs.length = pm.ins.length := hv 0 pm vs rfl rfl
    have hex : ∃ ws', initP (i + 1) ps vss.flatten = some ws' ∧ ws = initW i pm vs ++ ws' := by
      cases pm with
      | val g ls =>
        simp only [List.flatten_cons, initP] at h
        have hl1 : vs.length = ls.length := hl0
        rw [← hl1, List.drop_left, List.take_left] at h
        split at h
        · rename_i ws' hq
          injection h with h
          exact ⟨ws', hq, h.symm⟩
        · cases h
      | fn f =>
        have hl1 : vs = [] := List.eq_nil_of_length_eq_zero hl0
        subst hl1
        simp only [List.flatten_cons, initP, List.nil_append] at h
        split at h
        · rename_i ws' hq
          injection h with h
          exact ⟨ws', hq, h.symm⟩
        · cases h
      | box ls =>
        simp only [List.flatten_cons, initP] at h
        have hl1 : vs.length = ls.length := by simpa [PM.ins] using hl0
        have hd : (vs ++ vss.flatten).drop ls.length = vss.flatten := by rw [← hl1, List.drop_left]
        rw [hd, newLeaves_more 1 ls vs _ hl1] at h
        split at h
        · rename_i ws' hq
          injection h with h
          exact ⟨ws', hq, h.symm⟩
        · cases h
      | row g ls =>
        simp only [List.flatten_cons, initP] at h
        have hl1 : vs.length = ls.length := by simpa [PM.ins] using hl0
        have hd : (vs ++ vss.flatten).drop ls.length = vss.flatten := by rw [← hl1, List.drop_left]
        rw [hd, newLeaves_more 1 ls vs _ hl1, rowRefs_more i 0 ls vs _ hl1] at h
        split at h
        · rename_i ws' hq
          injection h with h
          exact ⟨ws', hq, h.symm⟩
        · cases h
    obtain ⟨ws', hq, rfl⟩ := hex
    simp only [List.length_cons] at h1 h2
    obtain ⟨a1, a2, a3, a4, a5⟩ := initW_ok i pm vs s (by omega) (by omega)
    obtain ⟨b1, b2, b3, b4⟩ := initP_ok ps vss (i + 1) (s.app (initW i pm vs)) (by simpa using hlen) (fun j pm' vs' hj hv' => hv (j + 1) pm' vs' (by simpa using hj) (by simpa using hv')) hq (by rw [a1]; omega) (by rw [a2]; omega)
    rw [app_append]
    refine ⟨b1.trans a1, b2.trans a2, fun t ht => ?_, fun j pm' vs' hj hv' => ?_⟩
    · simp only [List.length_cons] at ht
      obtain ⟨c1, c2⟩ := b3 t (by omega)
      obtain ⟨d1, d2⟩ := a3 t (by omega)
      exact ⟨c1.trans d1, c2.trans d2⟩
    · cases j with
      | zero =>
        simp at hj hv'; subst hj; subst hv'
        obtain ⟨c1, c2⟩ := b3 i (by omega)
        exact ⟨c1.trans a4, c2.trans a5⟩
      | succ j =>
        obtain ⟨c1, c2⟩ := b4 j pm' vs' (by simpa using hj) (by simpa using hv')
        rw [show i + 1 + j = i + (j + 1) by omega] at c1 c2
        rw [(a3 (i + (j + 1)) (by omega)).2] at c2
        exact ⟨c1, c2⟩

section
variable {P : Program} {w : World} {fz : Nat → Prop} {ps : List PM} {args : List Value} {vss : List (List Lv)} {bk : Nat → Nat} {om : Key → List Nat} {N : Nat} {ws : List Wr}

open Classical in
/-- The cells of what is written in place. -/
noncomputable def cvIn (ps : List PM) (w : World) (args : List Value) (bk : Nat → Nat) (r j : Nat) : Option Value := match ps[r]? with
  | some (.box _) => w.cell? ⟨bk r, j, none⟩
  | some (.row g _) => (args[r]?).bind fun u => partG g u j
  | _ => none
noncomputable def entIn (T : List (String × Array Value)) (ps : List PM) (w : World) (fz : Nat → Prop) (args : List Value) (bk : Nat → Nat) (om : Key → List Nat) : Ent :=
  { base := w.heap.size, io := fun b => ∃ k, b ∈ om k, fa := fz, w0 := w, cv0 := cvIn ps w args bk, bk0 := bk, tabs := T }
noncomputable def wdIn (ps : List PM) (w : World) (fz : Nat → Prop) (args : List Value) (bk : Nat → Nat) (om : Key → List Nat) : Wd :=
  { w := w, fz := fz, cv := cvIn ps w args bk, bk := bk, om := om }

theorem PArg.kinds {pm : PM} {u : Value} {vs : List Lv} {b : Nat} {own : Nat → List Nat} (h : PArg w fz pm u vs b own) : vs.length = pm.ins.length := by
  cases pm with
  | val g ls => have := congrArg List.length h.1; simpa [PM.ins] using this
  | box ls => have := congrArg List.length h.2.1; simpa [PM.ins] using this
  | row g ls => have := congrArg List.length h.1; simpa [PM.ins] using this
  | fn f => rw [h.2]; rfl

theorem blank_slot (n t : Nat) : (blank n).slot t = one .bad := by
  show nth _ (List.replicate n (one .bad)) t = _
  rw [nth_of, List.getElem?_replicate]
  split <;> rfl
theorem blank_root (n t : Nat) : (blank n).root t = dead := by
  show nth _ (List.replicate n dead) t = _
  rw [nth_of, List.getElem?_replicate]
  split <;> rfl

theorem init_inv (hin : ArgsIn ps w fz args vss bk om) (hp : initP 0 ps vss.flatten = some ws) (hN : ps.length ≤ N) : Inv N ((blank N).app ws) := by
  obtain ⟨b1, b2, b3, b4⟩ := initP_ok ps vss 0 (blank N) hin.len2 (fun j pm vs hj hv => by
    obtain ⟨u, hu⟩ : ∃ u, args[j]? = some u := ⟨_, List.getElem?_eq_getElem (by rw [hin.len]; exact (List.getElem?_eq_some_iff.1 hj).1)⟩
    exact (hin.each j pm u vs hj hu hv).kinds) hp (by simp [blank]; exact hN) (by simp [blank]; exact hN)
  simp only [Nat.zero_add] at b3 b4
  have hctr : ((blank N).app ws).ctr = 2 := app_ctr ws _
  have get : ∀ t, (∃ pm vs, ps[t]? = some pm ∧ vss[t]? = some vs ∧ ((blank N).app ws).slot t = slotIn t pm vs ∧ ((blank N).app ws).root t = rootIn pm vs dead) ∨ (((blank N).app ws).slot t = one .bad ∧ ((blank N).app ws).root t = dead) := by
    intro t
    rcases Nat.lt_or_ge t ps.length with hlt | hge
    · left
      have h1 := List.getElem?_eq_getElem hlt
      have h2 := List.getElem?_eq_getElem (show t < vss.length by rw [hin.len2]; exact hlt)
      obtain ⟨c1, c2⟩ := b4 t _ _ h1 h2
      rw [blank_root] at c2
      exact ⟨_, _, h1, h2, c1, c2⟩
    · right
      obtain ⟨c1, c2⟩ := b3 t (.inr hge)
      rw [blank_slot] at c1
      rw [blank_root] at c2
      exact ⟨c1, c2⟩
  have nl : ∀ (ls : List (L × Nat)) (vs : List Lv), ∀ a ∈ newLeaves 1 ls vs, (∀ n ∈ a.vers, n = 1) ∧ a.inRoot = true := by
    intro ls
    induction ls with
    | nil => intro vs a ha; simp [newLeaves] at ha
    | cons p ls ih =>
      intro vs a ha
      cases vs with
      | nil => simp [newLeaves] at ha
      | cons x vs =>
        rcases List.mem_cons.1 (show a ∈ newLeaf 1 p.2 x :: newLeaves 1 ls vs from ha) with rfl | ha
        · exact newLeaf_ok2 1 _ _
        · exact ih vs a ha
  have rt : ∀ (pm : PM) (vs : List Lv), ((rootIn pm vs dead).ver < 2) ∧ ∀ a ∈ (rootIn pm vs dead).ls, (∀ n ∈ a.vers, n = 1) ∧ a.inRoot = true := by
    intro pm vs
    cases pm with
    | val g ls => exact ⟨by simp [rootIn, dead], fun a ha => by simp [rootIn, dead] at ha⟩
    | fn f => exact ⟨by simp [rootIn, dead], fun a ha => by simp [rootIn, dead] at ha⟩
    | box ls => exact ⟨by simp [rootIn], fun a ha => nl ls vs a ha⟩
    | row g ls => exact ⟨by simp [rootIn], fun a ha => nl ls vs a ha⟩
  refine ⟨⟨fun t n hn => ?_, fun r n hn => ?_⟩, by rw [hctr]; exact Nat.le_refl _, by rw [b1]; simp [blank], by rw [b2]; simp [blank], fun r a ha => ?_⟩
  · rw [hctr]
    rcases get t with ⟨pm, vs, _, _, h1, _⟩ | ⟨h1, _⟩
    · rw [h1] at hn
      cases pm with
      | val g ls =>
        exfalso
        simp only [slotIn, AV.vers, List.mem_flatMap, List.mem_map] at hn
        obtain ⟨a, ⟨x, _, rfl⟩, hn⟩ := hn
        cases hn
      | fn f => simp [slotIn, one, AV.vers, LA.vers] at hn
      | box ls => simp [slotIn, one, AV.vers, LA.vers] at hn; omega
      | row g ls =>
        obtain ⟨a, ha, hn⟩ := List.mem_flatMap.1 (show n ∈ (rowRefs t 0 ls vs).flatMap LA.vers from hn)
        have := rowRefs_vers t 0 ls vs a ha n hn
        omega
    · rw [h1] at hn; simp [one, AV.vers, LA.vers] at hn
  · rw [hctr]
    rcases get r with ⟨pm, vs, _, _, _, h1⟩ | ⟨_, h1⟩
    · rw [h1] at hn
      rcases List.mem_cons.1 (show n ∈ (rootIn pm vs dead).ver :: (rootIn pm vs dead).ls.flatMap LA.vers from hn) with rfl | hn
      · exact (rt pm vs).1
      · obtain ⟨a, ha, hn⟩ := List.mem_flatMap.1 hn
        have := ((rt pm vs).2 a ha).1 n hn
        omega
    · rw [h1] at hn; simp [dead, Root.vers] at hn; omega
  · rcases get r with ⟨pm, vs, _, _, _, h1⟩ | ⟨_, h1⟩
    · rw [h1] at ha; exact ((rt pm vs).2 a ha).2
    · rw [h1] at ha; simp [dead] at ha

theorem init_rep {T : List (String × Array Value)} (hin : ArgsIn ps w fz args vss bk om) (hp : initP 0 ps vss.flatten = some ws) (hN : ps.length ≤ N) :
    Rep (entIn T ps w fz args bk om) ((blank N).app ws) (args.toArray ++ Array.replicate (N - args.toArray.size) undef) (wdIn ps w fz args bk om) := by
  obtain ⟨b1, b2, b3, b4⟩ := initP_ok ps vss 0 (blank N) hin.len2 (fun j pm vs hj hv => by
    obtain ⟨u, hu⟩ : ∃ u, args[j]? = some u := ⟨_, List.getElem?_eq_getElem (by rw [hin.len]; exact (List.getElem?_eq_some_iff.1 hj).1)⟩
    exact (hin.each j pm u vs hj hu hv).kinds) hp (by simp [blank]; exact hN) (by simp [blank]; exact hN)
  simp only [Nat.zero_add] at b3 b4
  have hsz : (args.toArray ++ Array.replicate (N - args.toArray.size) undef).size = N := by
    have := hin.len
    simp
    omega
  have get : ∀ t, (∃ pm u vs, ps[t]? = some pm ∧ args[t]? = some u ∧ vss[t]? = some vs ∧ ((blank N).app ws).slot t = slotIn t pm vs ∧ ((blank N).app ws).root t = rootIn pm vs dead ∧ (args.toArray ++ Array.replicate (N - args.toArray.size) undef).getD t Go.undef = u) ∨
      (ps[t]? = none ∧ ((blank N).app ws).slot t = one .bad ∧ ((blank N).app ws).root t = dead) := by
    intro t
    rcases Nat.lt_or_ge t ps.length with hlt | hge
    · left
      have h1 := List.getElem?_eq_getElem hlt
      have hlt2 : t < args.length := by rw [hin.len]; exact hlt
      have h0 := List.getElem?_eq_getElem hlt2
      have h2 := List.getElem?_eq_getElem (show t < vss.length by rw [hin.len2]; exact hlt)
      obtain ⟨c1, c2⟩ := b4 t _ _ h1 h2
      rw [blank_root] at c2
      refine ⟨_, _, _, h1, h0, h2, c1, c2, ?_⟩
      rw [Array.getD_eq_getD_getElem?, Array.getElem?_append_left (by simpa using hlt2)]
      simp [hlt2]
    · right
      obtain ⟨c1, c2⟩ := b3 t (.inr hge)
      rw [blank_slot] at c1
      rw [blank_root] at c2
      exact ⟨List.getElem?_eq_none hge, c1, c2⟩
  refine ⟨by rw [b1, hsz]; simp [blank], by rw [b2, hsz]; simp [blank], fun t => ?_, fun r => ?_, ?_, ⟨fun _ _ _ _ _ _ _ _ => rfl, fun _ _ _ => rfl⟩⟩
  · rcases get t with ⟨pm, u, vs, h1, h2, h3, h4, h5, h6⟩ | ⟨_, h4, _⟩
    · rw [h4, h6]
      have ha := hin.each t pm u vs h1 h2 h3
      cases pm with
      | val g ls =>
        obtain ⟨a1, a2, a3⟩ := ha
        have hlen : vs.length = ls.length := by have := congrArg List.length a1; simpa using this
        have hrd : ∀ (j : Nat) (lv : Lv), vs[j]? = some lv → ∃ y, partG g u j = some y ∧ lv.l.rd 0 w fz y lv.x [] := by
          intro j lv hj
          have hlt : j < ls.length := by rw [← hlen]; exact (List.getElem?_eq_some_iff.1 hj).1
          exact a3 j (ls[j], 0) lv (by simp [hlt]) hj
        cases g with
        | false =>
          have hl1 : vs.length = 1 := by rw [hlen]; simpa using a2
          obtain ⟨lv, rfl⟩ : ∃ lv, vs = [lv] := by
            match vs, hl1 with
            | [x], _ => exact ⟨x, rfl⟩
          obtain ⟨y, hy, hr⟩ := hrd 0 lv rfl
          simp [partG] at hy
          subst hy
          exact hr
        | true =>
          obtain ⟨cs, rfl, hcs⟩ := a2
          refine ⟨cs, rfl, by rw [hcs]; simp [hlen], fun j a hj => ?_⟩
          simp only [List.getElem?_map] at hj
          cases hq : vs[j]? with
          | none => rw [hq] at hj; cases hj
          | some lv =>
            rw [hq] at hj; injection hj with hj; subst hj
            obtain ⟨y, hy, hr⟩ := hrd j lv hq
            exact ⟨y, hy, hr⟩
      | box ls => exact fun _ _ => ha.1
      | row g ls =>
        obtain ⟨a1, a2, a3⟩ := ha
        have hlen : vs.length = ls.length := by have := congrArg List.length a1; simpa using this
        have hleaf : ∀ (j : Nat) (p : L × Nat) (lv : Lv), ls[j]? = some p → vs[j]? = some lv → ((blank N).app ws).leaf t j = newLeaf 1 p.2 lv := by
          intro j p lv p1 p2
          show nth LA.bad (((blank N).app ws).root t).ls j = _
          rw [h5]
          show nth LA.bad (newLeaves 1 ls vs) j = _
          rw [nth_of, newLeaves_get 1 ls vs j _ _ p1 p2]
          rfl
        have hok : ∀ (j : Nat) (a : LA), (rowRefs t 0 ls vs)[j]? = some a → ∃ y, partG g u j = some y ∧ LAok ((blank N).app ws) (wdIn ps w fz args bk om) a y := by
          intro j a hj
          have hlt : j < ls.length := by rw [← rowRefs_len t 0 ls vs hlen]; exact (List.getElem?_eq_some_iff.1 hj).1
          have p1 := List.getElem?_eq_getElem hlt
          have p2 := List.getElem?_eq_getElem (show j < vs.length by omega)
          obtain ⟨y, hy, hr⟩ := a3 j _ _ p1 p2
          refine ⟨y, hy, ?_⟩
          rw [rowRefs_get t 0 ls vs j _ _ p1 p2] at hj
          injection hj with hj
          subst hj
          have hl1 : vs[j].l = ls[j].1 := by
            have := congrArg (fun x => x[j]?) a1
            simpa [p1, p2] using this
          split
          · intro gen t2 e2 xs2 d2 hl _
            have hl : ((blank N).app ws).leaf t (0 + j) = _ := hl
            rw [Nat.zero_add, hleaf j _ _ p1 p2] at hl
            refine ⟨y, e2, ?_, rfl, rfl⟩
            show cvIn ps w args bk t (0 + j) = some y
            simp [cvIn, h1, h2, hy]
          · rename_i hs
            have := (L.flat_rd (d' := 0) (w' := w) (fz' := fz) vs[j].l (by rw [hl1]; simpa using hs) hr)
            have h7 := this.1
            rw [show (fun j => om (Key.lf t j)) j = [] from this.2] at h7
            exact h7
        cases g with
        | false =>
          obtain ⟨a, ha2⟩ : ∃ a, rowRefs t 0 ls vs = [a] := by
            have := (rowRefs_len t 0 ls vs hlen).trans a2
            match h : rowRefs t 0 ls vs, this with
            | [x], _ => exact ⟨x, rfl⟩
          show Vok _ _ false (rowRefs t 0 ls vs) u
          obtain ⟨y, hy, hr⟩ := hok 0 a (by rw [ha2]; rfl)
          simp [partG] at hy
          subst hy
          rw [ha2]
          exact hr
        | true =>
          obtain ⟨cs, rfl, hcs⟩ := a2
          exact ⟨cs, rfl, by rw [hcs, rowRefs_len t 0 ls vs hlen], fun j a hj => hok j a hj⟩
      | fn f => exact ha.1
    · rw [h4]; trivial
  · have hnone : (∀ ls, ps[r]? ≠ some (.box ls)) → (∀ g ls, ps[r]? ≠ some (.row g ls)) → RootOk ((blank N).app ws) (wdIn ps w fz args bk om) r dead := by
      intro q1 q2
      refine ⟨fun j => ?_, ?_⟩
      · have : nth LA.bad dead.ls j = .bad := by simp [dead, nth]
        rw [this]
        exact ⟨hin.none r q1 q2 j, fun _ _ => trivial⟩
      · show om (.blk r) = []
        rw [hin.blk]
        split
        · rename_i ls hq; exact absurd hq (q1 ls)
        · rfl
    rcases get r with ⟨pm, u, vs, h1, h2, h3, h4, h5, h6⟩ | ⟨h1, _, h5⟩
    · rw [h5]
      have ha := hin.each r pm u vs h1 h2 h3
      cases pm with
      | val g ls => exact hnone (fun ls' hq => by rw [h1] at hq; cases hq) (fun g ls hq => by rw [h1] at hq; cases hq)
      | fn f => exact hnone (fun ls' hq => by rw [h1] at hq; cases hq) (fun g ls hq => by rw [h1] at hq; cases hq)
      | box ls =>
        obtain ⟨a1, a2, arr, T, fr, a3, a4, a5, a6⟩ := ha
        have hlen : vs.length = ls.length := by have := congrArg List.length a2; simpa using this
        have hcv : ∀ j, cvIn ps w args bk r j = arr[j]? := by
          intro j
          simp [cvIn, h1, World.cell?, a3]
        refine ⟨fun j => ?_, ?_⟩
        · show LeafOk _ _ (nth .bad (newLeaves 1 ls vs) j) (cvIn ps w args bk r j) (om (.lf r j))
          rcases Nat.lt_or_ge j ls.length with hlt | hge
          · have p1 := List.getElem?_eq_getElem hlt
            have p2 := List.getElem?_eq_getElem (show j < vs.length by omega)
            obtain ⟨y, hy, hr⟩ := a6 j _ _ p1 p2
            rw [nth_of, newLeaves_get 1 ls vs j _ _ p1 p2, hcv, hy]
            exact newLeaf_ok (W' := wdIn ps w fz args bk om) hr
          · rw [nth_ge _ (by rw [newLeaves_len 1 ls vs hlen]; exact hge)]
            exact ⟨hin.box r ls h1 j hge, fun _ _ => trivial⟩
        · show (if true = true then _ else _)
          rw [if_pos rfl]
          refine ⟨?_, arr, T, fr, a3, a4, ?_, fun j => hcv j⟩
          · show om (.blk r) = [bk r]
            rw [hin.blk, h1]
          · show arr.size = (newLeaves 1 ls vs).length
            rw [newLeaves_len 1 ls vs hlen, a5]
      | row g ls =>
        obtain ⟨a1, a2, a3⟩ := ha
        have hlen : vs.length = ls.length := by have := congrArg List.length a1; simpa using this
        refine ⟨fun j => ?_, ?_⟩
        · show LeafOk _ _ (nth .bad (newLeaves 1 ls vs) j) (cvIn ps w args bk r j) (om (.lf r j))
          rcases Nat.lt_or_ge j ls.length with hlt | hge
          · have p1 := List.getElem?_eq_getElem hlt
            have p2 := List.getElem?_eq_getElem (show j < vs.length by omega)
            obtain ⟨y, hy, hr⟩ := a3 j _ _ p1 p2
            rw [nth_of, newLeaves_get 1 ls vs j _ _ p1 p2, show cvIn ps w args bk r j = some y by simp [cvIn, h1, h2, hy]]
            exact newLeaf_ok (W' := wdIn ps w fz args bk om) hr
          · rw [nth_ge _ (by rw [newLeaves_len 1 ls vs hlen]; exact hge)]
            exact ⟨hin.row r g ls h1 j hge, fun _ _ => trivial⟩
        · show om (.blk r) = []
          rw [hin.blk, h1]
    · rw [h5]
      exact hnone (fun ls' hq => by rw [h1] at hq; cases hq) (fun g ls hq => by rw [h1] at hq; cases hq)
  · exact {
      nodup := hin.nodup
      disj := hin.disj
      own := fun k b hb => ⟨(hin.own k b hb).1, (hin.own k b hb).2, .inr ⟨k, hb⟩⟩
      fz := fun b hb => ⟨hin.fz b hb, .inl hb⟩
      frame := fun _ _ _ => rfl
      size := Nat.le_refl _
      rest := ⟨rfl, rfl, rfl⟩ }

end
end Go.Ev

namespace Go.Ev
set_option linter.unusedVariables false
set_option linter.unusedSimpArgs false

theorem results_run {P : Program} {fn : Func} {tm : Array Value} {w : World} {vals : List Value} (h : RvOk P w tm fn.results.toList vals) : (results fn tm).run P w = .ok (resVal vals) w := by
  have key : ∀ (g : ResultVar → Sem Value), (∀ t, g (.tmp t) = pure (tm.getD t undef)) → (∀ t T, g (.cell t T) = (do loadVar T (← asAddr (tm.getD t undef)))) → ∀ (l : List ResultVar) (vals : List Value), RvOk P w tm l vals → (l.mapM g).run P w = .ok vals w := by
    intro g hg hg2 l
    induction l with
    | nil =>
      intro vals hl
      cases vals with
      | nil => rfl
      | cons v vs => exact hl.elim
    | cons v l ih =>
      intro vals hl
      cases vals with
      | nil => cases v <;> exact hl.elim
      | cons u us =>
        rw [List.mapM_cons, Sem.run_bind]
        cases v with
        | tmp t =>
          obtain ⟨rfl, hl⟩ := hl
          rw [hg]
          simp [Sem.run_bind, ih us hl]
        | cell a t =>
          obtain ⟨h1, hl⟩ := hl
          rw [hg2, h1]
          simp [Sem.run_bind, ih us hl]
  unfold results
  rw [Array.mapM_eq_mapM_toList]
  simp only [map_eq_pure_bind, bind_assoc, pure_bind]
  rw [Sem.run_bind, key _ ?h1 ?h2 _ vals h]
  case h1 => intro t; rfl
  case h2 => intro t T; rfl
  show Result.ok _ w = _
  congr 1
  match vals with
  | [] => rfl
  | [u] => rfl
  | u :: v :: l => simp [resVal]

section
variable {P : Program} {ty : TypeId → Option Ty} {env : Env} {an : An} {n : Nat} {sm : Sm} {fn : Func} {f : FuncId} {c : Code}

theorem out_ok0 {T : List (String × Array Value)} {w : World} {fz : Nat → Prop} {args : List Value} {vss : List (List Lv)} {bk : Nat → Nat} {om : Key → List Nat} {s : St} {W : Wd} {tm : Array Value} {z : sm.outs.D}
    (hin : ArgsIn sm.ps w fz args vss bk om) (h : Rep (entIn T sm.ps w fz args bk om) s tm W) (hty : ∀ t x, ty t = some x → TyF P t x) (hz : retPack0 ty sm fn.results.toList vss.flatten s = some z) :
    ∃ r om' rv vsR vsP, (results fn tm).run P W.w = .ok r W.w ∧ CallOut sm w fz args bk om z r W.w W.fz om' rv vsR vsP := by
  unfold retPack0 at hz
  obtain ⟨tt, hl, hpk⟩ := Step.run_leads _ hz
  obtain ⟨vals, vsR, us1, osR, hl, hb1, hrv, hro⟩ := backRes_ok hty h sm.rs fn.results.toList hl
  obtain ⟨vsP, us2, osP, hl, hlp, hlo, hb2, hps⟩ := backPs_ok h 0 sm.ps vss hin.len2 (fun j pm vs hj hv => by
    obtain ⟨u, hu⟩ : ∃ u, args[j]? = some u := ⟨_, List.getElem?_eq_getElem (by rw [hin.len]; exact (List.getElem?_eq_some_iff.1 hj).1)⟩
    exact (hin.each j pm u vs hj hu hv).kinds) hl
  have hl : vsR.flatten ++ vsP.flatten = tt := hl
  subst hl
  have hbl := hb1.append hb2
  have hpair := hbl.pair h.sep.disj
  have hnd := hbl.nodup
  have hmem := hbl.mem
  rw [List.pairwise_append] at hpair
  obtain ⟨hp1, hp2, hp12⟩ := hpair
  rw [List.pairwise_flatten] at hp2
  obtain ⟨hp2, hp3⟩ := hp2
  let om' : Key → List Nat
    | .fl k => (osR[k]?).getD []
    | .lf i j => (((osP[i]?).getD [])[j]?).getD []
    | .blk i => om (.blk i)
  have inR : ∀ k, ∀ b ∈ om' (.fl k), ∃ o, osR[k]? = some o ∧ b ∈ o := by
    intro k b hb
    have hb : b ∈ (osR[k]?).getD [] := hb
    cases hq : osR[k]? with
    | none => rw [hq] at hb; cases hb
    | some o => rw [hq] at hb; exact ⟨o, rfl, hb⟩
  have inP : ∀ i j, ∀ b ∈ om' (.lf i j), ∃ os o, osP[i]? = some os ∧ os[j]? = some o ∧ b ∈ o := by
    intro i j b hb
    have hb : b ∈ (((osP[i]?).getD [])[j]?).getD [] := hb
    cases hq : osP[i]? with
    | none => rw [hq] at hb; cases hb
    | some os =>
      rw [hq] at hb
      simp only [Option.getD_some] at hb
      cases hq2 : os[j]? with
      | none => rw [hq2] at hb; cases hb
      | some o => rw [hq2] at hb; exact ⟨os, o, rfl, hq2, hb⟩
  have memP : ∀ {i j : Nat} {os : List (List Nat)} {o : List Nat}, osP[i]? = some os → os[j]? = some o → o ∈ osP.flatten := fun h1 h2 => List.mem_flatten.2 ⟨_, List.mem_of_getElem? h1, List.mem_of_getElem? h2⟩
  have blkW : ∀ i, ∀ b ∈ om (.blk i), W.om (.blk i) = om (.blk i) := by
    intro i b hb
    have hk := hin.blk i
    cases hq : sm.ps[i]? with
    | none => rw [hq] at hk; rw [hk] at hb; cases hb
    | some pm =>
      rw [hq] at hk
      cases pm with
      | box ls =>
        have hlt : i < sm.ps.length := (List.getElem?_eq_some_iff.1 hq).1
        have hpb := hps i (.box ls) _ _ _ hq (List.getElem?_eq_getElem (by rw [hin.len2]; exact hlt)) (List.getElem?_eq_getElem (by omega)) (List.getElem?_eq_getElem (by omega))
        rw [Nat.zero_add] at hpb
        obtain ⟨b1, b2, _⟩ := hpb
        have h2 := (h.roots i).2
        rw [if_pos b1] at h2
        rw [h2.1, h.init.2 i b1 b2, hk]
        rfl
      | val g ls => have hk : om (.blk i) = [] := hk; rw [hk] at hb; cases hb
      | row g ls => have hk : om (.blk i) = [] := hk; rw [hk] at hb; cases hb
      | fn f => have hk : om (.blk i) = [] := hk; rw [hk] at hb; cases hb
  have from' : ∀ k, ∀ b ∈ om' k, ∃ k0, b ∈ W.om k0 ∧ ((∃ i, k0 = .blk i ∧ k = .blk i) ∨ ∃ r j, k0 = .lf r j) := by
    intro k b hb
    cases k with
    | fl k =>
      obtain ⟨o, ho, hb⟩ := inR k b hb
      obtain ⟨u, _, hu⟩ := hmem o (List.mem_append_left _ (List.mem_of_getElem? ho)) b hb
      exact ⟨_, hu, .inr ⟨_, _, rfl⟩⟩
    | lf i j =>
      obtain ⟨os, o, h1, h2, hb⟩ := inP i j b hb
      obtain ⟨u, _, hu⟩ := hmem o (List.mem_append_right _ (memP h1 h2)) b hb
      exact ⟨_, hu, .inr ⟨_, _, rfl⟩⟩
    | blk i =>
      have hb : b ∈ om (.blk i) := hb
      exact ⟨.blk i, by rw [blkW i b hb]; exact hb, .inl ⟨i, rfl, rfl⟩⟩
  have hrx := results_run hrv
  refine ⟨_, om', vals, vsR, vsP, hrx, ?_⟩
  refine {
    outs := unpack_pack _ _ _ hpk
    res := rfl
    resOk := hro 0 _ fun j hj => by rw [Nat.zero_add]
    len := hlp
    each := ?_
    blk := fun _ => rfl
    nodup := ?_
    disj := ?_
    own := ?_
    fz := fun b hb => h.sep.fz b hb |>.imp id fun hh => hh.imp id id
    frame := fun b hb hk => h.sep.frame b hb fun ⟨k, hh⟩ => hk k hh
    size := h.sep.size
    rest := h.sep.rest }
  · intro i pm u vs h1 h2 h3
    have hlt : i < osP.length := by rw [hlo]; exact (List.getElem?_eq_some_iff.1 h1).1
    have hos := List.getElem?_eq_getElem hlt
    obtain ⟨vs0, hv0⟩ : ∃ vs0, vss[i]? = some vs0 := ⟨_, List.getElem?_eq_getElem (by rw [hin.len2]; exact (List.getElem?_eq_some_iff.1 h1).1)⟩
    have hpb := hps i pm vs0 vs _ h1 hv0 h3 hos
    rw [Nat.zero_add] at hpb
    have ha := hin.each i pm u vs0 h1 h2 hv0
    have hom : ∀ j, om' (.lf i j) = (osP[i][j]?).getD [] := by
      intro j
      show (((osP[i]?).getD [])[j]?).getD [] = _
      rw [hos]; rfl
    cases pm with
    | val g ls => exact hpb.1
    | fn f => exact hpb.1
    | box ls =>
      obtain ⟨b1, b2, b3, b4, b5, b6⟩ := hpb
      have h2' := (h.roots i).2
      rw [if_pos b1] at h2'
      obtain ⟨q1, arr, T, fr, q2, q3, q4, q5⟩ := h2'
      have hbk : W.bk i = bk i := h.init.2 i b1 b2
      rw [hbk] at q2
      refine ⟨ha.1, b4, arr, T, fr, q2, q3, by rw [q4, b3], fun j p lv hj hv => ?_⟩
      obtain ⟨y, hy, hr⟩ := b6 j p lv hj hv
      refine ⟨y, ?_, ?_⟩
      · rw [hbk] at hy
        simpa [World.cell?, q2] using hy
      · show lv.l.rd p.2 W.w W.fz y lv.x (om' (.lf i j))
        rw [hom]; exact hr
    | row g ls =>
      obtain ⟨a1, a2, a3⟩ := ha
      obtain ⟨b1, b2, b3⟩ := hpb
      have hlen0 : vs0.length = ls.length := by have := congrArg List.length a1; simpa using this
      have hkey : ∀ (j : Nat) (p : L × Nat) (lv : Lv), ls[j]? = some p → vs[j]? = some lv → lv.l = p.1 ∧ ∃ y, partG g u j = some y ∧ lv.l.rd p.2 W.w W.fz y lv.x (om' (.lf i j)) := by
        intro j p lv hj hv
        rw [hom]
        rcases b3 j p lv hj hv with ⟨_, c2, y, hy, hr⟩ | ⟨c1, c2, c3⟩
        · refine ⟨c2, y, ?_, hr⟩
          have hy : cvIn sm.ps w args bk i j = some y := hy
          simpa [cvIn, h1, h2] using hy
        · obtain ⟨y, hy, hr⟩ := a3 j p lv hj c2
          have hl : lv.l = p.1 := by
            have := congrArg (fun x => x[j]?) a1
            simpa [hj, c2] using this
          have hfl := L.flat_rd (d' := p.2) (w' := W.w) (fz' := W.fz) lv.l (by rw [hl]; exact c1) hr
          have h7 := hfl.1
          rw [show (fun j => om (Key.lf i j)) j = [] from hfl.2] at h7
          refine ⟨hl, y, hy, ?_⟩
          rw [c3]
          exact h7
      refine ⟨?_, a2, fun j p lv hj hv => (hkey j p lv hj hv).2⟩
      apply List.ext_getElem?
      intro j
      rcases Nat.lt_or_ge j ls.length with hlt | hge
      · have p1 := List.getElem?_eq_getElem hlt
        have p2 := List.getElem?_eq_getElem (show j < vs.length by omega)
        rw [List.getElem?_map, List.getElem?_map, p1, p2]
        exact congrArg some (hkey j _ _ p1 p2).1
      · rw [List.getElem?_eq_none (by simp; omega), List.getElem?_eq_none (by simp; omega)]
  · intro k
    cases k with
    | fl k =>
      show ((osR[k]?).getD []).Nodup
      cases hq : osR[k]? with
      | none => exact List.nodup_nil
      | some o => exact hnd o (List.mem_append_left _ (List.mem_of_getElem? hq))
    | lf i j =>
      show ((((osP[i]?).getD [])[j]?).getD []).Nodup
      cases hq : osP[i]? with
      | none => exact List.nodup_nil
      | some os =>
        simp only [Option.getD_some]
        cases hq2 : os[j]? with
        | none => exact List.nodup_nil
        | some o => exact hnd o (List.mem_append_right _ (memP hq hq2))
    | blk i => exact hin.nodup _
  · intro k k' hne b hb hb'
    have cross : ∀ i (k0 : Key), (∀ i, k0 ≠ .blk i) → b ∈ om' (.blk i) → b ∈ om' k0 → False := by
      intro i k0 hk h1 h2
      have h1 : b ∈ om (.blk i) := h1
      have h3 : b ∈ W.om (.blk i) := by rw [blkW i b h1]; exact h1
      obtain ⟨k1, h4, h5⟩ := from' k0 b h2
      rcases h5 with ⟨i', _, h5⟩ | ⟨r, j, rfl⟩
      · exact hk i' h5
      · exact h.sep.disj _ _ (by simp) b h3 h4
    cases k with
    | blk i => cases k' with
      | blk i' => exact hin.disj _ _ hne b hb hb'
      | lf i' j' => exact cross i (.lf i' j') (by simp) hb hb'
      | fl k' => exact cross i (.fl k') (by simp) hb hb'
    | lf i j => cases k' with
      | blk i' => exact cross i' (.lf i j) (by simp) hb' hb
      | lf i' j' =>
        obtain ⟨os, o, h1, h2, hb⟩ := inP i j b hb
        obtain ⟨os', o', h1', h2', hc⟩ := inP i' j' b hb'
        by_cases hi : i = i'
        · subst hi
          rw [h1] at h1'; injection h1' with h1'; subst h1'
          have hj : j ≠ j' := fun e => hne (by rw [e])
          exact pair_at (fun _ _ => Apart2.symm) (hp2 os (List.mem_of_getElem? h1)) hj h2 h2' b hb hc
        · have := pair_at (R := fun l₁ l₂ => ∀ x, x ∈ l₁ → ∀ y, y ∈ l₂ → Apart2 x y) (fun a c hh x hx y hy => (hh y hy x hx).symm) hp3 hi h1 h1'
          exact this o (List.mem_of_getElem? h2) o' (List.mem_of_getElem? h2') b hb hc
      | fl k' =>
        obtain ⟨os, o, h1, h2, hb⟩ := inP i j b hb
        obtain ⟨o', h1', hb'⟩ := inR k' b hb'
        exact hp12 o' (List.mem_of_getElem? h1') o (memP h1 h2) b hb' hb
    | fl k => cases k' with
      | blk i' => exact cross i' (.fl k) (by simp) hb' hb
      | lf i' j' =>
        obtain ⟨os, o, h1, h2, hb'⟩ := inP i' j' b hb'
        obtain ⟨o', h1', hb⟩ := inR k b hb
        exact hp12 o' (List.mem_of_getElem? h1') o (memP h1 h2) b hb hb'
      | fl k' =>
        obtain ⟨o, h1, hb⟩ := inR k b hb
        obtain ⟨o', h1', hb'⟩ := inR k' b hb'
        exact pair_at (fun _ _ => Apart2.symm) hp1 (fun e => hne (by rw [e])) h1 h1' b hb hb'
  · intro k b hb
    obtain ⟨k0, h1, _⟩ := from' k b hb
    exact h.sep.own k0 b h1

theorem out_ok {T : List (String × Array Value)} {w : World} {fz : Nat → Prop} {args : List Value} {vss : List (List Lv)} {bk : Nat → Nat} {om : Key → List Nat} {s : St} {W : Wd} {tm : Array Value} {z : sm.outs.D} {v : Nat}
    (hin : ArgsIn sm.ps w fz args vss bk om) (h : Rep (entIn T sm.ps w fz args bk om) s tm W) (hv : NoVer s v) (hty : ∀ t x, ty t = some x → TyF P t x) (hmk : sm.mk? = false) (hz : retPack ty sm fn.results.toList vss.flatten s = some z) :
    ∃ r fz' om' rv vsR vsP, (results fn tm).run P W.w = .ok r W.w ∧ CallOut sm w fz args bk om z r W.w fz' om' rv vsR vsP := by
  unfold retPack at hz
  rw [hmk] at hz
  simp only [Bool.false_eq_true, if_false] at hz
  split at hz
  · rename_i fs hfs
    obtain ⟨W1, h1, fr, _⟩ := freeze_ok h hv hfs
    obtain ⟨r, om', rv, vsR, vsP, q1, q2⟩ := out_ok0 (P := P) (fn := fn) hin h1 hty hz
    rw [fr.w] at q1 q2
    exact ⟨r, W1.fz, om', rv, vsR, vsP, q1, q2⟩
  · cases hz

theorem plainLs_ok : ∀ (ls : List L) (as : List LA) {vs : List Lv}, plainLs ls as = some vs → vs.map (·.l) = ls ∧ as.length = ls.length ∧ ∀ (j : Nat) (lv : Lv), vs[j]? = some lv → as[j]? = some (.sc lv.l lv.x)
  | [], [], vs, h => by
    simp only [plainLs, Option.some.injEq] at h
    subst h
    exact ⟨rfl, rfl, fun j lv hj => by simp at hj⟩
  | l :: ls, a :: as, vs, h => by
    cases a with
    | sc m x =>
      simp only [plainLs] at h
      split at h
      · rename_i y ys hc hr
        injection h with h
        subst h
        obtain ⟨h1, h2, h3⟩ := plainLs_ok ls as hr
        obtain ⟨rfl, hxy⟩ := L.cast_some hc
        cases hxy
        refine ⟨by simp [h1], by simp [h2], fun j lv hj => ?_⟩
        cases j with
        | zero => simp at hj; subst hj; rfl
        | succ j => simpa using h3 j lv (by simpa using hj)
      · cases h
    | _ => simp [plainLs] at h
  | [], _ :: _, vs, h => by simp [plainLs] at h
  | _ :: _, [], vs, h => by simp [plainLs] at h

theorem out_mk {T : List (String × Array Value)} {w : World} {fz : Nat → Prop} {args : List Value} {vss : List (List Lv)} {bk : Nat → Nat} {om : Key → List Nat} {s : St} {W : Wd} {tm : Array Value} {z : sm.outs.D}
    (hin : ArgsIn sm.ps w fz args vss bk om) (h : Rep (entIn T sm.ps w fz args bk om) s tm W) (hmk : sm.mk? = true) (hz : retPack ty sm fn.results.toList vss.flatten s = some z) :
    ∃ r b, (results fn tm).run P W.w = .ok r W.w ∧ MkOut sm w fz z r W.w W.fz b := by
  unfold retPack at hz
  rw [hmk, if_pos rfl] at hz
  unfold retMk at hz
  split at hz
  · rename_i t hrv
    split at hz
    · rename_i r ver hslot
      split at hz
      · rename_i hc
        simp only [Bool.and_eq_true, beq_iff_eq] at hc
        obtain ⟨⟨hpl, hbox⟩, hver⟩ := hc
        split at hz
        · rename_i vs hvs
          have hu := h.slots t
          rw [hslot] at hu
          have hu : tm.getD t Go.undef = .pointer (some ⟨W.bk r, 0, none⟩) := hu hbox hver
          obtain ⟨p1, p2, p3⟩ := plainLs_ok _ _ hvs
          have hroot := h.roots r
          obtain ⟨hl, hb⟩ := hroot
          rw [if_pos hbox] at hb
          obtain ⟨hblk, arr, T0, fr, hcell, hfr, hsz, hcv⟩ := hb
          unfold Sm.plain at hpl
          simp only [Bool.and_eq_true] at hpl
          have hval : ∀ pm ∈ sm.ps, ∃ g ls, pm = .val g ls := fun pm hpm => by
            have := List.all_eq_true.1 hpl.1 pm hpm
            cases pm with
            | val g ls => exact ⟨g, ls, rfl⟩
            | _ => cases this
          have hnone : ∀ k, om k = [] := by
            intro k
            cases k with
            | fl n => exact hin.fl n
            | blk i =>
              rw [hin.blk i]
              cases hq : sm.ps[i]? with
              | none => rfl
              | some pm => obtain ⟨g, ls, rfl⟩ := hval pm (List.mem_of_getElem? hq); rfl
            | lf i j =>
              refine hin.none i (fun ls hq => ?_) (fun g ls hq => ?_) j
              · obtain ⟨g, ls, hh⟩ := hval _ (List.mem_of_getElem? hq); cases hh
              · obtain ⟨g, ls, hh⟩ := hval _ (List.mem_of_getElem? hq); cases hh
          have hio : ∀ b, ¬ (∃ k, b ∈ om k) := fun b ⟨k, hb⟩ => by rw [hnone k] at hb; cases hb
          have hown := h.sep.own (.blk r) (W.bk r) (by rw [hblk]; simp)
          have hrun := results_run (fn := fn) (P := P) (w := W.w) (tm := tm) (vals := [tm.getD t Go.undef]) (by rw [hrv]; exact ⟨rfl, trivial⟩)
          refine ⟨_, W.bk r, hrun, ?_⟩
          have hout : unpack sm.outs z = vs := unpack_pack _ _ _ hz
          exact {
            box := by
              rw [hout]
              refine ⟨hu, p1, arr, T0, fr, hcell, hfr, by rw [hsz, p2]; simp, fun j p lv hj hlv => ?_⟩
              have hlf := p3 j lv hlv
              have hlj := hl j
              rw [nth_of, hlf] at hlj
              have hjl : j < arr.size := by rw [hsz]; exact (List.getElem?_eq_some_iff.1 hlf).1
              have harr : arr[j]? = some arr[j] := Array.getElem?_eq_getElem hjl
              refine ⟨arr[j], harr, ?_⟩
              have hp : p.2 = 0 := by simpa using List.all_eq_true.1 hpl.2 p (List.mem_of_getElem? hj)
              rw [hp]
              exact hlj.2 _ (by rw [hcv j, harr])
            new := ⟨hown.2.2.elim id fun h => (hio _ h).elim, hown.2.1, hown.1⟩
            fz := fun x hx => by
              obtain ⟨a1, a2⟩ := h.sep.fz x hx
              refine ⟨a1, ?_⟩
              rcases a2 with a2 | a2 | a2
              · exact .inl a2
              · exact .inr a2
              · exact (hio _ a2).elim
            frame := fun x hx => h.sep.frame x hx (hio x)
            size := h.sep.size
            rest := h.sep.rest }
        · cases hz
      · cases hz
    · cases hz
  · cases hz

/-- A FUNCTION DOES WHAT THE EVALUATOR SAYS OF ITS CODE. -/
theorem fn_ok {T : List (String × Array Value)} (hf : P.funcs[f]? = some fn) (hb : fn.body = some c) (hlen : sm.ps.length ≤ fn.ntmps) (hty : ∀ t x, ty t = some x → TyF P t x) (henv : EnvFn P T env) (hm : P.follows .mixedOrders = true) :
    FnOk P T f ⟨sm, evFn ty env an n fn sm⟩ := by
  intro args w fz vss bk om x z hgnd hin hx hz
  have hz : evFn ty env an n fn sm x = some z := hz
  have hu : unpack sm.ins x = vss.flatten := unpack_pack _ _ _ hx
  simp only [evFn, hb, hu] at hz
  cases hp : initP 0 sm.ps vss.flatten with
  | none => rw [hp] at hz; cases hz
  | some ws =>
    rw [hp] at hz
    dsimp only at hz
    split at hz
    · cases hz
    · rename_i hcode
      have hcode : codeOk fn.ntmps c = true := by simpa using hcode
      refine calls_of_wp hf hb ?_
      have hrep := init_rep (T := T) hin hp hlen
      have hinv := init_inv (N := fn.ntmps) hin hp hlen
      have hcl : Claim P (entIn T sm.ps w fz args bk om) fn.ntmps an n (retPack ty sm fn.results.toList vss.flatten) c := (ev_both hm c).1
      have fin : ∀ {s' : St} {a' : Act} {W' : Wd} {z' : sm.outs.D}, a'.defers = [] → Rep (entIn T sm.ps w fz args bk om) s' a'.tmps W' → Inv fn.ntmps s' → retPack ty sm fn.results.toList vss.flatten s' = some z' → bodyPost P fn (fun en w' => match sm.mk? with
          | false => ∃ r fz' om' rv vsR vsP, en = .returned r ∧ CallOut sm w fz args bk om z' r w' fz' om' rv vsR vsP
          | true => ∃ r fz' b, en = .returned r ∧ MkOut sm w fz z' r w' fz' b) .ret a' W'.w := by
        intro s' a' W' z' hd hr hi hq
        cases hmk : sm.mk? with
        | false =>
          obtain ⟨r, fz', om', rv, vsR, vsP, h1, h2⟩ := out_ok (P := P) (fn := fn) hin hr (hi.vers.noVer (v := s'.ctr) (Nat.lt_irrefl _) (by have := hi.two; omega)) hty hmk hq
          exact ⟨hd, r, h1, r, fz', om', rv, vsR, vsP, rfl, h2⟩
        | true =>
          obtain ⟨r, b, h1, h2⟩ := out_mk (P := P) (fn := fn) hin hr hmk hq
          exact ⟨hd, r, h1, r, W'.fz, b, rfl, h2⟩
      refine hcl (W := wdIn sm.ps w fz args bk om) (a := ⟨_, []⟩) (Q := bodyPost P fn _) ?_ (show EnvOk P (entIn T sm.ps w fz args bk om) env from ⟨henv, hgnd⟩) hcode (fun _ _ => ⟨rfl, rfl⟩) hrep hinv hz ?_ ?_ ?_
      · exact hty
      · intro s' a' W' hd hr hi hk hq
        exact fin hd hr hi hq
      · intro id s' a' W' hd hr hi hk hq
        cases hq
      · intro y s' a' W' hd hr hi hq hq2
        injection hq2 with hq2
        subst hq2
        exact fin hd hr hi hq
end
end Go.Ev

namespace Go.Ev
set_option linter.unusedVariables false
set_option linter.unusedSimpArgs false

mutual
/-- Whole numbers are of their kind; lengths are lengths. -/
def L.fit : (l : L) → l.D → Prop
  | .int k, x => k.min ≤ (show Int from x) ∧ (show Int from x) ≤ k.max
  | .bool, _ => True
  | .str, x => List.length (α := UInt8) x ≤ maxLen
  | .sl _ e, x => List.length (α := e.D) x ≤ maxLen ∧ ∀ y, List.Mem (α := e.D) y x → e.fit y
def Ls.fit : (ls : Ls) → ls.D → Prop
  | .nil, _ => True
  | .one l, x => l.fit x
  | .cons l ls, x => l.fit x.1 ∧ ls.fit x.2
end

theorem mkLs_n : ∀ ls : List L, (mkLs ls).n = ls.length
  | [] => rfl
  | [_] => rfl
  | _ :: m :: r => by simp only [mkLs, Ls.n, mkLs_n (m :: r), List.length_cons]
theorem mkLs_kinds : ∀ ls : List L, (mkLs ls).kinds = ls
  | [] => rfl
  | [_] => rfl
  | _ :: m :: r => by simp only [mkLs, Ls.kinds, mkLs_kinds (m :: r)]

mutual
theorem L.eq_refl' : ∀ l : L, L.eq? l l = true
  | .int _ => by simp [L.eq?]
  | .bool => rfl
  | .str => rfl
  | .sl t e => by simp [L.eq?, Ls.eq_refl' e]
theorem Ls.eq_refl' : ∀ e : Ls, Ls.eq? e e = true
  | .nil => rfl
  | .one l => by simp [Ls.eq?, L.eq_refl' l]
  | .cons l ls => by simp [Ls.eq?, L.eq_refl' l, Ls.eq_refl' ls]
end

/-- A row of leaves out of single ones. -/
theorem pack_of : ∀ (e : Ls) (vs : List Lv), vs.map (·.l) = e.kinds → ∃ x : e.D, pack e vs = some x ∧ ((∀ (j : Nat) (lv : Lv), vs[j]? = some lv → lv.l.fit lv.x) → e.fit x)
  | .nil, [], _ => ⟨(), rfl, fun _ => trivial⟩
  | .nil, _ :: _, h => by simp [Ls.kinds] at h
  | .one l, [], h => by simp [Ls.kinds] at h
  | .one l, [v], h => by
    simp [Ls.kinds] at h
    subst h
    refine ⟨v.x, ?_, fun hf => hf 0 v rfl⟩
    have he : L.eq? v.l v.l = true := L.eq_refl' v.l
    simp only [pack, L.cast, he, dif_pos]
    rfl
  | .one l, _ :: _ :: _, h => by simp [Ls.kinds] at h
  | .cons l ls, [], h => by simp [Ls.kinds] at h
  | .cons l ls, v :: vs, h => by
    simp only [Ls.kinds, List.map_cons, List.cons.injEq] at h
    obtain ⟨h1, h2⟩ := h
    subst h1
    obtain ⟨xs, hx, hf⟩ := pack_of ls vs h2
    have he : L.eq? v.l v.l = true := L.eq_refl' v.l
    refine ⟨(v.x, xs), ?_, fun hh => ⟨hh 0 v rfl, hf fun j lv hj => hh (j + 1) lv (by simpa using hj)⟩⟩
    simp only [pack, L.cast, he, dif_pos, hx]

/-! ### the kinds of a type's leaves, out of the program's own table -/

def layFs (P : Program) (r : TypeId → Option (List L)) : Nat → List Field → Option (List L)
  | _, [] => some []
  | off, f :: fs => match f.offset == off, r f.type with
    | true, some ls => match P.cellsOf f.type == ls.length, layFs P r (off + ls.length) fs with
      | true, some ms => some (ls ++ ms)
      | _, _ => none
    | _, _ => none
def lay (P : Program) : Nat → TypeId → Option (List L)
  | 0, _ => none
  | k + 1, t => match P.underlying t with
    | some .bool => some [.bool]
    | some (.int k) => some [.int k]
    | some .string => some [.str]
    | some (.slice e) => match lay P k e with
      | some ls => match P.cellsOf e == ls.length, ls with
        | true, l :: ls => some [.sl e (mkLs (l :: ls))]
        | _, _ => none
      | none => none
    | some (.struct fs) => match layFs P (lay P k) 0 fs.toList with
      | some ls => match P.cellsOf t == ls.length with
        | true => some ls
        | false => none
      | none => none
    | _ => none

/-- All old blocks. -/
def Old (w : World) (b : Nat) : Prop := b < w.heap.size

section
variable {H : Type} {enc : TypeId × Value → H} {P : Program} {w : World} {base : Nat} {held : Bool}

/-- What cells hold, leaf by leaf. -/
def Holds (w : World) (ls : List L) (cs : List Value) : Prop := cs.length = ls.length ∧ ∃ vs : List Lv, vs.map (·.l) = ls ∧ ∀ (j : Nat) (lv : Lv), vs[j]? = some lv → ∃ v, cs[j]? = some v ∧ lv.l.rd 0 w (Old w) v lv.x [] ∧ lv.l.fit lv.x

theorem Holds.append {ls ms : List L} {cs ds : List Value} (h1 : Holds w ls cs) (h2 : Holds w ms ds) : Holds w (ls ++ ms) (cs ++ ds) := by
  obtain ⟨a1, vs, a2, a3⟩ := h1
  obtain ⟨b1, us, b2, b3⟩ := h2
  have hl : vs.length = cs.length := by have := congrArg List.length a2; simp at this; omega
  refine ⟨by simp [a1, b1], vs ++ us, by simp [a2, b2], fun j lv hj => ?_⟩
  rcases Nat.lt_or_ge j vs.length with hlt | hge
  · rw [List.getElem?_append_left hlt] at hj
    obtain ⟨v, hv, hr⟩ := a3 j lv hj
    exact ⟨v, by rw [List.getElem?_append_left (by omega)]; exact hv, hr⟩
  · rw [List.getElem?_append_right hge] at hj
    obtain ⟨v, hv, hr⟩ := b3 _ lv hj
    exact ⟨v, by rw [List.getElem?_append_right (by omega), ← hl]; exact hv, hr⟩

theorem Holds.elem {e : Ls} {cs : List Value} (h : Holds w e.kinds cs) : ∃ x : e.D, e.rd 0 w (Old w) (fun j => cs[j]?) x [] ∧ e.fit x := by
  obtain ⟨_, vs, h1, h2⟩ := h
  obtain ⟨x, hx, hf⟩ := pack_of e vs h1
  refine ⟨x, rd_of_unpack e fun j lv hj => ?_, hf fun j lv hj => ?_⟩
  · rw [unpack_pack e vs x hx] at hj
    obtain ⟨v, hv, hr, _⟩ := h2 j lv hj
    exact ⟨v, hv, hr⟩
  · obtain ⟨v, _, _, hf⟩ := h2 j lv hj
    exact hf

theorem layFs_ok {r : TypeId → Option (List L)} {cs : List Value} : ∀ (fs : List Field) (off : Nat) {ls : List L}, layFs P r off fs = some ls → off + ls.length = cs.length →
    (∀ (i : Nat) (f : Field) (ms : List L), fs[i]? = some f → r f.type = some ms → Holds w ms ((cs.drop f.offset).take (P.cellsOf f.type))) → Holds w ls (cs.drop off)
  | [], off, ls, h, hl, hf => by
    simp only [layFs, Option.some.injEq] at h
    subst h
    have : cs.drop off = [] := by simp at hl; simp; omega
    rw [this]
    exact ⟨rfl, [], rfl, fun j lv hj => by simp at hj⟩
  | f :: fs, off, ls, h, hl, hf => by
    simp only [layFs] at h
    split at h
    · rename_i ls1 hoff hr
      have hoff : f.offset = off := by simpa using hoff
      split at h
      · rename_i ms hc hrest
        injection h with h
        subst h
        have hc : P.cellsOf f.type = ls1.length := by simpa using hc
        have h1 := hf 0 f ls1 rfl hr
        rw [hoff, hc] at h1
        have h2 := layFs_ok fs (off + ls1.length) hrest (by simp at hl ⊢; omega) fun i f' ms' hi hr' => hf (i + 1) f' ms' (by simpa using hi) hr'
        have := h1.append h2
        rw [← List.drop_drop, List.take_append_drop] at this
        exact this
      · cases h
    · cases h

theorem cells_at {a : Addr} {n i : Nat} {cs : List Value} (hn : 0 < n) (hs : a.spot = none) (h : w.cells? base (a.add (i * n)) n = some cs) : cs.length = n ∧ ∀ j, j < n → w.cell? ⟨a.block, a.off + (i * n + j), none⟩ = cs[j]? := by
  obtain ⟨_, h1, h2⟩ := World.cells?_some h
  refine ⟨h1, fun j hj => ?_⟩
  rw [← h2 j hj, add_at hs]
  have : (at_ a (i * n)).spot = none := rfl
  rw [add_at this]
  simp [at_, Nat.add_assoc]
theorem spot_none {a : Addr} {n : Nat} {cs : List Value} (hn : 0 < n) (h : w.cells? base (a.add (0 * n)) n = some cs) : a.spot = none := by
  obtain ⟨_, h1, h2⟩ := World.cells?_some h
  have := h2 0 hn
  rw [show cs[0]? = some (cs[0]'(by omega)) from List.getElem?_eq_getElem _] at this
  simp only [Nat.zero_mul, Addr.add, if_pos] at this
  unfold World.cell? at this
  split at this
  · cases hq : a.spot with
    | none => rfl
    | some s => simp [hq] at this
  · cases this

theorem trod_lay : ∀ (k : Nat) {t : TypeId} {ls : List L} {fuel : Nat} {cs : List Value} {x : DataW H × List MemPlace}, lay P k t = some ls → DataW.trod enc P w base (fun _ => true) held fuel t cs = some x → Holds w ls cs
  | 0, t, ls, fuel, cs, x, h, hx => by simp [lay] at h
  | k + 1, t, ls, fuel, cs, x, h, hx => by
    simp only [lay] at h
    split at h
    · rename_i hu
      injection h with h; subst h
      obtain ⟨b, rfl, _⟩ := DataW.trod_bool hu hx
      refine ⟨rfl, [⟨.bool, show Bool from b⟩], rfl, fun j lv hj => ?_⟩
      cases j with
      | zero => simp at hj; subst hj; exact ⟨_, rfl, ⟨rfl, rfl⟩, trivial⟩
      | succ j => simp at hj
    · rename_i kk hu
      injection h with h; subst h
      obtain ⟨n, rfl, _, hw⟩ := DataW.trod_int hu hx
      refine ⟨rfl, [⟨.int kk, show Int from n⟩], rfl, fun j lv hj => ?_⟩
      cases j with
      | zero => simp at hj; subst hj; exact ⟨_, rfl, ⟨rfl, rfl⟩, by simpa [Lit.wf, L.fit] using hw⟩
      | succ j => simp at hj
    · rename_i hu
      injection h with h; subst h
      obtain ⟨s, rfl, _, hs⟩ := DataW.trod_string hu hx
      refine ⟨rfl, [⟨.str, show List UInt8 from s.data.toList⟩], rfl, fun j lv hj => ?_⟩
      cases j with
      | zero => simp at hj; subst hj; exact ⟨_, rfl, ⟨by simp, rfl⟩, by simpa [L.fit] using hs⟩
      | succ j => simp at hj
    · rename_i e hu
      split at h
      · rename_i ls1 hl1
        split at h
        · rename_i l ls2 hc
          injection h with h; subst h
          have hc : P.cellsOf e = (l :: ls2).length := by simpa using hc
          let E : Ls := mkLs (l :: ls2)
          have hEn : E.n = P.cellsOf e := by rw [hc]; exact mkLs_n _
          have hEk : E.kinds = l :: ls2 := mkLs_kinds _
          have hpos : 0 < P.cellsOf e := by rw [hc]; simp
          rcases DataW.trod_slice hu hx with ⟨rfl, _⟩ | ⟨a, len, cap, elems, rest, n, rfl, rfl, _, hb, hle, hcap, hel, h1, h2, _⟩
          · refine ⟨rfl, [⟨.sl e E, ([] : List E.D)⟩], rfl, fun j lv hj => ?_⟩
            cases j with
            | zero => simp at hj; subst hj; exact ⟨_, rfl, nil_row, by simp [L.fit], fun y hy => by cases hy⟩
            | succ j => simp at hj
          · have all : ∀ i, i < cap → ∃ cs' y, w.cells? base (a.add (i * P.cellsOf e)) (P.cellsOf e) = some cs' ∧ DataW.trod enc P w base (fun _ => true) held n e cs' = some y := by
              intro i hi
              obtain ⟨h3, h4⟩ := h2 rfl
              rcases Nat.lt_or_ge i len with hlt | hge
              · have := h1 i hlt
                rw [List.getElem?_eq_getElem (show i < elems.length by omega)] at this
                obtain ⟨cs', q1, q2⟩ := Option.bind_eq_some_iff.1 this
                exact ⟨cs', _, q1, q2⟩
              · have := h4 (i - len) (by omega)
                rw [List.getElem?_eq_getElem (show i - len < rest.length by omega), show len + (i - len) = i by omega] at this
                obtain ⟨cs', q1, q2⟩ := Option.bind_eq_some_iff.1 this
                exact ⟨cs', _, q1, q2⟩
            have elem : a.spot = none → ∀ i, i < cap → ∃ y : E.D, E.rd 0 w (Old w) (fun j => w.cell? ⟨a.block, a.off + (i * E.n + j), none⟩) y [] ∧ E.fit y := by
              intro hs i hi
              obtain ⟨cs', y, q1, q2⟩ := all i hi
              have hh := trod_lay k hl1 q2
              rw [← hEk] at hh
              obtain ⟨z, hz, hf⟩ := hh.elem
              obtain ⟨c1, c2⟩ := cells_at hpos hs q1
              exact ⟨z, Ls.rd_congr E hz fun j hj => by rw [hEn]; exact c2 j (by omega), hf⟩
            refine ⟨rfl, ?_⟩
            by_cases hc0 : cap = 0
            · have hl0 : len = 0 := by omega
              subst hl0; subst hc0
              refine ⟨[⟨.sl e E, ([] : List E.D)⟩], rfl, fun j lv hj => ?_⟩
              cases j with
              | zero => simp at hj; subst hj; exact ⟨_, rfl, ⟨some a, 0, rfl, Nat.le_refl _, .inl ⟨rfl, rfl, rfl⟩⟩, by simp [L.fit], fun y hy => by cases hy⟩
              | succ j => simp at hj
            · obtain ⟨cs0, y0, q0, _⟩ := all 0 (by omega)
              have hs := spot_none hpos q0
              have hy := elem hs
              let F : Nat → E.D := fun i => if hi : i < cap then (hy i hi).choose else zeroDs E
              have hF : ∀ i, i < cap → E.rd 0 w (Old w) (fun j => w.cell? ⟨a.block, a.off + (i * E.n + j), none⟩) (F i) [] ∧ E.fit (F i) := by
                intro i hi
                simp only [F, dif_pos hi]
                exact (hy i hi).choose_spec
              obtain ⟨csl, yl, ql, _⟩ := all (cap - 1) (by omega)
              obtain ⟨l1, l2⟩ := cells_at hpos hs ql
              have hlast := l2 (P.cellsOf e - 1) (by omega)
              rw [List.getElem?_eq_getElem (show P.cellsOf e - 1 < csl.length by omega)] at hlast
              have hoff : a.off + ((cap - 1) * P.cellsOf e + (P.cellsOf e - 1)) = a.off + cap * P.cellsOf e - 1 := by
                have : cap * P.cellsOf e = (cap - 1) * P.cellsOf e + P.cellsOf e := by
                  rw [← Nat.succ_mul]; congr 1; omega
                omega
              rw [hoff] at hlast
              have hblk : ∃ arr T fr, w.heap[a.block]? = some (.cells arr T fr) ∧ a.off + cap * P.cellsOf e ≤ arr.size := by
                unfold World.cell? at hlast
                split at hlast
                · rename_i arr T fr hh
                  refine ⟨arr, T, fr, hh, ?_⟩
                  simp only [Option.isSome_none, Bool.false_eq_true, if_false] at hlast
                  have hlt := (Array.getElem?_eq_some_iff.1 hlast).1
                  have : 0 < cap * P.cellsOf e := Nat.mul_pos (by omega) hpos
                  omega
                · cases hlast
              obtain ⟨arr, T, fr, hh, hsz⟩ := hblk
              let xs : List E.D := (List.range len).map F
              have hxl : xs.length = len := by simp [xs]
              have hxg : ∀ i (hi : i < xs.length), xs[i] = F i := fun i hi => by simp [xs]
              refine ⟨[⟨.sl e E, xs⟩], rfl, fun j lv hj => ?_⟩
              cases j with
              | succ j => simp at hj
              | zero =>
                simp at hj; subst hj
                refine ⟨_, rfl, ⟨some a, cap, by rw [hxl], by show xs.length ≤ cap; omega, .inr ⟨fun j => arr[a.off + j]?, fun _ => [], ⟨hs, arr, T, fr, hh, by rw [hEn]; exact hsz, fun h => by simp at h, fun j => rfl⟩, fun i hi => ?_, ?_⟩⟩, ?_, fun y hy => ?_⟩
                · have hi : i < xs.length := hi
                  show E.rd 0 w (Old w) _ xs[i] []
                  rw [hxg i hi]
                  have := (hF i (by omega)).1
                  refine Ls.rd_congr E this fun j hj => ?_
                  simp [World.cell?, hh]
                · exact ⟨(Array.getElem?_eq_some_iff.1 hh).1, rfl, fun _ _ => rfl⟩
                · show xs.length ≤ maxLen
                  omega
                · have hy : y ∈ xs := hy
                  obtain ⟨i, hi, rfl⟩ := List.mem_map.1 hy
                  exact (hF i (by have := List.mem_range.1 hi; omega)).2
        · cases h
      · cases h
    · rename_i fs hu
      split at h
      · rename_i ls1 hl1
        split at h
        · rename_i hc
          injection h with h; subst h
          have hc : P.cellsOf t = ls1.length := by simpa using hc
          obtain ⟨xs, n, rfl, _, hlen, hxl, hget⟩ := DataW.trod_struct hu hx
          have := layFs_ok (w := w) (cs := cs) fs.toList 0 hl1 (by omega) fun i f ms hi hr => by
            have hi' : fs[i]? = some f := by simpa using hi
            have hlt : i < xs.length := by rw [hxl]; exact (Array.getElem?_eq_some_iff.1 hi').1
            have hg := hget i f hi'
            rw [List.getElem?_eq_getElem hlt] at hg
            exact trod_lay k hr hg
          simpa using this
        · cases h
      · cases h
    · cases h
end
end Go.Ev

namespace Go.Ev
open Go.ChangeShapes Go.RowKit
set_option linter.unusedVariables false
set_option linter.unusedSimpArgs false

def aggOf (P : Program) (t : TypeId) : Bool := match P.underlying t with
  | some (.struct _) => true
  | _ => false
def valsOf (P : Program) : List TypeId → Option (List PM)
  | [] => some []
  | t :: ts => match lay P 12 t, valsOf P ts with
    | some ls, some ps => some (.val (aggOf P t) ls :: ps)
    | _, _ => none
def readsB (P : Program) (ts : List TypeId) : Bool := ts.all fun t => P.readableRec t && decide (t < P.types.size)

section
variable {H : Type} {enc : TypeId × Value → H} {P : Program} {w : World} {base base' : Nat} {held : Bool}

theorem one_cell {t : TypeId} {v : Value} {ls : List L} {r : Reach} (h : Value.okWide P w r base t v) (hl : lay P 12 t = some ls) (ha : aggOf P t = false) : v.cells = #[v] ∧ ls.length = 1 := by
  unfold lay at hl
  unfold aggOf at ha
  unfold Value.okWide Cell.okWide Cell.ok at h
  split at hl
  · rename_i hu; rw [hu] at h; injection hl with hl; subst hl
    cases v <;> first | exact ⟨rfl, rfl⟩ | exact h.elim
  · rename_i hu; rw [hu] at h; injection hl with hl; subst hl
    cases v <;> first | exact ⟨rfl, rfl⟩ | exact h.elim
  · rename_i hu; rw [hu] at h; injection hl with hl; subst hl
    cases v <;> first | exact ⟨rfl, rfl⟩ | exact h.elim
  · rename_i hu
    rw [hu] at h
    split at hl
    · split at hl
      · injection hl with hl; subst hl
        cases v <;> first | exact ⟨rfl, rfl⟩ | exact h.elim
      · cases hl
    · cases hl
  · rename_i hu; rw [hu] at ha; cases ha
  · cases hl
theorem agg_cells {t : TypeId} {v : Value} {r : Reach} (h : Value.okWide P w r base t v) (ha : aggOf P t = true) : ∃ cs, v = .agg cs := by
  unfold aggOf at ha
  unfold Value.okWide at h
  split at ha
  · rename_i hu; rw [hu] at h; obtain ⟨cs, h, _⟩ := h; exact ⟨cs, h⟩
  · cases ha

theorem args_of : ∀ {ts : List TypeId} {vs : List Value} {ds : List (DataW H)} {p : List MemPlace} {pms : List PM}, DataW.TrodAll enc P w base (fun _ => true) held ts vs ds p →
    (∀ (j : Nat) t v, ts[j]? = some t → vs[j]? = some v → Value.okWide P w .any base' t v) → valsOf P ts = some pms →
    vs.length = pms.length ∧ ds.length = ts.length ∧ ∃ vss : List (List Lv), vss.length = pms.length ∧ vss.flatten.map (·.l) = pms.flatMap PM.ins ∧ (∀ (j : Nat) (lv : Lv), vss.flatten[j]? = some lv → lv.l.fit lv.x) ∧
      ∀ (i : Nat) (pm : PM) (u : Value) (xs : List Lv), pms[i]? = some pm → vs[i]? = some u → vss[i]? = some xs → PArg w (Old w) pm u xs 0 (fun _ => []) ∧ ∃ g ls, pm = .val g ls
  | [], [], [], p, pms, h, hv, hp => by
    simp only [valsOf, Option.some.injEq] at hp
    subst hp
    exact ⟨rfl, rfl, [], rfl, rfl, (fun j lv hj => by simp at hj), fun i pm u xs hi => by simp at hi⟩
  | t :: ts, v :: vs, d :: ds, p, pms, h, hv, hp => by
    obtain ⟨p1, p2, ⟨fuel, h1⟩, h2, _⟩ := h
    simp only [valsOf] at hp
    split at hp
    · rename_i ls ps hl hps
      injection hp with hp; subst hp
      obtain ⟨a1, a2, vss, a3, a4, a5, a6⟩ := args_of h2 (fun j t v ht hv' => hv (j + 1) t v (by simpa using ht) (by simpa using hv')) hps
      have hok := hv 0 t v rfl rfl
      obtain ⟨hlen, us, b1, b2⟩ := trod_lay 12 hl h1
      have hul : us.length = ls.length := by have := congrArg List.length b1; simpa using this
      refine ⟨by simp [a1], by simp [a2], us :: vss, by simp [a3], by simp [a4, b1, PM.ins], fun j lv hj => ?_, fun i pm u xs hi hu hx => ?_⟩
      · rw [List.flatten_cons] at hj
        rcases Nat.lt_or_ge j us.length with hlt | hge
        · rw [List.getElem?_append_left hlt] at hj
          obtain ⟨_, _, _, hf⟩ := b2 j lv hj
          exact hf
        · rw [List.getElem?_append_right hge] at hj
          exact a5 _ lv hj
      · cases i with
        | succ i => exact a6 i pm u xs (by simpa using hi) (by simpa using hu) (by simpa using hx)
        | zero =>
          simp at hi hu hx
          subst hi; subst hu; subst hx
          refine ⟨⟨by simp [b1, Function.comp_def], ?_, fun j p lv hj hlv => ?_⟩, _, _, rfl⟩
          · cases hag : aggOf P t with
            | true =>
              obtain ⟨cs, rfl⟩ := agg_cells hok hag
              exact ⟨cs, rfl, by simpa [Value.cells] using hlen⟩
            | false =>
              have := (one_cell hok hl hag).2
              simpa using this
          · obtain ⟨y, hy, hr, _⟩ := b2 j lv hlv
            have hp2 : p.2 = 0 := by
              simp only [List.getElem?_map] at hj
              cases hq : ls[j]? with
              | none => rw [hq] at hj; cases hj
              | some l => rw [hq] at hj; injection hj with hj; rw [← hj]
            rw [hp2]
            refine ⟨y, ?_, hr⟩
            cases hag : aggOf P t with
            | true =>
              show v.cells[j]? = some y
              rw [← hy]; simp
            | false =>
              obtain ⟨q1, q2⟩ := one_cell hok hl hag
              rw [q1] at hy
              cases j with
              | zero => simp at hy; subst hy; rfl
              | succ j => simp at hy
    · cases hp
  | [], _ :: _, _, _, _, h, _, _ => by cases h
  | [], [], _ :: _, _, _, h, _, _ => by cases h
  | _ :: _, [], _, _, _, h, _, _ => by cases h
  | _ :: _, _ :: _, [], _, _, h, _, _ => by cases h

theorem trodAll_below (hl : laidOutB P = true) {W W' : World} (hb : Below W.heap.size W W') : ∀ {ts : List TypeId} {vs : List Value} {ds : List (DataW H)} {p : List MemPlace}, readsB P ts = true →
    DataW.TrodAll enc P W 0 (fun _ => true) true ts vs ds p → (∀ x ∈ p, x.block < W.heap.size) → DataW.TrodAll enc P W' 0 (fun b => decide (b < W.heap.size)) true ts vs ds p
  | [], [], [], p, hr, h, hlt => h
  | t :: ts, v :: vs, d :: ds, p, hr, h, hlt => by
    obtain ⟨p1, p2, h1, h2, rfl⟩ := h
    simp only [readsB, List.all_cons, Bool.and_eq_true, decide_eq_true_eq] at hr
    exact ⟨p1, p2, Below.trod hl hr.1.1 hr.1.2 h1 hb (fun x hx => hlt x (List.mem_append_left _ hx)), trodAll_below hl hb (by simpa [readsB] using hr.2) h2 (fun x hx => hlt x (List.mem_append_right _ hx)), rfl⟩
  | [], _ :: _, _, _, _, h, _ => by cases h
  | [], [], _ :: _, _, _, h, _ => by cases h
  | _ :: _, [], _, _, _, h, _ => by cases h
  | _ :: _, _ :: _, [], _, _, h, _ => by cases h
end

theorem rout_one {w : World} {fz : Nat → Prop} {om : Nat → List Nat} {g : Bool} {ls : List (L × Nat)} : ∀ {rv : List Value} {vsR : List (List Lv)} {off : Nat}, ROut w fz om [(g, ls)] rv vsR off → ∃ u vs, rv = [u] ∧ vsR = [vs] ∧ RArg w fz g ls u vs (fun j => om (off + j))
  | [u], [vs], _, h => ⟨u, vs, rfl, rfl, h.1⟩
  | [], _, _, h => h.elim
  | _ :: _, [], _, h => h.elim
  | [_], _ :: _ :: _, _, h => h.2.elim
  | _ :: _ :: _, [_], _, h => h.2.elim
  | _ :: _ :: _, _ :: _ :: _, _, h => h.2.elim

/-- A LAW: its function's summary, its plain statement: its row. -/
theorem row_ok {H : Type} {enc : TypeId × Value → H} {C : Checked} {os : Os} {f : FuncId} {fn : Func} {s : ChangeSpec} {conds : List PathCond}
    (own : ownKnob C.prog.godebug = none) (started : os.Started) (noInit : C.prog.inits.idxOf? f = none) (hfn : C.prog.funcs[f]? = some fn)
    (witness : ∃ (w : World) (tape : Tape) (i : Input), w.os = os ∧ (w.forCall tape i).Shaped C.prog ∧ i.vars = [] ∧ Input.okWide C.prog (w.forCall tape i) .any w.heap.size f i ∧
      s.pre6 enc C.prog fn conds false (w.forCall tape i).memory i.args ∧ ({} : Assume).holds C.prog (lone (Frame.enter C.prog f i.args .normal) [] (w.forCall tape i)))
    {sm : Sm} {F : Nat → sm.ins.D → Option sm.outs.D} (hok : ∀ n, FnOk C.prog [] f ⟨sm, F n⟩) (hps : valsOf C.prog fn.params.toList = some sm.ps) (hrs : sm.rs = [(false, [(.bool, 0)])])
    {tb : TypeId} (hres : fn.resultTypes = #[tb]) (htb : C.prog.underlying tb = some .bool) (hvars : s.vars = []) (hreads : readsB C.prog fn.params.toList = true) (hlaid : laidOutB C.prog = true)
    (hspec : ∀ (ds : List (DataW H)), ds.length = fn.params.toList.length → s.fn H ds = { results := [.lit (.bool true)], args := ds })
    (pure : ∀ x : sm.ins.D, sm.ins.fit x → ∃ n z, F n x = some z ∧ unpack sm.outs z = [⟨.bool, (show Bool from true)⟩]) :
    ReturnsInHanded {} C os f .any (s.pre6 enc C.prog fn conds false) (s.post enc C.prog fn false true false false) := by
  refine returnsInHanded_of_change_sized own started noInit hfn witness ?_
  intro W base args ds gs before hval hW _ _ _
  have hW' := hW
  obtain ⟨p, q, hA, hV, rfl, hfz, hnd⟩ := hW
  rw [hvars] at hV
  obtain ⟨rfl, rfl⟩ := trodVars_none hV
  obtain ⟨a1, a2, vss, a3, a4, a5, a6⟩ := args_of hA (fun j t v ht hv => hval j t v (by simpa using ht) (by simpa using hv)) hps
  have hkin : vss.flatten.map (·.l) = sm.ins.kinds := by rw [a4]; exact (mkLs_kinds _).symm
  obtain ⟨x, hx, hfit⟩ := pack_of sm.ins vss.flatten hkin
  obtain ⟨n, z, hz, hzu⟩ := pure x (hfit a5)
  have hin : ArgsIn sm.ps W (Old W) args.toList vss (fun _ => 0) (fun _ => []) := {
    len := a1
    len2 := a3
    each := fun i pm u xs h1 h2 h3 => (a6 i pm u xs h1 h2 h3).1
    blk := fun i => by
      cases hq : sm.ps[i]? with
      | none => rfl
      | some pm =>
        have hlt := (List.getElem?_eq_some_iff.1 hq).1
        obtain ⟨_, g, ls, rfl⟩ := a6 i pm _ _ hq (List.getElem?_eq_getElem (by omega)) (List.getElem?_eq_getElem (by omega))
        rfl
    none := fun i _ _ j => rfl
    box := fun i ls _ j _ => rfl
    row := fun i g ls _ j _ => rfl
    fl := fun k => rfl
    nodup := fun k => List.nodup_nil
    disj := fun k k' _ b hb => by cases hb
    own := fun k b hb => by cases hb
    fz := fun b hb => hb }
  have hcall := hok n args.toList W (Old W) vss _ _ x z (fun _ h => by cases h) hin hx hz
  have hmk : sm.mk? = false := by unfold Sm.mk?; rw [hrs]
  have hmk : (SmF.mk sm (F n)).s.mk? = false := hmk
  rw [hmk] at hcall
  rw [Array.toArray_toList] at hcall
  refine hcall.mono ?_
  rintro en W' ⟨r, fz', om', rv, vsR, vsP, rfl, co⟩
  have hout := co.outs
  have hres1 := co.resOk
  rw [hrs] at hres1
  obtain ⟨u, vs, rfl, rfl, b1, _, b2⟩ := rout_one hres1
  have hvl : vs.length = 1 := by have := congrArg List.length b1; simpa using this
  obtain ⟨lv, rfl⟩ : ∃ lv, vs = [lv] := by
    match vs, hvl with
    | [x], _ => exact ⟨x, rfl⟩
  obtain ⟨l0, x0⟩ := lv
  have hl0 : l0 = .bool := by simpa using b1
  subst hl0
  obtain ⟨y, hy, hr⟩ := b2 0 (.bool, 0) ⟨.bool, x0⟩ rfl rfl
  have hyu : u = y := by simpa [partG] using hy
  subst hyu
  have hzu : unpack sm.outs z = [⟨.bool, (show Bool from true)⟩] := hzu
  have hout : unpack sm.outs z = _ := hout
  rw [hzu] at hout
  simp only [List.flatten_cons, List.flatten_nil, List.append_nil, List.cons_append, List.nil_append, List.cons.injEq] at hout
  have hx0 : x0 = (show Bool from true) := by
    have := hout.1
    injection this with _ h2
    exact h2.symm
  subst hx0
  have hu : u = .bool true := hr.1
  subst hu
  have hrr : r = .bool true := co.res
  subst hrr
  have hbelow : Below W.heap.size W W' := ⟨co.rest.1, co.rest.2.1, co.rest.2.2, co.size, fun k hk => co.frame k hk fun _ hb => by cases hb⟩
  have hlt : ∀ y ∈ p, y.block < W.heap.size := fun y hy => hW'.lt y (by simpa using hy)
  refine ⟨_, rfl, ds, [], _, [], p, [], hW', ?_, ?_, ?_, hbelow.frame _, fun h => by cases h⟩
  · rw [List.append_nil, hspec ds a2, hres]
    exact trodAll_mk1 (shut_bool htb _)
  · rw [List.append_nil, hspec ds a2]
    exact trodAll_below hlaid hbelow hreads hA hlt
  · rw [List.append_nil, hspec ds a2, hvars]
    rfl
end Go.Ev

namespace Go.Ev
set_option linter.unusedVariables false
set_option linter.unusedSimpArgs false

/-- Look-up in a list by number. -/
def find {α : Type} : List (Nat × α) → Nat → Option α
  | [], _ => none
  | (k, x) :: r, t => match Nat.beq k t with
    | true => some x
    | false => find r t
theorem find_mem {α : Type} : ∀ {l : List (Nat × α)} {t : Nat} {x : α}, find l t = some x → (t, x) ∈ l
  | [], t, x, h => by cases h
  | (k, y) :: r, t, x, h => by
    unfold find at h
    split at h
    · rename_i hk
      have : k = t := Nat.eq_of_beq_eq_true hk
      injection h with h; subst h; subst this; exact List.mem_cons_self
    · exact List.mem_cons_of_mem _ (find_mem h)

/-! ### types -/

/-- Is it the zero of such a leaf? -/
def isZ : L → Value → Bool
  | .int k, .int k' n => IntKind.code k == IntKind.code k' && n == 0
  | .bool, .bool b => !b
  | .str, .string s => s.size == 0
  | .sl _ _, .slice none l c => l == 0 && c == 0
  | _, _ => false
theorem isZ_ok {l : L} {v : Value} (h : isZ l v = true) : v = zcell l := by
  unfold isZ at h
  split at h
  · simp only [Bool.and_eq_true, beq_iff_eq] at h
    obtain ⟨h1, rfl⟩ := h
    rw [IntKind.code_inj h1]; rfl
  · simp at h; subst h; rfl
  · rename_i s
    have : s = .empty := ByteArray.size_eq_zero_iff.1 (by simpa using h)
    subst this; rfl
  · simp only [Bool.and_eq_true, beq_iff_eq] at h
    obtain ⟨rfl, rfl⟩ := h; rfl
  · cases h
def allZ : List L → List Value → Bool
  | [], [] => true
  | l :: ls, v :: vs => isZ l v && allZ ls vs
  | _, _ => false
theorem allZ_ok : ∀ {ls : List L} {vs : List Value}, allZ ls vs = true → vs = ls.map zcell
  | [], [], _ => rfl
  | l :: ls, v :: vs, h => by
    simp only [allZ, Bool.and_eq_true] at h
    rw [isZ_ok h.1, allZ_ok h.2]; rfl
  | [], _ :: _, h => by cases h
  | _ :: _, [], h => by cases h

def elB (P : Program) (t : TypeId) (e : Ls) : Bool := decide (0 < e.n) && match P.info? t with
  | some i => i.size == e.n && decide (i.bytes ≤ 1024) && match i.zero with
    | some z => allZ e.kinds z.cells.toList
    | none => false
  | none => false
theorem elB_ok {P : Program} {t : TypeId} {e : Ls} (h : elB P t e = true) : ElF P t e := by
  unfold elB at h
  simp only [Bool.and_eq_true, decide_eq_true_eq] at h
  obtain ⟨hp, h⟩ := h
  split at h
  · rename_i i hi
    simp only [Bool.and_eq_true, decide_eq_true_eq, beq_iff_eq] at h
    obtain ⟨⟨h1, h2⟩, h⟩ := h
    split at h
    · rename_i z hz
      exact ⟨⟨i, hi, h1, h2, z, hz, by rw [← allZ_ok h]⟩, hp⟩
    · cases h
  · cases h
def loneB (P : Program) (t : TypeId) : L → Bool
  | .int k => match P.underlying t with
    | some (.int k') => IntKind.code k == IntKind.code k'
    | _ => false
  | .bool => match P.underlying t with
    | some .bool => true
    | _ => false
  | .str => match P.underlying t with
    | some .string => true
    | _ => false
  | .sl t' e => (match P.underlying t with
    | some (.slice t'') => t' == t''
    | _ => false) && elB P t' e
theorem loneB_ok {P : Program} {t : TypeId} {l : L} (h : loneB P t l = true) : LoneF P t l := by
  cases l with
  | int k =>
    simp only [loneB] at h
    split at h
    · rename_i k' hk
      have := IntKind.code_inj (by simpa using h : IntKind.code k = IntKind.code k')
      subst this; exact hk
    · cases h
  | bool =>
    simp only [loneB] at h
    split at h
    · assumption
    · cases h
  | str =>
    simp only [loneB] at h
    split at h
    · assumption
    · cases h
  | sl t' e =>
    simp only [loneB, Bool.and_eq_true] at h
    obtain ⟨h1, h2⟩ := h
    split at h1
    · rename_i t'' ht
      have : t' = t'' := by simpa using h1
      subst this
      exact ⟨ht, elB_ok h2⟩
    · cases h1
def fieldsB : List Field → List (Nat × TypeId) → Bool
  | [], [] => true
  | f :: fs, (o, t) :: r => f.offset == o && f.type == t && fieldsB fs r
  | _, _ => false
theorem fieldsB_ok : ∀ {fs : List Field} {r : List (Nat × TypeId)}, fieldsB fs r = true → fs.map (fun f => (f.offset, f.type)) = r
  | [], [], _ => rfl
  | f :: fs, (o, t) :: r, h => by
    simp only [fieldsB, Bool.and_eq_true, beq_iff_eq] at h
    rw [List.map_cons, h.1.1, h.1.2, fieldsB_ok h.2]
  | [], _ :: _, h => by cases h
  | _ :: _, [], h => by cases h
def placesB (P : Program) : List Field → Bool
  | [] => true
  | f :: fs => (P.info? f.type).isSome && placesB P fs
theorem placesB_ok {P : Program} : ∀ {fs : List Field}, placesB P fs = true → ∃ pl, fs.mapM (fun f => (P.info? f.type).map fun i => (f.offset, i.size)) = some pl
  | [], _ => ⟨[], rfl⟩
  | f :: fs, h => by
    simp only [placesB, Bool.and_eq_true] at h
    obtain ⟨pl, hpl⟩ := placesB_ok h.2
    obtain ⟨i, hi⟩ := Option.isSome_iff_exists.1 h.1
    exact ⟨(f.offset, i.size) :: pl, by simp [List.mapM_cons, hi, hpl]⟩
def plainB (P : Program) (t : TypeId) : L → Bool
  | .int k => match P.underlying t with
    | some (.int k') => IntKind.code k == IntKind.code k'
    | _ => false
  | .bool => match P.underlying t with
    | some .bool => true
    | _ => false
  | .str => match P.underlying t with
    | some .string => true
    | _ => false
  | .sl _ _ => false
theorem plainB_ok {P : Program} {t : TypeId} {l : L} (h : plainB P t l = true) : PlainF P t l := by
  cases l with
  | int k =>
    simp only [plainB] at h
    split at h
    · rename_i k' hk
      have := IntKind.code_inj (by simpa using h : IntKind.code k = IntKind.code k')
      subst this; exact hk
    · cases h
  | bool =>
    simp only [plainB] at h
    split at h
    · assumption
    · cases h
  | str =>
    simp only [plainB] at h
    split at h
    · assumption
    · cases h
  | sl t' e => cases h
def eqFsB (P : Program) : Nat → List Field → List L → Bool
  | _, [], [] => true
  | n, f :: fs, l :: ls => f.name != "_" && f.offset == n && plainB P f.type l && eqFsB P (n + 1) fs ls
  | _, _, _ => false
theorem eqFsB_ok {P : Program} : ∀ {n : Nat} {fs : List Field} {ls : List L}, eqFsB P n fs ls = true → FieldsF P n fs ls
  | _, [], [], _ => trivial
  | n, f :: fs, l :: ls, h => by
    simp only [eqFsB, Bool.and_eq_true, beq_iff_eq, bne_iff_ne, ne_eq] at h
    obtain ⟨⟨⟨h1, h2⟩, h3⟩, h4⟩ := h
    exact ⟨h1, h2, plainB_ok h3, eqFsB_ok h4⟩
  | _, [], _ :: _, h => by simp [eqFsB] at h
  | _, _ :: _, [], h => by simp [eqFsB] at h
def eqB (P : Program) (t : TypeId) (ls : List L) : Bool := !P.stoodInHeld t && !P.eqGuardType P.depth t && match P.underlying t with
  | some (.struct fs) => eqFsB P 0 fs.toList ls
  | _ => false
theorem eqB_ok {P : Program} {t : TypeId} {ls : List L} (h : eqB P t ls = true) : EqF P t ls := by
  unfold eqB at h
  simp only [Bool.and_eq_true, Bool.not_eq_true'] at h
  obtain ⟨⟨h1, h2⟩, h3⟩ := h
  split at h3
  · rename_i fs hfs
    exact ⟨h1, h2, fs, hfs, eqFsB_ok h3⟩
  · cases h3
def tyB (P : Program) (t : TypeId) (ty : Ty) : Bool := (match ty.eq with
  | true => eqB P t ty.ls.kinds
  | false => true) && ((match P.info? t with
    | some i => i.size == ty.ls.n && match i.zero with
      | some z => match ty.agg with
        | true => match z with
          | .agg cs => allZ ty.ls.kinds cs.toList
          | _ => false
        | false => allZ ty.ls.kinds z.cells.toList
      | none => false
    | none => false) &&
  match ty.agg with
  | true => match P.underlying t with
    | some (.struct fs) => fieldsB fs.toList ty.fs && placesB P fs.toList
    | _ => false
  | false => match ty.ls with
    | .one l => loneB P t l
    | _ => false)
theorem tyB_ok {P : Program} {t : TypeId} {ty : Ty} (h : tyB P t ty = true) : TyF P t ty := by
  unfold tyB at h
  rw [Bool.and_eq_true] at h
  obtain ⟨h0, h⟩ := h
  simp only [Bool.and_eq_true] at h
  obtain ⟨h1, h2⟩ := h
  refine ⟨?_, fun ha => ?_, fun ha => ?_, fun he => by rw [he] at h0; exact eqB_ok h0⟩
  · split at h1
    · rename_i i hi
      simp only [Bool.and_eq_true, beq_iff_eq] at h1
      obtain ⟨hs, h1⟩ := h1
      split at h1
      · rename_i z hz
        refine ⟨i, hi, hs, z, hz, ?_⟩
        split at h1
        · rename_i ha
          split at h1
          · rename_i cs
            have hc : cs = (ty.ls.kinds.map zcell).toArray := by rw [← allZ_ok h1]
            exact ⟨hc, .inl (by rw [hc])⟩
          · cases h1
        · rename_i ha
          exact ⟨by rw [← allZ_ok h1], .inr ha⟩
      · cases h1
    · cases h1
  · rw [ha] at h2
    dsimp only at h2
    split at h2
    · rename_i fs hfs
      simp only [Bool.and_eq_true] at h2
      exact ⟨fs, hfs, fieldsB_ok h2.1, placesB_ok h2.2⟩
    · cases h2
  · rw [ha] at h2
    dsimp only at h2
    split at h2
    · rename_i l hl; exact ⟨l, hl, loneB_ok h2⟩
    · cases h2
theorem table_ok {P : Program} {tbl : List (Nat × Ty)} (h : tbl.all (fun p => tyB P p.1 p.2) = true) : ∀ t x, find tbl t = some x → TyF P t x :=
  fun t x hx => tyB_ok (List.all_eq_true.1 h _ (find_mem hx))

/-! ### summaries -/

/-- A function's code is there. -/
def HasBody (P : Program) (f : FuncId) : Prop := ∃ (fn : Func) (c : Code), P.funcs[f]? = some fn ∧ fn.body = some c ∧ (fn.name == "runtime.NumGoroutine") = false
theorem env_nil {P : Program} {T : List (String × Array Value)} : FnsOk P T (find []) := fun f g h => by cases h
theorem env_cons {P : Program} {T : List (String × Array Value)} {f : FuncId} {g : SmF} {l : List (FuncId × SmF)} (h : FnOk P T f g) (hb : HasBody P f) (hl : FnsOk P T (find l)) : FnsOk P T (find ((f, g) :: l)) := by
  intro f' g' h'
  unfold find at h'
  split at h'
  · rename_i hk
    have : f = f' := Nat.eq_of_beq_eq_true hk
    subst this
    injection h' with h'; subst h'
    exact ⟨h, hb⟩
  · exact hl f' g' h'
/-- Summaries, and nothing else. -/
def plain (l : List (FuncId × SmF)) : Env := ⟨find l, fun _ _ => none, fun _ => false⟩
theorem env_plain {P : Program} {T : List (String × Array Value)} {l : List (FuncId × SmF)} (h : FnsOk P T (find l)) : EnvFn P T (plain l) := ⟨h, (fun _ _ _ h => by cases h), (fun _ h => by cases h)⟩
/-- Summaries, one comparison that rows are sorted by, types of function values. -/
def sorting (l : List (FuncId × SmF)) (f g : FuncId) (σ : Srt) (ts : List TypeId) : Env := ⟨find l, fun f' g' => if f' == f && g' == g then some σ else none, fun t => has ts t⟩
theorem fn_none {P : Program} {T : List (String × Array Value)} {f : FuncId} {sm : Sm} : FnOk P T f ⟨sm, fun _ => none⟩ := by
  intro args w fz vss bk om x z hg hin hx hz
  cases hz
/-- A function whose native form is known. -/
theorem fn_native {P : Program} {T : List (String × Array Value)} {tbl : List (Nat × Ty)} {l : Env} {an : An} {n : Nat} {sm : Sm} {fn : Func} {f : FuncId} {c : Code} {F : sm.ins.D → Option sm.outs.D}
    (hf : P.funcs[f]? = some fn) (hb : fn.body = some c) (hlen : decide (sm.ps.length ≤ fn.ntmps) = true) (ht : tbl.all (fun p => tyB P p.1 p.2) = true) (hl : EnvFn P T l) (hm : P.follows .mixedOrders = true)
    (hF : ∀ x, evFn (find tbl) l an n fn sm x = F x) : FnOk P T f ⟨sm, F⟩ := by
  have h := fn_ok (an := an) (n := n) (sm := sm) hf hb (of_decide_eq_true hlen) (table_ok ht) hl hm
  have : evFn (find tbl) l an n fn sm = F := funext hF
  rw [this] at h
  exact h
end Go.Ev
