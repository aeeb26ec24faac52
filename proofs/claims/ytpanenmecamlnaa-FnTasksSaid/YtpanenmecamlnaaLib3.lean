/- A plain evaluator for Go's loaded code, and that it is sound; part 3. Conditions: none. -/
import Derived.Test.YtpanenmecamlnaaLib2
import Derived.Orders
import Derived.Deep.LoopGhost
import Derived.Tactics
namespace Go.Ev
set_option linter.unusedVariables false
set_option linter.unusedSimpArgs false

section
variable {P : Program} {E : Ent} {s : St} {W : Wd} {tm : Array Value} {v : Nat}

/-- The world behind such a call: the new block lies under a key that nothing keeps. -/
def madeW (W : Wd) (w' : World) (fz' : Nat → Prop) (b0 : Nat) : Wd :=
  { W with w := w', fz := fun x => W.fz x ∨ fz' x, om := fun k => match k with
      | .fl n => if n = 0 then [b0] else []
      | k => W.om k }

theorem Rep.made1 (h : Rep E s tm W) (hv : NoVer s v) {b0 : Nat} {w' : World} {fz' : Nat → Prop}
    (hold : ∀ b, b < W.w.heap.size → w'.heap[b]? = W.w.heap[b]?) (hsize : W.w.heap.size ≤ w'.heap.size) (hrest : w'.os = W.w.os ∧ w'.tape = W.w.tape ∧ w'.output = W.w.output)
    (hfz : ∀ x, fz' x → x < w'.heap.size ∧ (W.fz x ∨ W.w.heap.size ≤ x)) (hb : W.w.heap.size ≤ b0 ∧ b0 < w'.heap.size ∧ ¬ fz' b0) : Rep E s tm (madeW W w' fz' b0) := by
  have hs := h.sep
  have hmem : ∀ k b, b ∈ (madeW W w' fz' b0).om k → (b ∈ W.om k ∧ ∀ n, k ≠ .fl n) ∨ (k = .fl 0 ∧ b = b0) := by
    intro k b hk
    cases k with
    | fl n =>
      have hk : b ∈ (if n = 0 then [b0] else ([] : List Nat)) := hk
      by_cases hn : n = 0
      · rw [if_pos hn] at hk; exact .inr ⟨by rw [hn], List.mem_singleton.1 hk⟩
      · rw [if_neg hn] at hk; cases hk
    | blk r => exact .inl ⟨hk, by simp⟩
    | lf r j => exact .inl ⟨hk, by simp⟩
  have hturn : Turn v s s W (madeW W w' fz' b0) := {
    fz := fun b hb => .inl hb
    fzm := fun b hb => hold b (hs.fz b hb).1
    leaf := fun r j ver gen t e xs dd hl hne => ⟨rfl, gen, t, xs, dd, hl, fun _ => ⟨rfl, fun p h' e' u hc' hn => by
      obtain ⟨u0, hu0, hrd⟩ := (h.roots r).row hl
      rw [hc'] at hu0; injection hu0 with hu0; subst hu0
      exact nav_frame p hrd hn fun b hb => hold b (hb.elim (fun hb => (hs.own _ b hb).2.1) fun hb => (hs.fz b hb).1)⟩⟩
    box := fun r hb hne => ⟨hb, rfl, rfl⟩ }
  refine h.redo hv hturn ?_ h.len1 h.len2 (fun t => .inl ⟨rfl, rfl⟩) fun r => ?_
  · exact {
      nodup := fun k => by
        cases k with
        | fl n =>
          show (if n = 0 then [b0] else ([] : List Nat)).Nodup
          split <;> simp
        | blk r => exact hs.nodup (.blk r)
        | lf r j => exact hs.nodup (.lf r j)
      disj := fun k k' hne b h1 h2 => by
        rcases hmem k b h1 with ⟨h1, n1⟩ | ⟨rfl, rfl⟩ <;> rcases hmem k' b h2 with ⟨h2, n2⟩ | ⟨rfl, h2⟩
        · exact hs.disj k k' hne b h1 h2
        · have := (hs.own k b h1).2.1; omega
        · have := (hs.own k' _ h2).2.1; omega
        · exact hne rfl
      own := fun k b h1 => by
        rcases hmem k b h1 with ⟨h1, _⟩ | ⟨rfl, rfl⟩
        · obtain ⟨a1, a2, a3⟩ := hs.own k b h1
          refine ⟨fun hz => hz.elim a1 fun hz => ?_, Nat.lt_of_lt_of_le a2 hsize, a3⟩
          rcases (hfz b hz).2 with h | h
          · exact a1 h
          · omega
        · refine ⟨fun hz => hz.elim (fun hz => ?_) hb.2.2, hb.2.1, .inl (Nat.le_trans hs.size hb.1)⟩
          have := (hs.fz _ hz).1; omega
      fz := fun b hz => by
        rcases hz with hz | hz
        · obtain ⟨a1, a2⟩ := hs.fz b hz
          exact ⟨Nat.lt_of_lt_of_le a1 hsize, a2⟩
        · obtain ⟨a1, a2⟩ := hfz b hz
          refine ⟨a1, a2.elim (fun h => (hs.fz b h).2) fun h => .inr (.inl (Nat.le_trans hs.size h))⟩
      frame := fun b h1 h2 => (hold b (Nat.lt_of_lt_of_le h1 hs.size)).trans (hs.frame b h1 h2)
      size := Nat.le_trans hs.size hsize
      rest := ⟨hrest.1.trans hs.rest.1, hrest.2.1.trans hs.rest.2.1, hrest.2.2.trans hs.rest.2.2⟩ }
  · obtain ⟨h1, h2⟩ := h.roots r
    refine ⟨fun j => ?_, ?_⟩
    · exact LeafOk.turn hturn (by have := hv.2.1 r j; exact this) (fun b hb => hold b (hs.own _ b hb).2.1) (h1 j)
    · show (if (s.root r).box = true then _ else _)
      split
      · rename_i hb
        rw [if_pos hb] at h2
        obtain ⟨ho', arr', T', fr', hh', a1, a2, a3⟩ := h2
        refine ⟨ho', arr', T', fr', (hold _ ?_).trans hh', a1, a2, a3⟩
        exact (Array.getElem?_eq_some_iff.1 hh').1
      · rename_i hb; rw [if_neg hb] at h2; exact h2

theorem Rep.placeMade (h : Rep E s tm W) (hv : NoVer s v) {d : Nat} (hd : d < tm.size) {bs : List LA} {cs : Array Value} {T : TypeId} {fr : Nat × Nat} {b0 : Nat} {w' : World} {fz' : Nat → Prop}
    (hold : ∀ b, b < W.w.heap.size → w'.heap[b]? = W.w.heap[b]?) (hsize : W.w.heap.size ≤ w'.heap.size) (hrest : w'.os = W.w.os ∧ w'.tape = W.w.tape ∧ w'.output = W.w.output)
    (hfz : ∀ x, fz' x → x < w'.heap.size ∧ (W.fz x ∨ W.w.heap.size ≤ x)) (hb : W.w.heap.size ≤ b0 ∧ b0 < w'.heap.size ∧ ¬ fz' b0) (hcell : w'.heap[b0]? = some (.cells cs T fr)) (hfr : ∀ j, j < cs.size → ¬(fr.1 ≤ j ∧ j < fr.2)) (hlen : cs.size = bs.length)
    (hbs : ∀ (j : Nat) (b : LA), bs[j]? = some b → ∃ (l : L) (x : l.D) (y : Value), b = .sc l x ∧ cs[j]? = some y ∧ l.rd 0 w' fz' y x []) :
    ∃ W', W'.w = w' ∧ Rep E (s.app (ownBox d v bs)) (tm.setIfInBounds d (.pointer (some ⟨b0, 0, none⟩))) W' := by
  have h1 := h.made1 hv hold hsize hrest hfz hb
  have hsc : ∀ j, (∃ (l : L) (x : l.D) (y : Value), nth .bad bs j = .sc l x ∧ cs[j]? = some y ∧ l.rd 0 w' fz' y x []) ∨ nth .bad bs j = .bad := by
    intro j
    rcases Nat.lt_or_ge j bs.length with hj | hj
    · left
      have := hbs j bs[j] (List.getElem?_eq_getElem hj)
      rw [nth_of, List.getElem?_eq_getElem hj]; exact this
    · right; exact nth_ge _ hj
  refine ⟨placeW (madeW W w' fz' b0) w' [] d (fun j => cs[j]?) b0 [b0] (fun _ => []), rfl, ?_⟩
  refine h1.place2 (us := []) hv hd (x := ⟨true, v, bs⟩) (a := one (.ptr d 0 v)) rfl ?_ (fun b _ => rfl) (fun b _ _ => rfl) (Nat.le_refl _) ⟨rfl, rfl, rfl⟩ (List.nodup_cons.2 ⟨by simp, List.nodup_nil⟩) (fun _ => List.nodup_nil) (fun _ _ _ hb => by cases hb) (fun _ _ _ _ hb => by cases hb) ?_ ?_ ?_
  · intro j ver gen t e xs dd hl
    dsimp only at hl
    rcases hsc j with ⟨l, x, y, h1, _⟩ | h1 <;> rw [h1] at hl <;> cases hl
  · intro b hb
    rcases hb with hb | ⟨j, hb⟩
    · simp at hb; subst hb
      exact .inl ⟨.fl 0, id, by simp [madeW]⟩
    · cases hb
  · intro _ _
    refine ⟨fun j => ?_, ?_⟩
    · have e1 : (placeW (madeW W w' fz' b0) w' [] d (fun j => cs[j]?) b0 [b0] (fun _ => [])).cv d j = cs[j]? := by simp [placeW]
      have e2 : (placeW (madeW W w' fz' b0) w' [] d (fun j => cs[j]?) b0 [b0] (fun _ => [])).om (.lf d j) = [] := by simp [placeW]
      rw [e1, e2]
      show LeafOk _ _ (nth LA.bad bs j) _ _
      rcases hsc j with ⟨l, x, y, h1, h2, h3⟩ | h1
      · rw [h1]
        refine ⟨rfl, fun u hu => ?_⟩
        rw [h2] at hu; injection hu with hu; subst hu
        exact L.rd_frame l h3 (fun b _ => rfl) (fun b hb => .inr hb)
      · rw [h1]; exact ⟨rfl, fun _ _ => trivial⟩
    · show (if true = true then _ else _)
      rw [if_pos rfl]
      have hbk : (placeW (madeW W w' fz' b0) w' [] d (fun j => cs[j]?) b0 [b0] (fun _ => [])).bk d = b0 := by simp [placeW]
      refine ⟨by simp [placeW], cs, T, fr, ?_, hfr, hlen, fun j => by simp [placeW]⟩
      rw [hbk]; exact hcell
  · intro _ _
    intro _ _
    have hbk : (placeW (madeW W w' fz' b0) w' [] d (fun j => cs[j]?) b0 [b0] (fun _ => [])).bk d = b0 := by simp [placeW]
    rw [hbk]
end
end Go.Ev

namespace Go.Ev
set_option linter.unusedVariables false
set_option linter.unusedSimpArgs false

section
variable {P : Program} {E : Ent} {s : St} {W : Wd} {o : Oper} {a : Act} {ws : List Wr} {cx : Cx} {v : Nat} {tm : Array Value}

theorem op_call (henv : EnvOk P E cx.env) (h : Rep E s a.tmps W) (hv : NoVer s v) {c : Call} {f : Operand} (ho : o.op = .call c) (hb : c.callee = .value f) (hd : ∀ d, o.dst = some d → d < a.tmps.size) (hl : (opDelta cx v o s).leads ws) : Goes P E o a W.w (s.app ws) := by
  simp only [opDelta, ho, hb] at hl
  have hf := opd1_ok h f
  split at hl
  · rename_i fid d hfid hds
    rw [hfid] at hf
    have hf : a.eval f = .func (.func fid) #[] #[] := hf
    unfold call at hl
    split at hl
    · exact hl.elim
    · rename_i g hg
      cases hmk : g.s.mk? with
      | true =>
        rw [hmk, if_pos rfl] at hl
        obtain ⟨vss, T, hl, l1, l3, l4, hn, heach⟩ := args_ok h g.s.ps (c.args.toList.map s.opd) (c.args.toList.map a.eval) (by simp) (fun i av u h1 h2 => by
          rw [List.getElem?_map] at h1 h2
          cases hx : c.args.toList[i]? with
          | none => rw [hx] at h1; cases h1
          | some x =>
            rw [hx] at h1 h2
            injection h1 with h1; injection h2 with h2
            subst h1; subst h2
            exact opd_ok h x) hl
        split at hl
        · rename_i hap
          simp only [Bool.and_eq_true] at hap
          obtain ⟨hpl, hvr⟩ := hap
          have hvr : valRoots g.s.ps (c.args.toList.map s.opd) = [] := by
            revert hvr
            cases valRoots g.s.ps (c.args.toList.map s.opd) with
            | nil => intro _; rfl
            | cons => intro h; cases h
          split at hl
          · exact hl.elim
          · rename_i y hy
            obtain ⟨z, hz, hl⟩ := hl
            have hl : _ = ws := hl
            have hh : Handed s W g.s.ps (c.args.toList.map s.opd) (c.args.toList.map a.eval) vss T := {
              l1 := l1
              l2 := by rw [← l1]; simp
              l3 := l3
              l4 := l4
              nodup := hn
              each := heach
              apart := fun r hr => by rw [hvr] at hr; cases hr }
            obtain ⟨hfn, fn, cb, hfn1, hfn2, hfn3⟩ := henv.1 fid g hg
            have hcall := hfn (c.args.toList.map a.eval) W.w (Seen W (valRoots g.s.ps (c.args.toList.map s.opd))) vss _ _ y z (henv.gnd h.sep fun k b hb => let ⟨a, _, h2⟩ := argOm_some hh hb; ⟨a, h2⟩) (argsIn_ok h hh) hy hz
            rw [hmk] at hcall
            intro next Q hnext
            have hrun : (execOp a.eval o).run P W.w = .ok (.enter fid (c.args.toList.map a.eval).toArray) W.w := by
              have : (c.args.toList.map a.eval).toArray = c.args.map a.eval := by rw [← Array.toList_map, Array.toArray_toList]
              rw [this]
              have hfn3 : ¬ fn.name = "runtime.NumGoroutine" := by simpa using hfn3
              simp [execOp, ho, hb, resolve, invoke, hf, Deferred.ofValue, callFunc, hfn1, hfn2, hfn3]
            unfold Oper.wp
            rw [hrun, Oper.upon_enter]
            refine hcall.mono ?_
            rintro en w' ⟨r, fz', b0, rfl, mo⟩
            obtain ⟨rfl, hkinds, cs, T0, fr, hcell, hfr, hlen, hread⟩ := mo.box
            have hvl : (unpack g.s.outs z).length = g.s.outk.length := by have := congrArg List.length hkinds; simpa using this
            have hzero : ∀ p ∈ g.s.outk, p.2 = 0 := fun p hp => by
              unfold Sm.plain at hpl
              simp only [Bool.and_eq_true] at hpl
              simpa using List.all_eq_true.1 hpl.2 p hp
            obtain ⟨W', hW', hrep⟩ := h.placeMade hv (hd d hds) (bs := newLeaves v g.s.outk (unpack g.s.outs z)) mo.frame mo.size mo.rest (fun x hx => by
              obtain ⟨a1, a2⟩ := mo.fz x hx
              refine ⟨a1, a2.imp (fun h => ?_) id⟩
              rcases h with h | ⟨r, hr, _⟩
              · exact h
              · rw [hvr] at hr; cases hr) mo.new hcell hfr (by rw [newLeaves_len _ _ _ hvl]; exact hlen) (fun j b hj => by
              have hjl : j < g.s.outk.length := by
                have := (List.getElem?_eq_some_iff.1 hj).1
                rwa [newLeaves_len _ _ _ hvl] at this
              have q1 := List.getElem?_eq_getElem hjl
              have q2 := List.getElem?_eq_getElem (show j < (unpack g.s.outs z).length by omega)
              have q3 := newLeaves_get v _ _ j _ _ q1 q2
              rw [q3] at hj; injection hj with hj
              obtain ⟨y', hy', hr⟩ := hread j _ _ q1 q2
              rw [hzero _ (List.getElem_mem hjl)] at hr hj
              refine ⟨_, _, y', ?_, hy', hr⟩
              rw [← hj]
              generalize (unpack g.s.outs z)[j] = lv
              obtain ⟨l, x⟩ := lv
              cases l <;> rfl)
            rw [← hl, hds] at *
            rw [← hW']
            exact hnext _ W' rfl hrep
        · exact hl.elim
      | false =>
      rw [hmk] at hl
      simp only [Bool.false_eq_true, if_false] at hl
      obtain ⟨vss, T, hl, l1, l3, l4, hn, heach⟩ := args_ok h g.s.ps (c.args.toList.map s.opd) (c.args.toList.map a.eval) (by simp) (fun i av u h1 h2 => by
        rw [List.getElem?_map] at h1 h2
        cases hx : c.args.toList[i]? with
        | none => rw [hx] at h1; cases h1
        | some x =>
          rw [hx] at h1 h2
          injection h1 with h1; injection h2 with h2
          subst h1; subst h2
          exact opd_ok h x) hl
      split at hl
      · rename_i hap
        split at hl
        · exact hl.elim
        · rename_i y hy
          obtain ⟨z, hz, hl⟩ := hl
          cases hback : backAll d v g.s.rs (unpack g.s.outs z) 0 with
          | none => simp only [hback] at hl; exact hl.elim
          | some bol =>
            obtain ⟨bs, own, left⟩ := bol
            simp only [hback] at hl
            generalize hfs : (if fresh g.s.outk = true then some [] else freezes cx s (valRoots g.s.ps (c.args.toList.map s.opd))) = fso at hl
            split at hl
            · rename_i pw fs hpw
              have hl : _ = ws := hl
              have hh : Handed s W g.s.ps (c.args.toList.map s.opd) (c.args.toList.map a.eval) vss T := {
                l1 := l1
                l2 := by rw [← l1]; simp
                l3 := l3
                l4 := l4
                nodup := hn
                each := heach
                apart := fun r hr i p hT x hx e => by
                  have h1 := List.all_eq_true.1 hap r hr
                  simp only [Bool.not_eq_true'] at h1
                  have h2 : hitsAny (T.flatMap PT.tgs) (r, none) = true := List.any_eq_true.2 ⟨x, List.mem_flatMap.2 ⟨p, List.mem_of_getElem? hT, hx⟩, by simp [Tg.hits, e]⟩
                  rw [h1] at h2; cases h2 }
              obtain ⟨hfn, fn, cb, hfn1, hfn2, hfn3⟩ := henv.1 fid g hg
              have hcall := hfn (c.args.toList.map a.eval) W.w (Seen W (valRoots g.s.ps (c.args.toList.map s.opd))) vss _ _ y z (henv.gnd h.sep fun k b hb => let ⟨a, _, h2⟩ := argOm_some hh hb; ⟨a, h2⟩) (argsIn_ok h hh) hy hz
              rw [hmk] at hcall
              intro next Q hnext
              have hrun : (execOp a.eval o).run P W.w = .ok (.enter fid (c.args.toList.map a.eval).toArray) W.w := by
                have : (c.args.toList.map a.eval).toArray = c.args.map a.eval := by rw [← Array.toList_map, Array.toArray_toList]
                rw [this]
                have hfn3 : ¬ fn.name = "runtime.NumGoroutine" := by simpa using hfn3
                simp [execOp, ho, hb, resolve, invoke, hf, Deferred.ofValue, callFunc, hfn1, hfn2, hfn3]
              unfold Oper.wp
              rw [hrun, Oper.upon_enter]
              refine hcall.mono ?_
              rintro en w' ⟨r, fz', om', rv, vsR, vsP, rfl, co⟩
              obtain ⟨W', hW', hrep⟩ := back_ok (cx := cx) h hv (hd d hds) hh co hfs hback hpw
              rw [← hl, hds] at *
              rw [← hW']
              exact hnext _ W' rfl hrep
            · exact hl.elim
      · exact hl.elim
  · exact hl.elim
end
end Go.Ev

namespace Go.Ev
set_option linter.unusedVariables false
set_option linter.unusedSimpArgs false

section
variable {P : Program} {E : Ent} {s : St} {W : Wd} {o : Oper} {a : Act} {ws : List Wr} {cx : Cx} {v : Nat} {tm : Array Value}

theorem op_sound (hc : CxF P cx) (henv : EnvOk P E cx.env) (h : Rep E s a.tmps W) (hv : NoVer s v) (hd : ∀ d, o.dst = some d → d < a.tmps.size) (hl : (opDelta cx v o s).leads ws) : Goes P E o a W.w (s.app ws) := by
  cases ho : o.op with
  | move x =>
    cases hn : isNils (s.opd x) with
    | true => exact op_moveNil h hv ho hn hd hl
    | false => exact op_move h ho hn hl
  | assign x => exact op_assign h hv ho hd hl
  | pick x y z => exact op_pick h ho hl
  | alloc t => exact op_alloc hc h hv ho hd hl
  | box t x => exact op_box hc h hv ho hd hl
  | build t ps => exact op_build hc h ho hl
  | buildSlice t n ps => exact op_buildSlice hc h hv ho hd hl
  | load t x => exact op_load hc h ho hl
  | store t x y => exact op_store hc h hv ho hl
  | nilCheck x => exact op_nilCheck h ho hl
  | binOp op tx x y ty => exact op_binOp hc h ho hl
  | unOp op tx x => exact op_unOp h ho hl
  | convert t1 t2 x => exact op_convert hc h ho hl
  | makeSlice t x y => exact op_makeSlice hc h hv ho hd hl
  | slice ti x lo hi m =>
    cases m with
    | none => exact op_slice hc h ho hl
    | some m => simp only [opDelta, ho] at hl; exact hl.elim
  | fieldAddr t x f => exact op_fieldAddr hc h ho hl
  | field t x f => exact op_field hc h ho hl
  | indexAddr t x i => exact op_indexAddr hc h ho hl
  | index t x i => exact op_index hc h ho hl
  | extract x i => exact op_extract h ho hl
  | call c =>
    cases hb : c.callee with
    | builtin b =>
      cases b with
      | len => exact op_len hc h ho hb hl
      | append => exact op_append hc h hv ho hb hd hl
      | min => exact op_min h ho hb hl
      | max => exact op_max h ho hb hl
      | _ => simp only [opDelta, ho, hb] at hl; exact hl.elim
    | value f => exact op_call henv h hv ho hb hd hl
    | invoke r n => simp only [opDelta, ho, hb] at hl; exact hl.elim
  | _ => simp only [opDelta, ho] at hl; exact hl.elim
end
end Go.Ev

namespace Go.Ev
set_option linter.unusedVariables false
set_option linter.unusedSimpArgs false

section
variable {s s' : St} {cx : Cx} {v : Nat} {β : Type}

theorem leaf_eq {r : Nat} (h : s'.root r = s.root r) (j : Nat) : s'.leaf r j = s.leaf r j := by unfold St.leaf; rw [h]
theorem content_eq {c : Loc} (h : s'.root c.r = s.root c.r) (k : (t : TypeId) → (e : Ls) → List e.D → Nat → Step β) : s'.content c k = s.content c k := by
  unfold St.content; rw [leaf_eq h]
def Sees (s s' : St) (rs : List Nat) : Prop := ∀ r ∈ rs, s'.root r = s.root r

theorem datum_eq {l : L} {la : LA} (h : Sees s s' la.roots) (k : l.D → Step β) : s'.datum l la k = s.datum l la k := by
  cases la with
  | ref c => exact content_eq (h c.r (by simp [LA.roots])) _
  | win c lo hi => exact content_eq (h c.r (by simp [LA.roots])) _
  | _ => rfl
theorem data_eq : ∀ {ls : List L} {as : List LA} (h : Sees s s' (as.flatMap LA.roots)) (k : List Lv → Step β), s'.data ls as k = s.data ls as k
  | [], [], h, k => rfl
  | [], _ :: _, h, k => rfl
  | _ :: _, [], h, k => rfl
  | l :: ls, a :: as, h, k => by
    simp only [St.data]
    rw [datum_eq fun r hr => h r (by simp [hr])]
    congr 1; funext x
    exact data_eq (fun r hr => h r (by simp only [List.flatMap_cons, List.mem_append]; exact .inr hr)) _
theorem loads_eq {la : LA} (h : Sees s s' la.roots) (n : Nat) (k : List LA → Step β) : s'.loads la n k = s.loads la n k := by
  cases la with
  | ptr r j ver => simp only [St.loads]; rw [h r (by simp [LA.roots])]
  | eptr c =>
    simp only [St.loads]
    split
    · rfl
    · rename_i q i off hq
      have hg : s'.genAt c.r c.j = s.genAt c.r c.j := by unfold St.genAt; rw [leaf_eq (h c.r (by simp [LA.roots]))]
      rw [hg]
      exact content_eq (c := { c with p := q }) (h c.r (by simp [LA.roots])) _
  | _ => rfl
theorem av_sees {a : AV} (h : Sees s s' a.roots) : Sees s s' a.one?.roots := by
  cases a with
  | tup vs => intro r hr; cases hr
  | bx as => intro r hr; cases hr
  | v g as =>
    cases g with
    | true => intro r hr; cases hr
    | false => cases as with
      | nil => intro r hr; cases hr
      | cons b bs => cases bs with
        | nil => intro r hr; exact h r (List.mem_flatMap.2 ⟨b, by simp, hr⟩)
        | cons => intro r hr; cases hr
theorem loadsV_eq {a : AV} (h : Sees s s' a.roots) (n : Nat) (k : List LA → Step β) : s'.loadsV a n k = s.loadsV a n k := by
  cases a with
  | bx as => rfl
  | v g as => exact loads_eq (av_sees h) n k
  | tup vs => exact loads_eq (av_sees h) n k
theorem lent_eq : ∀ {as : List LA}, Sees s s' (as.flatMap LA.roots) → lent s' as = lent s as
  | [], _ => rfl
  | a :: as, h => by
    unfold lent
    simp only [List.any_cons]
    have ih := lent_eq (as := as) fun r hr => h r (by simp only [List.flatMap_cons, List.mem_append]; exact .inr hr)
    unfold lent at ih
    rw [ih]
    congr 1
    cases a with
    | ref c => simp only; rw [h c.r (by simp [LA.roots])]
    | _ => rfl
theorem alive_eq {la : LA} (h : Sees s s' la.roots) : s'.alive la = s.alive la := by
  cases la with
  | ptr r j ver => simp only [St.alive]; rw [h r (by simp [LA.roots])]
  | eptr c => simp only [St.alive]; rw [leaf_eq (h c.r (by simp [LA.roots]))]
  | _ => rfl
theorem sure_eq {la : LA} (h : Sees s s' la.roots) : s'.sure la = s.sure la := by
  cases la with
  | ptr r j ver => simp only [St.sure]; rw [h r (by simp [LA.roots])]
  | ref c => simp only [St.sure]; rw [leaf_eq (h c.r (by simp [LA.roots]))]
  | win c lo hi => simp only [St.sure]; rw [leaf_eq (h c.r (by simp [LA.roots]))]
  | eptr c => simp only [St.sure]; exact alive_eq h
  | _ => rfl
theorem take_eq {la : LA} (h : Sees s s' la.roots) (l : L) (k : LA → List (Nat × Nat) → Step β) : s'.take cx v la l k = s.take cx v la l k := by
  cases la with
  | ptr r j ver => simp only [St.take]; rw [h r (by simp [LA.roots])]
  | ref c => simp only [St.take]; rw [leaf_eq (h c.r (by simp [LA.roots]))]; simp only [content_eq (h c.r (by simp [LA.roots]))]
  | win c lo hi => simp only [St.take]; rw [leaf_eq (h c.r (by simp [LA.roots]))]
  | _ => rfl
theorem takes_eq : ∀ {ls : List L} {as : List LA} (h : Sees s s' (as.flatMap LA.roots)) (k : List LA → List (Nat × Nat) → Step β), s'.takes cx v ls as k = s.takes cx v ls as k
  | [], [], h, k => rfl
  | [], _ :: _, h, k => rfl
  | _ :: _, [], h, k => rfl
  | l :: ls, a :: as, h, k => by
    simp only [St.takes]
    rw [take_eq fun r hr => h r (by simp [hr])]
    congr 1; funext b us
    exact takes_eq (fun r hr => h r (by simp only [List.flatMap_cons, List.mem_append]; exact .inr hr)) _
theorem setIn_eq {c : Loc} (h : s'.root c.r = s.root c.r) (g : Nat) (vs : List Lv) : s'.setIn g c vs = s.setIn g c vs := by
  unfold St.setIn; rw [leaf_eq h]
theorem stores_eq {la : LA} (h : Sees s s' la.roots) {as : List LA} (h2 : Sees s s' (as.flatMap LA.roots)) (ls : List L) (k : List Wr → Step β) : s'.stores cx v la ls as k = s.stores cx v la ls as k := by
  cases la with
  | ptr r j ver => simp only [St.stores]; rw [h r (by simp [LA.roots]), takes_eq h2]
  | eptr c =>
    simp only [St.stores]
    rw [data_eq h2, takes_eq h2, leaf_eq (h c.r (by simp [LA.roots]))]
    congr 2
    funext vs
    rw [setIn_eq (h c.r (by simp [LA.roots]))]
  | _ => rfl
theorem lenOf_eq {la : LA} (h : Sees s s' la.roots) (k : Int → Step β) : lenOf s' la k = lenOf s la k := by
  cases la with
  | ref c => exact content_eq (h c.r (by simp [LA.roots])) _
  | win c lo hi => exact content_eq (h c.r (by simp [LA.roots])) _
  | _ => rfl
theorem moreOf_eq {la : LA} (h : Sees s s' la.roots) (t : TypeId) (e : Ls) (k : List e.D → List (Nat × Nat) → Step β) : moreOf cx s' la t e k = moreOf cx s la t e k := by
  unfold moreOf
  rw [datum_eq h]
  cases la with
  | ref c => simp only; rw [leaf_eq (h c.r (by simp [LA.roots]))]
  | _ => rfl
theorem appendTo_eq {la lb : LA} (h : Sees s s' la.roots) (h2 : Sees s s' lb.roots) (d v : Nat) (t : TypeId) (e : Ls) (k : List Wr → Step β) : appendTo cx s' d v t e la lb k = appendTo cx s d v t e la lb k := by
  cases la with
  | nils => simp only [appendTo]; exact moreOf_eq h2 _ _ _
  | ref c =>
    simp only [appendTo]
    rw [leaf_eq (h c.r (by simp [LA.roots]))]
    cases s.leaf c.r c.j with
    | arr ver gen t' e' xs dd =>
      simp only
      split
      · split
        · exact moreOf_eq h2 _ _ _
        · rfl
      · rfl
    | _ => rfl
  | win c lo hi =>
    simp only [appendTo]
    rw [leaf_eq (h c.r (by simp [LA.roots]))]
    cases s.leaf c.r c.j with
    | arr ver gen t' e' xs dd =>
      simp only
      split
      · split
        · exact moreOf_eq h2 _ _ _
        · rfl
      · rfl
    | _ => rfl
  | _ => rfl
theorem fillL_eq {fs : List (Nat × TypeId)} : ∀ {ps : List (Nat × Operand)} (h : ∀ p ∈ ps, s'.opd p.2 = s.opd p.2 ∧ Sees s s' (s.opd p.2).roots) (ls : List LA), fillL cx s' fs ps ls = fillL cx s fs ps ls
  | [], h, ls => rfl
  | (i, x) :: ps, h, ls => by
    obtain ⟨h1, h2⟩ := h (i, x) (by simp)
    dsimp only at h1 h2
    simp only [fillL]
    rw [h1]
    generalize s.opd x = p at h2
    cases p with
    | tup vs => rfl
    | bx as => rfl
    | v g as =>
      have : as.all s'.sure = as.all s.sure := by
        rw [Bool.eq_iff_iff, List.all_eq_true, List.all_eq_true]
        refine forall_congr' fun b => forall_congr' fun hb => ?_
        rw [sure_eq fun r hr => h2 r (List.mem_flatMap.2 ⟨b, hb, hr⟩)]
      cases nth? fs i with
      | none => rfl
      | some q =>
        obtain ⟨off, t⟩ := q
        dsimp only
        cases cx.ty t with
        | none => rfl
        | some tf =>
          dsimp only
          rw [this]
          split
          · exact fillL_eq (fun p hp => h p (List.mem_cons_of_mem _ hp)) _
          · rfl
theorem elemsOf_eq {e : Ls} : ∀ {ps : List (Nat × Operand)} (h : ∀ p ∈ ps, s'.opd p.2 = s.opd p.2 ∧ Sees s s' (s.opd p.2).roots) (n : Nat) (k : List e.D → List (Nat × Nat) → Step β), elemsOf cx s' v e ps n k = elemsOf cx s v e ps n k
  | [], h, n, k => rfl
  | (i, x) :: ps, h, n, k => by
    obtain ⟨h1, h2⟩ := h (i, x) (by simp)
    dsimp only at h1 h2
    have ih : ∀ (n : Nat) (k : List e.D → List (Nat × Nat) → Step β), elemsOf cx s' v e ps n k = elemsOf cx s v e ps n k := elemsOf_eq fun p hp => h p (List.mem_cons_of_mem _ hp)
    simp only [elemsOf]
    rw [h1]
    generalize s.opd x = p at h2
    cases p with
    | tup vs => rfl
    | bx as => rfl
    | v g as =>
      have h2 : Sees s s' (as.flatMap LA.roots) := h2
      simp only [data_eq h2, takes_eq h2, ih]

theorem deep_roots (r : Nat) : ∀ (ls : List (L × Nat)) (as : List LA) (j : Nat), deepAs ls as = true → ∀ b ∈ seenFrom r j as, ∀ r' ∈ b.roots, r' = r
  | [], [], j, h, b, hb, r', hr => by cases hb
  | [], _ :: _, j, h, b, hb, r', hr => by cases h
  | _ :: _, [], j, h, b, hb, r', hr => by cases h
  | (l, m) :: ls, a :: as, j, h, b, hb, r', hr => by
    simp only [deepAs, Bool.and_eq_true] at h
    rcases List.mem_cons.1 hb with hb | hb
    · subst hb
      cases a with
      | arr ver gen t e xs d => simpa [seen, LA.roots] using hr
      | sc l x => simp [seen, LA.roots] at hr
      | _ => simp at h
    · exact deep_roots r ls as (j + 1) h.2 b hb r' hr
theorem rowArg_eq {la : LA} (h : Sees s s' la.roots) (l : L) (d : Nat) (k : Lv → List Tg → Step β) : rowArg s' l d la k = rowArg s l d la k := by
  cases l with
  | sl t e =>
    cases la with
    | ref c =>
      show (if (match s'.leaf c.r c.j with
        | .arr _ _ _ _ _ dd => dd == d && (isNil c.p || d == 2)
        | _ => false) then s'.datum (.sl t e) (.ref c) _ else Step.none) = (if (match s.leaf c.r c.j with
        | .arr _ _ _ _ _ dd => dd == d && (isNil c.p || d == 2)
        | _ => false) then s.datum (.sl t e) (.ref c) _ else Step.none)
      rw [leaf_eq (h c.r (by simp [LA.roots])), datum_eq h]
    | _ => rfl
  | int i => exact datum_eq h _
  | bool => exact datum_eq h _
  | str => exact datum_eq h _
theorem rowArgs_eq : ∀ {ls : List (L × Nat)} {as : List LA} (h : Sees s s' (as.flatMap LA.roots)) (k : List Lv → List Tg → Step β), rowArgs s' ls as k = rowArgs s ls as k
  | [], [], h, k => rfl
  | [], _ :: _, h, k => rfl
  | _ :: _, [], h, k => rfl
  | (l, d) :: ls, a :: as, h, k => by
    simp only [rowArgs]
    rw [rowArg_eq fun r hr => h r (by simp [hr])]
    congr 1; funext x us
    exact rowArgs_eq (fun r hr => h r (by simp only [List.flatMap_cons, List.mem_append]; exact .inr hr)) _
theorem putRow_eq : ∀ {ls : List (L × Nat)} {as : List LA} (h : Sees s s' (as.flatMap LA.roots)) (vs : List Lv), putRow s' v ls as vs = putRow s v ls as vs
  | [], [], h, vs => rfl
  | [], _ :: _, h, vs => by simp [putRow]
  | _ :: _, [], h, vs => by simp [putRow]
  | _ :: _, _ :: _, h, [] => by simp [putRow]
  | (l, d) :: ls, a :: as, h, x :: vs => by
    simp only [putRow]
    rw [putRow_eq (fun r hr => h r (by simp only [List.flatMap_cons, List.mem_append]; exact .inr hr)) vs]
    cases a with
    | ref c =>
      have e : s'.leaf c.r c.j = s.leaf c.r c.j := leaf_eq (h c.r (by simp [LA.roots])) c.j
      simp only [e]
    | _ => rfl
theorem argsOf_eq : ∀ {ps : List PM} {vs : List AV} (h : ∀ a ∈ vs, Sees s s' a.roots) (k : List Lv → List Tg → Step β), argsOf s' ps vs k = argsOf s ps vs k
  | [], [], h, k => rfl
  | [], _ :: _, h, k => by simp only [argsOf]
  | pm :: ps, [], h, k => by cases pm <;> simp only [argsOf]
  | pm :: ps, a :: vs, h, k => by
    have ih : ∀ (k : List Lv → List Tg → Step β), argsOf s' ps vs k = argsOf s ps vs k := argsOf_eq fun a ha => h a (List.mem_cons_of_mem _ ha)
    have ha := h a (by simp)
    cases pm with
    | val g ls =>
      cases a with
      | tup vs => simp only [argsOf]
      | bx as => simp only [argsOf]
      | v g' as =>
        simp only [argsOf]
        rw [data_eq (show Sees s s' (as.flatMap LA.roots) from ha)]
        simp only [ih]
    | fn f =>
      unfold argsOf
      split
      all_goals (try rename_i e1 e2; try cases e1; try cases e2; try rfl)
      all_goals (try simp only [ih])
    | box ls =>
      unfold argsOf
      split
      all_goals (try rename_i e1 e2; try cases e1; try cases e2; try rfl)
      rename_i r ver
      have hr : s'.root r = s.root r := ha r (by simp [AV.roots, LA.roots])
      · rw [hr]
        by_cases hc : ((s.root r).box && (s.root r).ver == ver && deepAs ls (s.root r).ls) = true
        · rw [if_pos hc, if_pos hc]
          have hdeep : deepAs ls (s.root r).ls = true := by simp only [Bool.and_eq_true] at hc; exact hc.2
          have hd : Sees s s' ((seenFrom r 0 (s.root r).ls).flatMap LA.roots) := fun r' hr' => by
            obtain ⟨b, hb, hb'⟩ := List.mem_flatMap.1 hr'
            rw [deep_roots r ls _ 0 hdeep b hb r' hb']; exact hr
          simp only [ih]
          exact data_eq hd _
        · rw [if_neg hc, if_neg hc]
      all_goals rfl
    | row g ls =>
      cases a with
      | tup vs => simp only [argsOf]
      | bx as => simp only [argsOf]
      | v g' as =>
        simp only [argsOf]
        rw [rowArgs_eq (show Sees s s' (as.flatMap LA.roots) from ha)]
        simp only [ih]
theorem putBacks_eq : ∀ {ps : List PM} {avs : List AV} (h : ∀ a ∈ avs, Sees s s' a.roots) (vs : List Lv), putBacks s' v ps avs vs = putBacks s v ps avs vs
  | [], [], h, [] => rfl
  | [], [], h, _ :: _ => rfl
  | [], _ :: _, h, vs => by simp only [putBacks]
  | pm :: ps, [], h, vs => by cases pm <;> simp only [putBacks]
  | pm :: ps, a :: avs, h, vs => by
    have ih : ∀ vs, putBacks s' v ps avs vs = putBacks s v ps avs vs := putBacks_eq fun a ha => h a (List.mem_cons_of_mem _ ha)
    have ha := h a (by simp)
    cases pm with
    | val g ls => simp only [putBacks, ih]
    | fn f => simp only [putBacks, ih]
    | box ls =>
      unfold putBacks
      split
      all_goals (try rename_i e1 e2; try cases e1; try cases e2; try rfl)
      · rw [ih]
      all_goals rfl
    | row g ls =>
      cases a with
      | tup vs => simp only [putBacks]
      | bx as => simp only [putBacks]
      | v g' as =>
        simp only [putBacks]
        rw [putRow_eq (show Sees s s' (as.flatMap LA.roots) from ha)]
        simp only [ih]
theorem freezes_eq : ∀ {rs : List Nat} (h : Sees s s' rs), freezes cx s' rs = freezes cx s rs
  | [], h => rfl
  | r :: rs, h => by
    simp only [freezes]
    rw [freezes_eq (fun r hr => h r (List.mem_cons_of_mem _ hr)), h r (by simp)]
theorem valRoots_sub : ∀ (ps : List PM) (avs : List AV) (r : Nat), r ∈ valRoots ps avs → ∃ a ∈ avs, r ∈ a.roots
  | [], _, r, h => by simp [valRoots] at h
  | pm :: _, [], r, h => by cases pm <;> simp [valRoots] at h
  | pm :: ps, a :: avs, r, h => by
    have ih := valRoots_sub ps avs r
    have sub : r ∈ valRoots ps avs → ∃ b ∈ a :: avs, r ∈ b.roots := fun h => let ⟨b, hb, hr⟩ := ih h; ⟨b, List.mem_cons_of_mem _ hb, hr⟩
    cases pm with
    | val g ls =>
      rcases List.mem_append.1 (show r ∈ a.roots ++ valRoots ps avs from h) with h | h
      · exact ⟨a, by simp, h⟩
      · exact sub h
    | _ => exact sub h
theorem call_eq {avs : List AV} (h : ∀ a ∈ avs, Sees s s' a.roots) (d : Nat) (f : FuncId) (k : List Wr → Step β) : call cx s' d v f avs k = call cx s d v f avs k := by
  unfold call
  cases cx.env f with
  | none => rfl
  | some g =>
    dsimp only
    cases g.s.mk? with
    | true => simp only [if_true]; rw [argsOf_eq h]
    | false =>
    simp only [Bool.false_eq_true, if_false]
    rw [argsOf_eq h]
    have h2 : ∀ vs, putBacks s' v g.s.ps avs vs = putBacks s v g.s.ps avs vs := putBacks_eq h
    have h3 : freezes cx s' (valRoots g.s.ps avs) = freezes cx s (valRoots g.s.ps avs) := freezes_eq fun r hr => let ⟨a, ha, hr'⟩ := valRoots_sub _ _ r hr; h a ha r hr'
    simp only [h2, h3]

def Wr.isLeaf : Wr → Bool
  | .leaf _ _ _ => true
  | _ => false
theorem app1_leaf_root (s : St) (r j : Nat) (a : LA) (r' : Nat) : (s.app1 (.leaf r j a)).root r' = if r = r' then { s.root r with ls := upd (s.root r).ls j a } else s.root r' := by
  show nth dead (upd s.ro r _) r' = _
  rw [nth_upd]
  by_cases h : r = r'
  · subst h
    by_cases hl : r < s.ro.length
    · rw [if_pos ⟨rfl, hl⟩, if_pos rfl]
    · rw [if_neg (fun hh => hl hh.2), if_pos rfl]
      have : s.root r = dead := nth_ge _ (Nat.le_of_not_lt hl)
      show s.root r = _
      rw [this]; rfl
  · rw [if_neg (fun hh => h hh.1), if_neg h]; rfl
theorem Sees.app {rs : List Nat} (h : Sees s s' rs) : ∀ {fs : List Wr}, (∀ w ∈ fs, w.isLeaf = true) → Sees (s.app fs) (s'.app fs) rs := by
  intro fs hf r hr
  have key : ∀ (fs : List Wr) (s s' : St), (∀ w ∈ fs, w.isLeaf = true) → s'.root r = s.root r → (s'.app fs).root r = (s.app fs).root r := by
    intro fs
    induction fs with
    | nil => intro s s' _ h; exact h
    | cons w fs ih =>
      intro s s' hf h
      have hw := hf w List.mem_cons_self
      refine ih _ _ (fun x hx => hf x (List.mem_cons_of_mem _ hx)) ?_
      cases w with
      | leaf r0 j a =>
        rw [app1_leaf_root, app1_leaf_root]
        by_cases e : r0 = r
        · subst e; rw [if_pos rfl, if_pos rfl, h]
        · rw [if_neg e, if_neg e, h]
      | slot t a => cases hw
      | root r x => cases hw
  exact key fs s s' hf (h r hr)
theorem leafWrs_leaf : ∀ (r j : Nat) (ls : List LA), ∀ w ∈ leafWrs r j ls, w.isLeaf = true
  | _, _, [], w, hw => by cases hw
  | r, j, a :: as, w, hw => by
    rcases List.mem_cons.1 hw with e | hw
    · subst e; rfl
    · exact leafWrs_leaf r (j + 1) as w hw
theorem freezes_leaf : ∀ {rs : List Nat} {fs : List Wr}, freezes cx s rs = some fs → ∀ w ∈ fs, w.isLeaf = true
  | [], fs, h, w, hw => by injection h with h; subst h; cases hw
  | r :: rs, fs, h, w, hw => by
    simp only [freezes] at h
    split at h
    · cases h
    · split at h
      · rename_i ws' hws
        injection h with h; subst h
        rcases List.mem_append.1 hw with hw | hw
        · exact leafWrs_leaf r 0 _ w hw
        · exact freezes_leaf hws w hw
      · cases h
theorem nestR_sub : ∀ {as : List LA} {r : Nat}, r ∈ nestR as → r ∈ as.flatMap LA.roots
  | [], r, h => by cases h
  | a :: as, r, h => by
    rw [List.flatMap_cons]
    refine List.mem_append.2 ?_
    cases a with
    | ref c =>
      simp only [nestR] at h
      split at h
      · exact .inr (nestR_sub h)
      · rcases List.mem_cons.1 h with e | h
        · subst e; exact .inl (by simp [LA.roots])
        · exact .inr (nestR_sub h)
    | _ => exact .inr (nestR_sub (by simpa [nestR] using h))
theorem nestS_sub {q : LA} {as : List LA} {r : Nat} (h : r ∈ nestS q as) : r ∈ as.flatMap LA.roots := by
  cases q with
  | ptr => exact nestR_sub h
  | _ => cases h

/-- The states agree on what the mask names. -/
def Agree (m : Nat) (s s' : St) : Prop := (∀ t, m.testBit (2 * t) = true → s'.slot t = s.slot t) ∧ ∀ r, m.testBit (2 * r + 1) = true → s'.root r = s.root r

end
end Go.Ev

namespace Go.Ev
set_option linter.unusedVariables false
set_option linter.unusedSimpArgs false

section
variable {s s' : St} {cx : Cx} {v : Nat} {β : Type}

/-- Both see the operand alike. -/
def SeesX (s s' : St) (x : Operand) : Prop := s'.opd x = s.opd x ∧ Sees s s' (s.opd x).roots
theorem SeesX.one {x : Operand} (h : SeesX s s' x) : s'.opd1 x = s.opd1 x ∧ Sees s s' (s.opd1 x).roots := by
  refine ⟨by unfold St.opd1; rw [h.1], fun r hr => h.2 r ?_⟩
  unfold St.opd1 at hr
  cases hq : s.opd x with
  | tup vs => rw [hq] at hr; cases hr
  | bx as => rw [hq] at hr; cases hr
  | v g as =>
    rw [hq] at hr
    cases g with
    | true => cases hr
    | false => cases as with
      | nil => cases hr
      | cons b bs => cases bs with
        | nil => exact List.mem_flatMap.2 ⟨b, by simp, hr⟩
        | cons => cases hr
theorem asIntO_eq {x : Option Operand} (h : ∀ y, x = some y → SeesX s s' y) (d : Int) (k : Int → Step β) : asIntO s' x d k = asIntO s x d k := by
  cases x with
  | none => rfl
  | some y => simp only [asIntO]; rw [(h y rfl).one.1]

theorem call_case {o : Oper} {c : Call} (ho : o.op = .call c) (hargs : ∀ x ∈ c.args.toList, SeesX s s' x) (hfn : ∀ f, c.callee = .value f → SeesX s s' f) : opDelta cx v o s' = opDelta cx v o s := by
  cases hb : c.callee with
  | builtin b =>
    cases b with
    | len =>
      simp only [opDelta, ho, hb]
      split
      · rename_i x t hx ht
        have hx := (hargs x (by rw [hx]; simp)).one
        simp only [hx.1, lenOf_eq hx.2]
      · rfl
    | append =>
      simp only [opDelta, ho, hb]
      split
      · rename_i x y t1 t2 ty d hx _ _ _
        have hx1 := (hargs x (by rw [hx]; simp)).one
        have hy1 := (hargs y (by rw [hx]; simp)).one
        simp only [hx1.1, hy1.1, appendTo_eq hx1.2 hy1.2]
      · rfl
    | min =>
      simp only [opDelta, ho, hb]
      split
      · rename_i x y hx
        have hx1 := (hargs x (by rw [hx]; simp)).one
        have hy1 := (hargs y (by rw [hx]; simp)).one
        rw [hx1.1, hy1.1]
      · rfl
    | max =>
      simp only [opDelta, ho, hb]
      split
      · rename_i x y hx
        have hx1 := (hargs x (by rw [hx]; simp)).one
        have hy1 := (hargs y (by rw [hx]; simp)).one
        rw [hx1.1, hy1.1]
      · rfl
    | _ => simp only [opDelta, ho, hb]
  | value f =>
    have hf := (hfn f hb).one
    have hmap : c.args.toList.map s'.opd = c.args.toList.map s.opd := List.map_congr_left fun x hx => (hargs x hx).1
    have hroots : ∀ a ∈ c.args.toList.map s.opd, Sees s s' a.roots := fun a ha => by
      obtain ⟨x, hx, rfl⟩ := List.mem_map.1 ha
      exact (hargs x hx).2
    simp only [opDelta, ho, hb]
    rw [hf.1, hmap]
    simp only [call_eq hroots]
  | invoke r n => simp only [opDelta, ho, hb]

theorem opDelta_eq {o : Oper} (h : ∀ x ∈ o.op.operands.toList, SeesX s s' x) : opDelta cx v o s' = opDelta cx v o s := by
  by_cases hcall : ∃ c, o.op = .call c
  · obtain ⟨c, ho⟩ := hcall
    exact call_case ho (fun x hx => h x (by rw [ho]; simp [Op.operands, Call.operands]; exact .inr (by simpa using hx))) fun f hb => h f (by rw [ho]; simp [Op.operands, Call.operands, hb])
  unfold opDelta
  cases ho : o.op with
  | move x =>
    have hx := h x (by rw [ho]; simp [Op.operands])
    simp only [hx.1]
  | assign x =>
    have hx := (h x (by rw [ho]; simp [Op.operands])).one
    simp only [hx.1]
    cases o.dst with
    | none => rfl
    | some d =>
      have hx2 := hx.2
      generalize s.opd1 x = p at hx2
      cases p <;> first | rfl | simp only [take_eq hx2]
  | pick x y z =>
    have hx := (h x (by rw [ho]; simp [Op.operands])).one
    have hy := h y (by rw [ho]; simp [Op.operands])
    have hz := h z (by rw [ho]; simp [Op.operands])
    simp only [hx.1, hy.1, hz.1]
  | alloc t => rfl
  | box t x =>
    have hx := h x (by rw [ho]; simp [Op.operands])
    simp only [hx.1]
    have hx2 := hx.2
    generalize s.opd x = p at hx2
    cases cx.ty t with
    | none => rfl
    | some ty => cases o.dst with
      | none => rfl
      | some d => cases p with
        | tup vs => rfl
        | bx as => rfl
        | v g as =>
          simp only [lent_eq (show Sees s s' (as.flatMap LA.roots) from hx2), takes_eq (show Sees s s' (as.flatMap LA.roots) from hx2)]
  | build t ps =>
    have hp : ∀ p ∈ ps.toList, s'.opd p.2 = s.opd p.2 ∧ Sees s s' (s.opd p.2).roots := fun p hp => h p.2 (by rw [ho]; simp only [Op.operands, List.toList_toArray]; exact List.mem_map.2 ⟨p, hp, rfl⟩)
    simp only [fillL_eq hp]
  | buildSlice t n ps =>
    have hp : ∀ p ∈ ps.toList, s'.opd p.2 = s.opd p.2 ∧ Sees s s' (s.opd p.2).roots := fun p hp => h p.2 (by rw [ho]; simp only [Op.operands, List.toList_toArray]; exact List.mem_map.2 ⟨p, hp, rfl⟩)
    simp only [elemsOf_eq hp]
  | load t x =>
    have hx := h x (by rw [ho]; simp [Op.operands])
    simp only [hx.1, loadsV_eq hx.2]
  | store t x y =>
    have hx := (h x (by rw [ho]; simp [Op.operands])).one
    have hy := h y (by rw [ho]; simp [Op.operands])
    simp only [hx.1, hy.1]
    have hy2 := hy.2
    generalize s.opd y = p at hy2
    cases cx.ty t with
    | none => rfl
    | some ty => cases p with
      | tup vs => rfl
      | bx as => rfl
      | v g as =>
        have hy2 : Sees s s' (as.flatMap LA.roots) := hy2
        dsimp only
        cases hn : nestS (s.opd1 x) as with
        | nil => simp only [storeD, stores_eq hx.2 hy2]
        | cons r rs =>
          have hsub : Sees s s' (r :: rs) := fun r' hr' => hy2 r' (by rw [← hn] at hr'; exact nestS_sub hr')
          simp only [freezes_eq hsub]
          cases hf : freezes cx s (r :: rs) with
          | none => rfl
          | some fs =>
            have hleafs := freezes_leaf hf
            simp only [storeD, stores_eq (hx.2.app hleafs) (hy2.app hleafs)]
  | nilCheck x =>
    have hx := h x (by rw [ho]; simp [Op.operands])
    simp only [hx.1]
    have hx2 := hx.2
    generalize s.opd x = p at hx2
    cases p with
    | bx as => rfl
    | v g as => simp only [alive_eq (av_sees hx2)]
    | tup vs => simp only [alive_eq (av_sees hx2)]
  | binOp op tx x y ty =>
    have hx := (h x (by rw [ho]; simp [Op.operands])).one
    have hy := (h y (by rw [ho]; simp [Op.operands])).one
    simp only [hx.1, hy.1]
  | unOp op tx x =>
    have hx := (h x (by rw [ho]; simp [Op.operands])).one
    simp only [hx.1]
  | convert t1 t2 x =>
    have hx := (h x (by rw [ho]; simp [Op.operands])).one
    simp only [hx.1]
    have hx2 := hx.2
    generalize s.opd1 x = p at hx2
    cases cx.ty t1 with
    | none => rfl
    | some ta => cases cx.ty t2 with
      | none => rfl
      | some ty => cases p with
        | sc l z => cases l <;> first | rfl | (simp only [datum_eq hx2])
        | _ => simp only [datum_eq hx2]
  | makeSlice t x y =>
    have hx := (h x (by rw [ho]; simp [Op.operands])).one
    have hy := (h y (by rw [ho]; simp [Op.operands])).one
    simp only [hx.1, hy.1]
  | slice ti x lo hi m =>
    have hx := (h x (by rw [ho]; simp [Op.operands])).one
    have hlo : ∀ y, lo = some y → SeesX s s' y := fun y e => h y (by rw [ho, e]; simp [Op.operands])
    have hhi : ∀ y, hi = some y → SeesX s s' y := fun y e => h y (by rw [ho, e]; simp [Op.operands])
    cases m with
    | some m => rfl
    | none =>
      simp only [hx.1]
      have hx2 := hx.2
      generalize s.opd1 x = p at hx2
      cases p with
      | sc l b => cases l <;> simp only [asIntO_eq hlo, asIntO_eq hhi]
      | ref c => simp only [asIntO_eq hlo, asIntO_eq hhi, content_eq (hx2 c.r (by simp [LA.roots]))]
      | _ => rfl
  | fieldAddr t x f =>
    have hx := h x (by rw [ho]; simp [Op.operands])
    simp only [hx.1]
    have hx2 := hx.2
    generalize s.opd x = p at hx2
    cases p with
    | bx as => rfl
    | v g as => simp only [alive_eq (av_sees hx2)]
    | tup vs => simp only [alive_eq (av_sees hx2)]
  | field t x f =>
    have hx := h x (by rw [ho]; simp [Op.operands])
    simp only [hx.1]
  | indexAddr ti x i =>
    have hx := (h x (by rw [ho]; simp [Op.operands])).one
    have hi := (h i (by rw [ho]; simp [Op.operands])).one
    simp only [hx.1, hi.1]
    have hx2 := hx.2
    generalize s.opd1 x = p at hx2
    cases p with
    | ref c => simp only [content_eq (hx2 c.r (by simp [LA.roots]))]
    | win c lo hi => simp only [content_eq (hx2 c.r (by simp [LA.roots]))]
    | sc l b => cases l <;> rfl
    | _ => rfl
  | index ti x i =>
    have hx := (h x (by rw [ho]; simp [Op.operands])).one
    have hi := (h i (by rw [ho]; simp [Op.operands])).one
    simp only [hx.1, hi.1]
  | extract x i =>
    have hx := h x (by rw [ho]; simp [Op.operands])
    simp only [hx.1]
  | call c => exact absurd ⟨c, ho⟩ hcall
  | _ => rfl

/-! ### masks -/

theorem bit_lor (a b i : Nat) : (Nat.lor a b).testBit i = (a.testBit i || b.testBit i) := Nat.testBit_or a b i
theorem bit_pow (n i : Nat) : (2 ^ n).testBit i = decide (n = i) := Nat.testBit_two_pow
theorem av_mask (a : AV) (r : Nat) (h : r ∈ a.roots) : a.mask.testBit (2 * r + 1) = true := by
  unfold AV.mask
  revert h
  generalize a.roots = rs
  intro h
  induction rs with
  | nil => cases h
  | cons x rs ih =>
    rw [List.foldr_cons, bit_lor, bit_pow]
    rcases List.mem_cons.1 h with rfl | h
    · simp
    · rw [ih h]; simp
theorem fold_mask (s : St) : ∀ (xs : List Operand) (m0 : Nat) (x : Operand), x ∈ xs → (∀ t, x = .tmp t → (xs.foldr (fun x m => match x with
    | .tmp t => Nat.lor (2 ^ (2 * t)) (Nat.lor (s.slot t).mask m)
    | _ => m) m0).testBit (2 * t) = true ∧ ∀ r ∈ (s.slot t).roots, (xs.foldr (fun x m => match x with
    | .tmp t => Nat.lor (2 ^ (2 * t)) (Nat.lor (s.slot t).mask m)
    | _ => m) m0).testBit (2 * r + 1) = true)
  | [], m0, x, h, t, e => by cases h
  | y :: xs, m0, x, h, t, e => by
    rw [List.foldr_cons]
    rcases List.mem_cons.1 h with h | h
    · subst h; subst e
      dsimp only
      refine ⟨by rw [bit_lor, bit_pow]; simp, fun r hr => by rw [bit_lor, bit_lor, av_mask _ r hr]; simp⟩
    · obtain ⟨h1, h2⟩ := fold_mask s xs m0 x h t e
      cases y with
      | tmp u =>
        dsimp only
        exact ⟨by rw [bit_lor, bit_lor, h1]; simp, fun r hr => by rw [bit_lor, bit_lor, h2 r hr]; simp⟩
      | _ => exact ⟨h1, h2⟩
theorem fold_mask0 (s : St) (i : Nat) : ∀ (xs : List Operand) (m0 : Nat), m0.testBit i = true → (xs.foldr (fun x m => match x with
    | .tmp t => Nat.lor (2 ^ (2 * t)) (Nat.lor (s.slot t).mask m)
    | _ => m) m0).testBit i = true
  | [], m0, h => h
  | y :: xs, m0, h => by
    rw [List.foldr_cons]
    have := fold_mask0 s i xs m0 h
    cases y with
    | tmp u => dsimp only; rw [bit_lor, bit_lor, this]; simp
    | _ => exact this

theorem const_roots (x : Operand) (h : ∀ t, x ≠ .tmp t) : s'.opd x = s.opd x ∧ (s.opd x).roots = [] := by
  have hv : ∀ v, (ofConst v).roots = [] := fun v => by
    cases v with
    | slice A n c =>
      cases A with
      | none => cases n with
        | zero => cases c <;> rfl
        | succ n => rfl
      | some a => rfl
    | pointer A => cases A <;> rfl
    | _ => rfl
  cases x with
  | tmp t => exact absurd rfl (h t)
  | const c =>
    cases c with
    | agg cs =>
      refine ⟨rfl, ?_⟩
      show (cs.toList.map ofConst).flatMap LA.roots = []
      rw [List.flatMap_map]
      simp only [hv, flatNil]
    | bool b => exact ⟨rfl, by simp [St.opd, AV.roots, hv]⟩
    | int k n => exact ⟨rfl, by simp [St.opd, AV.roots, hv]⟩
    | float k n => exact ⟨rfl, by simp [St.opd, AV.roots, hv]⟩
    | complex k x y => exact ⟨rfl, by simp [St.opd, AV.roots, hv]⟩
    | string b => exact ⟨rfl, by simp [St.opd, AV.roots, hv]⟩
    | pointer b => exact ⟨rfl, by simp [St.opd, AV.roots, hv]⟩
    | slice b n c => exact ⟨rfl, by simp [St.opd, AV.roots, hv]⟩
    | map r => exact ⟨rfl, by simp [St.opd, AV.roots, hv]⟩
    | chan r => exact ⟨rfl, by simp [St.opd, AV.roots, hv]⟩
    | func f x y => exact ⟨rfl, by simp [St.opd, AV.roots, hv]⟩
    | nilFunc => exact ⟨rfl, by simp [St.opd, AV.roots, hv]⟩
    | iface t x => exact ⟨rfl, by simp [St.opd, AV.roots, hv]⟩
    | nilIface => exact ⟨rfl, by simp [St.opd, AV.roots, hv]⟩
    | tuple vs => exact ⟨rfl, by simp [St.opd, AV.roots, hv]⟩
  | global g => exact ⟨rfl, rfl⟩
  | func f => exact ⟨rfl, rfl⟩

/-- An operation writes alike where the states agree on what it reads. -/
theorem foot_ok {ops : Array Oper} {o : Oper} (h : Agree (readMask ops o s) s s') : opDelta cx v o s' = opDelta cx v o s ∧ ∀ j want t, o.guard = some (j, want) → (ops[j]?).bind (·.dst) = some t → s'.slot t = s.slot t := by
  have hguard : ∀ j want t, o.guard = some (j, want) → (ops[j]?).bind (·.dst) = some t → (guardMask ops o).testBit (2 * t) = true := by
    intro j want t hg ht
    unfold guardMask
    rw [hg]
    dsimp only
    rw [ht]
    dsimp only
    rw [bit_pow]; simp
  by_cases hm : ∃ t, o.op = .move (.tmp t) ∨ (∃ i, o.op = .extract (.tmp t) i) ∨ ∃ T f, o.op = .field T (.tmp t) f
  · obtain ⟨t, ho⟩ := hm
    have hrm : readMask ops o s = Nat.lor (2 ^ (2 * t)) (guardMask ops o) := by rcases ho with ho | ⟨i, ho⟩ | ⟨T, f, ho⟩ <;> (unfold readMask; rw [ho])
    rw [hrm] at h
    have h1 : s'.slot t = s.slot t := h.1 t (by rw [bit_lor, bit_pow]; simp)
    refine ⟨?_, fun j want u hg ht => h.1 u (by rw [bit_lor, hguard j want u hg ht]; simp)⟩
    have h2 : s'.opd (.tmp t) = s.opd (.tmp t) := h1
    unfold opDelta
    rcases ho with ho | ⟨i, ho⟩ | ⟨T, f, ho⟩ <;> (rw [ho]; simp only [h2])
  have hrm : readMask ops o s = o.op.operands.toList.foldr (fun x m => match x with
    | .tmp t => Nat.lor (2 ^ (2 * t)) (Nat.lor (s.slot t).mask m)
    | _ => m) (guardMask ops o) := by
    unfold readMask
    split
    · rename_i t ho; exact absurd ⟨t, .inl ho⟩ hm
    · rename_i t i ho; exact absurd ⟨t, .inr (.inl ⟨_, ho⟩)⟩ hm
    · rename_i T t f ho; exact absurd ⟨t, .inr (.inr ⟨_, _, ho⟩)⟩ hm
    · rfl
  rw [hrm] at h
  refine ⟨opDelta_eq fun x hx => ?_, fun j want t hg ht => ?_⟩
  · by_cases hq : ∃ t, x = .tmp t
    · obtain ⟨t, rfl⟩ := hq
      obtain ⟨h1, h2⟩ := fold_mask s o.op.operands.toList _ (.tmp t) hx t rfl
      exact ⟨h.1 t h1, fun r hr => h.2 r (h2 r hr)⟩
    · obtain ⟨h1, h2⟩ := const_roots (s := s) (s' := s') x fun t e => hq ⟨t, e⟩
      exact ⟨h1, fun r hr => by rw [h2] at hr; cases hr⟩
  · exact h.1 t (fold_mask0 s _ _ _ (hguard j want t hg ht))
end
end Go.Ev

namespace Go.Ev
set_option linter.unusedVariables false
set_option linter.unusedSimpArgs false

/-! ### writes -/

def Apart (m n : Nat) : Prop := ∀ i, m.testBit i = true → n.testBit i = false
theorem apart_land {m n : Nat} (h : (Nat.land m n == 0) = true) : Apart m n := by
  intro i hi
  have h0 : m &&& n = 0 := by simpa using h
  have := congrArg (fun x => x.testBit i) h0
  simp only [Nat.testBit_and, Nat.zero_testBit, hi, Bool.true_and] at this
  exact this
theorem Apart.symm {m n : Nat} (h : Apart m n) : Apart n m := fun i hi => by
  cases hm : m.testBit i with
  | false => rfl
  | true => rw [h i hm] at hi; cases hi

theorem app1_len (s : St) (w : Wr) : (s.app1 w).sl.length = s.sl.length ∧ (s.app1 w).ro.length = s.ro.length := by
  cases w <;> exact ⟨by simp [St.app1, upd_len], by simp [St.app1, upd_len]⟩
theorem app_len : ∀ (ws : List Wr) (s : St), (s.app ws).sl.length = s.sl.length ∧ (s.app ws).ro.length = s.ro.length
  | [], s => ⟨rfl, rfl⟩
  | w :: ws, s => by
    obtain ⟨h1, h2⟩ := app_len ws (s.app1 w)
    obtain ⟨h3, h4⟩ := app1_len s w
    exact ⟨h1.trans h3, h2.trans h4⟩
theorem app_ctr : ∀ (ws : List Wr) (s : St), (s.app ws).ctr = s.ctr
  | [], s => rfl
  | w :: ws, s => (app_ctr ws (s.app1 w)).trans (by cases w <;> rfl)

theorem app1_slot_miss {s : St} {w : Wr} {t : Nat} (h : w.mask.testBit (2 * t) = false) : (s.app1 w).slot t = s.slot t := by
  cases w with
  | slot u a =>
    simp only [Wr.mask, bit_pow, decide_eq_false_iff_not] at h
    rw [slot_app, if_neg (fun hh => h (by rw [hh.1]))]
  | root r x => rfl
  | leaf r j a => rfl
theorem app1_root_miss {s : St} {w : Wr} {r : Nat} (h : w.mask.testBit (2 * r + 1) = false) : (s.app1 w).root r = s.root r := by
  cases w with
  | slot u a => rfl
  | root q x =>
    simp only [Wr.mask, bit_pow, decide_eq_false_iff_not] at h
    rw [root_app, if_neg (fun hh => h (by rw [hh.1]))]
  | leaf q j a =>
    simp only [Wr.mask, bit_pow, decide_eq_false_iff_not] at h
    show nth dead (upd s.ro q _) r = _
    rw [nth_upd, if_neg (fun hh => h (by rw [hh.1]))]; rfl
theorem writeMask_cons (w : Wr) (ws : List Wr) (i : Nat) : (writeMask (w :: ws)).testBit i = (w.mask.testBit i || (writeMask ws).testBit i) := bit_lor _ _ _
theorem app_slot_miss {t : Nat} : ∀ {ws : List Wr} {s : St}, (writeMask ws).testBit (2 * t) = false → (s.app ws).slot t = s.slot t
  | [], s, h => rfl
  | w :: ws, s, h => by
    rw [writeMask_cons, Bool.or_eq_false_iff] at h
    exact (app_slot_miss h.2).trans (app1_slot_miss h.1)
theorem app_root_miss {r : Nat} : ∀ {ws : List Wr} {s : St}, (writeMask ws).testBit (2 * r + 1) = false → (s.app ws).root r = s.root r
  | [], s, h => rfl
  | w :: ws, s, h => by
    rw [writeMask_cons, Bool.or_eq_false_iff] at h
    exact (app_root_miss h.2).trans (app1_root_miss h.1)
/-- What lies at a place after writes follows from what lay there. -/
theorem app_slot_cong {t : Nat} : ∀ {ws : List Wr} {s s' : St}, s'.sl.length = s.sl.length → s'.slot t = s.slot t → (s'.app ws).slot t = (s.app ws).slot t
  | [], s, s', hl, h => h
  | w :: ws, s, s', hl, h => by
    show ((s'.app1 w).app ws).slot t = ((s.app1 w).app ws).slot t
    refine app_slot_cong ((app1_len s' w).1.trans (hl.trans (app1_len s w).1.symm)) ?_
    cases w with
    | slot u a => rw [slot_app, slot_app, hl, h]
    | root r x => exact h
    | leaf r j a => exact h
theorem app_root_cong {r : Nat} : ∀ {ws : List Wr} {s s' : St}, s'.ro.length = s.ro.length → s'.root r = s.root r → (s'.app ws).root r = (s.app ws).root r
  | [], s, s', hl, h => h
  | w :: ws, s, s', hl, h => by
    show ((s'.app1 w).app ws).root r = ((s.app1 w).app ws).root r
    refine app_root_cong ((app1_len s' w).2.trans (hl.trans (app1_len s w).2.symm)) ?_
    cases w with
    | slot u a => exact h
    | root q x => rw [root_app, root_app, hl, h]
    | leaf q j a =>
      show nth dead (upd s'.ro q _) r = nth dead (upd s.ro q _) r
      rw [nth_upd, nth_upd, hl]
      split
      · rename_i hq; obtain ⟨rfl, _⟩ := hq; rw [h]
      · exact h

theorem upd_comm {α : Type} (l : List α) {n m : Nat} (h : n ≠ m) (x y : α) : upd (upd l n x) m y = upd (upd l m y) n x := by
  rw [upd_set, upd_set, upd_set, upd_set]; exact List.set_comm _ _ h
theorem app1_comm {s : St} {w w' : Wr} (h : Apart w.mask w'.mask) : (s.app1 w).app1 w' = (s.app1 w').app1 w := by
  have key : ∀ {n m : Nat}, Apart (2 ^ n) (2 ^ m) → n ≠ m := by
    intro n m h e
    have := h n (by rw [bit_pow]; simp)
    rw [bit_pow, e] at this; simp at this
  cases w with
  | slot t a => cases w' with
    | slot u b =>
      have hne : t ≠ u := fun e => key h (by rw [e])
      simp only [St.app1]; rw [upd_comm _ hne]
    | root r x => rfl
    | leaf r j b => rfl
  | root r x => cases w' with
    | slot u b => rfl
    | root q y =>
      have hne : r ≠ q := fun e => key h (by rw [e])
      simp only [St.app1]; rw [upd_comm _ hne]
    | leaf q j b =>
      have hne : r ≠ q := fun e => key h (by rw [e])
      have e1 : (s.app1 (.root r x)).root q = s.root q := by rw [root_app, if_neg (fun hh => hne hh.1)]
      simp only [St.app1] at e1 ⊢
      rw [e1, upd_comm _ hne]
  | leaf r j a => cases w' with
    | slot u b => rfl
    | root q y =>
      have hne : q ≠ r := fun e => key h (by rw [e])
      have e1 : (s.app1 (.root q y)).root r = s.root r := by rw [root_app, if_neg (fun hh => hne hh.1)]
      simp only [St.app1] at e1 ⊢
      rw [e1, upd_comm _ hne.symm]
    | leaf q k b =>
      have hne : r ≠ q := fun e => key h (by rw [e])
      have e1 : (s.app1 (.leaf r j a)).root q = s.root q := app1_root_miss (by simp only [Wr.mask, bit_pow, decide_eq_false_iff_not]; omega)
      have e2 : (s.app1 (.leaf q k b)).root r = s.root r := app1_root_miss (by simp only [Wr.mask, bit_pow, decide_eq_false_iff_not]; omega)
      simp only [St.app1] at e1 e2 ⊢
      rw [e1, e2, upd_comm _ hne]
theorem app_app1_comm {w : Wr} : ∀ {ws : List Wr} {s : St}, Apart w.mask (writeMask ws) → (s.app1 w).app ws = (s.app ws).app1 w
  | [], s, h => rfl
  | w' :: ws, s, h => by
    have h1 : Apart w.mask w'.mask := fun i hi => by have := h i hi; rw [writeMask_cons, Bool.or_eq_false_iff] at this; exact this.1
    have h2 : Apart w.mask (writeMask ws) := fun i hi => by have := h i hi; rw [writeMask_cons, Bool.or_eq_false_iff] at this; exact this.2
    show ((s.app1 w).app1 w').app ws = _
    rw [app1_comm h1, app_app1_comm h2]; rfl
theorem app_comm {ws' : List Wr} : ∀ {ws : List Wr} {s : St}, Apart (writeMask ws) (writeMask ws') → (s.app ws).app ws' = (s.app ws').app ws
  | [], s, h => rfl
  | w :: ws, s, h => by
    have h1 : Apart w.mask (writeMask ws') := fun i hi => h i (by rw [writeMask_cons, hi]; rfl)
    have h2 : Apart (writeMask ws) (writeMask ws') := fun i hi => h i (by rw [writeMask_cons, hi]; simp)
    show ((s.app1 w).app ws).app ws' = _
    rw [app_comm h2, app_app1_comm h1]; rfl

/-! ### versions -/

def VersIn (s : St) (p : Nat → Prop) : Prop := (∀ t, ∀ n ∈ (s.slot t).vers, p n) ∧ ∀ r, ∀ n ∈ (s.root r).vers, p n
theorem VersIn.mono {s : St} {p q : Nat → Prop} (h : VersIn s p) (hq : ∀ n, p n → q n) : VersIn s q := ⟨fun t n hn => hq n (h.1 t n hn), fun r n hn => hq n (h.2 r n hn)⟩
theorem VersIn.zero {s : St} {p : Nat → Prop} (h : VersIn s p) : p 0 := by
  refine h.2 s.ro.length 0 ?_
  have : s.root s.ro.length = dead := nth_ge _ (Nat.le_refl _)
  rw [this]; exact List.mem_cons_self
theorem VersIn.app1 {s : St} {p : Nat → Prop} (h : VersIn s p) {w : Wr} (hw : ∀ n ∈ w.vers, p n) : VersIn (s.app1 w) p := by
  cases w with
  | slot u a =>
    refine ⟨fun t n hn => ?_, h.2⟩
    rw [slot_app] at hn
    split at hn
    · exact hw n hn
    · exact h.1 t n hn
  | root q x =>
    refine ⟨h.1, fun r n hn => ?_⟩
    rw [root_app] at hn
    split at hn
    · exact hw n hn
    · exact h.2 r n hn
  | leaf q j a =>
    refine ⟨h.1, fun r n hn => ?_⟩
    have hroot : (s.app1 (.leaf q j a)).root r = if q = r ∧ q < s.ro.length then { s.root q with ls := upd (s.root q).ls j a } else s.root r := nth_upd _ _ _ _ _
    rw [hroot] at hn
    split at hn
    · rcases List.mem_cons.1 hn with hn | hn
      · subst hn; exact h.2 q _ List.mem_cons_self
      · obtain ⟨b, hb, hn2⟩ := List.mem_flatMap.1 hn
        have hb : b ∈ upd (s.root q).ls j a := hb
        rw [upd_set] at hb
        rcases List.mem_or_eq_of_mem_set hb with hb | hb
        · exact h.2 q n (List.mem_cons_of_mem _ (List.mem_flatMap.2 ⟨b, hb, hn2⟩))
        · rw [hb] at hn2; exact hw n hn2
    · exact h.2 r n hn
theorem VersIn.app {p : Nat → Prop} : ∀ {ws : List Wr} {s : St}, VersIn s p → (∀ w ∈ ws, ∀ n ∈ w.vers, p n) → VersIn (s.app ws) p
  | [], s, h, hw => h
  | w :: ws, s, h, hw => VersIn.app (ws := ws) (s := s.app1 w) (h.app1 (hw w (by simp))) fun x hx => hw x (List.mem_cons_of_mem _ hx)
theorem VersIn.noVer {s : St} {p : Nat → Prop} (h : VersIn s p) {v : Nat} (hv : ¬ p v) (h1 : 1 < v) : NoVer s v := by
  refine ⟨fun t hin => hv (h.1 t v hin), fun r j => .inr fun hin => ?_, h1⟩
  by_cases hj : j < (s.root r).ls.length
  · exact hv (h.2 r v (List.mem_cons_of_mem _ (List.mem_flatMap.2 ⟨_, nth_mem hj, hin⟩)))
  · have : s.leaf r j = .bad := nth_ge _ (Nat.le_of_not_lt hj)
    rw [this] at hin; cases hin

/-! ### traces -/

def Guarded (ops : Array Oper) (o : Oper) (s : St) (b : Bool) : Prop := match o.guard with
  | none => b = true
  | some (j, want) => ∃ t, (ops[j]?).bind (·.dst) = some t ∧ ((s.slot t = .v false [.undef] ∧ b = false) ∨ ∃ c : Bool, s.slot t = .v false [.sc .bool c] ∧ b = (c == want))
def Does (cx : Cx) (g : Rg) (bs : List Nat) (i : Nat) (o : Oper) (s : St) (ws : List Wr) : Prop :=
  (Guarded g.ops o s true ∧ (opDelta cx (g.v0 + i) o s).leads ws ∧ okDelta cx o.dst g.v0 (g.v0 + i) (nth 0 bs i) ws = true) ∨ (Guarded g.ops o s false ∧ ws = undefW o.dst)
def Trace (cx : Cx) (g : Rg) (bs : List Nat) : Nat → List Oper → List (Nat × Nat) → St → List (Nat × List Wr) → Prop
  | _, [], _, _, [] => True
  | i, o :: r, lg, s, (rm, ws) :: tr => rm = readMask g.ops o s ∧ (g.draw = true → indep (nth 0 bs i) rm (writeMask ws) 0 lg = true) ∧ Does cx g bs i o s ws ∧ Trace cx g bs (i + 1) r (lg ++ [(rm, writeMask ws)]) (s.app ws) tr
  | _, _, _, _, _ => False
def appsIf (A : Nat → Bool) : Nat → List (Nat × List Wr) → St → St
  | _, [], s => s
  | i, x :: tr, s => appsIf A (i + 1) tr (bif A i then s.app x.2 else s)

theorem upd_nth {α : Type} (d : α) : ∀ (l : List α) (n : Nat), upd l n (nth d l n) = l
  | [], n => rfl
  | x :: xs, 0 => rfl
  | x :: xs, n + 1 => by simp [upd, nth, upd_nth d xs n]
theorem app1_slot_same {s : St} {t : Nat} {a : AV} (h : s.slot t = a) : s.app1 (.slot t a) = s := by
  subst h
  show { s with sl := upd s.sl t (s.slot t) } = s
  have : upd s.sl t (s.slot t) = s.sl := upd_nth _ _ _
  rw [this]

theorem evOps_trace {R : Type} {cx : Cx} {g : Rg} {bs : List Nat} {k : St → Option R} {x : R} : ∀ (r : List Oper) (i : Nat) (lg : List (Nat × Nat)) (s : St), evOps cx g (number i r) bs lg s k = some x →
    ∃ tr, Trace cx g bs i r lg s tr ∧ tr.length = r.length ∧ k (appsIf (fun _ => true) i tr s) = some x
  | [], i, lg, s, h => ⟨[], trivial, rfl, h⟩
  | o :: r, i, lg, s, h => by
    simp only [number, evOps] at h
    have exec : Guarded g.ops o s true → ((opDelta cx (g.v0 + i) o s).run fun ws =>
        if okDelta cx o.dst g.v0 (g.v0 + i) (nth 0 bs i) ws && (!g.draw || indep (nth 0 bs i) (readMask g.ops o s) (writeMask ws) 0 lg) then evOps cx g (number (i + 1) r) bs (lg ++ [(readMask g.ops o s, writeMask ws)]) (s.app ws) k else none) = some x →
        ∃ tr, Trace cx g bs i (o :: r) lg s tr ∧ tr.length = (o :: r).length ∧ k (appsIf (fun _ => true) i tr s) = some x := by
      intro hg h
      obtain ⟨ws, hl, h⟩ := Step.run_leads _ h
      split at h
      · rename_i hc
        simp only [Bool.and_eq_true, Bool.or_eq_true, Bool.not_eq_true'] at hc
        obtain ⟨tr, h1, h2, h3⟩ := evOps_trace r (i + 1) _ _ h
        exact ⟨(_, ws) :: tr, ⟨rfl, fun hd => hc.2.resolve_left (by simp [hd]), .inl ⟨hg, hl, hc.1⟩, h1⟩, by simp [h2], h3⟩
      · cases h
    have skip : Guarded g.ops o s false → (if (!g.draw || indep (nth 0 bs i) (readMask g.ops o s) (writeMask (undefW o.dst)) 0 lg) = true then evOps cx g (number (i + 1) r) bs (lg ++ [(readMask g.ops o s, writeMask (undefW o.dst))]) (s.app (undefW o.dst)) k else none) = some x →
        ∃ tr, Trace cx g bs i (o :: r) lg s tr ∧ tr.length = (o :: r).length ∧ k (appsIf (fun _ => true) i tr s) = some x := by
      intro hg h
      split at h
      · rename_i hc
        simp only [Bool.or_eq_true, Bool.not_eq_true'] at hc
        obtain ⟨tr, h1, h2, h3⟩ := evOps_trace r (i + 1) _ _ h
        exact ⟨(_, undefW o.dst) :: tr, ⟨rfl, fun hd => hc.resolve_left (by simp [hd]), .inr ⟨hg, rfl⟩, h1⟩, by simp [h2], h3⟩
      · cases h
    cases hgd : o.guard with
    | none =>
      rw [hgd] at h
      exact exec (by unfold Guarded; rw [hgd]) h
    | some p =>
      obtain ⟨j, want⟩ := p
      rw [hgd] at h
      dsimp only at h
      cases ht : (g.ops[j]?).bind (·.dst) with
      | none => rw [ht] at h; cases h
      | some t =>
        rw [ht] at h
        dsimp only at h
        have gd : ∀ (c : Bool), s.slot t = .v false [.sc .bool c] → Guarded g.ops o s (c == want) := fun c hc => by unfold Guarded; rw [hgd]; exact ⟨t, ht, .inr ⟨c, hc, rfl⟩⟩
        split at h
        · rename_i hs
          exact skip (by unfold Guarded; rw [hgd]; exact ⟨t, ht, .inl ⟨hs, rfl⟩⟩) h
        · rename_i c hs
          cases want with
          | true =>
            dsimp only at h
            cases c with
            | true =>
              have hsame : s.app1 (.slot t (scB true)) = s := app1_slot_same hs
              rw [hsame] at h
              exact exec (gd true hs) h
            | false =>
              have hsame : s.app1 (.slot t (scB false)) = s := app1_slot_same hs
              rw [hsame] at h
              exact skip (gd false hs) h
          | false =>
            dsimp only at h
            cases c with
            | true =>
              have hsame : s.app1 (.slot t (scB true)) = s := app1_slot_same hs
              rw [hsame] at h
              exact skip (gd true hs) h
            | false =>
              have hsame : s.app1 (.slot t (scB false)) = s := app1_slot_same hs
              rw [hsame] at h
              exact exec (gd false hs) h
        · cases h
end Go.Ev

namespace Go.Ev
set_option linter.unusedVariables false
set_option linter.unusedSimpArgs false

/-! ### what lies before what -/

theorem befs_ext : ∀ (os : List Oper) (acc : List Nat) (i : Nat), i < acc.length → nth 0 (befs os acc) i = nth 0 acc i
  | [], acc, i, h => rfl
  | o :: os, acc, i, h => by
    simp only [befs]
    rw [befs_ext os _ i (by simp; omega), nth_of, nth_of, List.getElem?_append_left h]
theorem fold_bef (acc : List Nat) (j : Nat) : ∀ (es : List Edge), (es.foldr (fun e m => if Region.binds .any e then Nat.lor (2 ^ e.on) (Nat.lor (nth 0 acc e.on) m) else m) 0).testBit j = true → ∃ e ∈ es, Region.binds .any e = true ∧ (e.on = j ∨ (nth 0 acc e.on).testBit j = true)
  | [], h => by simp at h
  | e :: es, h => by
    rw [List.foldr_cons] at h
    split at h
    · rename_i hb
      rw [bit_lor, bit_lor, bit_pow] at h
      simp only [Bool.or_eq_true, decide_eq_true_eq] at h
      rcases h with h | h | h
      · exact ⟨e, by simp, hb, .inl h⟩
      · exact ⟨e, by simp, hb, .inr h⟩
      · obtain ⟨e', h1, h2⟩ := fold_bef acc j es h; exact ⟨e', List.mem_cons_of_mem _ h1, h2⟩
    · obtain ⟨e', h1, h2⟩ := fold_bef acc j es h; exact ⟨e', List.mem_cons_of_mem _ h1, h2⟩
theorem befs_bit (j : Nat) : ∀ (os : List Oper) (acc : List Nat) (k : Nat) (o : Oper), os[k]? = some o → (nth 0 (befs os acc) (acc.length + k)).testBit j = true → ∃ e ∈ o.after.toList, Region.binds .any e = true ∧ (e.on = j ∨ (nth 0 (befs os acc) e.on).testBit j = true)
  | [], acc, k, o, h, hb => by simp at h
  | x :: os, acc, k, o, h, hb => by
    simp only [befs] at hb ⊢
    cases k with
    | zero =>
      simp at h; subst h
      rw [Nat.add_zero, befs_ext os _ acc.length (by simp), nth_of, List.getElem?_append_right (Nat.le_refl _)] at hb
      simp only [Nat.sub_self, List.getElem?_cons_zero, Option.getD_some] at hb
      obtain ⟨e, h1, h2, h3⟩ := fold_bef acc j _ hb
      refine ⟨e, h1, h2, h3.imp id fun h3 => ?_⟩
      by_cases hlt : e.on < acc.length
      · rw [befs_ext os _ e.on (by simp; omega), nth_of, List.getElem?_append_left hlt, ← nth_of]; exact h3
      · rw [nth_ge 0 (Nat.le_of_not_lt hlt)] at h3; simp at h3
    | succ k =>
      refine befs_bit j os _ k o (by simpa using h) ?_
      rw [List.length_append, List.length_singleton, show acc.length + 1 + k = acc.length + (k + 1) by omega]
      exact hb

theorem edgesOk_get : ∀ (os : List Oper) (i : Nat), edgesOk i os = true → ∀ (k : Nat) (o : Oper), os[k]? = some o → ∀ e ∈ o.after.toList, Region.binds .any e = true → e.on < i + k
  | [], i, h, k, o, ho => by simp at ho
  | x :: os, i, h, k, o, ho => by
    simp only [edgesOk, Bool.and_eq_true] at h
    cases k with
    | zero =>
      simp at ho; subst ho
      intro e he hb
      have := List.all_eq_true.1 h.1 e he
      simpa [hb] using this
    | succ k =>
      intro e he hb
      have := edgesOk_get os (i + 1) h.2 k o (by simpa using ho) e he hb
      omega

/-- What lies before lies in every set that is closed downwards. -/
theorem closed_bit {ops : Array Oper} (hE : edgesOk 0 ops.toList = true) {A : Nat → Prop} (hA : ∀ i o, A i → ops[i]? = some o → ∀ e ∈ o.after.toList, Region.binds .any e = true → A e.on) (hn : ∀ i, A i → i < ops.size) :
    ∀ (i : Nat), A i → ∀ j, (nth 0 (befs ops.toList []) i).testBit j = true → A j := by
  intro i
  induction i using Nat.strongRecOn with
  | _ i ih =>
    intro hi j hj
    have hlt := hn i hi
    have ho : ops.toList[i]? = some ops[i] := by simp [hlt]
    obtain ⟨e, h1, h2, h3⟩ := befs_bit j ops.toList [] i ops[i] ho (by simpa using hj)
    have hon := edgesOk_get ops.toList 0 hE i ops[i] ho e h1 h2
    have hAe := hA i ops[i] hi (by simp [hlt]) e h1 h2
    rcases h3 with h3 | h3
    · rw [← h3]; exact hAe
    · exact ih e.on (by omega) hAe j h3
theorem ready_bit {ops : Array Oper} (hE : edgesOk 0 ops.toList = true) {A : Nat → Prop} (hA : ∀ i o, A i → ops[i]? = some o → ∀ e ∈ o.after.toList, Region.binds .any e = true → A e.on) (hn : ∀ i, A i → i < ops.size)
    {i : Nat} {o : Oper} (ho : ops[i]? = some o) (hi : ∀ e ∈ o.after.toList, Region.binds .any e = true → A e.on) (j : Nat) (hj : (nth 0 (befs ops.toList []) i).testBit j = true) : A j := by
  have ho' : ops.toList[i]? = some o := by simpa using ho
  obtain ⟨e, h1, h2, h3⟩ := befs_bit j ops.toList [] i o ho' (by simpa using hj)
  rcases h3 with h3 | h3
  · rw [← h3]; exact hi e h1 h2
  · exact closed_bit hE hA hn e.on (hi e h1 h2) j h3

section
variable {P : Program} {E : Ent} {s : St} {W : Wd} {a : Act} {cx : Cx} {g : Rg} {bs : List Nat} {Q : Exit → Act → World → Prop}

theorem wanted_ok {tm : Array Value} (h : Rep E s tm W) {ops : Array Oper} {o : Oper} {b : Bool} (hg : Guarded ops o s b) : Region.wanted o (yielded ops tm) = b := by
  unfold Guarded at hg
  unfold Region.wanted
  cases hq : o.guard with
  | none => rw [hq] at hg; exact hg.symm
  | some p =>
    obtain ⟨j, want⟩ := p
    rw [hq] at hg
    dsimp only at hg ⊢
    obtain ⟨t, ht, hs⟩ := hg
    have hsl := h.slots t
    unfold yielded
    rw [ht]
    dsimp only [Option.bind_some]
    rcases hs with ⟨hs, rfl⟩ | ⟨c, hs, rfl⟩
    · rw [hs] at hsl
      have hsl : tm.getD t Go.undef = Go.undef := hsl
      cases hx : tm[t]? with
      | none => rfl
      | some x =>
        have : x = Go.undef := by rw [← hsl]; simp [Array.getD_eq_getD_getElem?, hx]
        subst this; rfl
    · rw [hs] at hsl
      have hsl : tm.getD t Go.undef = .bool c := hsl.1
      cases hx : tm[t]? with
      | none => rw [Array.getD_eq_getD_getElem?, hx] at hsl; cases hsl
      | some x =>
        have : x = .bool c := by rw [← hsl]; simp [Array.getD_eq_getD_getElem?, hx]
        subst this
        cases c <;> cases want <;> rfl

/-- One operation of a region, as a trace tells it. -/
theorem does_wp (hc : CxF P cx) (henv : EnvOk P E cx.env) (h : Rep E s a.tmps W) {i : Nat} {o : Oper} {ws : List Wr} (hv : NoVer s (g.v0 + i)) (hd : ∀ d, o.dst = some d → d < a.tmps.size) (hdoes : Does cx g bs i o s ws)
    {K : Act → World → Prop} (hK : ∀ a' W', a'.defers = a.defers → Rep E (s.app ws) a'.tmps W' → K a' W'.w) (ho : g.ops[i]? = some o) : wpOp P g.ops Q i K a W.w := by
  unfold wpOp
  rw [ho]
  dsimp only
  rcases hdoes with ⟨hg, hl, _⟩ | ⟨hg, rfl⟩
  · rw [wanted_ok h hg, if_pos rfl]
    exact .inl (op_sound hc henv h hv hd hl K Q fun a' W' h1 h2 => hK a' W' h1 h2)
  · rw [wanted_ok h hg, if_neg (by simp)]
    cases hds : o.dst with
    | none => exact hK a W rfl (by simp only [undefW, hds]; exact h)
    | some d =>
      refine hK _ W rfl ?_
      simp only [undefW, hds]
      exact h.slot d (show AVok s W (one .undef) Go.undef from rfl)

def pA (v0 : Nat) (A : Nat → Prop) (n : Nat) : Prop := n < v0 ∨ ∃ j, A j ∧ n = v0 + j
theorem does_vers {i : Nat} {o : Oper} {ws : List Wr} (hdoes : Does cx g bs i o s ws) {A : Nat → Prop} (hA : ∀ j, (nth 0 bs i).testBit j = true → A j) : ∀ w ∈ ws, ∀ n ∈ w.vers, pA g.v0 (fun j => A j ∨ j = i) n := by
  intro w hw n hn
  rcases hdoes with ⟨_, _, hok⟩ | ⟨_, rfl⟩
  · have h1 := List.all_eq_true.1 hok w hw
    rw [Bool.and_eq_true] at h1
    have h2 := List.all_eq_true.1 h1.2 n hn
    simp only [Bool.or_eq_true, decide_eq_true_eq, beq_iff_eq, Bool.and_eq_true] at h2
    rcases h2 with (h2 | h2) | ⟨h2, h3⟩
    · exact .inl h2
    · exact .inr ⟨i, .inr rfl, h2⟩
    · exact .inr ⟨n - g.v0, .inl (hA _ h3), by omega⟩
  · cases hds : o.dst with
    | none => rw [hds] at hw; cases hw
    | some d =>
      rw [hds] at hw
      have : w = .slot d (one .undef) := by simpa [undefW] using hw
      subst this
      simp [Wr.vers, one, AV.vers, LA.vers] at hn

theorem seq_wp (hc : CxF P cx) (henv : EnvOk P E cx.env) (h1 : 1 < g.v0) (hb : ∀ i j, i < g.ops.size → (nth 0 bs i).testBit j = true → j < i) : ∀ (r : List Oper) (i : Nat) (lg : List (Nat × Nat)) (s : St) (tr : List (Nat × List Wr)) (a : Act) (W : Wd), Trace cx g bs i r lg s tr →
    (∀ (k : Nat) (o : Oper), r[k]? = some o → g.ops[i + k]? = some o) → Rep E s a.tmps W → VersIn s (pA g.v0 (· < i)) → (∀ o ∈ r, ∀ d, o.dst = some d → d < s.sl.length) →
    (∀ a' W', a'.defers = a.defers → Rep E (appsIf (fun _ => true) i tr s) a'.tmps W' → VersIn (appsIf (fun _ => true) i tr s) (pA g.v0 (· < i + r.length)) → Q .normal a' W'.w) → wpOps P g.ops Q (List.range' i r.length) a W.w
  | [], i, lg, s, [], a, W, ht, hr, hrep, hver, hd, hK => hK a W rfl hrep hver
  | [], i, lg, s, _ :: _, a, W, ht, hr, hrep, hver, hd, hK => ht.elim
  | _ :: _, i, lg, s, [], a, W, ht, hr, hrep, hver, hd, hK => ht.elim
  | o :: r, i, lg, s, (rm, ws) :: tr, a, W, ht, hr, hrep, hver, hd, hK => by
    obtain ⟨hrm, _, hdoes, ht⟩ := ht
    have ho : g.ops[i]? = some o := by have := hr 0 o rfl; simpa using this
    have hlt : i < g.ops.size := (Array.getElem?_eq_some_iff.1 ho).1
    rw [List.length_cons, List.range'_succ, wpOps_cons]
    have hnv : NoVer s (g.v0 + i) := hver.noVer (by rintro (hh | ⟨j, hj, e⟩) <;> omega) (by omega)
    refine does_wp hc henv hrep hnv (fun d hds => by rw [← hrep.len1]; exact hd o (by simp) d hds) hdoes (fun a' W' hdef hrep' => ?_) ho
    refine seq_wp hc henv h1 hb r (i + 1) _ _ tr a' W' ht (fun k o hk => by rw [show i + 1 + k = i + (k + 1) by omega]; exact hr (k + 1) o (by simpa using hk)) hrep' ?_ ?_ ?_
    · refine (hver.mono ?_).app (fun w hw n hn => ?_)
      · rintro n (hn | ⟨j, hj, e⟩)
        · exact .inl hn
        · exact .inr ⟨j, by omega, e⟩
      · rcases does_vers hdoes (A := (· < i)) (fun j hj => hb i j hlt hj) w hw n hn with hn | ⟨j, hj, e⟩
        · exact .inl hn
        · exact .inr ⟨j, by omega, e⟩
    · intro o' ho' d hds
      rw [(app_len ws s).1]; exact hd o' (List.mem_cons_of_mem _ ho') d hds
    · intro a2 W2 hdef2 hrep2 hver2
      refine hK a2 W2 (hdef2.trans hdef) hrep2 (hver2.mono ?_)
      rintro n (hn | ⟨j, hj, e⟩)
      · exact .inl hn
      · exact .inr ⟨j, by simp; omega, e⟩
end
end Go.Ev

namespace Go.Ev
set_option linter.unusedVariables false
set_option linter.unusedSimpArgs false

theorem indep_get (b rm wm : Nat) : ∀ (lg : List (Nat × Nat)) (j : Nat), indep b rm wm j lg = true → ∀ (k : Nat) (r w : Nat), lg[k]? = some (r, w) → b.testBit (j + k) = true ∨ (Apart w (Nat.lor rm wm) ∧ Apart r wm)
  | [], j, h, k, r, w, hk => by simp at hk
  | (r0, w0) :: lg, j, h, k, r, w, hk => by
    simp only [indep, Bool.and_eq_true, Bool.or_eq_true] at h
    cases k with
    | zero =>
      simp at hk; obtain ⟨rfl, rfl⟩ := hk
      exact h.1.imp id fun hh => ⟨apart_land hh.1, apart_land hh.2⟩
    | succ k =>
      have := indep_get b rm wm lg (j + 1) h.2 k r w (by simpa using hk)
      rwa [show j + 1 + k = j + (k + 1) by omega] at this

section
variable {cx : Cx} {g : Rg} {bs : List Nat}

/-- The state before operation 'i' of a trace, and what is known there. -/
theorem trace_at : ∀ (r : List Oper) (i : Nat) (lg : List (Nat × Nat)) (s : St) (tr : List (Nat × List Wr)), Trace cx g bs i r lg s tr → ∀ (k : Nat) (o : Oper) (rm : Nat) (ws : List Wr), r[k]? = some o → tr[k]? = some (rm, ws) →
    rm = readMask g.ops o (appsIf (fun j => decide (j < i + k)) i tr s) ∧ Does cx g bs (i + k) o (appsIf (fun j => decide (j < i + k)) i tr s) ws ∧ (g.draw = true → indep (nth 0 bs (i + k)) rm (writeMask ws) 0 (lg ++ (tr.take k).map fun x => (x.1, writeMask x.2)) = true)
  | [], i, lg, s, tr, ht, k, o, rm, ws, h1, h2 => by simp at h1
  | o0 :: r, i, lg, s, [], ht, k, o, rm, ws, h1, h2 => by simp at h2
  | o0 :: r, i, lg, s, (rm0, ws0) :: tr, ht, k, o, rm, ws, h1, h2 => by
    obtain ⟨hrm, hin, hdoes, ht⟩ := ht
    have none : ∀ (tr : List (Nat × List Wr)) (i j : Nat) (s : St), j ≤ i → appsIf (fun q => decide (q < j)) i tr s = s := by
      intro tr
      induction tr with
      | nil => intro i j s h; rfl
      | cons x tr ih =>
        intro i j s h
        simp only [appsIf]
        rw [show decide (i < j) = false by simp; omega]
        exact ih (i + 1) j s (by omega)
    cases k with
    | zero =>
      simp at h1 h2
      obtain ⟨rfl, rfl⟩ := h2
      subst h1
      rw [Nat.add_zero, none _ _ _ _ (Nat.le_refl _)]
      exact ⟨hrm, hdoes, fun hd => by simpa using hin hd⟩
    | succ k =>
      obtain ⟨q1, q2, q3⟩ := trace_at r (i + 1) _ _ tr ht k o rm ws (by simpa using h1) (by simpa using h2)
      have e : appsIf (fun j => decide (j < i + (k + 1))) i ((rm0, ws0) :: tr) s = appsIf (fun j => decide (j < i + 1 + k)) (i + 1) tr (s.app ws0) := by
        simp only [appsIf]
        rw [show decide (i < i + (k + 1)) = true from decide_eq_true (by omega), show i + (k + 1) = i + 1 + k by omega]
        rfl
      rw [e, show i + (k + 1) = i + 1 + k by omega]
      refine ⟨q1, q2, fun hd => ?_⟩
      have := q3 hd
      simpa using this

theorem appsIf_len (A : Nat → Bool) : ∀ (tr : List (Nat × List Wr)) (i : Nat) (s : St), (appsIf A i tr s).sl.length = s.sl.length ∧ (appsIf A i tr s).ro.length = s.ro.length
  | [], i, s => ⟨rfl, rfl⟩
  | x :: tr, i, s => by
    simp only [appsIf]
    obtain ⟨h1, h2⟩ := appsIf_len A tr (i + 1) (bif A i then s.app x.2 else s)
    cases hA : A i with
    | true => rw [hA] at h1 h2; exact ⟨h1.trans (app_len _ _).1, h2.trans (app_len _ _).2⟩
    | false => rw [hA] at h1 h2; exact ⟨h1, h2⟩
theorem appsIf_slot {A B : Nat → Bool} {t : Nat} : ∀ (tr : List (Nat × List Wr)) (i : Nat) (s s' : St), s'.sl.length = s.sl.length → s'.slot t = s.slot t → (∀ k x, tr[k]? = some x → (writeMask x.2).testBit (2 * t) = true → B (i + k) = A (i + k)) →
    (appsIf B i tr s').slot t = (appsIf A i tr s).slot t
  | [], i, s, s', hl, h, hA => h
  | x :: tr, i, s, s', hl, h, hA => by
    simp only [appsIf]
    refine appsIf_slot tr (i + 1) _ _ ?_ ?_ fun k y hk hy => by rw [show i + 1 + k = i + (k + 1) by omega]; exact hA (k + 1) y (by simpa using hk) hy
    · cases A i <;> cases B i <;> simp [app_len, hl]
    · by_cases hm : (writeMask x.2).testBit (2 * t) = true
      · have := hA 0 x rfl hm
        rw [Nat.add_zero] at this
        rw [this]
        cases A i with
        | true => exact app_slot_cong hl h
        | false => exact h
      · have hm : (writeMask x.2).testBit (2 * t) = false := by simpa using hm
        have e1 : ∀ b : Bool, (bif b then s'.app x.2 else s').slot t = s'.slot t := fun b => by cases b; rfl; exact app_slot_miss hm
        have e2 : ∀ b : Bool, (bif b then s.app x.2 else s).slot t = s.slot t := fun b => by cases b; rfl; exact app_slot_miss hm
        rw [e1, e2]; exact h
theorem appsIf_root {A B : Nat → Bool} {t : Nat} : ∀ (tr : List (Nat × List Wr)) (i : Nat) (s s' : St), s'.ro.length = s.ro.length → s'.root t = s.root t → (∀ k x, tr[k]? = some x → (writeMask x.2).testBit (2 * t + 1) = true → B (i + k) = A (i + k)) →
    (appsIf B i tr s').root t = (appsIf A i tr s).root t
  | [], i, s, s', hl, h, hA => h
  | x :: tr, i, s, s', hl, h, hA => by
    simp only [appsIf]
    refine appsIf_root tr (i + 1) _ _ ?_ ?_ fun k y hk hy => by rw [show i + 1 + k = i + (k + 1) by omega]; exact hA (k + 1) y (by simpa using hk) hy
    · cases A i <;> cases B i <;> simp [app_len, hl]
    · by_cases hm : (writeMask x.2).testBit (2 * t + 1) = true
      · have := hA 0 x rfl hm
        rw [Nat.add_zero] at this
        rw [this]
        cases A i with
        | true => exact app_root_cong hl h
        | false => exact h
      · have hm : (writeMask x.2).testBit (2 * t + 1) = false := by simpa using hm
        have e1 : ∀ b : Bool, (bif b then s'.app x.2 else s').root t = s'.root t := fun b => by cases b; rfl; exact app_root_miss hm
        have e2 : ∀ b : Bool, (bif b then s.app x.2 else s).root t = s.root t := fun b => by cases b; rfl; exact app_root_miss hm
        rw [e1, e2]; exact h
theorem appsIf_push {A : Nat → Bool} {ws : List Wr} : ∀ (tr : List (Nat × List Wr)) (i : Nat) (s : St), (∀ k x, tr[k]? = some x → A (i + k) = true → Apart (writeMask ws) (writeMask x.2)) → appsIf A i tr (s.app ws) = (appsIf A i tr s).app ws
  | [], i, s, h => rfl
  | x :: tr, i, s, h => by
    simp only [appsIf]
    have ih : ∀ s, appsIf A (i + 1) tr (s.app ws) = (appsIf A (i + 1) tr s).app ws := fun s => appsIf_push tr (i + 1) s fun k y hk hy => h (k + 1) y (by simpa using hk) (by rw [show i + (k + 1) = i + 1 + k by omega]; exact hy)
    cases hA : A i with
    | false => exact ih s
    | true =>
      dsimp only [cond_true]
      rw [← ih, app_comm (h 0 x rfl (by simpa using hA))]
theorem appsIf_congr {A B : Nat → Bool} : ∀ (tr : List (Nat × List Wr)) (i : Nat) (s : St), (∀ k, k < tr.length → A (i + k) = B (i + k)) → appsIf A i tr s = appsIf B i tr s
  | [], i, s, h => rfl
  | x :: tr, i, s, h => by
    simp only [appsIf]
    have h0 := h 0 (by simp)
    rw [Nat.add_zero] at h0
    rw [h0]
    exact appsIf_congr tr (i + 1) _ fun k hk => by rw [show i + 1 + k = i + (k + 1) by omega]; exact h (k + 1) (by simp; omega)
/-- One more operation is done. -/
theorem appsIf_more {A B : Nat → Bool} {n : Nat} {rm : Nat} {ws : List Wr} : ∀ (tr : List (Nat × List Wr)) (i : Nat) (s : St), tr[n]? = some (rm, ws) → A (i + n) = false → B (i + n) = true → (∀ k, k ≠ n → B (i + k) = A (i + k)) →
    (∀ k x, n < k → tr[k]? = some x → A (i + k) = true → Apart (writeMask ws) (writeMask x.2)) → appsIf B i tr s = (appsIf A i tr s).app ws
  | [], i, s, hn, hA, hB, hsame, hap => by simp at hn
  | x :: tr, i, s, hn, hA, hB, hsame, hap => by
    simp only [appsIf]
    cases n with
    | zero =>
      simp at hn; subst hn
      rw [Nat.add_zero] at hA hB
      rw [hA, hB]
      dsimp only [cond_true, cond_false]
      rw [appsIf_congr (A := B) (B := A) tr (i + 1) _ fun k hk => by rw [show i + 1 + k = i + (k + 1) by omega]; exact hsame (k + 1) (by omega)]
      exact appsIf_push tr (i + 1) s fun k y hk hy => hap (k + 1) y (by omega) (by simpa using hk) (by rw [show i + (k + 1) = i + 1 + k by omega]; exact hy)
    | succ n =>
      have h0 := hsame 0 (by omega)
      rw [Nat.add_zero] at h0
      rw [h0]
      exact appsIf_more tr (i + 1) _ (by simpa using hn) (by rw [show i + 1 + n = i + (n + 1) by omega]; exact hA) (by rw [show i + 1 + n = i + (n + 1) by omega]; exact hB)
        (fun k hk => by rw [show i + 1 + k = i + (k + 1) by omega]; exact hsame (k + 1) (by omega)) (fun k y hk hy hA => hap (k + 1) y (by omega) (by simpa using hy) (by rw [show i + (k + 1) = i + 1 + k by omega]; exact hA))
end

section
variable {P : Program} {E : Ent} {cx : Cx} {g : Rg} {Q : Exit → Act → World → Prop}

theorem guarded_eq {ops : Array Oper} {o : Oper} {s s' : St} {b : Bool} (h : ∀ j want t, o.guard = some (j, want) → (ops[j]?).bind (·.dst) = some t → s'.slot t = s.slot t) (hg : Guarded ops o s b) : Guarded ops o s' b := by
  unfold Guarded at hg ⊢
  cases hq : o.guard with
  | none => rw [hq] at hg; exact hg
  | some p =>
    obtain ⟨j, want⟩ := p
    rw [hq] at hg
    dsimp only at hg ⊢
    obtain ⟨t, ht, hs⟩ := hg
    exact ⟨t, ht, by rw [h j want t hq ht]; exact hs⟩

theorem any_wp (hc : CxF P cx) (henv : EnvOk P E cx.env) (h1 : 1 < g.v0) (hE : edgesOk 0 g.ops.toList = true) (hdraw : g.draw = true) {s : St} {tr : List (Nat × List Wr)} (ht : Trace cx g (befs g.ops.toList []) 0 g.ops.toList [] s tr) (hlen : tr.length = g.ops.size)
    (hver : VersIn s (· < g.v0)) (hd : ∀ o ∈ g.ops.toList, ∀ d, o.dst = some d → d < s.sl.length) {df : List Deferred}
    (hK : ∀ a' W', a'.defers = df → Rep E (appsIf (fun _ => true) 0 tr s) a'.tmps W' → VersIn (appsIf (fun _ => true) 0 tr s) (pA g.v0 (· < g.ops.size)) → Q .normal a' W'.w) :
    ∀ (fuel : Nat) (listed : Array Bool) (a : Act) (W : Wd), listed.size = g.ops.size → listed.toList.count false = fuel → a.defers = df → Rep E (appsIf (fun i => listed.getD i false) 0 tr s) a.tmps W →
      VersIn (appsIf (fun i => listed.getD i false) 0 tr s) (pA g.v0 fun i => listed.getD i false = true) →
      (∀ i o, listed.getD i false = true → g.ops[i]? = some o → ∀ e ∈ o.after.toList, Region.binds .any e = true → listed.getD e.on false = true) → wpAny P .any g.ops Q fuel listed a W.w := by
  intro fuel
  have hall : ∀ (listed : Array Bool), listed.size = g.ops.size → (∀ i, i < g.ops.size → listed.getD i false = true) → appsIf (fun i => listed.getD i false) 0 tr s = appsIf (fun _ => true) 0 tr s := fun listed hs h =>
    appsIf_congr tr 0 s fun k hk => by rw [Nat.zero_add]; exact h k (by omega)
  have hrdy : ∀ (listed : Array Bool) (i : Nat), i ∈ Region.ready .any g.ops listed → listed.size = g.ops.size → i < g.ops.size ∧ listed.getD i false = false ∧ ∃ o, g.ops[i]? = some o ∧ ∀ e ∈ o.after.toList, Region.binds .any e = true → listed.getD e.on false = true := by
    intro listed i hi hs
    obtain ⟨hi1, hi2⟩ := List.mem_filter.1 hi
    have hlt : i < g.ops.size := List.mem_range.1 hi1
    rw [Bool.and_eq_true] at hi2
    refine ⟨hlt, ?_, g.ops[i], by simp [hlt], ?_⟩
    · have h2 := hi2.1
      have hl : i < listed.size := by omega
      simp only [Array.getD_eq_getD_getElem?, Array.getElem?_eq_getElem hl, Option.getD_some] at h2 ⊢
      simpa using h2
    · intro e he hb
      have h2 := hi2.2
      rw [Array.getElem?_eq_getElem hlt] at h2
      simp only [Option.map_some, Option.getD_some] at h2
      have h3 := Array.all_eq_true'.1 h2 e (by simpa using he)
      rw [hb] at h3
      simpa using h3
  induction fuel with
  | zero =>
    intro listed a W hs hcount hdf hrep hv hcl
    have hno : ∀ i, i < g.ops.size → listed.getD i false = true := by
      intro i hi
      have hl : i < listed.size := by omega
      have hne : false ∉ listed.toList := List.count_eq_zero.1 hcount
      rw [Array.getD_eq_getD_getElem?, Array.getElem?_eq_getElem hl, Option.getD_some]
      cases hq : listed[i] with
      | true => rfl
      | false => exact absurd (by rw [← hq]; exact Array.getElem_mem_toList hl) hne
    refine ⟨?_, ?_⟩
    · rw [List.eq_nil_iff_forall_not_mem]
      intro i hi
      obtain ⟨q1, q2, _⟩ := hrdy listed i hi hs
      rw [hno i q1] at q2; cases q2
    · rw [hall listed hs hno] at hrep hv
      refine hK a W hdf hrep (hv.mono ?_)
      rintro n (hn | ⟨j, hj, e⟩)
      · exact .inl hn
      · refine .inr ⟨j, ?_, e⟩
        rw [← hs]
        rcases Nat.lt_or_ge j listed.size with h | h
        · exact h
        · rw [Array.getD_eq_getD_getElem?, Array.getElem?_eq_none h] at hj; cases hj
  | succ fuel ih =>
    intro listed a W hs hcount hdf hrep hv hcl
    have hAn : ∀ i, listed.getD i false = true → i < g.ops.size := by
      intro i hi
      rw [← hs]
      rcases Nat.lt_or_ge i listed.size with h | h
      · exact h
      · rw [Array.getD_eq_getD_getElem?, Array.getElem?_eq_none h] at hi; cases hi
    refine ⟨fun hemp => ?_, fun i hi => ?_⟩
    · exfalso
      -- the first that is not listed is ready
      have hex : ∃ i, i < g.ops.size ∧ listed.getD i false = false := by
        have : false ∈ listed.toList := by
          refine Classical.byContradiction fun hn => ?_
          rw [List.count_eq_zero.2 hn] at hcount; cases hcount
        obtain ⟨i, hi, he⟩ := List.mem_iff_getElem.1 this
        have hi' : i < listed.size := by simpa using hi
        refine ⟨i, by omega, ?_⟩
        rw [Array.getD_eq_getD_getElem?, Array.getElem?_eq_getElem hi', Option.getD_some]
        simpa using he
      have hmin : ∀ n i, i ≤ n → i < g.ops.size → listed.getD i false = false → ∃ j, j ∈ Region.ready .any g.ops listed := by
        intro n
        induction n using Nat.strongRecOn with
        | _ n ihn =>
          intro i hin hi hli
          by_cases hp : ∀ e ∈ (g.ops[i]).after.toList, Region.binds .any e = true → listed.getD e.on false = true
          · refine ⟨i, List.mem_filter.2 ⟨List.mem_range.2 hi, ?_⟩⟩
            have hl : i < listed.size := by omega
            rw [Bool.and_eq_true]
            refine ⟨?_, ?_⟩
            · simp only [Array.getD_eq_getD_getElem?, Array.getElem?_eq_getElem hl, Option.getD_some] at hli ⊢
              simp [hli]
            · rw [Array.getElem?_eq_getElem hi]
              simp only [Option.map_some, Option.getD_some]
              refine Array.all_eq_true'.2 fun e he => ?_
              cases hb : Region.binds .any e with
              | false => rfl
              | true => simpa using hp e (by simpa using he) hb
          · have : ∃ e ∈ (g.ops[i]).after.toList, Region.binds .any e = true ∧ listed.getD e.on false = false := by
              refine Classical.byContradiction fun hn => hp fun e he hb => ?_
              cases hq : listed.getD e.on false with
              | true => rfl
              | false => exact absurd ⟨e, he, hb, hq⟩ hn
            obtain ⟨e, he, hb, hle⟩ := this
            have hon := edgesOk_get g.ops.toList 0 hE i g.ops[i] (by simp [hi]) e he hb
            exact ihn e.on (by omega) e.on (Nat.le_refl _) (by omega) hle
      obtain ⟨i, hi, hli⟩ := hex
      obtain ⟨j, hj⟩ := hmin i i (Nat.le_refl _) hi hli
      rw [hemp] at hj; cases hj
    · obtain ⟨hlt, hnl, o, ho, hpre⟩ := hrdy listed i hi hs
      have hol : g.ops.toList[i]? = some o := by simpa using ho
      obtain ⟨⟨rm, ws⟩, htr⟩ : ∃ x, tr[i]? = some x := ⟨tr[i]'(by omega), List.getElem?_eq_getElem (by omega)⟩
      obtain ⟨t1, t2, t3⟩ := trace_at g.ops.toList 0 [] s tr ht i o rm ws hol htr
      simp only [Nat.zero_add, List.nil_append] at t1 t2 t3
      have t3 := t3 hdraw
      have hbit : ∀ j, (nth 0 (befs g.ops.toList []) i).testBit j = true → listed.getD j false = true := ready_bit hE hcl hAn ho hpre
      -- later operations that are done are apart
      have hlater : ∀ k x, i < k → tr[k]? = some x → listed.getD k false = true → Apart (writeMask ws) (Nat.lor x.1 (writeMask x.2)) ∧ Apart rm (writeMask x.2) := by
        intro k x hk hx hlk
        obtain ⟨ok, hok⟩ : ∃ o, g.ops.toList[k]? = some o := ⟨_, List.getElem?_eq_getElem (by have := hAn k hlk; simpa using this)⟩
        obtain ⟨rmk, wsk⟩ := x
        obtain ⟨_, _, k3⟩ := trace_at g.ops.toList 0 [] s tr ht k ok rmk wsk hok hx
        simp only [Nat.zero_add, List.nil_append] at k3
        have := indep_get _ _ _ _ 0 (k3 hdraw) i rm (writeMask ws) (by rw [List.getElem?_map, List.getElem?_take_of_lt hk, htr]; rfl)
        rw [Nat.zero_add] at this
        refine this.resolve_left fun hb => ?_
        have := closed_bit hE (A := fun i => listed.getD i false = true) hcl hAn k hlk i hb
        rw [hnl] at this; cases this
      -- earlier operations that are not done are apart
      have hearly : ∀ k x, k < i → tr[k]? = some x → listed.getD k false = false → Apart (writeMask x.2) (Nat.lor rm (writeMask ws)) := by
        intro k x hk hx hlk
        have := indep_get _ _ _ _ 0 t3 k x.1 (writeMask x.2) (by rw [List.getElem?_map, List.getElem?_take_of_lt hk, hx]; rfl)
        rw [Nat.zero_add] at this
        rcases this with hb | hb
        · rw [hbit k hb] at hlk; cases hlk
        · exact hb.1
      have hag : Agree rm (appsIf (fun j => decide (j < i)) 0 tr s) (appsIf (fun i => listed.getD i false) 0 tr s) := by
        have key : ∀ (b : Nat), rm.testBit b = true → ∀ k x, tr[k]? = some x → (writeMask x.2).testBit b = true → listed.getD (0 + k) false = decide (0 + k < i) := by
          intro b hb k x hx hw
          rw [Nat.zero_add]
          rcases Nat.lt_trichotomy k i with hk | hk | hk
          · cases hl : listed.getD k false with
            | true => simp [hk]
            | false =>
              have := hearly k x hk hx hl b hw
              rw [bit_lor, hb] at this; simp at this
          · subst hk; rw [hnl]; simp
          · cases hl : listed.getD k false with
            | false => simp; omega
            | true =>
              have := (hlater k x hk hx hl).2 b hb
              rw [hw] at this; cases this
        exact ⟨fun t hb => appsIf_slot tr 0 s s rfl rfl fun k x hx hw => key _ hb k x hx hw, fun t hb => appsIf_root tr 0 s s rfl rfl fun k x hx hw => key _ hb k x hx hw⟩
      have hfoot := foot_ok (cx := cx) (v := g.v0 + i) (ops := g.ops) (o := o) (s := appsIf (fun j => decide (j < i)) 0 tr s) (s' := appsIf (fun i => listed.getD i false) 0 tr s) (by rw [← t1]; exact hag)
      have hdoes : Does cx g (befs g.ops.toList []) i o (appsIf (fun i => listed.getD i false) 0 tr s) ws := by
        rcases t2 with ⟨g1, g2, g3⟩ | ⟨g1, g2⟩
        · exact .inl ⟨guarded_eq hfoot.2 g1, by rw [hfoot.1]; exact g2, g3⟩
        · exact .inr ⟨guarded_eq hfoot.2 g1, g2⟩
      have hnv : NoVer (appsIf (fun i => listed.getD i false) 0 tr s) (g.v0 + i) := hv.noVer (by
        rintro (hh | ⟨j, hj, e⟩)
        · omega
        · have : j = i := by omega
          subst this; rw [hnl] at hj; cases hj) (by omega)
      have hset : ∀ k, (listed.setIfInBounds i true).getD k false = (if i = k then true else listed.getD k false) := by
        intro k
        simp only [Array.getD_eq_getD_getElem?, Array.getElem?_setIfInBounds]
        by_cases hk : i = k
        · subst hk; simp [show i < listed.size by omega]
        · simp [hk]
      have hmore : appsIf (fun k => (listed.setIfInBounds i true).getD k false) 0 tr s = (appsIf (fun i => listed.getD i false) 0 tr s).app ws := by
        refine appsIf_more tr 0 s htr (by rw [Nat.zero_add]; exact hnl) (by rw [Nat.zero_add, hset]; simp) (fun k hk => by rw [Nat.zero_add, hset, if_neg (fun e => hk e.symm)]) fun k x hk hx hl => ?_
        rw [Nat.zero_add] at hl
        intro b hb
        have := (hlater k x hk hx hl).1 b hb
        rw [bit_lor, Bool.or_eq_false_iff] at this
        exact this.2
      refine does_wp hc henv hrep hnv (fun d hds => by rw [← hrep.len1, (appsIf_len _ tr 0 s).1]; exact hd o (List.mem_of_getElem? hol) d hds) hdoes (fun a' W' hdef hrep' => ?_) ho
      refine ih (listed.setIfInBounds i true) a' W' (by simp [hs]) ?_ (hdef.trans hdf) (by rw [hmore]; exact hrep') ?_ ?_
      · have hi' : i < listed.toList.length := by simp; omega
        have hfalse : listed.toList[i] = false := by
          have hl : i < listed.size := by omega
          rw [Array.getD_eq_getD_getElem?, Array.getElem?_eq_getElem hl, Option.getD_some] at hnl
          simpa using hnl
        rw [Array.toList_setIfInBounds, List.count_set hi', hfalse, hcount]
        simp
      · rw [hmore]
        refine (hv.mono ?_).app (fun w hw n hn => ?_)
        · rintro n (hn | ⟨j, hj, e⟩)
          · exact .inl hn
          · exact .inr ⟨j, by show (listed.setIfInBounds i true).getD j false = true; rw [hset]; split; rfl; exact hj, e⟩
        · rcases does_vers hdoes (A := fun j => listed.getD j false = true) hbit w hw n hn with hn | ⟨j, hj, e⟩
          · exact .inl hn
          · refine .inr ⟨j, ?_, e⟩
            show (listed.setIfInBounds i true).getD j false = true
            rw [hset]
            rcases hj with hj | hj
            · split
              · rfl
              · exact hj
            · rw [if_pos hj.symm]
      · intro k o' hk ho' e he hb
        rw [hset] at hk ⊢
        split
        · rfl
        · by_cases hki : i = k
          · subst hki
            rw [ho] at ho'; injection ho' with ho'; subst ho'
            exact hpre e he hb
          · rw [if_neg hki] at hk
            exact hcl k o' hk ho' e he hb
end
end Go.Ev

namespace Go.Ev
set_option linter.unusedVariables false
set_option linter.unusedSimpArgs false

/-- What may have turned bad. -/
def dirty (cx : Cx) (a : LA) : Prop := match a with
  | .ref c => cx.lock c.r = false
  | .win c _ _ => cx.lock c.r = false
  | .eptr c => cx.lock c.r = false
  | .ptr r _ _ => cx.slk r = false
  | _ => False
def LClean (cx : Cx) (a a' : LA) : Prop := a' = a ∨ (a' = .bad ∧ dirty cx a)
inductive AClean (cx : Cx) : AV → AV → Prop
  | same (v) : AClean cx v v
  | v (g as as') (h : as'.length = as.length) (hl : ∀ (j : Nat) (a : LA), as[j]? = some a → ∃ a', as'[j]? = some a' ∧ LClean cx a a') : AClean cx (.v g as) (.v g as')
  | tup (vs) : AClean cx (.tup vs) (one .bad)
  | bx (as) : AClean cx (.bx as) (one .bad)
theorem LClean.trans {cx : Cx} {a b c : LA} (h1 : LClean cx a b) (h2 : LClean cx b c) : LClean cx a c := by
  rcases h1 with rfl | ⟨rfl, hd⟩
  · exact h2
  · rcases h2 with rfl | ⟨rfl, _⟩ <;> exact .inr ⟨rfl, hd⟩
theorem AClean.trans {cx : Cx} {a b c : AV} (h1 : AClean cx a b) (h2 : AClean cx b c) : AClean cx a c := by
  cases h1 with
  | same => exact h2
  | v g as as' h hl =>
    cases h2 with
    | same => exact .v g as as' h hl
    | v _ _ as2 h' hl' =>
      refine .v g as as2 (h'.trans h) fun j a hj => ?_
      obtain ⟨a', h3, h4⟩ := hl j a hj
      obtain ⟨a2, h5, h6⟩ := hl' j a' h3
      exact ⟨a2, h5, h4.trans h6⟩
  | tup vs =>
    cases h2 with
    | same => exact .tup vs
    | v _ _ as2 h' hl' =>
      obtain ⟨a2, h5, h6⟩ := hl' 0 .bad rfl
      have : as2 = [.bad] := by
        match as2, h' with
        | [x], _ =>
          simp at h5; subst h5
          rcases h6 with rfl | ⟨rfl, _⟩ <;> rfl
      subst this
      exact .tup vs
  | bx as =>
    cases h2 with
    | same => exact .bx as
    | v _ _ as2 h' hl' =>
      obtain ⟨a2, h5, h6⟩ := hl' 0 .bad rfl
      have : as2 = [.bad] := by
        match as2, h' with
        | [x], _ =>
          simp at h5; subst h5
          rcases h6 with rfl | ⟨rfl, _⟩ <;> rfl
      subst this
      exact .bx as

structure Keeps (cx : Cx) (s s' : St) : Prop where
  slots : ∀ t, cx.slk t = true → AClean cx (s.slot t) (s'.slot t)
  roots : ∀ r, cx.lock r = true → s'.root r = s.root r
  box : ∀ r, cx.slk r = true → (s'.root r).box = (s.root r).box ∧ (s'.root r).ver = (s.root r).ver ∧ (s'.root r).ls.length = (s.root r).ls.length
  l1 : s'.sl.length = s.sl.length
  l2 : s'.ro.length = s.ro.length
  ctr : s.ctr ≤ s'.ctr
theorem Keeps.refl (cx : Cx) (s : St) : Keeps cx s s := ⟨fun t _ => .same _, fun _ _ => rfl, fun _ _ => ⟨rfl, rfl, rfl⟩, rfl, rfl, Nat.le_refl _⟩
theorem Keeps.trans {cx : Cx} {s s1 s2 : St} (h1 : Keeps cx s s1) (h2 : Keeps cx s1 s2) : Keeps cx s s2 where
  slots t ht := (h1.slots t ht).trans (h2.slots t ht)
  roots r hr := (h2.roots r hr).trans (h1.roots r hr)
  box r hr := let ⟨a, b, c⟩ := h1.box r hr; let ⟨a', b', c'⟩ := h2.box r hr; ⟨a'.trans a, b'.trans b, c'.trans c⟩
  l1 := h2.l1.trans h1.l1
  l2 := h2.l2.trans h1.l2
  ctr := Nat.le_trans h1.ctr h2.ctr

/-- No root holds a reference into a row. -/
def RootsIn (s : St) : Prop := ∀ r, ∀ a ∈ (s.root r).ls, a.inRoot = true
structure Inv (N : Nat) (s : St) : Prop where
  vers : VersIn s (· < s.ctr)
  two : 2 ≤ s.ctr
  len : s.sl.length = N
  len2 : s.ro.length = N
  rin : RootsIn s

theorem keeps_app1 {cx : Cx} {s : St} {dst : Option Nat} {w : Wr} (hd : ∀ d, dst = some d → cx.slk d = false) (hw : w.ok cx dst = true) : Keeps cx s (s.app1 w) where
  slots t ht := by
    cases w with
    | slot u a =>
      rw [slot_app, if_neg]
      · exact .same _
      · rintro ⟨rfl, _⟩
        simp only [Wr.ok] at hw
        cases hq : dst with
        | none => rw [hq] at hw; cases hw
        | some d =>
          rw [hq] at hw
          have : u = d := by simpa using hw
          subst this
          rw [hd u hq] at ht; cases ht
    | root r x => exact .same _
    | leaf r j a => exact .same _
  roots r hr := by
    cases w with
    | slot u a => rfl
    | root q x =>
      simp only [Wr.ok, Bool.and_eq_true, Bool.not_eq_true'] at hw
      rw [root_app, if_neg]
      rintro ⟨rfl, _⟩
      rw [hr] at hw; exact absurd hw.1.1 (by simp)
    | leaf q j a =>
      simp only [Wr.ok, Bool.and_eq_true, Bool.not_eq_true'] at hw
      refine app1_root_miss ?_
      simp only [Wr.mask, bit_pow, decide_eq_false_iff_not]
      intro e
      have : q = r := by omega
      subst this
      rw [hr] at hw; exact absurd hw.1 (by simp)
  box r hr := by
    cases w with
    | slot u a => exact ⟨rfl, rfl, rfl⟩
    | root q x =>
      simp only [Wr.ok, Bool.and_eq_true] at hw
      rw [root_app, if_neg]
      · exact ⟨rfl, rfl, rfl⟩
      · rintro ⟨rfl, _⟩
        cases hq : dst with
        | none => rw [hq] at hw; exact absurd hw.2 (by simp)
        | some d =>
          rw [hq] at hw
          have : q = d := by simpa using hw.2
          subst this
          rw [hd q hq] at hr; cases hr
    | leaf q j a => exact (app_leaf_same s q j a).box r
  l1 := (app1_len s w).1
  l2 := (app1_len s w).2
  ctr := by cases w <;> exact Nat.le_refl _
theorem keeps_app {cx : Cx} {dst : Option Nat} (hd : ∀ d, dst = some d → cx.slk d = false) : ∀ {ws : List Wr} {s : St}, (∀ w ∈ ws, w.ok cx dst = true) → Keeps cx s (s.app ws)
  | [], s, h => Keeps.refl cx s
  | w :: ws, s, h => (keeps_app1 hd (h w (by simp))).trans (keeps_app (ws := ws) (s := s.app1 w) hd fun x hx => h x (List.mem_cons_of_mem _ hx))
theorem rin_app1 {cx : Cx} {s : St} {dst : Option Nat} {w : Wr} (h : RootsIn s) (hw : w.ok cx dst = true) : RootsIn (s.app1 w) := by
  intro r a ha
  cases w with
  | slot u b => exact h r a ha
  | root q x =>
    simp only [Wr.ok, Bool.and_eq_true] at hw
    rw [root_app] at ha
    split at ha
    · exact List.all_eq_true.1 hw.1.2 a ha
    · exact h r a ha
  | leaf q j b =>
    simp only [Wr.ok, Bool.and_eq_true] at hw
    have hroot : (s.app1 (.leaf q j b)).root r = if q = r ∧ q < s.ro.length then { s.root q with ls := upd (s.root q).ls j b } else s.root r := nth_upd _ _ _ _ _
    rw [hroot] at ha
    split at ha
    · have ha : a ∈ upd (s.root q).ls j b := ha
      rw [upd_set] at ha
      rcases List.mem_or_eq_of_mem_set ha with ha | ha
      · exact h q a ha
      · rw [ha]; exact hw.2
    · exact h r a ha
theorem rin_app {cx : Cx} {dst : Option Nat} : ∀ {ws : List Wr} {s : St}, RootsIn s → (∀ w ∈ ws, w.ok cx dst = true) → RootsIn (s.app ws)
  | [], s, h, hw => h
  | w :: ws, s, h, hw => rin_app (ws := ws) (s := s.app1 w) (rin_app1 h (hw w (by simp))) fun x hx => hw x (List.mem_cons_of_mem _ hx)

theorem does_ok {cx : Cx} {g : Rg} {bs : List Nat} {i : Nat} {o : Oper} {s : St} {ws : List Wr} (h : Does cx g bs i o s ws) : ∀ w ∈ ws, w.ok cx o.dst = true := by
  intro w hw
  rcases h with ⟨_, _, h⟩ | ⟨_, rfl⟩
  · have := List.all_eq_true.1 h w hw
    rw [Bool.and_eq_true] at this; exact this.1
  · cases hd : o.dst with
    | none => rw [hd] at hw; cases hw
    | some d =>
      rw [hd] at hw
      have : w = .slot d (one .undef) := by simpa [undefW] using hw
      subst this; simp [Wr.ok]
/-- A region keeps what is locked. -/
theorem keeps_trace {cx : Cx} {g : Rg} {bs : List Nat} : ∀ (r : List Oper) (i : Nat) (lg : List (Nat × Nat)) (s : St) (tr : List (Nat × List Wr)), Trace cx g bs i r lg s tr → (∀ o ∈ r, ∀ d, o.dst = some d → cx.slk d = false) → RootsIn s →
    Keeps cx s (appsIf (fun _ => true) i tr s) ∧ RootsIn (appsIf (fun _ => true) i tr s)
  | [], i, lg, s, [], ht, hd, hr => ⟨Keeps.refl cx s, hr⟩
  | [], i, lg, s, _ :: _, ht, hd, hr => ht.elim
  | _ :: _, i, lg, s, [], ht, hd, hr => ht.elim
  | o :: r, i, lg, s, (rm, ws) :: tr, ht, hd, hr => by
    obtain ⟨_, _, hdoes, ht⟩ := ht
    have hok := does_ok hdoes
    obtain ⟨h1, h2⟩ := keeps_trace r (i + 1) _ (s.app ws) tr ht (fun o ho => hd o (List.mem_cons_of_mem _ ho)) (rin_app hr hok)
    exact ⟨(keeps_app (hd o (by simp)) hok).trans h1, h2⟩
end Go.Ev

namespace Go.Ev
set_option linter.unusedVariables false
set_option linter.unusedSimpArgs false

section
variable {E : Ent} {s : St} {W : Wd} {tm : Array Value} {β : Type} {t : β}

theorem one_ok {a : AV} {v : Value} (h : AVok s W a v) : LAok s W a.one? v := by
  cases a with
  | tup vs => trivial
  | bx as => trivial
  | v g as =>
    cases g with
    | true => trivial
    | false => cases as with
      | nil => trivial
      | cons b bs => cases bs with
        | nil => exact h
        | cons => trivial
theorem frozen_leaf (h : Rep E s tm W) {r j ver gen : Nat} {t0 : TypeId} {e : Ls} {xs : List e.D} (hl : s.leaf r j = .arr ver gen t0 e xs 0) : W.om (.lf r j) = [] := by
  obtain ⟨u, _, hr⟩ := (h.roots r).row hl
  exact RowRd.zero hr
/-- A datum that nobody can turn reads so without any row that is owned. -/
theorem still_ok (h : Rep E s tm W) {l : L} {la : LA} {v : Value} (hv : LAok s W la v) (hs : s.still l la = true) {k : l.D → Step β} (hl : (s.datum l la k).leads t) : ∃ x, (k x).leads t ∧ l.rd 0 W.w W.fz v x [] := by
  cases l with
  | int kk => obtain ⟨x, hl, hr⟩ := datum_ok h hv hl; exact ⟨x, hl, (L.flat_rd _ rfl hr).1⟩
  | bool => obtain ⟨x, hl, hr⟩ := datum_ok h hv hl; exact ⟨x, hl, (L.flat_rd _ rfl hr).1⟩
  | str => obtain ⟨x, hl, hr⟩ := datum_ok h hv hl; exact ⟨x, hl, (L.flat_rd _ rfl hr).1⟩
  | sl t0 e =>
    unfold St.datum at hl
    cases la with
    | sc m x =>
      simp only at hl
      split at hl
      · rename_i y hy
        obtain ⟨q1, q2⟩ := L.cast_some hy
        subst q1
        have q2 : x = y := q2
        subst q2
        exact ⟨x, hl, hv⟩
      · exact hl.elim
    | nils => exact ⟨_, hl, by rw [show v = .slice none 0 0 from hv]; exact nil_row⟩
    | ref c =>
      simp only [St.still] at hs
      split at hs
      · rename_i ver gen t1 e1 xs hq
        obtain ⟨t', e', ys, d', o', hl, hr, ho⟩ := content_ref h hv hl
        split at hl
        · rename_i y hy
          obtain ⟨q1, q2⟩ := L.cast_some hy
          cases q1
          have q2 : ys = y := q2
          subst q2
          exact ⟨ys, hl, hr.freeze fun b hb => hb.elim id fun hb => by have := ho b hb; rw [frozen_leaf h hq] at this; cases this⟩
        · exact hl.elim
      · cases hs
    | win c lo hi =>
      simp only [St.still] at hs
      split at hs
      · rename_i ver gen t1 e1 xs hq
        obtain ⟨t', e', ys, d', o', hl, hr, ho⟩ := content_win h hv hl
        split at hl
        · rename_i y hy
          obtain ⟨q1, q2⟩ := L.cast_some hy
          cases q1
          have q2 : sub ys lo hi = y := q2
          subst q2
          exact ⟨_, hl, hr.freeze fun b hb => hb.elim id fun hb => by have := ho b hb; rw [frozen_leaf h hq] at this; cases this⟩
        · exact hl.elim
      · cases hs
    | _ => exact hl.elim

/-- What one pattern's data say. 'fz': what may be looked at then. -/
def Told (s : St) (W : Wd) (tm : Array Value) (fz : Nat → Prop) (p : VP) (vs : List Lv) : Prop := match p with
  | .slot t l => t < s.sl.length ∧ ∃ x, vs = [⟨l, x⟩] ∧ l.rd 0 W.w W.fz (tm.getD t Go.undef) x []
  | .own t ty e d k => t < s.sl.length ∧ ∃ xs : List e.D, vs = [⟨.sl ty e, xs⟩] ∧ (s.root t).box = false ∧ W.cv t 0 = some (tm.getD t Go.undef) ∧ RowRd e d W.w W.fz (tm.getD t Go.undef) xs (W.om (.lf t 0)) ∧ (k = true → ∃ gen t' e' xs' d', s.leaf t 0 = .arr 1 gen t' e' xs' d')
  | .box r ls => (s.root r).box = true ∧ ls.length = (s.root r).ls.length ∧ vs.length = (ls.filterMap id).length ∧ ∀ (v j : Nat) (y : Value), W.cv r j = some y → match nth .bad (boxLeaves v ls vs) j with
    | .arr ver gen t e xs d => ver = v ∧ gen = v ∧ RowRd e d W.w W.fz y xs (W.om (.lf r j))
    | .sc l x => l.rd 0 W.w fz y x []
    | .bad => True
    | _ => False

theorem packB_ok (h : Rep E s tm W) {fz : Nat → Prop} (r : Nat) (hfz : ∀ b, W.fz b → fz b) : ∀ (ls : List (Option (L × Nat))) (as : List LA) (j : Nat) {k : List Lv → Step β}, (∀ i b, as[i]? = some b → s.leaf r (j + i) = b) → (∀ a ∈ as, a.inRoot = true) →
    (∀ (i : Nat) (l : L), ls[i]? = some (some (l, 0)) → ∀ b ∈ W.om (.lf r (j + i)), fz b) → (packB s ls as k).leads t →
    ∃ vs, (k vs).leads t ∧ ls.length = as.length ∧ vs.length = (ls.filterMap id).length ∧ ∀ (v i : Nat) (y : Value), W.cv r (j + i) = some y → match nth .bad (boxLeaves v ls vs) i with
      | .arr ver gen t e xs d => ver = v ∧ gen = v ∧ RowRd e d W.w W.fz y xs (W.om (.lf r (j + i)))
      | .sc l x => l.rd 0 W.w fz y x []
      | .bad => True
      | _ => False
  | [], [], j, k, hg, hin, hz, hl => ⟨[], hl, rfl, rfl, fun v i y hy => by simp [boxLeaves, nth]⟩
  | [], _ :: _, j, k, hg, hin, hz, hl => hl.elim
  | none :: ls, [], j, k, hg, hin, hz, hl => hl.elim
  | some _ :: ls, [], j, k, hg, hin, hz, hl => hl.elim
  | none :: ls, a :: as, j, k, hg, hin, hz, hl => by
    simp only [packB] at hl
    obtain ⟨vs, hl, h1, h2, h3⟩ := packB_ok h r hfz ls as (j + 1) (fun i b hi => by have := hg (i + 1) b (by simpa using hi); rw [show j + 1 + i = j + (i + 1) by omega]; exact this) (fun a ha => hin a (List.mem_cons_of_mem _ ha))
      (fun i l hi b hb => hz (i + 1) l (by simpa using hi) b (by rw [show j + (i + 1) = j + 1 + i by omega]; exact hb)) hl
    refine ⟨vs, hl, by simp [h1], by simpa using h2, fun v i y hy => ?_⟩
    cases i with
    | zero => simp [boxLeaves, nth]
    | succ i =>
      have := h3 v i y (by rw [show j + 1 + i = j + (i + 1) by omega]; exact hy)
      rw [show j + 1 + i = j + (i + 1) by omega] at this
      exact this
  | some (l, d) :: ls, a :: as, j, k, hg, hin, hz, hl => by
    have hleaf : s.leaf r j = a := hg 0 a rfl
    obtain ⟨hlo, _⟩ := h.roots r
    have hlo : LeafOk s W (s.leaf r j) (W.cv r j) (W.om (.lf r j)) := hlo j
    rw [hleaf] at hlo
    have fin : ∀ (x : l.D), (packB s ls as fun vs => k (⟨l, x⟩ :: vs)).leads t → (∀ (v : Nat) (y : Value), W.cv r j = some y → match newLeaf v d ⟨l, x⟩ with
          | .arr ver gen t e xs d => ver = v ∧ gen = v ∧ RowRd e d W.w W.fz y xs (W.om (.lf r j))
          | .sc l x => l.rd 0 W.w fz y x []
          | .bad => True
          | _ => False) →
        ∃ vs, (k vs).leads t ∧ (some (l, d) :: ls).length = (a :: as).length ∧ vs.length = ((some (l, d) :: ls).filterMap id).length ∧ ∀ (v i : Nat) (y : Value), W.cv r (j + i) = some y → match nth .bad (boxLeaves v (some (l, d) :: ls) vs) i with
          | .arr ver gen t e xs d => ver = v ∧ gen = v ∧ RowRd e d W.w W.fz y xs (W.om (.lf r (j + i)))
          | .sc l x => l.rd 0 W.w fz y x []
          | .bad => True
          | _ => False := by
      intro x hl hx
      obtain ⟨vs, hl, h1, h2, h3⟩ := packB_ok h r hfz ls as (j + 1) (fun i b hi => by have := hg (i + 1) b (by simpa using hi); rw [show j + 1 + i = j + (i + 1) by omega]; exact this) (fun a ha => hin a (List.mem_cons_of_mem _ ha))
        (fun i l hi b hb => hz (i + 1) l (by simpa using hi) b (by rw [show j + (i + 1) = j + 1 + i by omega]; exact hb)) hl
      refine ⟨⟨l, x⟩ :: vs, hl, by simp [h1], by simp [h2], fun v i y hy => ?_⟩
      cases i with
      | zero => exact hx v y (by simpa using hy)
      | succ i =>
        have := h3 v i y (by rw [show j + 1 + i = j + (i + 1) by omega]; exact hy)
        rw [show j + 1 + i = j + (i + 1) by omega] at this
        exact this
    have hflat : ∀ (x : l.D), isSl l = false → (∀ y, W.cv r j = some y → l.rd 0 W.w W.fz y x []) → ∀ (v : Nat) (y : Value), W.cv r j = some y → match newLeaf v d ⟨l, x⟩ with
          | .arr ver gen t e xs d => ver = v ∧ gen = v ∧ RowRd e d W.w W.fz y xs (W.om (.lf r j))
          | .sc l x => l.rd 0 W.w fz y x []
          | .bad => True
          | _ => False := by
      intro x hns hx v y hy
      have := (L.flat_rd l hns (hx y hy) (d' := 0) (w' := W.w) (fz' := fz)).1
      cases l with
      | sl t e => simp [isSl] at hns
      | _ => exact this
    cases a with
    | arr ver gen t0 e0 xs d0 =>
      simp only [packB] at hl
      split at hl
      · rename_i hd
        simp only [Bool.or_eq_true, beq_iff_eq] at hd
        split at hl
        · rename_i y hy
          obtain ⟨q1, q2⟩ := L.cast_some hy
          subst q1
          have q2 : xs = y := q2
          subst q2
          refine fin xs hl fun v y hy => ?_
          obtain ⟨u, hu, hr⟩ := hlo
          rw [hy] at hu; injection hu with hu; subst hu
          cases d with
          | zero =>
            show (L.sl t0 e0).rd 0 W.w fz y xs []
            exact hr.freeze fun b hb => hb.elim (hfz b) fun hb => hz 0 (.sl t0 e0) rfl b (by simpa using hb)
          | succ d =>
            have : d0 = d + 1 := by omega
            subst this
            exact ⟨rfl, rfl, hr⟩
        · exact hl.elim
      · exact hl.elim
    | sc m x =>
      have hrd : ∀ y, W.cv r j = some y → m.rd 0 W.w W.fz y x [] := hlo.2
      cases d with
      | zero =>
        have hl : (s.datum l (.sc m x) fun y => packB s ls as fun vs => k (⟨l, y⟩ :: vs)).leads t := hl
        simp only [St.datum] at hl
        split at hl
        · rename_i y hy
          obtain ⟨q1, q2⟩ := L.cast_some hy
          subst q1
          have q2 : x = y := q2
          subst q2
          refine fin x hl fun v y hy => ?_
          have hr := L.rd_frame m (hrd y hy) (fun _ _ => rfl) hfz
          cases m <;> exact hr
        · exact hl.elim
      | succ d =>
        cases hl0 : l with
        | sl t1 e1 => subst hl0; exact hl.elim
        | int kk =>
          subst hl0
          have hl : (s.datum (.int kk) (.sc m x) fun y => packB s ls as fun vs => k (⟨.int kk, y⟩ :: vs)).leads t := hl
          simp only [St.datum] at hl
          split at hl
          · rename_i y hy
            obtain ⟨q1, q2⟩ := L.cast_some hy
            subst q1
            have q2 : x = y := q2
            subst q2
            exact fin x hl (hflat x rfl hrd)
          · exact hl.elim
        | bool =>
          subst hl0
          have hl : (s.datum .bool (.sc m x) fun y => packB s ls as fun vs => k (⟨.bool, y⟩ :: vs)).leads t := hl
          simp only [St.datum] at hl
          split at hl
          · rename_i y hy
            obtain ⟨q1, q2⟩ := L.cast_some hy
            subst q1
            have q2 : x = y := q2
            subst q2
            exact fin x hl (hflat x rfl hrd)
          · exact hl.elim
        | str =>
          subst hl0
          have hl : (s.datum .str (.sc m x) fun y => packB s ls as fun vs => k (⟨.str, y⟩ :: vs)).leads t := hl
          simp only [St.datum] at hl
          split at hl
          · rename_i y hy
            obtain ⟨q1, q2⟩ := L.cast_some hy
            subst q1
            have q2 : x = y := q2
            subst q2
            exact fin x hl (hflat x rfl hrd)
          · exact hl.elim
    | nils =>
      cases d with
      | zero =>
        cases l with
        | sl t1 e1 =>
          refine fin ([] : List e1.D) hl fun v y hy => ?_
          show (L.sl t1 e1).rd 0 W.w fz y ([] : List e1.D) []
          rw [show y = .slice none 0 0 from hlo.2 y hy]; exact nil_row
        | _ => exact hl.elim
      | succ d => cases l <;> exact hl.elim
    | ref c => have := hin (.ref c) (by simp); cases this
    | win c lo hi => have := hin (.win c lo hi) (by simp); cases this
    | _ => cases d with
      | zero => exact hl.elim
      | succ d => cases l <;> exact hl.elim

/-- What a box's pattern freezes. -/
def Frz (ps : List VP) (r j : Nat) : Prop := ∃ ls l, VP.box r ls ∈ ps ∧ ls[j]? = some (some (l, 0))

theorem packV_ok (h : Rep E s tm W) (hin : RootsIn s) {fz : Nat → Prop} (hfz : ∀ b, W.fz b → fz b) {p : VP} (hz : ∀ r j, Frz [p] r j → ∀ b ∈ W.om (.lf r j), fz b) {k : List Lv → Step β} (hl : (packV s p k).leads t) :
    ∃ vs, (k vs).leads t ∧ Told s W tm fz p vs := by
  cases p with
  | slot u l =>
    simp only [packV] at hl
    split at hl
    · rename_i hs
      have hlt : u < s.sl.length := by
        rcases Nat.lt_or_ge u s.sl.length with hlt | hge
        · exact hlt
        · have : s.slot u = .v false [.bad] := nth_ge _ hge
          rw [this] at hl; exact hl.elim
      obtain ⟨x, hl, hr⟩ := still_ok h (one_ok (h.slots u)) hs hl
      exact ⟨_, hl, hlt, x, rfl, hr⟩
    · exact hl.elim
  | own u ty e d k0 =>
    simp only [packV] at hl
    split at hl
    · rename_i c vv ver gen t' e' xs d' hsl hro
      split at hl
      · rename_i hc
        simp only [Bool.and_eq_true, beq_iff_eq] at hc
        obtain ⟨⟨⟨⟨⟨hcr, hcj⟩, hp⟩, hver⟩, hd⟩, hk0⟩ := hc
        have hp : c.p = [] := by cases hq : c.p <;> simp_all [isNil]
        subst hd
        split at hl
        · rename_i y hy
          obtain ⟨q1, q2⟩ := L.cast_some hy
          cases q1
          have q2 : xs = y := q2
          subst q2
          have hleaf : s.leaf c.r c.j = .arr c.ver gen ty e xs d := by
            unfold St.leaf; rw [hcr, hcj, hro, hver]; rfl
          have hval : LAok s W (.ref c) (tm.getD u Go.undef) := by have := h.slots u; rw [hsl] at this; exact this
          obtain ⟨h', e2, hcv, hn⟩ := hval gen _ _ _ _ hleaf (.inl hp)
          rw [hp] at hn
          obtain ⟨rfl, rfl⟩ := hn
          obtain ⟨u', hu', hrd⟩ := (h.roots c.r).row hleaf
          rw [hcv] at hu'; injection hu' with hu'; rw [← hu'] at hrd
          rw [hcr, hcj] at hrd hcv
          have hlt : u < s.sl.length := by
            rcases Nat.lt_or_ge u s.sl.length with hlt | hge
            · exact hlt
            · have : s.slot u = .v false [.bad] := nth_ge _ hge
              rw [this] at hsl; cases hsl
          refine ⟨_, hl, hlt, xs, rfl, by rw [hro], hcv, hrd, fun hk => ?_⟩
          rw [hcr, hcj] at hleaf
          rw [hk] at hk0
          have h1 : c.ver = 1 := by simpa [hver] using hk0
          rw [h1] at hleaf
          exact ⟨_, _, _, _, _, hleaf⟩
        · exact hl.elim
      · exact hl.elim
    · exact hl.elim
  | box r ls =>
    simp only [packV] at hl
    split at hl
    · rename_i hb
      obtain ⟨vs, hl, h1, h2, h3⟩ := packB_ok h (fz := fz) r hfz ls (s.root r).ls 0 (fun i b hi => by unfold St.leaf; rw [Nat.zero_add, nth_of, hi]; rfl) (hin r)
        (fun i l hi b hb => hz r i ⟨ls, l, by simp, hi⟩ b (by simpa using hb)) hl
      exact ⟨vs, hl, hb, h1, h2, fun v j y hy => by have := h3 v j y (by simpa using hy); simpa using this⟩
    · exact hl.elim

theorem packs_ok (h : Rep E s tm W) (hin : RootsIn s) {fz : Nat → Prop} (hfz : ∀ b, W.fz b → fz b) : ∀ {ps : List VP} {k : List Lv → Step β}, (∀ r j, Frz ps r j → ∀ b ∈ W.om (.lf r j), fz b) → (packs s ps k).leads t →
    ∃ vss : List (List Lv), (k vss.flatten).leads t ∧ vss.length = ps.length ∧ ∀ (i : Nat) (p : VP) (vs : List Lv), ps[i]? = some p → vss[i]? = some vs → Told s W tm fz p vs
  | [], k, hz, hl => ⟨[], hl, rfl, fun i p vs hp => by simp at hp⟩
  | p :: ps, k, hz, hl => by
    simp only [packs] at hl
    obtain ⟨vs, hl, hv⟩ := packV_ok h hin hfz (fun r j ⟨ls, l, hm, hj⟩ => hz r j ⟨ls, l, by simp at hm; simp [hm], hj⟩) hl
    obtain ⟨vss, hl, h1, h2⟩ := packs_ok h hin hfz (fun r j ⟨ls, l, hm, hj⟩ => hz r j ⟨ls, l, List.mem_cons_of_mem _ hm, hj⟩) hl
    refine ⟨vs :: vss, by simpa using hl, by simp [h1], fun i q us hq hu => ?_⟩
    cases i with
    | zero => simp at hq hu; subst hq; subst hu; exact hv
    | succ i => exact h2 i q us (by simpa using hq) (by simpa using hu)
end
end Go.Ev

namespace Go.Ev
set_option linter.unusedVariables false
set_option linter.unusedSimpArgs false

def VP.cnt : VP → Nat
  | .slot _ _ => 1
  | .own _ _ _ _ _ => 1
  | .box _ ls => (ls.filterMap id).length
theorem boxLeaves_more (v : Nat) : ∀ (ls : List (Option (L × Nat))) (vs ws : List Lv), vs.length = (ls.filterMap id).length → boxLeaves v ls (vs ++ ws) = boxLeaves v ls vs
  | [], vs, ws, h => by simp [boxLeaves]
  | none :: ls, vs, ws, h => by simp only [boxLeaves]; rw [boxLeaves_more v ls vs ws (by simpa using h)]
  | some (l, d) :: ls, [], ws, h => by simp at h
  | some (l, d) :: ls, x :: vs, ws, h => by simp only [boxLeaves, List.cons_append]; rw [boxLeaves_more v ls vs ws (by simpa using h)]
theorem boxLeaves_len (v : Nat) : ∀ (ls : List (Option (L × Nat))) (vs : List Lv), (boxLeaves v ls vs).length = ls.length
  | [], vs => rfl
  | none :: ls, vs => by simp [boxLeaves, boxLeaves_len v ls vs]
  | some (l, d) :: ls, [] => by simp [boxLeaves, boxLeaves_len v ls []]
  | some (l, d) :: ls, x :: vs => by simp [boxLeaves, boxLeaves_len v ls vs]
theorem embedV_len (v : Nat) (s0 : St) : ∀ (ps : List VP) (vs : List Lv) (σ : St), (σ.app (embedV v s0 ps vs)).sl.length = σ.sl.length ∧ (σ.app (embedV v s0 ps vs)).ro.length = σ.ro.length := fun ps vs σ => app_len _ σ

/-- What a pattern writes. -/
def At (v : Nat) (s0 σ : St) (p : VP) (vs : List Lv) : Prop := match p with
  | .slot t _ => ∀ x, vs = [x] → σ.slot t = one (.sc x.l x.x)
  | .own t _ _ d k => ∀ x, vs = [x] → σ.slot t = one (.ref ⟨t, 0, ownVer v k, v, []⟩) ∧ σ.root t = ⟨false, v, [ownLeaf v d k x]⟩
  | .box r ls => σ.root r = ⟨true, (s0.root r).ver, boxLeaves v ls vs⟩
theorem distinct_cons {x : Nat} {xs : List Nat} (h : distinct (x :: xs) = true) : x ∉ xs ∧ distinct xs = true := by
  simp only [distinct, Bool.and_eq_true, Bool.not_eq_true'] at h
  refine ⟨fun hm => ?_, h.2⟩
  have := (has_mem xs x).2 hm
  rw [h.1] at this; cases this
theorem distinct_append : ∀ {xs ys : List Nat}, distinct (xs ++ ys) = true → (∀ x ∈ xs, x ∉ ys) ∧ distinct ys = true
  | [], ys, h => ⟨(fun x hx => by cases hx), h⟩
  | x :: xs, ys, h => by
    obtain ⟨h1, h2⟩ := distinct_cons (xs := xs ++ ys) h
    obtain ⟨h3, h4⟩ := distinct_append h2
    refine ⟨fun y hy => ?_, h4⟩
    rcases List.mem_cons.1 hy with rfl | hy
    · exact fun hm => h1 (List.mem_append_right _ hm)
    · exact h3 y hy

theorem embedV_look (v : Nat) (s0 : St) : ∀ (ps : List VP) (vss : List (List Lv)) (σ : St), vss.length = ps.length → (∀ (i : Nat) (p : VP) (vs : List Lv), ps[i]? = some p → vss[i]? = some vs → vs.length = p.cnt) →
    distinct (ps.flatMap VP.slots) = true → distinct (ps.flatMap VP.roots) = true → (∀ t ∈ ps.flatMap VP.slots, t < σ.sl.length) → (∀ r ∈ ps.flatMap VP.roots, r < σ.ro.length) →
    (∀ t, t ∉ ps.flatMap VP.slots → (σ.app (embedV v s0 ps vss.flatten)).slot t = σ.slot t) ∧ (∀ r, r ∉ ps.flatMap VP.roots → (σ.app (embedV v s0 ps vss.flatten)).root r = σ.root r) ∧
    ∀ (i : Nat) (p : VP) (vs : List Lv), ps[i]? = some p → vss[i]? = some vs → At v s0 (σ.app (embedV v s0 ps vss.flatten)) p vs
  | [], [], σ, hl, hc, d1, d2, b1, b2 => ⟨fun _ _ => rfl, fun _ _ => rfl, fun i p vs hp => by simp at hp⟩
  | [], _ :: _, σ, hl, hc, d1, d2, b1, b2 => by simp at hl
  | _ :: _, [], σ, hl, hc, d1, d2, b1, b2 => by simp at hl
  | p :: ps, vs :: vss, σ, hl, hc, d1, d2, b1, b2 => by
    rw [List.flatMap_cons] at d1 d2
    obtain ⟨n1, d1'⟩ := distinct_append d1
    obtain ⟨n2, d2'⟩ := distinct_append d2
    have hcnt := hc 0 p vs rfl rfl
    have hb1 : ∀ t ∈ p.slots, t < σ.sl.length := fun t ht => b1 t (by rw [List.flatMap_cons]; exact List.mem_append_left _ ht)
    have hb2 : ∀ t ∈ p.roots, t < σ.ro.length := fun t ht => b2 t (by rw [List.flatMap_cons]; exact List.mem_append_left _ ht)
    have main : ∀ (ws : List Wr), embedV v s0 (p :: ps) (vs :: vss).flatten = ws ++ embedV v s0 ps vss.flatten → (∀ t, t ∉ p.slots → (σ.app ws).slot t = σ.slot t) → (∀ r, r ∉ p.roots → (σ.app ws).root r = σ.root r) → At v s0 (σ.app ws) p vs →
        (∀ t, t ∉ (p :: ps).flatMap VP.slots → (σ.app (embedV v s0 (p :: ps) (vs :: vss).flatten)).slot t = σ.slot t) ∧ (∀ r, r ∉ (p :: ps).flatMap VP.roots → (σ.app (embedV v s0 (p :: ps) (vs :: vss).flatten)).root r = σ.root r) ∧
        ∀ (i : Nat) (q : VP) (us : List Lv), (p :: ps)[i]? = some q → (vs :: vss)[i]? = some us → At v s0 (σ.app (embedV v s0 (p :: ps) (vs :: vss).flatten)) q us := by
      intro ws he hs hr ha
      obtain ⟨i1, i2, i3⟩ := embedV_look v s0 ps vss (σ.app ws) (by simpa using hl) (fun i q us h1 h2 => hc (i + 1) q us (by simpa using h1) (by simpa using h2)) d1' d2'
        (fun t ht => by rw [(app_len ws σ).1]; exact b1 t (by rw [List.flatMap_cons]; exact List.mem_append_right _ ht)) (fun t ht => by rw [(app_len ws σ).2]; exact b2 t (by rw [List.flatMap_cons]; exact List.mem_append_right _ ht))
      rw [he, app_append]
      refine ⟨fun t ht => ?_, fun r hr' => ?_, fun i q us h1 h2 => ?_⟩
      · rw [List.flatMap_cons] at ht
        rw [i1 t (fun hm => ht (List.mem_append_right _ hm)), hs t (fun hm => ht (List.mem_append_left _ hm))]
      · rw [List.flatMap_cons] at hr'
        rw [i2 r (fun hm => hr' (List.mem_append_right _ hm)), hr r (fun hm => hr' (List.mem_append_left _ hm))]
      · cases i with
        | zero =>
          simp at h1 h2; subst h1; subst h2
          cases p with
          | slot t l => intro x hx; rw [i1 t (n1 t (by simp [VP.slots]))]; exact ha x hx
          | own t ty e d k =>
            intro x hx
            rw [i1 t (n1 t (by simp [VP.slots])), i2 t (n2 t (by simp [VP.roots]))]; exact ha x hx
          | box r ls =>
            show (_ : St).root r = _
            rw [i2 r (n2 r (by simp [VP.roots]))]; exact ha
        | succ i => exact i3 i q us (by simpa using h1) (by simpa using h2)
    cases p with
    | slot t l =>
      obtain ⟨x, rfl⟩ : ∃ x, vs = [x] := by
        match vs, hcnt with
        | [x], _ => exact ⟨x, rfl⟩
      refine main [.slot t (one (.sc x.l x.x))] rfl (fun u hu => ?_) (fun r hr => rfl) ?_
      · show (σ.app1 _).slot u = _
        rw [slot_app, if_neg (fun hh => hu (by simp [VP.slots, hh.1]))]
      · intro y hy
        simp at hy; subst hy
        show (σ.app1 _).slot t = _
        rw [slot_app, if_pos ⟨rfl, hb1 t (by simp [VP.slots])⟩]
    | own t ty e d k =>
      obtain ⟨x, rfl⟩ : ∃ x, vs = [x] := by
        match vs, hcnt with
        | [x], _ => exact ⟨x, rfl⟩
      refine main [.root t ⟨false, v, [ownLeaf v d k x]⟩, .slot t (one (.ref ⟨t, 0, ownVer v k, v, []⟩))] rfl (fun u hu => ?_) (fun r hr => ?_) ?_
      · show ((σ.app1 _).app1 _).slot u = _
        rw [slot_app, if_neg (fun hh => hu (by simp [VP.slots, hh.1]))]; rfl
      · show (σ.app1 _).root r = _
        rw [root_app, if_neg (fun hh => hr (by simp [VP.roots, hh.1]))]
      · intro y hy
        simp at hy; subst hy
        refine ⟨?_, ?_⟩
        · show ((σ.app1 _).app1 _).slot t = _
          rw [slot_app, if_pos ⟨rfl, by rw [(app1_len _ _).1]; exact hb1 t (by simp [VP.slots])⟩]
        · show (σ.app1 _).root t = _
          rw [root_app, if_pos ⟨rfl, hb2 t (by simp [VP.roots])⟩]
    | box r ls =>
      refine main [.root r ⟨true, (s0.root r).ver, boxLeaves v ls vs⟩] ?_ (fun u hu => rfl) (fun q hq => ?_) ?_
      · have hcnt : vs.length = (ls.filterMap id).length := hcnt
        simp only [embedV, List.flatten_cons]
        rw [boxLeaves_more v ls vs _ hcnt, ← hcnt, List.drop_left]; rfl
      · show (σ.app1 _).root q = _
        rw [root_app, if_neg (fun hh => hq (by simp [VP.roots, hh.1]))]
      · show (σ.app1 _).root r = _
        rw [root_app, if_pos ⟨rfl, hb2 r (by simp [VP.roots])⟩]
end Go.Ev

namespace Go.Ev
set_option linter.unusedVariables false
set_option linter.unusedSimpArgs false

theorem mapN_len {α γ : Type} (f : Nat → α → γ) : ∀ (n : Nat) (xs : List α), (mapN f n xs).length = xs.length
  | _, [] => rfl
  | n, x :: xs => by simp [mapN, mapN_len f (n + 1) xs]
theorem mapN_nth {α γ : Type} (f : Nat → α → γ) (d : γ) (d0 : α) : ∀ (n : Nat) (xs : List α) (i : Nat), i < xs.length → nth d (mapN f n xs) i = f (n + i) (nth d0 xs i)
  | n, [], i, h => by simp at h
  | n, x :: xs, 0, h => rfl
  | n, x :: xs, i + 1, h => by
    simp only [mapN, nth]
    rw [mapN_nth f d d0 (n + 1) xs i (by simpa using h), show n + 1 + i = n + (i + 1) by omega]
theorem base_slot (ms : List Nat) (ps : List VP) (s : St) (t : Nat) : (base ms ps s).slot t = if has ms t then one .bad else (s.slot t).clean (fun r => has ms r || has (ps.flatMap VP.slots) r) fun r => has ms r || has (ps.flatMap VP.roots) r := by
  unfold St.slot base
  by_cases h : t < s.sl.length
  · dsimp only
    rw [mapN_nth _ _ (.v false [.bad]) 0 s.sl t h, Nat.zero_add]
  · dsimp only
    rw [nth_ge _ (by rw [mapN_len]; omega), nth_ge _ (by omega)]
    split <;> rfl
theorem base_root (ms : List Nat) (ps : List VP) (s : St) (r : Nat) : (base ms ps s).root r = if has ms r then dead else s.root r := by
  unfold St.root base
  by_cases h : r < s.ro.length
  · dsimp only
    rw [mapN_nth _ _ dead 0 s.ro r h, Nat.zero_add]
  · dsimp only
    rw [nth_ge _ (by rw [mapN_len]; omega), nth_ge _ (by omega)]
    split <;> rfl
theorem base_len (ms : List Nat) (ps : List VP) (s : St) : (base ms ps s).sl.length = s.sl.length ∧ (base ms ps s).ro.length = s.ro.length := ⟨mapN_len _ _ _, mapN_len _ _ _⟩

theorem clean_vers (m1 m2 : Nat → Bool) (a : AV) : ∀ n ∈ (a.clean m1 m2).vers, n ∈ a.vers := by
  cases a with
  | tup vs => intro n hn; simp [AV.clean, one, AV.vers, LA.vers] at hn
  | bx as => intro n hn; simp [AV.clean, one, AV.vers, LA.vers] at hn
  | v g as =>
    intro n hn
    obtain ⟨b, hb, hn⟩ := List.mem_flatMap.1 (show n ∈ (as.map (LA.clean m1 m2)).flatMap LA.vers from hn)
    obtain ⟨c, hc, rfl⟩ := List.mem_map.1 hb
    refine List.mem_flatMap.2 ⟨c, hc, ?_⟩
    cases c with
    | ref c => simp only [LA.clean] at hn; split at hn; cases hn; exact hn
    | win c lo hi => simp only [LA.clean] at hn; split at hn; cases hn; exact hn
    | eptr c => simp only [LA.clean] at hn; split at hn; cases hn; exact hn
    | ptr r j ver => simp only [LA.clean] at hn; split at hn; cases hn; exact hn
    | _ => exact hn
/-- Cleaning as a relation. -/
theorem clean_rel {cx : Cx} {m1 m2 : Nat → Bool} (h1 : ∀ r, m1 r = true → cx.slk r = false) (h2 : ∀ r, m2 r = true → cx.lock r = false) (a : AV) : AClean cx a (a.clean m1 m2) := by
  cases a with
  | tup vs => exact .tup vs
  | bx as => exact .bx as
  | v g as =>
    refine .v g as _ (by simp) fun j b hj => ⟨LA.clean m1 m2 b, by rw [List.getElem?_map, hj]; rfl, ?_⟩
    cases b with
    | ref c => simp only [LA.clean]; split; exact .inr ⟨rfl, h2 _ (by assumption)⟩; exact .inl rfl
    | win c lo hi => simp only [LA.clean]; split; exact .inr ⟨rfl, h2 _ (by assumption)⟩; exact .inl rfl
    | eptr c => simp only [LA.clean]; split; exact .inr ⟨rfl, h2 _ (by assumption)⟩; exact .inl rfl
    | ptr r j ver => simp only [LA.clean]; split; exact .inr ⟨rfl, h1 _ (by assumption)⟩; exact .inl rfl
    | _ => exact .inl rfl
end Go.Ev

namespace Go.Ev
set_option linter.unusedVariables false
set_option linter.unusedSimpArgs false

theorem boxLeaves_frz (v : Nat) : ∀ (ls : List (Option (L × Nat))) (vs : List Lv) (j : Nat) (l : L), ls[j]? = some (some (l, 0)) → (nth .bad (boxLeaves v ls vs) j).isArr = false
  | [], vs, j, l, h => by simp at h
  | none :: ls, vs, 0, l, h => by simp at h
  | none :: ls, vs, j + 1, l, h => boxLeaves_frz v ls vs j l (by simpa using h)
  | some (l', d) :: ls, [], 0, l, h => rfl
  | some (l', d) :: ls, [], j + 1, l, h => boxLeaves_frz v ls [] j l (by simpa using h)
  | some (l', d) :: ls, ⟨l0, x⟩ :: vs, 0, l, h => by
    simp at h
    obtain ⟨_, rfl⟩ := h
    cases l0 <;> rfl
  | some (l', d) :: ls, x :: vs, j + 1, l, h => boxLeaves_frz v ls vs j l (by simpa using h)

theorem in_lock {cx : Cx} {ms : List Nat} {ps : List VP} {r : Nat} (h1 : r ∉ ms) (h2 : r ∉ ps.flatMap VP.roots) : (cx.in ms ps).lock r = true := by
  have a : has ms r = false := by cases h : has ms r; rfl; exact absurd ((has_mem _ _).1 h) h1
  have b : has (ps.flatMap VP.roots) r = false := by cases h : has (ps.flatMap VP.roots) r; rfl; exact absurd ((has_mem _ _).1 h) h2
  simp [Cx.in, a, b]
theorem in_slk {cx : Cx} {ms : List Nat} {ps : List VP} {r : Nat} (h1 : r ∉ ms) (h2 : r ∉ ps.flatMap VP.slots) : (cx.in ms ps).slk r = true := by
  have a : has ms r = false := by cases h : has ms r; rfl; exact absurd ((has_mem _ _).1 h) h1
  have b : has (ps.flatMap VP.slots) r = false := by cases h : has (ps.flatMap VP.slots) r; rfl; exact absurd ((has_mem _ _).1 h) h2
  simp [Cx.in, a, b]

/-- What is known of the told patterns and of the state that begins anew ('σ'). -/
structure Anew (ms : List Nat) (ps : List VP) (s0 s1 σ : St) (W : Wd) (tm : Array Value) (fz : Nat → Prop) (vss : List (List Lv)) : Prop where
  len : vss.length = ps.length
  told : ∀ (i : Nat) (p : VP) (vs : List Lv), ps[i]? = some p → vss[i]? = some vs → Told s1 W tm fz p vs
  at_ : ∀ (i : Nat) (p : VP) (vs : List Lv), ps[i]? = some p → vss[i]? = some vs → At s0.ctr s0 σ p vs
  slot : ∀ t, t ∉ ps.flatMap VP.slots → σ.slot t = (base ms ps s0).slot t
  root : ∀ r, r ∉ ps.flatMap VP.roots → σ.root r = (base ms ps s0).root r
  l1 : σ.sl.length = s0.sl.length
  l2 : σ.ro.length = s0.ro.length
theorem Anew.get {ms : List Nat} {ps : List VP} {s0 s1 σ : St} {W : Wd} {tm : Array Value} {fz : Nat → Prop} {vss : List (List Lv)} (h : Anew ms ps s0 s1 σ W tm fz vss) {p : VP} (hp : p ∈ ps) : ∃ vs, Told s1 W tm fz p vs ∧ At s0.ctr s0 σ p vs := by
  obtain ⟨i, hi⟩ := List.getElem?_of_mem hp
  obtain ⟨vs, hv⟩ := at_some h.len (List.getElem?_eq_some_iff.1 hi).1
  exact ⟨vs, h.told i p vs hi hv, h.at_ i p vs hi hv⟩

def fzOf (W : Wd) (ps : List VP) (b : Nat) : Prop := W.fz b ∨ ∃ r j, Frz ps r j ∧ b ∈ W.om (.lf r j)

theorem anew_ok {E : Ent} {cx : Cx} {N : Nat} {ms : List Nat} {ps : List VP} {s0 s1 : St} {tm : Array Value} {W : Wd} {x : (patK ps).D} (h1 : Rep E s1 tm W) (r1 : RootsIn s1) (hk : Keeps (cx.in ms ps) s0 s1) (hp : patOk cx ms ps = true) (hx : packTo ps s1 = some x) :
    ∃ vss, Anew ms ps s0 s1 (embed ms ps s0 x) W tm (fzOf W ps) vss := by
  unfold packTo at hx
  obtain ⟨lvs, hl, hpk⟩ := Step.run_leads _ hx
  obtain ⟨vss, hl, hlen, htold⟩ := packs_ok h1 r1 (fz := fzOf W ps) (fun b hb => .inl hb) (fun r j hf b hb => .inr ⟨r, j, hf, hb⟩) hl
  have hl : vss.flatten = lvs := hl
  subst hl
  have hup := unpack_pack _ _ _ hpk
  simp only [patOk, Bool.and_eq_true] at hp
  obtain ⟨⟨d1, d2⟩, _⟩ := hp
  have hro : s1.ro.length = s1.sl.length := by rw [h1.len1, h1.len2]
  have hget : ∀ p ∈ ps, ∃ vs, Told s1 W tm (fzOf W ps) p vs := fun p hp => by
    obtain ⟨i, hi⟩ := List.getElem?_of_mem hp
    obtain ⟨vs, hv⟩ := at_some hlen (List.getElem?_eq_some_iff.1 hi).1
    exact ⟨vs, htold i p vs hi hv⟩
  have hlook := embedV_look s0.ctr s0 ps vss (base ms ps s0) hlen (fun i p vs hi hv => by
      have := htold i p vs hi hv
      cases p with
      | slot t l => obtain ⟨_, x, rfl, _⟩ := this; rfl
      | own t ty e d k => obtain ⟨_, x, rfl, _⟩ := this; rfl
      | box r ls => exact this.2.2.1) d2 d1
    (fun t ht => by
      rw [(base_len ms ps s0).1, ← hk.l1]
      obtain ⟨p, hp, ht⟩ := List.mem_flatMap.1 ht
      obtain ⟨vs, hv⟩ := hget p hp
      cases p with
      | slot u l => simp [VP.slots] at ht; subst ht; exact hv.1
      | own u ty e d k => simp [VP.slots] at ht; subst ht; exact hv.1
      | box r ls => simp [VP.slots] at ht)
    (fun t ht => by
      rw [(base_len ms ps s0).2, ← hk.l2]
      obtain ⟨p, hp, ht⟩ := List.mem_flatMap.1 ht
      obtain ⟨vs, hv⟩ := hget p hp
      cases p with
      | slot u l => simp [VP.roots] at ht
      | own u ty e d k => simp [VP.roots] at ht; subst ht; rw [hro]; exact hv.1
      | box r ls => simp [VP.roots] at ht; subst ht; exact root_lt hv.1)
  have he : embed ms ps s0 x = (base ms ps s0).app (embedV s0.ctr s0 ps vss.flatten) := by unfold embed; rw [hup]
  rw [he]
  obtain ⟨a, b, c⟩ := hlook
  exact ⟨vss, hlen, htold, c, a, b, (app_len _ _).1.trans (base_len ms ps s0).1, (app_len _ _).2.trans (base_len ms ps s0).2⟩
end Go.Ev

namespace Go.Ev
set_option linter.unusedVariables false
set_option linter.unusedSimpArgs false

section
variable {E : Ent} {cx : Cx} {N : Nat} {ms : List Nat} {ps : List VP} {s0 s1 σ : St} {tm : Array Value} {W : Wd} {vss : List (List Lv)}

noncomputable def anewW (σ : St) (W : Wd) (ps : List VP) : Wd where
  w := W.w
  fz := fzOf W ps
  cv := W.cv
  bk := W.bk
  om k := match k with
    | .lf r j => bif (σ.leaf r j).isArr then W.om (.lf r j) else []
    | .blk r => bif (σ.root r).box then W.om (.blk r) else []
    | .fl _ => []
theorem anewW_sub (k : Key) : ∀ b ∈ (anewW σ W ps).om k, b ∈ W.om k := by
  intro b hb
  cases k with
  | lf r j =>
    have hb : b ∈ (bif (σ.leaf r j).isArr then W.om (.lf r j) else []) := hb
    cases h : (σ.leaf r j).isArr <;> rw [h] at hb
    · cases hb
    · exact hb
  | blk r =>
    have hb : b ∈ (bif (σ.root r).box then W.om (.blk r) else []) := hb
    cases h : (σ.root r).box <;> rw [h] at hb
    · cases hb
    · exact hb
  | fl k => cases hb

theorem mem_roots {p : VP} (hp : p ∈ ps) {r : Nat} (hr : r ∈ p.roots) : r ∈ ps.flatMap VP.roots := List.mem_flatMap.2 ⟨p, hp, hr⟩

theorem anew_frz (ha : Anew ms ps s0 s1 σ W tm (fzOf W ps) vss) {r j : Nat} (hf : Frz ps r j) : (σ.leaf r j).isArr = false := by
  obtain ⟨ls, l, hm, hj⟩ := hf
  obtain ⟨vs, _, hat⟩ := ha.get hm
  have hat : σ.root r = _ := hat
  unfold St.leaf
  rw [hat]
  exact boxLeaves_frz _ ls vs j l hj

theorem anew_sep (h : Rep E s1 tm W) (ha : Anew ms ps s0 s1 σ W tm (fzOf W ps) vss) : Sep E (anewW σ W ps) where
  nodup k := by
    cases k with
    | lf r j =>
      show (bif (σ.leaf r j).isArr then W.om (.lf r j) else []).Nodup
      cases (σ.leaf r j).isArr
      · exact List.nodup_nil
      · exact h.sep.nodup _
    | blk r =>
      show (bif (σ.root r).box then W.om (.blk r) else []).Nodup
      cases (σ.root r).box
      · exact List.nodup_nil
      · exact h.sep.nodup _
    | fl k => exact List.nodup_nil
  disj k k' hne b hb hb' := h.sep.disj k k' hne b (anewW_sub k b hb) (anewW_sub k' b hb')
  own k b hb := by
    obtain ⟨q1, q2, q3⟩ := h.sep.own k b (anewW_sub k b hb)
    refine ⟨?_, q2, q3⟩
    rintro (hz | ⟨r, j, hf, hz⟩)
    · exact q1 hz
    · have hk : k = .lf r j := Classical.byContradiction fun hne => h.sep.disj k _ hne b (anewW_sub k b hb) hz
      subst hk
      have hb : b ∈ (bif (σ.leaf r j).isArr then W.om (.lf r j) else []) := hb
      rw [anew_frz ha hf] at hb; cases hb
  fz b hb := by
    rcases hb with hz | ⟨r, j, _, hz⟩
    · exact h.sep.fz b hz
    · obtain ⟨_, q2, q3⟩ := h.sep.own _ b hz; exact ⟨q2, .inr q3⟩
  frame := h.sep.frame
  size := h.sep.size
  rest := h.sep.rest

/-- Variables of the new state were there. -/
theorem anew_box (hk : Keeps (cx.in ms ps) s0 s1) (hp : patOk cx ms ps = true) (ha : Anew ms ps s0 s1 σ W tm (fzOf W ps) vss) {r : Nat} (hb : (σ.root r).box = true) : (s1.root r).box = true ∧ (s1.root r).ver = (σ.root r).ver ∧ (s1.root r).ls.length = (σ.root r).ls.length := by
  simp only [patOk, Bool.and_eq_true] at hp
  obtain ⟨_, hall⟩ := hp
  by_cases hr : r ∈ ps.flatMap VP.roots
  · obtain ⟨p, hm, hr⟩ := List.mem_flatMap.1 hr
    obtain ⟨vs, ht, hat⟩ := ha.get hm
    cases p with
    | slot t l => simp [VP.roots] at hr
    | own t ty e d k =>
      simp [VP.roots] at hr; subst hr
      obtain ⟨_, xs, rfl, _⟩ := ht
      have := (hat _ rfl).2
      rw [this] at hb; cases hb
    | box q ls =>
      simp [VP.roots] at hr; subst hr
      have hat : σ.root r = _ := hat
      have h2 := List.all_eq_true.1 hall _ hm
      simp only [Bool.and_eq_true, Bool.not_eq_true'] at h2
      have n1 : r ∉ ms := fun hh => by rw [(has_mem _ _).2 hh] at h2; exact absurd h2.1.1 (by simp)
      have n2 : r ∉ ps.flatMap VP.slots := fun hh => by rw [(has_mem _ _).2 hh] at h2; exact absurd h2.2 (by simp)
      obtain ⟨b1, b2, b3⟩ := hk.box r (in_slk n1 n2)
      refine ⟨ht.1, ?_, ?_⟩
      · rw [hat, b2]
      · rw [hat]; exact ht.2.1.symm.trans (boxLeaves_len _ _ _).symm
  · have hro := ha.root r hr
    rw [base_root] at hro
    split at hro
    · rw [hro] at hb; cases hb
    · rename_i hms
      have n1 : r ∉ ms := fun hh => hms ((has_mem _ _).2 hh)
      have := hk.roots r (in_lock n1 hr)
      have e : s1.root r = σ.root r := this.trans hro.symm
      rw [e]; exact ⟨hb, rfl, rfl⟩

/-- A leaf that isn't a reference into what turned holds still. -/
theorem anew_la (hk : Keeps (cx.in ms ps) s0 s1) (hp : patOk cx ms ps = true) (ha : Anew ms ps s0 s1 σ W tm (fzOf W ps) vss) {a : LA} {v : Value} (hr : ∀ c, (a = .ref c ∨ (∃ lo hi, a = .win c lo hi) ∨ a = .eptr c) → σ.root c.r = s1.root c.r) (hv : LAok s1 W a v) : LAok σ (anewW σ W ps) a v := by
  cases a with
  | bad => trivial
  | undef => exact hv
  | nils => exact hv
  | nilp => exact hv
  | sc l x => exact L.rd_frame l hv (fun _ _ => rfl) fun b hb => .inl hb
  | ref c =>
    intro gen t e xs d hl hg
    rw [leaf_eq (hr c (.inl rfl))] at hl
    exact hv gen t e xs d hl hg
  | win c lo hi =>
    intro gen t e xs d hl hg
    rw [leaf_eq (hr c (.inr (.inl ⟨lo, hi, rfl⟩)))] at hl
    exact hv gen t e xs d hl hg
  | eptr c =>
    intro gen t e xs d hl hg
    rw [leaf_eq (hr c (.inr (.inr rfl)))] at hl
    exact hv gen t e xs d hl hg
  | ptr r j ver =>
    intro hb hver
    obtain ⟨b1, b2, _⟩ := anew_box hk hp ha hb
    exact hv b1 (b2.trans hver)
  | fptr e x off =>
    obtain ⟨ad, g, arr, T, fr, hv', hz, hh, hg, hrd⟩ := hv
    exact ⟨ad, g, arr, T, fr, hv', .inl hz, hh, hg, Ls.rd_frame e hrd (fun _ _ => rfl) fun b hb => .inl hb⟩
  | fn f => exact hv
  | arr => exact hv
end
end Go.Ev

namespace Go.Ev
set_option linter.unusedVariables false
set_option linter.unusedSimpArgs false

section
variable {E : Ent} {cx : Cx} {N : Nat} {ms : List Nat} {ps : List VP} {s0 s1 σ : St} {tm : Array Value} {W : Wd} {vss : List (List Lv)}

theorem not_has {ms : List Nat} {r : Nat} (h : has ms r = false) : r ∉ ms := fun hh => by rw [(has_mem _ _).2 hh] at h; cases h
theorem has_not {ms : List Nat} {r : Nat} (h : r ∉ ms) : has ms r = false := by
  cases hh : has ms r with
  | false => rfl
  | true => exact absurd ((has_mem _ _).1 hh) h
/-- A root that stays. -/
theorem anew_root (hk : Keeps (cx.in ms ps) s0 s1) (ha : Anew ms ps s0 s1 σ W tm (fzOf W ps) vss) {r : Nat} (h1 : r ∉ ms) (h2 : r ∉ ps.flatMap VP.roots) : σ.root r = s1.root r := by
  rw [ha.root r h2, base_root, has_not h1, hk.roots r (in_lock h1 h2)]
  rfl
theorem anew_clean (hk : Keeps (cx.in ms ps) s0 s1) (hp : patOk cx ms ps = true) (ha : Anew ms ps s0 s1 σ W tm (fzOf W ps) vss) {a a' : LA} {v : Value} (hc : LClean (cx.in ms ps) a a') (hv : LAok s1 W a' v) :
    LAok σ (anewW σ W ps) (a.clean (fun r => has ms r || has (ps.flatMap VP.slots) r) fun r => has ms r || has (ps.flatMap VP.roots) r) v := by
  have far : ∀ r, ¬ (has ms r || has (ps.flatMap VP.roots) r) = true → (cx.in ms ps).lock r = true ∧ σ.root r = s1.root r := by
    intro r hr
    simp only [Bool.or_eq_true, not_or, Bool.not_eq_true] at hr
    exact ⟨in_lock (not_has hr.1) (not_has hr.2), anew_root hk ha (not_has hr.1) (not_has hr.2)⟩
  have same : ∀ {b : LA}, a = b → ¬ dirty (cx.in ms ps) b → LAok s1 W b v := by
    intro b e hd
    subst e
    rcases hc with rfl | ⟨_, hh⟩
    · exact hv
    · exact absurd hh hd
  cases a with
  | ref c =>
    simp only [LA.clean]
    split
    · trivial
    · rename_i hr
      obtain ⟨q1, q2⟩ := far c.r hr
      refine anew_la hk hp ha (fun c' hc' => ?_) (same rfl (by simp [dirty, q1]))
      rcases hc' with e | ⟨_, _, e⟩ | e <;> cases e
      exact q2
  | win c lo hi =>
    simp only [LA.clean]
    split
    · trivial
    · rename_i hr
      obtain ⟨q1, q2⟩ := far c.r hr
      refine anew_la hk hp ha (fun c' hc' => ?_) (same rfl (by simp [dirty, q1]))
      rcases hc' with e | ⟨_, _, e⟩ | e <;> cases e
      exact q2
  | eptr c =>
    simp only [LA.clean]
    split
    · trivial
    · rename_i hr
      obtain ⟨q1, q2⟩ := far c.r hr
      refine anew_la hk hp ha (fun c' hc' => ?_) (same rfl (by simp [dirty, q1]))
      rcases hc' with e | ⟨_, _, e⟩ | e <;> cases e
      exact q2
  | ptr r j ver =>
    simp only [LA.clean]
    split
    · trivial
    · rename_i hr
      simp only [Bool.or_eq_true, not_or, Bool.not_eq_true] at hr
      have q1 := in_slk (cx := cx) (not_has hr.1) (not_has hr.2)
      refine anew_la hk hp ha (fun c' hc' => ?_) (same rfl (by simp [dirty, q1]))
      rcases hc' with e | ⟨_, _, e⟩ | e <;> cases e
  | _ =>
    refine anew_la hk hp ha (fun c' hc' => ?_) (same rfl (fun hd => (hd : False)))
    rcases hc' with e | ⟨_, _, e⟩ | e <;> cases e

theorem anew_slot (hk : Keeps (cx.in ms ps) s0 s1) (hp : patOk cx ms ps = true) (ha : Anew ms ps s0 s1 σ W tm (fzOf W ps) vss) {a a' : AV} {v : Value} (hc : AClean (cx.in ms ps) a a') (hv : AVok s1 W a' v) :
    AVok σ (anewW σ W ps) (a.clean (fun r => has ms r || has (ps.flatMap VP.slots) r) fun r => has ms r || has (ps.flatMap VP.roots) r) v := by
  have hV : ∀ {g : Bool} {as as' : List LA}, as'.length = as.length → (∀ (j : Nat) (b : LA), as[j]? = some b → ∃ b', as'[j]? = some b' ∧ LClean (cx.in ms ps) b b') → Vok s1 W g as' v →
      Vok σ (anewW σ W ps) g (as.map (LA.clean (fun r => has ms r || has (ps.flatMap VP.slots) r) fun r => has ms r || has (ps.flatMap VP.roots) r)) v := by
    intro g as as' hlen hl hv
    cases g with
    | false =>
      match as, as', hlen, hl, hv with
      | [b], [b'], _, hl, hv =>
        obtain ⟨b2, h1, h2⟩ := hl 0 b rfl
        simp at h1; subst h1
        exact anew_clean hk hp ha h2 hv
      | [], [], _, hl, hv => exact hv.elim
      | _ :: _ :: _, _ :: _ :: _, _, hl, hv => exact hv.elim
    | true =>
      obtain ⟨cs, hcs, hsz, hget⟩ := hv
      refine ⟨cs, hcs, by rw [hsz, hlen]; simp, fun j b hj => ?_⟩
      rw [List.getElem?_map] at hj
      cases hq : as[j]? with
      | none => rw [hq] at hj; cases hj
      | some c =>
        rw [hq] at hj; injection hj with hj; subst hj
        obtain ⟨c', h1, h2⟩ := hl j c hq
        obtain ⟨u, hu, hok⟩ := hget j c' h1
        exact ⟨u, hu, anew_clean hk hp ha h2 hok⟩
  cases hc with
  | same =>
    cases a with
    | tup vs => trivial
    | bx as => trivial
    | v g as => exact hV rfl (fun j b hj => ⟨b, hj, .inl rfl⟩) hv
  | v g as as' h hl => exact hV h hl hv
  | tup vs => trivial
  | bx as => trivial
end
end Go.Ev

namespace Go.Ev
set_option linter.unusedVariables false
set_option linter.unusedSimpArgs false

section
variable {E : Ent} {cx : Cx} {N : Nat} {ms : List Nat} {ps : List VP} {s0 s1 σ : St} {tm : Array Value} {W : Wd} {vss : List (List Lv)}

theorem told_leaf {a : LA} {v : Nat} {fz : Nat → Prop} {y : Value} {o : List Nat} (h : match a with
    | .arr ver gen t e xs d => ver = v ∧ gen = v ∧ RowRd e d W.w W.fz y xs o
    | .sc l x => l.rd 0 W.w (fzOf W ps) y x []
    | .bad => True
    | _ => False) : LeafOk σ (anewW σ W ps) a (some y) (bif a.isArr then o else []) := by
  cases a with
  | arr ver gen t e xs d => exact ⟨y, rfl, h.2.2.frame (fun _ _ => rfl) fun b hb => .inl hb⟩
  | sc l x => exact ⟨rfl, fun u hu => by injection hu with hu; subst hu; exact h⟩
  | bad => exact ⟨rfl, fun _ _ => trivial⟩
  | _ => exact h.elim

theorem anew_rep (h : Rep E s1 tm W) (r1 : RootsIn s1) (h2 : 2 ≤ s0.ctr) (hk : Keeps (cx.in ms ps) s0 s1) (hp : patOk cx ms ps = true) (ha : Anew ms ps s0 s1 σ W tm (fzOf W ps) vss) : Rep E σ tm (anewW σ W ps) where
  len1 := by rw [ha.l1, ← hk.l1, h.len1]
  len2 := by rw [ha.l2, ← hk.l2, h.len2]
  slots t := by
    by_cases ht : t ∈ ps.flatMap VP.slots
    · obtain ⟨p, hm, ht⟩ := List.mem_flatMap.1 ht
      obtain ⟨vs, hto, hat⟩ := ha.get hm
      cases p with
      | slot u l =>
        simp [VP.slots] at ht; subst ht
        obtain ⟨_, x, rfl, hr⟩ := hto
        rw [hat _ rfl]
        exact L.rd_frame l hr (fun _ _ => rfl) fun b hb => .inl hb
      | own u ty e d k =>
        simp [VP.slots] at ht; subst ht
        obtain ⟨_, xs, rfl, _, hcv, hr, _⟩ := hto
        rw [(hat _ rfl).1]
        intro gen t' e' xs' d' hl hg
        exact ⟨_, e', hcv, rfl, rfl⟩
      | box r ls => simp [VP.slots] at ht
    · rw [ha.slot t ht, base_slot]
      cases hms : has ms t with
      | true => exact trivial
      | false => exact anew_slot hk hp ha (hk.slots t (in_slk (not_has hms) ht)) (h.slots t)
  roots r := by
    by_cases hr : r ∈ ps.flatMap VP.roots
    · obtain ⟨p, hm, hr⟩ := List.mem_flatMap.1 hr
      obtain ⟨vs, hto, hat⟩ := ha.get hm
      cases p with
      | slot u l => simp [VP.roots] at hr
      | own u ty e d k =>
        simp [VP.roots] at hr; subst hr
        obtain ⟨_, xs, rfl, hbx, hcv, hrd, _⟩ := hto
        have hro := (hat _ rfl).2
        refine ⟨fun j => ?_, ?_⟩
        · have hom : (anewW σ W ps).om (.lf r j) = bif (nth .bad (σ.root r).ls j).isArr then W.om (.lf r j) else [] := rfl
          rw [hom, hro]
          cases j with
          | zero =>
            show LeafOk _ _ (ownLeaf s0.ctr d k ⟨.sl ty e, xs⟩) (W.cv r 0) (bif (ownLeaf s0.ctr d k ⟨.sl ty e, xs⟩).isArr then W.om (.lf r 0) else [])
            rw [hcv]
            cases d with
            | zero =>
              have := RowRd.zero hrd
              rw [this] at hrd
              exact ⟨rfl, fun u hu => by injection hu with hu; subst hu; exact L.rd_frame (.sl ty e) hrd (fun _ _ => rfl) fun b hb => .inl hb⟩
            | succ d => exact ⟨_, rfl, hrd.frame (fun _ _ => rfl) fun b hb => .inl hb⟩
          | succ j => exact ⟨rfl, fun _ _ => trivial⟩
        · rw [hro]
          show (if false = true then _ else _)
          rw [if_neg (by simp)]
          show (bif (σ.root r).box then W.om (.blk r) else []) = []
          rw [hro]; rfl
      | box q ls =>
        simp [VP.roots] at hr; subst hr
        have hat : σ.root r = _ := hat
        obtain ⟨hbx, hlen, _, hto⟩ := hto
        obtain ⟨_, h2'⟩ := h.roots r
        rw [if_pos hbx] at h2'
        obtain ⟨ho, arr, T, fr, hh, a1, a2, a3⟩ := h2'
        refine ⟨fun j => ?_, ?_⟩
        · have hom : (anewW σ W ps).om (.lf r j) = bif (nth .bad (σ.root r).ls j).isArr then W.om (.lf r j) else [] := rfl
          rw [hom, hat]
          show LeafOk _ _ (nth .bad (boxLeaves s0.ctr ls vs) j) (W.cv r j) (bif (nth .bad (boxLeaves s0.ctr ls vs) j).isArr then W.om (.lf r j) else [])
          cases hcv : W.cv r j with
          | some y => exact told_leaf (v := s0.ctr) (fz := fzOf W ps) (hto s0.ctr j y hcv)
          | none =>
            have hj : ls.length ≤ j := by
              rw [hlen, ← a2]
              rw [a3 j] at hcv
              exact Array.getElem?_eq_none_iff.1 hcv
            rw [nth_ge _ (by rw [boxLeaves_len]; exact hj)]
            exact ⟨rfl, fun _ hu => by cases hu⟩
        · rw [hat]
          show (if true = true then _ else _)
          rw [if_pos rfl]
          refine ⟨?_, arr, T, fr, hh, a1, by rw [boxLeaves_len, hlen]; exact a2, a3⟩
          show (bif (σ.root r).box then W.om (.blk r) else []) = _
          rw [hat]; exact ho
    · cases hms : has ms r with
      | true =>
        have hro : σ.root r = dead := by rw [ha.root r hr, base_root, hms]; rfl
        rw [hro]
        refine ⟨fun j => ?_, ?_⟩
        · have hom : (anewW σ W ps).om (.lf r j) = bif (nth .bad (σ.root r).ls j).isArr then W.om (.lf r j) else [] := rfl
          rw [hom, hro]
          exact ⟨rfl, fun _ _ => trivial⟩
        · show (if false = true then _ else _)
          rw [if_neg (by simp)]
          show (bif (σ.root r).box then W.om (.blk r) else []) = []
          rw [hro]; rfl
      | false =>
        have hro := anew_root hk ha (not_has hms) hr
        rw [hro]
        obtain ⟨q1, q2⟩ := h.roots r
        refine ⟨fun j => ?_, ?_⟩
        · have hom : (anewW σ W ps).om (.lf r j) = bif (nth .bad (σ.root r).ls j).isArr then W.om (.lf r j) else [] := rfl
          rw [hom, hro]
          have hq := q1 j
          show LeafOk _ _ _ (W.cv r j) _
          have hri : ∀ b, nth LA.bad (s1.root r).ls j = b → b.inRoot = true := by
            intro b hb
            by_cases hj : j < (s1.root r).ls.length
            · rw [← hb]; exact r1 r _ (nth_mem hj)
            · rw [nth_ge _ (by omega)] at hb; subst hb; rfl
          generalize nth LA.bad (s1.root r).ls j = b at hq hri
          have hri := hri b rfl
          have hla : ∀ v, LAok s1 W b v → LAok σ (anewW σ W ps) b v := fun v hv => anew_la hk hp ha (fun c hc => by
            rcases hc with e | ⟨_, _, e⟩ | e <;> (subst e; cases hri)) hv
          cases b with
          | arr ver gen t e xs d =>
            obtain ⟨u, hu, hrd⟩ := hq
            exact ⟨u, hu, hrd.frame (fun _ _ => rfl) fun b hb => .inl hb⟩
          | _ => exact ⟨rfl, fun u hu => hla u (hq.2 u hu)⟩
        · have hom : (anewW σ W ps).om (.blk r) = bif (σ.root r).box then W.om (.blk r) else [] := rfl
          rw [hom, hro]
          cases hb : (s1.root r).box with
          | true =>
            rw [hb] at q2
            rw [if_pos rfl] at q2 ⊢
            exact q2
          | false => rw [if_neg (by simp)]; rfl
  sep := anew_sep h ha
  init := by
    refine ⟨fun r j gen t e xs d hl => ?_, fun r hb hver => ?_⟩
    · by_cases hr : r ∈ ps.flatMap VP.roots
      · obtain ⟨p, hm, hr⟩ := List.mem_flatMap.1 hr
        obtain ⟨vs, hto, hat⟩ := ha.get hm
        cases p with
        | slot u l => simp [VP.roots] at hr
        | own u ty e' d' k =>
          simp [VP.roots] at hr; subst hr
          obtain ⟨_, ys, rfl, _, _, _, hkk⟩ := hto
          have hro := (hat _ rfl).2
          unfold St.leaf at hl
          rw [hro] at hl
          cases j with
          | zero =>
            have hl : ownLeaf s0.ctr d' k ⟨.sl ty e', ys⟩ = .arr 1 gen t e xs d := hl
            cases k with
            | true =>
              obtain ⟨g1, t1, e1, xs1, d1, hl1⟩ := hkk rfl
              exact h.init.1 r 0 g1 t1 e1 xs1 d1 hl1
            | false =>
              cases d' with
              | zero => cases hl
              | succ d' =>
                have hl : LA.arr s0.ctr s0.ctr ty e' ys (d' + 1) = .arr 1 gen t e xs d := hl
                injection hl with h1; omega
          | succ j => cases hl
        | box q ls =>
          simp [VP.roots] at hr; subst hr
          have hat : σ.root r = _ := hat
          unfold St.leaf at hl
          rw [hat] at hl
          have hl : nth LA.bad (boxLeaves s0.ctr ls vs) j = .arr 1 gen t e xs d := hl
          obtain ⟨hbx, hlen, _, hto⟩ := hto
          obtain ⟨_, h2'⟩ := h.roots r
          rw [if_pos hbx] at h2'
          obtain ⟨_, arr, T, fr, hh, a1, a2, a3⟩ := h2'
          have hj : j < ls.length := by
            rcases Nat.lt_or_ge j ls.length with hj | hj
            · exact hj
            · rw [nth_ge _ (by rw [boxLeaves_len]; exact hj)] at hl; cases hl
          have hcv : W.cv r j = some (arr[j]'(by omega)) := by rw [a3 j]; exact Array.getElem?_eq_getElem _
          have := hto s0.ctr j _ hcv
          rw [hl] at this
          have := this.1; omega
      · have hro := ha.root r hr
        cases hms : has ms r with
        | true =>
          rw [base_root, hms] at hro
          unfold St.leaf at hl
          rw [hro] at hl
          cases j <;> cases hl
        | false =>
          have hro := anew_root hk ha (not_has hms) hr
          exact h.init.1 r j gen t e xs d (by rw [← leaf_eq hro]; exact hl)
    · obtain ⟨b1, b2, _⟩ := anew_box hk hp ha hb
      exact h.init.2 r b1 (b2.trans hver)
end
end Go.Ev

namespace Go.Ev
set_option linter.unusedVariables false
set_option linter.unusedSimpArgs false

section
variable {E : Ent} {cx : Cx} {N : Nat} {ms : List Nat} {ps : List VP} {s0 s1 σ : St} {tm : Array Value} {W : Wd} {vss : List (List Lv)}

/-- 'c' locks nothing that the code between turns, or that is told. -/
structure Open (c : Cx) (ms : List Nat) (ps : List VP) : Prop where
  m1 : ∀ r ∈ ms, c.lock r = false ∧ c.slk r = false
  p1 : ∀ r ∈ ps.flatMap VP.roots, c.lock r = false
  p2 : ∀ r ∈ ps.flatMap VP.slots, c.slk r = false
theorem open_out (hlk : ∀ t ∈ ms, cx.lock t = false ∧ cx.slk t = false) (hp : patOk cx ms ps = true) : Open cx ms ps := by
  simp only [patOk, Bool.and_eq_true] at hp
  refine ⟨hlk, fun r hr => ?_, fun r hr => ?_⟩
  · obtain ⟨p, hm, hr⟩ := List.mem_flatMap.1 hr
    have := List.all_eq_true.1 hp.2 p hm
    cases p with
    | slot u l => simp [VP.roots] at hr
    | own u ty e d k => simp [VP.roots] at hr; subst hr; simp only [Bool.and_eq_true, Bool.not_eq_true'] at this; exact this.1.1
    | box q ls => simp [VP.roots] at hr; subst hr; simp only [Bool.and_eq_true, Bool.not_eq_true'] at this; exact this.1.2
  · obtain ⟨p, hm, hr⟩ := List.mem_flatMap.1 hr
    have := List.all_eq_true.1 hp.2 p hm
    cases p with
    | slot u l => simp [VP.slots] at hr; subst hr; simpa using this
    | own u ty e d k => simp [VP.slots] at hr; subst hr; simp only [Bool.and_eq_true, Bool.not_eq_true'] at this; exact this.1.2
    | box q ls => simp [VP.slots] at hr
theorem open_in (h : Open cx ms ps) : Open (cx.in ms ps) ms ps := by
  refine ⟨fun r hr => ?_, fun r hr => ?_, fun r hr => ?_⟩
  · have := h.m1 r hr
    simp [Cx.in, this.1, this.2, (has_mem ms r).2 hr]
  · simp [Cx.in, h.p1 r hr, (has_mem _ r).2 hr]
  · simp [Cx.in, h.p2 r hr, (has_mem _ r).2 hr]
theorem anew_keeps {c : Cx} (ho : Open c ms ps) (hk : Keeps (cx.in ms ps) s0 s1) (hp : patOk cx ms ps = true) (ha : Anew ms ps s0 s1 σ W tm (fzOf W ps) vss) (hctr : s0.ctr ≤ σ.ctr) : Keeps c s0 σ where
  slots t ht := by
    have n1 : t ∉ ms := fun hh => by rw [(ho.m1 t hh).2] at ht; cases ht
    have n2 : t ∉ ps.flatMap VP.slots := fun hh => by rw [ho.p2 t hh] at ht; cases ht
    rw [ha.slot t n2, base_slot, has_not n1]
    refine clean_rel (fun r hr => ?_) (fun r hr => ?_) _
    · simp only [Bool.or_eq_true] at hr
      exact hr.elim (fun hr => (ho.m1 r ((has_mem _ _).1 hr)).2) fun hr => ho.p2 r ((has_mem _ _).1 hr)
    · simp only [Bool.or_eq_true] at hr
      exact hr.elim (fun hr => (ho.m1 r ((has_mem _ _).1 hr)).1) fun hr => ho.p1 r ((has_mem _ _).1 hr)
  roots r hr := by
    have n1 : r ∉ ms := fun hh => by rw [(ho.m1 r hh).1] at hr; cases hr
    have n2 : r ∉ ps.flatMap VP.roots := fun hh => by rw [ho.p1 r hh] at hr; cases hr
    rw [ha.root r n2, base_root, has_not n1]; rfl
  box r hr := by
    have n1 : r ∉ ms := fun hh => by rw [(ho.m1 r hh).2] at hr; cases hr
    have n3 : r ∉ ps.flatMap VP.slots := fun hh => by rw [ho.p2 r hh] at hr; cases hr
    by_cases n2 : r ∈ ps.flatMap VP.roots
    · obtain ⟨p, hm, hr'⟩ := List.mem_flatMap.1 n2
      obtain ⟨vs, hto, hat⟩ := ha.get hm
      cases p with
      | slot u l => simp [VP.roots] at hr'
      | own u ty e d k => simp [VP.roots] at hr'; subst hr'; exact absurd (List.mem_flatMap.2 ⟨_, hm, by simp [VP.slots]⟩) n3
      | box q ls =>
        simp [VP.roots] at hr'; subst hr'
        have hat : σ.root r = _ := hat
        obtain ⟨b1, b2, b3⟩ := hk.box r (in_slk n1 n3)
        rw [hat]
        exact ⟨hto.1.symm.trans b1, rfl, (boxLeaves_len _ _ _).trans (hto.2.1.trans b3)⟩
    · rw [ha.root r n2, base_root, has_not n1]; exact ⟨rfl, rfl, rfl⟩
  l1 := ha.l1
  l2 := ha.l2
  ctr := hctr
end
end Go.Ev

namespace Go.Ev
set_option linter.unusedVariables false
set_option linter.unusedSimpArgs false

theorem newLeaf_ok2 (v m : Nat) (x : Lv) : (∀ n ∈ (newLeaf v m x).vers, n = v) ∧ (newLeaf v m x).inRoot = true := by
  obtain ⟨l, x⟩ := x
  cases l with
  | sl t e => cases m with
    | zero => exact ⟨fun n hn => by simp [newLeaf, LA.vers] at hn, rfl⟩
    | succ m => exact ⟨fun n hn => by simp [newLeaf, LA.vers] at hn; exact hn, rfl⟩
  | _ => exact ⟨fun n hn => by simp [newLeaf, LA.vers] at hn, rfl⟩
theorem ownVer_ok (v : Nat) (k : Bool) : ownVer v k = v ∨ ownVer v k = 1 := by cases k; exact .inl rfl; exact .inr rfl
theorem ownLeaf_ok2 (v m : Nat) (k : Bool) (x : Lv) : (∀ n ∈ (ownLeaf v m k x).vers, n = v ∨ n = 1) ∧ (ownLeaf v m k x).inRoot = true := by
  obtain ⟨l, x⟩ := x
  cases l with
  | sl t e => cases m with
    | zero => exact ⟨(fun n hn => by have hn : n ∈ ([] : List Nat) := hn; cases hn), rfl⟩
    | succ m =>
      refine ⟨fun n hn => ?_, rfl⟩
      have hn : n ∈ [ownVer v k, v] := hn
      simp at hn
      rcases hn with rfl | rfl
      · exact ownVer_ok _ _
      · exact .inl rfl
  | _ => exact ⟨(fun n hn => by have hn : n ∈ ([] : List Nat) := hn; cases hn), rfl⟩
theorem boxLeaves_ok2 (v : Nat) : ∀ (ls : List (Option (L × Nat))) (vs : List Lv), ∀ a ∈ boxLeaves v ls vs, (∀ n ∈ a.vers, n = v) ∧ a.inRoot = true
  | [], vs, a, h => by cases h
  | none :: ls, vs, a, h => by
    rcases List.mem_cons.1 (show a ∈ .bad :: boxLeaves v ls vs from h) with rfl | h
    · exact ⟨(fun n hn => by cases hn), rfl⟩
    · exact boxLeaves_ok2 v ls vs a h
  | some (l, d) :: ls, [], a, h => by
    rcases List.mem_cons.1 (show a ∈ .bad :: boxLeaves v ls [] from h) with rfl | h
    · exact ⟨(fun n hn => by cases hn), rfl⟩
    · exact boxLeaves_ok2 v ls [] a h
  | some (l, d) :: ls, x :: vs, a, h => by
    rcases List.mem_cons.1 (show a ∈ newLeaf v d x :: boxLeaves v ls vs from h) with rfl | h
    · exact newLeaf_ok2 v d x
    · exact boxLeaves_ok2 v ls vs a h

section
variable {E : Ent} {cx : Cx} {N : Nat} {ms : List Nat} {ps : List VP} {s0 s1 σ : St} {tm : Array Value} {W : Wd} {vss : List (List Lv)}

theorem anew_inv (i0 : Inv N s0) (ha : Anew ms ps s0 s1 σ W tm (fzOf W ps) vss) (hctr : σ.ctr = s0.ctr + 1) : Inv N σ where
  vers := by
    rw [hctr]
    refine ⟨fun t n hn => ?_, fun r n hn => ?_⟩
    · by_cases ht : t ∈ ps.flatMap VP.slots
      · obtain ⟨p, hm, ht⟩ := List.mem_flatMap.1 ht
        obtain ⟨vs, hto, hat⟩ := ha.get hm
        cases p with
        | slot u l =>
          simp [VP.slots] at ht; subst ht
          obtain ⟨_, x, rfl, hr⟩ := hto
          rw [hat _ rfl] at hn
          simp [one, AV.vers, LA.vers] at hn
        | own u ty e d k =>
          simp [VP.slots] at ht; subst ht
          obtain ⟨_, xs, rfl, _⟩ := hto
          rw [(hat _ rfl).1] at hn
          have := ownVer_ok s0.ctr k
          have := i0.two
          simp [one, AV.vers, LA.vers] at hn; omega
        | box r ls => simp [VP.slots] at ht
      · rw [ha.slot t ht, base_slot] at hn
        split at hn
        · simp [one, AV.vers, LA.vers] at hn
        · have := i0.vers.1 t n (clean_vers _ _ _ n hn); omega
    · by_cases hr : r ∈ ps.flatMap VP.roots
      · obtain ⟨p, hm, hr⟩ := List.mem_flatMap.1 hr
        obtain ⟨vs, hto, hat⟩ := ha.get hm
        cases p with
        | slot u l => simp [VP.roots] at hr
        | own u ty e d k =>
          simp [VP.roots] at hr; subst hr
          obtain ⟨_, xs, rfl, _⟩ := hto
          rw [(hat _ rfl).2] at hn
          rcases List.mem_cons.1 hn with hn | hn
          · have hn : n = s0.ctr := hn; omega
          · obtain ⟨a, ha', hn⟩ := List.mem_flatMap.1 hn
            simp at ha'; subst ha'
            have := (ownLeaf_ok2 _ _ _ _).1 n hn; have := i0.two; omega
        | box q ls =>
          simp [VP.roots] at hr; subst hr
          have hat : σ.root r = _ := hat
          rw [hat] at hn
          rcases List.mem_cons.1 hn with hn | hn
          · have hn : n = (s0.root r).ver := hn
            have := i0.vers.2 r n (by rw [hn]; exact List.mem_cons_self); omega
          · obtain ⟨a, ha', hn⟩ := List.mem_flatMap.1 hn
            have := (boxLeaves_ok2 _ _ _ a ha').1 n hn; omega
      · rw [ha.root r hr, base_root] at hn
        split at hn
        · simp [dead, Root.vers] at hn; omega
        · have := i0.vers.2 r n hn; omega
  two := by have := i0.two; omega
  len := ha.l1.trans i0.len
  len2 := ha.l2.trans i0.len2
  rin := by
    intro r a hm'
    by_cases hr : r ∈ ps.flatMap VP.roots
    · obtain ⟨p, hm, hr⟩ := List.mem_flatMap.1 hr
      obtain ⟨vs, hto, hat⟩ := ha.get hm
      cases p with
      | slot u l => simp [VP.roots] at hr
      | own u ty e d k =>
        simp [VP.roots] at hr; subst hr
        obtain ⟨_, xs, rfl, _⟩ := hto
        rw [(hat _ rfl).2] at hm'
        simp at hm'; subst hm'
        exact (ownLeaf_ok2 _ _ _ _).2
      | box q ls =>
        simp [VP.roots] at hr; subst hr
        have hat : σ.root r = _ := hat
        rw [hat] at hm'
        exact (boxLeaves_ok2 _ _ _ a hm').2
    · rw [ha.root r hr, base_root] at hm'
      split at hm'
      · cases hm'
      · exact i0.rin r a hm'

theorem embed_ctr (x : (patK ps).D) : (embed ms ps s0 x).ctr = s0.ctr + 1 := by unfold embed; rw [app_ctr]; rfl

/-- A join: what is told begins anew. -/
theorem embed_ok {x : (patK ps).D} (h1 : Rep E s1 tm W) (i1 : RootsIn s1) (i0 : Inv N s0) (hk : Keeps (cx.in ms ps) s0 s1) (hlk : ∀ t ∈ ms, cx.lock t = false ∧ cx.slk t = false) (hp : patOk cx ms ps = true) (hx : packTo ps s1 = some x) :
    ∃ W', W'.w = W.w ∧ Rep E (embed ms ps s0 x) tm W' ∧ Inv N (embed ms ps s0 x) ∧ Keeps cx s0 (embed ms ps s0 x) ∧ Keeps (cx.in ms ps) s0 (embed ms ps s0 x) := by
  obtain ⟨vss, ha⟩ := anew_ok (N := N) h1 i1 hk hp hx
  have hc := embed_ctr (ms := ms) (s0 := s0) x
  have ho := open_out hlk hp
  exact ⟨anewW (embed ms ps s0 x) W ps, rfl, anew_rep h1 i1 i0.two hk hp ha, anew_inv i0 ha hc, anew_keeps ho hk hp ha (by omega), anew_keeps (open_in ho) hk hp ha (by omega)⟩
end
end Go.Ev

namespace Go.Ev
set_option linter.unusedVariables false
set_option linter.unusedSimpArgs false

section
variable {P : Program} {E : Ent} {cx : Cx} {N : Nat} {s : St} {W : Wd} {a : Act} {Q : Exit → Act → World → Prop}

theorem ctr_rep {n : Nat} {tm : Array Value} (h : Rep E s tm W) : Rep E { s with ctr := n } tm W where
  len1 := h.len1
  len2 := h.len2
  slots t := AVok.map (fun b hb => ⟨hb, rfl⟩) (fun a v hv => by cases a <;> exact hv) (h.slots t)
  roots r := by
    obtain ⟨q1, q2⟩ := h.roots r
    exact ⟨fun j => (q1 j).map (fun a v hv => by cases a <;> exact hv) fun _ _ _ _ hr => hr, q2⟩
  sep := h.sep
  init := h.init

/-- The operations of a region, in whatever order they may go. -/
theorem ops_ok (hc : CxF P cx) (henv : EnvOk P E cx.env) (hm : P.follows .mixedOrders = true) {id : Nat} {ops : Array Oper} {draw : Bool} {R : Type} {k : St → Option R} {x : R} (hcode : codeOk N (.region id ops draw) = true) (hslk : ∀ o ∈ ops.toList, ∀ d, o.dst = some d → cx.slk d = false)
    (hrep : Rep E s a.tmps W) (hinv : Inv N s) (he : evOps cx ⟨ops, s.ctr, draw⟩ (number 0 ops.toList) (befs ops.toList []) [] s k = some x)
    (hK : ∀ s' a' W', a'.defers = a.defers → Rep E s' a'.tmps W' → Keeps cx s s' → RootsIn s' → VersIn s' (· < s.ctr + ops.size) → k s' = some x → Q .normal a' W'.w) : (Code.region id ops draw).wp P Q a W.w := by
  obtain ⟨tr, ht, hlen, hk⟩ := evOps_trace ops.toList 0 [] s he
  simp only [codeOk, Bool.and_eq_true] at hcode
  obtain ⟨hE, hdst⟩ := hcode
  have hd : ∀ o ∈ ops.toList, ∀ d, o.dst = some d → d < s.sl.length := by
    intro o ho d hd
    have := List.all_eq_true.1 hdst o ho
    rw [hd] at this
    rw [hinv.len]; simpa using this
  obtain ⟨hkeep, hrin⟩ := keeps_trace ops.toList 0 [] s tr ht hslk hinv.rin
  have hfin : ∀ a' W', a'.defers = a.defers → Rep E (appsIf (fun _ => true) 0 tr s) a'.tmps W' → VersIn (appsIf (fun _ => true) 0 tr s) (pA s.ctr (· < ops.size)) → Q .normal a' W'.w := fun a' W' h1 h2 h3 =>
    hK _ a' W' h1 h2 hkeep hrin (h3.mono fun n hn => by
      rcases hn with hn | ⟨j, hj, e⟩
      · omega
      · have : j < ops.size := hj; omega) hk
  have h2 := hinv.two
  cases draw with
  | false =>
    refine wp_region ?_
    have := seq_wp (g := ⟨ops, s.ctr, false⟩) (bs := befs ops.toList []) (Q := Q) hc henv (show 1 < s.ctr by omega) (fun i j hi hj => by
      have hi : i < ops.size := hi
      exact ready_bit (ops := ops) hE (A := (· < i)) (fun k o hk ho e he hb => by
          have := edgesOk_get ops.toList 0 hE k o (by simpa using ho) e he hb
          have hk : k < i := hk
          show e.on < i
          omega) (fun k hk => Nat.lt_trans hk hi) (i := i) (o := ops[i]) (by simp [hi]) (fun e he hb => by
          have := edgesOk_get ops.toList 0 hE i ops[i] (by simp [hi]) e he hb
          show e.on < i
          omega) j hj) ops.toList 0 [] s tr a W ht (fun k o hk => by simpa using hk) hrep (hinv.vers.mono fun n hn => .inl hn) hd (fun a' W' q1 q2 q3 => hfin a' W' q1 q2 (by simpa using q3))
    have e : List.range ops.size = List.range' 0 ops.toList.length := by rw [List.range_eq_range']; simp
    rw [e]; exact this
  | true =>
    refine wp_region_any hm ?_
    have hnone : ∀ (tr : List (Nat × List Wr)) (i : Nat) (s : St), appsIf (fun i => (Array.replicate ops.size false).getD i false) i tr s = s := by
      intro tr
      induction tr with
      | nil => intro i s; rfl
      | cons y tr ih =>
        intro i s
        simp only [appsIf]
        have : (Array.replicate ops.size false).getD i false = false := by
          rw [Array.getD_eq_getD_getElem?, Array.getElem?_replicate]; split <;> rfl
        rw [this]; exact ih (i + 1) s
    have hrepd : Rep E s a.tmps { W with w := { W.w with drawn := W.w.drawn + 1 } } := hrep.world (fun _ _ => rfl) (fun _ _ _ => rfl) (Nat.le_refl _) ⟨rfl, rfl, rfl⟩
    exact any_wp (g := ⟨ops, s.ctr, true⟩) (Q := Q) hc henv (show 1 < s.ctr by omega) hE rfl ht (by simpa using hlen) hinv.vers hd hfin ops.size (Array.replicate ops.size false) a { W with w := { W.w with drawn := W.w.drawn + 1 } } (by simp) (by simp) rfl
      (by rw [hnone]; exact hrepd) (by rw [hnone]; exact hinv.vers.mono fun n hn => .inl hn) (fun i o hi => by
        rw [Array.getD_eq_getD_getElem?, Array.getElem?_replicate] at hi
        split at hi <;> cases hi)
end
end Go.Ev

namespace Go.Ev
set_option linter.unusedVariables false
set_option linter.unusedSimpArgs false

section
variable {P : Program} {E : Ent} {cx : Cx} {N : Nat} {s : St} {W : Wd} {a : Act} {Q : Exit → Act → World → Prop}

theorem dsts_mem : ∀ (os : List Oper) (i : Nat) (o : Oper) (d : Nat), o ∈ os → o.dst = some d → d ∈ dsts (number i os)
  | [], i, o, d, h, _ => by cases h
  | x :: os, i, o, d, h, hd => by
    simp only [number, dsts]
    rcases List.mem_cons.1 h with rfl | h
    · rw [hd]; exact List.mem_cons_self
    · have := dsts_mem os (i + 1) o d h hd
      cases x.dst with
      | none => exact this
      | some y => exact List.mem_cons_of_mem _ this
theorem keeps_ctr {s' : St} {n : Nat} (h : Keeps cx s s') (hn : s.ctr ≤ n) : Keeps cx s { s' with ctr := n } := ⟨h.slots, h.roots, h.box, h.l1, h.l2, hn⟩

theorem region_ok {an : An} (hc : CxF P cx) (henv : EnvOk P E cx.env) (hm : P.follows .mixedOrders = true) {id : Nat} {ops : Array Oper} {draw : Bool} {R : Type} {k : St → Option R} {x : R} (hcode : codeOk N (.region id ops draw) = true)
    (hlk : ∀ t ∈ mods (.region id ops draw), cx.lock t = false ∧ cx.slk t = false) (hrep : Rep E s a.tmps W) (hinv : Inv N s) (he : evRegion cx an id ops draw s k = some x)
    (hK : ∀ s' a' W', a'.defers = a.defers → Rep E s' a'.tmps W' → Inv N s' → Keeps cx s s' → k s' = some x → Q .normal a' W'.w) : (Code.region id ops draw).wp P Q a W.w := by
  unfold evRegion at he
  dsimp only at he
  split at he
  · refine ops_ok hc henv hm hcode (fun o ho d hd => (hlk d (dsts_mem _ _ o d ho hd)).2) hrep hinv he fun s' a' W' q1 q2 q3 q4 q5 q6 => ?_
    exact hK { s' with ctr := s.ctr + ops.size } a' W' q1 (ctr_rep q2) ⟨q5, by have := hinv.two; show 2 ≤ s.ctr + ops.size; omega, q3.l1.trans hinv.len, q3.l2.trans hinv.len2, q4⟩ (keeps_ctr q3 (by omega)) q6
  · have he : (fun ps : List VP => if patOk cx (dsts (number 0 ops.toList)) ps then (evOps (cx.in (dsts (number 0 ops.toList)) ps) ⟨ops, s.ctr, draw⟩ (number 0 ops.toList) (befs ops.toList []) [] s (packTo ps)).bind fun x => k (embed (dsts (number 0 ops.toList)) ps s x) else none) (match an.grp id with
      | some p => p
      | none => lastPat ops.toList) = some x := he
    generalize (match an.grp id with
      | some p => p
      | none => lastPat ops.toList) = ps at he
    dsimp only at he
    split at he
    · rename_i hpat
      cases hq : evOps (cx.in (dsts (number 0 ops.toList)) ps) ⟨ops, s.ctr, draw⟩ (number 0 ops.toList) (befs ops.toList []) [] s (packTo ps) with
      | none => rw [hq] at he; cases he
      | some y =>
        rw [hq] at he
        have he : k (embed (dsts (number 0 ops.toList)) ps s y) = some x := he
        have hcin : CxF P (cx.in (dsts (number 0 ops.toList)) ps) := hc
        refine ops_ok hcin henv hm hcode (fun o ho d hd => ?_) hrep hinv hq fun s' a' W' q1 q2 q3 q4 q5 q6 => ?_
        · have hmem := dsts_mem ops.toList 0 o d ho hd
          have h1 : cx.slk d = false := (hlk d hmem).2
          simp [Cx.in, h1, (has_mem _ d).2 hmem]
        · obtain ⟨W2, w2, r2, i2, k2, _⟩ := embed_ok (N := N) q2 q4 hinv q3 (fun t ht => hlk t ht) hpat q6
          rw [← w2]
          exact hK _ a' W2 q1 r2 i2 k2 he
    · cases he
end
end Go.Ev

namespace Go.Ev
set_option linter.unusedVariables false
set_option linter.unusedSimpArgs false

section
variable {P : Program} {E : Ent} {N : Nat}

theorem mods_open {cx : Cx} {ms : List Nat} {ps : List VP} (h : ∀ t ∈ ms, cx.lock t = false ∧ cx.slk t = false) : ∀ t ∈ ms, (cx.in ms ps).lock t = false ∧ (cx.in ms ps).slk t = false := fun t ht => by
  have := h t ht
  simp [Cx.in, this.1, this.2, (has_mem ms t).2 ht]

def Claim (P : Program) (E : Ent) (N : Nat) (an : An) (n : Nat) {RD : Type} (rp : St → Option RD) (c : Code) : Prop := ∀ {R : Type} {cx : Cx} {s : St} {kn : St → Option R} {kx : Nat → St → Option R} {kr : RD → Option R} {x : R} {a : Act} {W : Wd} {Q : Exit → Act → World → Prop},
    CxF P cx → EnvOk P E cx.env → codeOk N c = true → (∀ t ∈ mods c, cx.lock t = false ∧ cx.slk t = false) → Rep E s a.tmps W → Inv N s → ev an n rp c cx s kn kx kr = some x →
    (∀ s' a' W', a'.defers = a.defers → Rep E s' a'.tmps W' → Inv N s' → Keeps cx s s' → kn s' = some x → Q .normal a' W'.w) →
    (∀ id s' a' W', a'.defers = a.defers → Rep E s' a'.tmps W' → Inv N s' → Keeps cx s s' → kx id s' = some x → Q (.exit id) a' W'.w) →
    (∀ y s' a' W', a'.defers = a.defers → Rep E s' a'.tmps W' → Inv N s' → rp s' = some y → kr y = some x → Q .ret a' W'.w) → c.wp P Q a W.w

/-- A loop by its rounds. -/
theorem loop_wp {an : An} {n : Nat} {RD : Type} {rp : St → Option RD} {c' : Code} (ihb : Claim P E N an n rp c') {cx : Cx} {s : St} {ps : List VP} {id : Nat} {a0 : Act}
    (hc : CxF P cx) (henv : EnvOk P E cx.env) (hcode : codeOk N c' = true) (hlk : ∀ t ∈ mods c', cx.lock t = false ∧ cx.slk t = false) (hinv : Inv N s) (hp : patOk cx (mods c') ps = true)
    {γ : Type} {g : (patK ps).D → γ} {kr' : RD → Option ((patK ps).D ⊕ γ)} (hkr : ∀ r y, kr' r = some (.inl y) → False) {q : γ} {Q : Exit → Act → World → Prop}
    (hdone : ∀ x' s' a' W', a'.defers = a0.defers → Rep E s' a'.tmps W' → Inv N s' → Keeps (cx.in (mods c') ps) s s' → packTo ps s' = some x' → g x' = q → Q (.exit id) a' W'.w)
    (hret : ∀ y s' a' W', a'.defers = a0.defers → Rep E s' a'.tmps W' → Inv N s' → rp s' = some y → kr' y = some (.inr q) → Q .ret a' W'.w)
    {m : Nat} {x0 : (patK ps).D} {a : Act} {W : Wd} {s1 : St} (hd : a.defers = a0.defers) (hrep : Rep E s1 a.tmps W) (hin : RootsIn s1) (hk : Keeps (cx.in (mods c') ps) s s1) (hx : packTo ps s1 = some x0)
    (hit : iter (α := (patK ps).D) (γ := γ) m (fun x => ev an n rp c' (cx.in (mods c') ps) (embed (mods c') ps s x) (fun s => (packTo ps s).bind fun x => some (.inl x)) (fun i s => if i == id then (packTo ps s).bind fun x => some (.inr (g x)) else none) kr') x0 = some q) :
    (Code.loop c').wp P Q a W.w := by
  refine wp_loop_ghost (fun k a w => ∃ (W : Wd) (s1 : St) (x : (patK ps).D), W.w = w ∧ a.defers = a0.defers ∧ Rep E s1 a.tmps W ∧ RootsIn s1 ∧ Keeps (cx.in (mods c') ps) s s1 ∧ packTo ps s1 = some x ∧
    iter (α := (patK ps).D) (γ := γ) k (fun x => ev an n rp c' (cx.in (mods c') ps) (embed (mods c') ps s x) (fun s => (packTo ps s).bind fun x => some (.inl x)) (fun i s => if i == id then (packTo ps s).bind fun x => some (.inr (g x)) else none) kr') x = some q) m
    ⟨W, s1, x0, rfl, hd, hrep, hin, hk, hx, hit⟩ ?_
  rintro k a w ⟨W, s1, x, rfl, hd, hrep, hin, hk, hx, hit⟩
  cases k with
  | zero => cases hit
  | succ k =>
    simp only [iter] at hit
    obtain ⟨W2, w2, r2, i2, k2, k3⟩ := embed_ok (N := N) hrep hin hinv hk hlk hp hx
    cases hq : ev an n rp c' (R := (patK ps).D ⊕ γ) (cx.in (mods c') ps) (embed (mods c') ps s x) (fun s => (packTo ps s).bind fun x => some (.inl x)) (fun i s => if i == id then (packTo ps s).bind fun x => some (.inr (g x)) else none) kr' with
    | none => rw [hq] at hit; cases hit
    | some y =>
      rw [hq] at hit
      rw [← w2]
      have hcin : CxF P (cx.in (mods c') ps) := hc
      refine ihb hcin henv hcode (mods_open hlk) r2 i2 hq (fun s3 a3 W3 q1 q2 q3 q4 q5 => ?_) (fun i s3 a3 W3 q1 q2 q3 q4 q5 => ?_) (fun z s3 a3 W3 q1 q2 q3 q4 q5 => ?_)
      · cases hpk : packTo ps s3 with
        | none => rw [hpk] at q5; cases q5
        | some z =>
          rw [hpk] at q5
          injection q5 with q5
          subst q5
          exact ⟨k, Nat.lt_succ_self k, W3, s3, z, rfl, q1.trans hd, q2, q3.rin, k3.trans q4, hpk, hit⟩
      · split at q5
        · rename_i hi
          have hi : i = id := by simpa using hi
          subst hi
          cases hpk : packTo ps s3 with
          | none => rw [hpk] at q5; cases q5
          | some z =>
            rw [hpk] at q5
            injection q5 with q5
            subst q5
            injection hit with hit
            exact hdone z s3 a3 W3 (q1.trans hd) q2 q3 (k3.trans q4) hpk hit
        · cases q5
      · cases y with
        | inl y => exact (hkr _ _ q5).elim
        | inr y =>
          injection hit with hit
          subst hit
          exact hret z s3 a3 W3 (q1.trans hd) q2 q3 q4 q5

theorem ev_both {an : An} {n : Nat} {RD : Type} {rp : St → Option RD} (hm : P.follows .mixedOrders = true) : ∀ (c : Code), Claim P E N an n rp c ∧ ∀ c', c = .loop c' → Claim P E N an n rp c' := by
  intro c
  induction c with
  | skip =>
    refine ⟨?_, fun c' e => by cases e⟩
    intro R cx s kn kx kr x a W Q hc henv hcode hlk hrep hinv he hn hx hr
    exact wp_skip (hn s a W rfl hrep hinv (Keeps.refl _ _) he)
  | region id ops draw =>
    refine ⟨?_, fun c' e => by cases e⟩
    intro R cx s kn kx kr x a W Q hc henv hcode hlk hrep hinv he hn hx hr
    exact region_ok hc henv hm hcode hlk hrep hinv he hn
  | seq b c ihb ihc =>
    refine ⟨?_, fun c' e => by cases e⟩
    intro R cx s kn kx kr x a W Q hc henv hcode hlk hrep hinv he hn hx hr
    simp only [codeOk, Bool.and_eq_true] at hcode
    have hla : ∀ t ∈ mods b, cx.lock t = false ∧ cx.slk t = false := fun t ht => hlk t (List.mem_append_left _ ht)
    have hlb : ∀ t ∈ mods c, cx.lock t = false ∧ cx.slk t = false := fun t ht => hlk t (List.mem_append_right _ ht)
    refine wp_seq ?_
    have next : ∀ {s1 : St} {a1 : Act} {W1 : Wd}, a1.defers = a.defers → Rep E s1 a1.tmps W1 → Inv N s1 → Keeps cx s s1 → ev an n rp c cx s1 kn kx kr = some x → c.wp P Q a1 W1.w := fun hd1 hr1 hi1 hk1 he1 =>
      ihc.1 hc henv hcode.2 hlb hr1 hi1 he1 (fun s2 a2 W2 q1 q2 q3 q4 q5 => hn s2 a2 W2 (q1.trans hd1) q2 q3 (hk1.trans q4) q5) (fun i s2 a2 W2 q1 q2 q3 q4 q5 => hx i s2 a2 W2 (q1.trans hd1) q2 q3 (hk1.trans q4) q5)
        (fun y s2 a2 W2 q1 q2 q3 q4 q5 => hr y s2 a2 W2 (q1.trans hd1) q2 q3 q4 q5)
    simp only [ev] at he
    split at he
    · exact ihb.1 hc henv hcode.1 hla hrep hinv he (fun s1 a1 W1 q1 q2 q3 q4 q5 => next q1 q2 q3 q4 q5) hx hr
    · rename_i ps rets hj
      split at he
      · rename_i hp
        have hcin : CxF P (cx.in (mods b) ps) := hc
        cases rets with
        | false =>
          dsimp only at he
          cases hq : ev an n rp b (R := (patK ps).D) (cx.in (mods b) ps) s (packTo ps) (fun _ _ => none) (fun _ => none) with
          | none => rw [hq] at he; cases he
          | some y =>
            rw [hq] at he
            refine ihb.1 hcin henv hcode.1 (mods_open hla) hrep hinv hq (fun s1 a1 W1 q1 q2 q3 q4 q5 => ?_) (fun _ _ _ _ _ _ _ _ q => by cases q) (fun _ _ _ _ _ _ _ _ q => by cases q)
            obtain ⟨W2, w2, r2, i2, k2, _⟩ := embed_ok (N := N) q2 q3.rin hinv q4 hla hp q5
            show c.wp P Q a1 W1.w
            rw [← w2]
            exact next q1 r2 i2 k2 he
        | true =>
          dsimp only at he
          cases hq : ev an n rp b (R := (patK ps).D ⊕ RD) (cx.in (mods b) ps) s (fun s => (packTo ps s).bind fun x => some (.inl x)) (fun _ _ => none) (fun r => some (.inr r)) with
          | none => rw [hq] at he; cases he
          | some y =>
            rw [hq] at he
            refine ihb.1 hcin henv hcode.1 (mods_open hla) hrep hinv hq (fun s1 a1 W1 q1 q2 q3 q4 q5 => ?_) (fun _ _ _ _ _ _ _ _ q => by cases q) (fun y' s1 a1 W1 q1 q2 q3 q4 q5 => ?_)
            · cases hpk : packTo ps s1 with
              | none => rw [hpk] at q5; cases q5
              | some z =>
                rw [hpk] at q5
                injection q5 with q5
                subst q5
                obtain ⟨W2, w2, r2, i2, k2, _⟩ := embed_ok (N := N) q2 q3.rin hinv q4 hla hp hpk
                show c.wp P Q a1 W1.w
                rw [← w2]
                exact next q1 r2 i2 k2 he
            · injection q5 with q5
              subst q5
              exact hr y' s1 a1 W1 q1 q2 q3 q4 he
      · cases he
  | cond o b c ihb ihc =>
    refine ⟨?_, fun c' e => by cases e⟩
    intro R cx s kn kx kr x a W Q hc henv hcode hlk hrep hinv he hn hx hr
    simp only [codeOk, Bool.and_eq_true] at hcode
    have hla : ∀ t ∈ mods b, cx.lock t = false ∧ cx.slk t = false := fun t ht => hlk t (List.mem_append_left _ ht)
    have hlb : ∀ t ∈ mods c, cx.lock t = false ∧ cx.slk t = false := fun t ht => hlk t (List.mem_append_right _ ht)
    have h1 := opd1_ok hrep o
    simp only [ev] at he
    split at he
    · rename_i t hq
      rw [hq] at h1
      have h1 : a.eval o = .bool t := h1.1
      refine wp_cond h1 ?_
      cases t with
      | true => exact ihb.1 hc henv hcode.1 hla hrep hinv he hn hx hr
      | false => exact ihc.1 hc henv hcode.2 hlb hrep hinv he hn hx hr
    · cases he
  | block id c ih =>
    refine ⟨?_, fun c' e => by cases e⟩
    intro R cx s kn kx kr x a W Q hc henv hcode hlk hrep hinv he hn hx hr
    simp only [ev] at he
    cases hb : an.blk id with
    | none =>
      rw [hb] at he
      refine wp_block (ih.1 hc henv hcode hlk hrep hinv he hn (fun i s' a' W' q1 q2 q3 q4 q5 => ?_) hr)
      show (if i = id then Q .normal a' W'.w else Q (.exit i) a' W'.w)
      by_cases hi : i = id
      · rw [if_pos hi]
        rw [show (i == id) = true by simpa using hi] at q5
        exact hn s' a' W' q1 q2 q3 q4 q5
      · rw [if_neg hi]
        rw [show (i == id) = false by simpa using hi] at q5
        exact hx i s' a' W' q1 q2 q3 q4 q5
    | some p =>
      obtain ⟨ps, rets⟩ := p
      rw [hb] at he
      dsimp only at he
      split at he
      · rename_i c'
        have ihb : Claim P E N an n rp c' := ih.2 c' rfl
        have hcode : codeOk N c' = true := hcode
        have hlk : ∀ t ∈ mods c', cx.lock t = false ∧ cx.slk t = false := hlk
        split at he
        · rename_i hp
          refine wp_block ?_
          cases rets with
          | false =>
            dsimp only at he
            cases hpk : packTo ps s with
            | none => rw [hpk] at he; cases he
            | some x0 =>
              rw [hpk] at he
              simp only [Option.bind_some] at he
              obtain ⟨q, hq, he⟩ := Option.bind_eq_some_iff.1 he
              refine loop_wp (g := fun x => x) ihb hc henv hcode hlk hinv hp (fun _ _ q => by cases q) (fun x' s' a' W' q1 q2 q3 q4 q5 q6 => ?_) (fun _ _ _ _ _ _ _ _ q => by cases q) rfl hrep hinv.rin (Keeps.refl _ _) hpk hq
              subst q6
              obtain ⟨W2, w2, r2, i2, k2, _⟩ := embed_ok (N := N) q2 q3.rin hinv q4 hlk hp q5
              show (if id = id then Q .normal a' W'.w else Q (.exit id) a' W'.w)
              rw [if_pos rfl, ← w2]
              exact hn _ a' W2 q1 r2 i2 k2 he
          | true =>
            dsimp only at he
            cases hpk : packTo ps s with
            | none => rw [hpk] at he; cases he
            | some x0 =>
              rw [hpk] at he
              simp only [Option.bind_some] at he
              obtain ⟨q, hq, he⟩ := Option.bind_eq_some_iff.1 he
              refine loop_wp (g := fun x => (.inl x : (patK ps).D ⊕ RD)) ihb hc henv hcode hlk hinv hp (fun _ _ q => by cases q) (fun x' s' a' W' q1 q2 q3 q4 q5 q6 => ?_) (fun y s' a' W' q1 q2 q3 q4 q5 => ?_) rfl hrep hinv.rin (Keeps.refl _ _) hpk hq
              · subst q6
                obtain ⟨W2, w2, r2, i2, k2, _⟩ := embed_ok (N := N) q2 q3.rin hinv q4 hlk hp q5
                show (if id = id then Q .normal a' W'.w else Q (.exit id) a' W'.w)
                rw [if_pos rfl, ← w2]
                exact hn _ a' W2 q1 r2 i2 k2 he
              · injection q5 with q5
                injection q5 with q5
                subst q5
                exact hr y s' a' W' q1 q2 q3 q4 he
        · cases he
      · cases he
  | exit id =>
    refine ⟨?_, fun c' e => by cases e⟩
    intro R cx s kn kx kr x a W Q hc henv hcode hlk hrep hinv he hn hx hr
    exact wp_exit (hx id s a W rfl hrep hinv (Keeps.refl _ _) he)
  | ret =>
    refine ⟨?_, fun c' e => by cases e⟩
    intro R cx s kn kx kr x a W Q hc henv hcode hlk hrep hinv he hn hx hr
    simp only [ev] at he
    cases hq : rp s with
    | none => rw [hq] at he; cases he
    | some y => rw [hq] at he; exact wp_ret (hr y s a W rfl hrep hinv hq he)
  | loop c ih =>
    refine ⟨?_, fun c' e => by cases e; exact ih.1⟩
    intro R cx s kn kx kr x a W Q hc henv hcode hlk hrep hinv he hn hx hr
    simp only [ev] at he
    cases he
  | _ =>
    refine ⟨?_, fun c' e => by cases e⟩
    intro R cx s kn kx kr x a W Q hc henv hcode hlk hrep hinv he hn hx hr
    simp only [ev] at he
    cases he
end
end Go.Ev

namespace Go.Ev
set_option linter.unusedVariables false
set_option linter.unusedSimpArgs false

/-- What is taken, leaf by leaf: from 'us' to 'us'' ; the blocks of each. -/
inductive BL (W : Wd) : List (Nat × Nat) → List (Nat × Nat) → List (List Nat) → Prop
  | nil (us) : BL W us us []
  | skip {us us' os} (h : BL W us us' os) : BL W us us' ([] :: os)
  | take {us us' os u o} (hu : u ∉ us) (hs : ∀ b ∈ o, b ∈ W.om (.lf u.1 u.2)) (hn : o.Nodup) (h : BL W (u :: us) us' os) : BL W us us' (o :: os)

section
variable {P : Program} {E : Ent} {s : St} {W : Wd} {tm : Array Value} {β : Type} {t : β}

theorem BL.append {us us1 us2 : List (Nat × Nat)} {xs ys : List (List Nat)} (h1 : BL W us us1 xs) (h2 : BL W us1 us2 ys) : BL W us us2 (xs ++ ys) := by
  induction h1 with
  | nil => exact h2
  | skip h ih => exact .skip (ih h2)
  | take hu hs hn h ih => exact .take hu hs hn (ih h2)
theorem BL.sub {us us' : List (Nat × Nat)} {os : List (List Nat)} (h : BL W us us' os) : ∀ u ∈ us, u ∈ us' := by
  induction h with
  | nil => exact fun u hu => hu
  | skip h ih => exact ih
  | take hu hs hn h ih => exact fun u hu => ih u (List.mem_cons_of_mem _ hu)
theorem BL.mem {us us' : List (Nat × Nat)} {os : List (List Nat)} (h : BL W us us' os) : ∀ o ∈ os, ∀ b ∈ o, ∃ u, u ∉ us ∧ b ∈ W.om (.lf u.1 u.2) := by
  induction h with
  | nil => intro o ho; cases ho
  | skip h ih =>
    intro o ho b hb
    rcases List.mem_cons.1 ho with rfl | ho
    · cases hb
    · exact ih o ho b hb
  | take hu hs hn h ih =>
    intro o ho b hb
    rcases List.mem_cons.1 ho with rfl | ho
    · exact ⟨_, hu, hs b hb⟩
    · obtain ⟨u', h1, h2⟩ := ih o ho b hb
      exact ⟨u', fun hh => h1 (List.mem_cons_of_mem _ hh), h2⟩
theorem BL.nodup {us us' : List (Nat × Nat)} {os : List (List Nat)} (h : BL W us us' os) : ∀ o ∈ os, o.Nodup := by
  induction h with
  | nil => intro o ho; cases ho
  | skip h ih =>
    intro o ho
    rcases List.mem_cons.1 ho with rfl | ho
    · exact List.nodup_nil
    · exact ih o ho
  | take hu hs hn h ih =>
    intro o ho
    rcases List.mem_cons.1 ho with rfl | ho
    · exact hn
    · exact ih o ho
/-- No block in both. -/
def Apart2 (a b : List Nat) : Prop := ∀ x ∈ a, x ∉ b
theorem Apart2.symm {a b : List Nat} (h : Apart2 a b) : Apart2 b a := fun x hx hy => h x hy hx
theorem BL.pair (hd : ∀ k k', k ≠ k' → ∀ b ∈ W.om k, b ∉ W.om k') {us us' : List (Nat × Nat)} {os : List (List Nat)} (h : BL W us us' os) : os.Pairwise Apart2 := by
  induction h with
  | nil => exact .nil
  | skip h ih => exact .cons (fun a _ x hx => by cases hx) ih
  | @take us us' os u o hu hs hn h ih =>
    refine .cons (fun a ha x hx hxa => ?_) ih
    obtain ⟨u', h1, h2⟩ := h.mem a ha x hxa
    have hne : Key.lf u.1 u.2 ≠ Key.lf u'.1 u'.2 := by
      intro he
      injection he with e1 e2
      exact h1 (by rw [show u' = u from Prod.ext e1.symm e2.symm]; simp)
    exact hd _ _ hne x (hs x hx) h2
theorem pair_at {α : Type} {R : α → α → Prop} (hs : ∀ a b, R a b → R b a) {l : List α} (h : l.Pairwise R) {i j : Nat} {a b : α} (hij : i ≠ j) (hi : l[i]? = some a) (hj : l[j]? = some b) : R a b := by
  obtain ⟨h1, rfl⟩ := List.getElem?_eq_some_iff.1 hi
  obtain ⟨h2, rfl⟩ := List.getElem?_eq_some_iff.1 hj
  rcases Nat.lt_or_gt_of_ne hij with hlt | hlt
  · exact List.pairwise_iff_getElem.1 h i j h1 h2 hlt
  · exact hs _ _ (List.pairwise_iff_getElem.1 h j i h2 h1 hlt)

/-- One leaf that is handed back. -/
theorem backLeaf_ok (h : Rep E s tm W) {us : List (Nat × Nat)} {l : L} {m : Nat} {a : LA} {v : Value} {k : Lv → List (Nat × Nat) → Step β} (hv : LAok s W a v) (hl : (backLeaf s us l m a k).leads t) :
    ∃ (x : l.D) (us' : List (Nat × Nat)) (o : List Nat), (k ⟨l, x⟩ us').leads t ∧ l.rd m W.w W.fz v x o ∧ BL W us us' [o] := by
  cases l with
  | int kk => obtain ⟨x, hl, hr⟩ := datum_ok h hv hl; exact ⟨x, us, [], hl, (L.flat_rd _ rfl hr).1, .skip (.nil _)⟩
  | bool => obtain ⟨x, hl, hr⟩ := datum_ok h hv hl; exact ⟨x, us, [], hl, (L.flat_rd _ rfl hr).1, .skip (.nil _)⟩
  | str => obtain ⟨x, hl, hr⟩ := datum_ok h hv hl; exact ⟨x, us, [], hl, (L.flat_rd _ rfl hr).1, .skip (.nil _)⟩
  | sl t0 e =>
    unfold backLeaf at hl
    cases m with
    | zero =>
      simp only at hl
      split at hl
      · rename_i hs
        obtain ⟨x, hl, hr⟩ := still_ok h hv hs hl
        exact ⟨x, us, [], hl, hr, .skip (.nil _)⟩
      · exact hl.elim
    | succ m =>
      cases a with
      | nils => exact ⟨_, us, [], hl, by rw [show v = .slice none 0 0 from hv]; exact nil_row, .skip (.nil _)⟩
      | ref c =>
        simp only at hl
        split at hl
        · rename_i ver gen t' e' xs d hleaf
          split at hl
          · rename_i hc
            simp only [Bool.and_eq_true, beq_iff_eq, Bool.not_eq_true'] at hc
            obtain ⟨⟨⟨hver, hp⟩, hd⟩, hus⟩ := hc
            subst hver; subst hd
            have hp : c.p = [] := by cases hq : c.p <;> simp_all [isNil]
            split at hl
            · rename_i y hy
              obtain ⟨q1, q2⟩ := L.cast_some hy
              cases q1
              have q2 : xs = y := q2
              subst q2
              obtain ⟨h', e2, hcv, hn⟩ := hv gen _ _ _ _ hleaf (.inl hp)
              rw [hp] at hn
              obtain ⟨rfl, rfl⟩ := hn
              obtain ⟨u', hu', hrd⟩ := (h.roots c.r).row hleaf
              rw [hcv] at hu'; injection hu' with hu'; subst hu'
              refine ⟨xs, _, W.om (.lf c.r c.j), hl, hrd, .take (u := (c.r, c.j)) (fun hh => ?_) (fun b hb => hb) (h.sep.nodup _) (.nil _)⟩
              rw [show us.contains (c.r, c.j) = true from List.contains_iff_mem.2 hh] at hus; cases hus
            · exact hl.elim
          · exact hl.elim
        · exact hl.elim
      | win c lo hi =>
        simp only at hl
        split at hl
        · rename_i ver gen t' e' xs d hleaf
          split at hl
          · rename_i hc
            simp only [Bool.and_eq_true, beq_iff_eq, Bool.not_eq_true'] at hc
            obtain ⟨⟨⟨hver, hp⟩, hd⟩, hus⟩ := hc
            subst hver; subst hd
            have hp : c.p = [] := by cases hq : c.p <;> simp_all [isNil]
            split at hl
            · rename_i y hy
              obtain ⟨q1, q2⟩ := L.cast_some hy
              cases q1
              have q2 : sub xs lo hi = y := q2
              subst q2
              obtain ⟨h', e2, A, n, k0, hcv, hn, h1, h2, huv⟩ := hv gen _ _ _ _ hleaf (.inl hp)
              rw [hp] at hn
              obtain ⟨rfl, rfl⟩ := hn
              obtain ⟨u', hu', hrd⟩ := (h.roots c.r).row hleaf
              rw [hcv] at hu'; injection hu' with hu'; subst hu'
              obtain ⟨o', q1, q2, q3⟩ := SlRd.sub hrd h1 h2
              refine ⟨sub xs lo hi, _, o', hl, ?_, .take (u := (c.r, c.j)) (fun hh => ?_) (fun b hb => q2 b hb) (q3 (h.sep.nodup _)) (.nil _)⟩
              · rw [huv]; exact q1
              · rw [show us.contains (c.r, c.j) = true from List.contains_iff_mem.2 hh] at hus; cases hus
            · exact hl.elim
          · exact hl.elim
        · exact hl.elim
      | _ => exact hl.elim

theorem backLeaves_ok (h : Rep E s tm W) : ∀ (ls : List (L × Nat)) (as : List LA) (g : Nat → Option Value) {us : List (Nat × Nat)} {k : List Lv → List (Nat × Nat) → Step β}, (∀ (j : Nat) (a : LA), as[j]? = some a → ∃ u, g j = some u ∧ LAok s W a u) → (backLeaves s ls as us k).leads t →
    ∃ (vs : List Lv) (us' : List (Nat × Nat)) (os : List (List Nat)), (k vs us').leads t ∧ vs.map (·.l) = ls.map (·.1) ∧ os.length = ls.length ∧ as.length = ls.length ∧ BL W us us' os ∧
      ∀ (j : Nat) (p : L × Nat) (lv : Lv), ls[j]? = some p → vs[j]? = some lv → ∃ y, g j = some y ∧ lv.l.rd p.2 W.w W.fz y lv.x ((os[j]?).getD [])
  | [], [], g, us, k, hg, hl => ⟨[], us, [], hl, rfl, rfl, rfl, .nil _, fun j p lv hj => by simp at hj⟩
  | [], _ :: _, g, us, k, hg, hl => hl.elim
  | _ :: _, [], g, us, k, hg, hl => hl.elim
  | (l, m) :: ls, a :: as, g, us, k, hg, hl => by
    obtain ⟨u, hu, hok⟩ := hg 0 a rfl
    obtain ⟨x, us1, o, hl, hr, hb⟩ := backLeaf_ok h hok hl
    obtain ⟨vs, us2, os, hl, h1, h2, h3, h4, h5⟩ := backLeaves_ok h ls as (fun j => g (j + 1)) (fun j a hj => hg (j + 1) a (by simpa using hj)) hl
    refine ⟨⟨l, x⟩ :: vs, us2, o :: os, hl, by simp [h1], by simp [h2], by simp [h3], hb.append h4, fun j p lv hj hv => ?_⟩
    cases j with
    | zero => simp at hj hv; subst hj; subst hv; exact ⟨u, hu, by simpa using hr⟩
    | succ j =>
      obtain ⟨y, hy, hr⟩ := h5 j p lv (by simpa using hj) (by simpa using hv)
      exact ⟨y, hy, by simpa using hr⟩

/-- The value of a result's variable. -/
def RvOk (P : Program) (w : World) (tm : Array Value) : List ResultVar → List Value → Prop
  | [], [] => True
  | .tmp t :: rv, u :: us => u = tm.getD t Go.undef ∧ RvOk P w tm rv us
  | .cell t T :: rv, u :: us => (do loadVar T (← asAddr (tm.getD t Go.undef)) : Sem Value).run P w = .ok u w ∧ RvOk P w tm rv us
  | _, _ => False

/-- A variable is read whole. -/
theorem loadVar_ok {T : TypeId} {y : Ty} (hty : TyF P T y) {as : List LA} {b : Nat} (hlen : as.length = y.ls.n) (hget : ∀ (j : Nat) (x : LA), as[j]? = some x → ∃ u, W.w.cell? ⟨b, 0 + j, none⟩ = some u ∧ LAok s W x u) :
    ∃ u, (loadVar T ⟨b, 0, none⟩).run P W.w = .ok u W.w ∧ Vok s W y.agg as u := by
  cases hag : y.agg with
  | false =>
    obtain ⟨l, hls, hlo⟩ := hty.lone hag
    rw [hls] at hlen
    obtain ⟨a, rfl⟩ : ∃ a, as = [a] := by
      match as, hlen with
      | [a], _ => exact ⟨a, rfl⟩
    obtain ⟨u, hu, hy⟩ := hget 0 a rfl
    obtain ⟨d, hd, hnd⟩ := hlo.notAgg
    have hagg : (isAgg T).run P W.w = .ok false W.w := by
      unfold isAgg
      rw [Sem.run_bind, run_underlying hd]
      cases d <;> simp_all
    simp only [Nat.add_zero] at hu
    exact ⟨u, by simp [loadVar, hagg, load, Sem.run, hu], hy⟩
  | true =>
    obtain ⟨fs, hfs, _⟩ := hty.agg hag
    obtain ⟨i, hi, hsz, _⟩ := hty.info
    let f : Nat → Value := fun j => (W.w.cell? ⟨b, 0 + j, none⟩).getD Go.undef
    let cs : List Value := (List.range as.length).map f
    have hcs : ∀ j u, cs[j]? = some u → W.w.cell? ⟨b, 0 + j, none⟩ = some u := by
      intro j u hj
      simp only [cs, List.getElem?_map] at hj
      by_cases hlt : j < as.length
      · rw [List.getElem?_range hlt] at hj
        simp at hj
        obtain ⟨u', hu', _⟩ := hget j as[j] (List.getElem?_eq_getElem hlt)
        simp only [Nat.zero_add] at hu'
        rw [← hj]; simp [f, hu']
      · rw [List.getElem?_eq_none (by simp; omega)] at hj; cases hj
    have hrun := run_loadVar_mid (P := P) W.w b 0 T cs (.struct fs) (fun j u hj => hcs j u hj) hfs rfl (by simp [hi, hsz, cs, hlen])
    refine ⟨.agg cs.toArray, hrun, cs.toArray, rfl, by simp [cs], fun j y hy => ?_⟩
    obtain ⟨u, hu, hok⟩ := hget j y hy
    refine ⟨u, ?_, hok⟩
    have hlt : j < as.length := (List.getElem?_eq_some_iff.1 hy).1
    simp only [Nat.zero_add] at hu
    simp [cs, f, hlt, hu]

theorem backRes_ok {ty : TypeId → Option Ty} (hty : ∀ t x, ty t = some x → TyF P t x) (h : Rep E s tm W) : ∀ (rs : List (Bool × List (L × Nat))) (rv : List ResultVar) {us : List (Nat × Nat)} {k : List Lv → List (Nat × Nat) → Step β}, (backRes ty s rs rv us k).leads t →
    ∃ (vals : List Value) (vss : List (List Lv)) (us' : List (Nat × Nat)) (os : List (List Nat)), (k vss.flatten us').leads t ∧ BL W us us' os ∧ RvOk P W.w tm rv vals ∧
      ∀ (off : Nat) (om : Nat → List Nat), (∀ j, j < os.length → om (off + j) = (os[j]?).getD []) → ROut W.w W.fz om rs vals vss off
  | [], [], us, k, hl => ⟨[], [], us, [], hl, .nil _, trivial, fun off om hom => trivial⟩
  | [], _ :: _, us, k, hl => hl.elim
  | _ :: _, [], us, k, hl => hl.elim
  | (g, ls) :: rs, r :: rv, us, k, hl => by
    have main : ∀ {u : Value} {as : List LA}, Vok s W g as u → (∀ us, RvOk P W.w tm rv us → RvOk P W.w tm (r :: rv) (u :: us)) → (backLeaves s ls as us fun xs us => backRes ty s rs rv us fun ys us => k (xs ++ ys) us).leads t →
        ∃ (vals : List Value) (vss : List (List Lv)) (us' : List (Nat × Nat)) (os : List (List Nat)), (k vss.flatten us').leads t ∧ BL W us us' os ∧ RvOk P W.w tm (r :: rv) vals ∧
          ∀ (off : Nat) (om : Nat → List Nat), (∀ j, j < os.length → om (off + j) = (os[j]?).getD []) → ROut W.w W.fz om ((g, ls) :: rs) vals vss off := by
      intro u as hok hrv hl
      obtain ⟨vs, us1, os1, hl, h1, h2, h3, h4, h5⟩ := backLeaves_ok h ls as (partG g u) (fun j a hj => partG_ok hok j a hj) hl
      obtain ⟨vals, vss, us2, os2, hl, h6, h7, h8⟩ := backRes_ok hty h rs rv hl
      refine ⟨u :: vals, vs :: vss, us2, os1 ++ os2, by simpa using hl, h4.append h6, hrv _ h7, fun off om hom => ⟨⟨h1, ?_, fun j p lv hj hv => ?_⟩, ?_⟩⟩
      · cases g with
        | true => obtain ⟨cs, hcs, hsz, _⟩ := hok; exact ⟨cs, hcs, hsz.trans h3⟩
        | false =>
          cases as with
          | nil => exact hok.elim
          | cons b bs => cases bs with
            | nil => exact h3.symm
            | cons => exact hok.elim
      · obtain ⟨y, hy, hr⟩ := h5 j p lv hj hv
        have hlt : j < ls.length := (List.getElem?_eq_some_iff.1 hj).1
        refine ⟨y, hy, ?_⟩
        show lv.l.rd p.2 W.w W.fz y lv.x (om (off + j))
        rw [hom j (by simp; omega), List.getElem?_append_left (by omega)]
        exact hr
      · refine h8 (off + ls.length) om fun j hj => ?_
        rw [show off + ls.length + j = off + (ls.length + j) by omega, hom (ls.length + j) (by simp; omega), List.getElem?_append_right (by omega)]
        rw [show ls.length + j - os1.length = j by omega]
    cases r with
    | tmp u =>
      simp only [backRes] at hl
      split at hl
      · rename_i g' as hsl
        split at hl
        · rename_i hgg
          have hgg : g = g' := by simpa using hgg
          subst hgg
          have hok : Vok s W g as (tm.getD u Go.undef) := by have := h.slots u; rw [hsl] at this; exact this
          exact main hok (fun us hu => ⟨rfl, hu⟩) hl
        · exact hl.elim
      · exact hl.elim
    | cell u T =>
      simp only [backRes] at hl
      split at hl
      · rename_i y r0 ver hyT hsl
        split at hl
        · rename_i hgg
          simp only [Bool.and_eq_true, beq_iff_eq] at hgg
          obtain ⟨hgg, hyn⟩ := hgg
          subst hgg
          have hv : LAok s W (.ptr r0 0 ver) (tm.getD u Go.undef) := by have := h.slots u; rw [hsl] at this; exact this
          have hbx : (s.root r0).box = true ∧ (s.root r0).ver = ver := by
            have hl2 := hl
            simp only [St.loads] at hl2
            split at hl2
            · rename_i hc
              simp only [Bool.and_eq_true, beq_iff_eq] at hc
              exact hc.1
            · exact hl2.elim
          obtain ⟨as, hl, _, b, off, hp, hget⟩ := loads_ok h hv hl
          split at hl
          · rename_i hlen
            have hlen : as.length = ls.length := by simpa using hlen
            have hoff : off = 0 := by
              rw [hv hbx.1 hbx.2] at hp
              injection hp with hp; injection hp with hp; injection hp with _ h2
              exact h2.symm
            subst hoff
            obtain ⟨v, hv1, hv2⟩ := loadVar_ok (hty T y hyT) (by rw [hlen, hyn]) hget
            exact main hv2 (fun us hu => ⟨by simp [hp, asAddr, hv1], hu⟩) hl
          · exact hl.elim
        · exact hl.elim
      · exact hl.elim

/-- What a parameter hands back. -/
def PBack (E : Ent) (s : St) (W : Wd) (i : Nat) (pm : PM) (vs0 vs : List Lv) (os : List (List Nat)) : Prop := match pm with
  | .box ls => (s.root i).box = true ∧ (s.root i).ver = 1 ∧ (s.root i).ls.length = ls.length ∧ vs.map (·.l) = ls.map (·.1) ∧ os.length = ls.length ∧
      ∀ (j : Nat) (p : L × Nat) (lv : Lv), ls[j]? = some p → vs[j]? = some lv → ∃ y, W.w.cell? ⟨W.bk i, j, none⟩ = some y ∧ lv.l.rd p.2 W.w W.fz y lv.x ((os[j]?).getD [])
  | .row g ls => vs.length = ls.length ∧ os.length = ls.length ∧ ∀ (j : Nat) (p : L × Nat) (lv : Lv), ls[j]? = some p → vs[j]? = some lv →
      (isSl p.1 = true ∧ lv.l = p.1 ∧ ∃ u, E.cv0 i j = some u ∧ lv.l.rd p.2 W.w W.fz u lv.x ((os[j]?).getD [])) ∨ (isSl p.1 = false ∧ vs0[j]? = some lv ∧ os[j]? = some [])
  | _ => vs = [] ∧ os = []

theorem backRow_ok (h : Rep E s tm W) (i : Nat) : ∀ (j : Nat) (ls : List (L × Nat)) (vs0 rest : List Lv) {us : List (Nat × Nat)} {k : List Lv → List (Nat × Nat) → Step β}, vs0.length = ls.length → (backRow s i j ls (vs0 ++ rest) us k).leads t →
    ∃ (vs : List Lv) (us' : List (Nat × Nat)) (os : List (List Nat)), (k vs us').leads t ∧ vs.length = ls.length ∧ os.length = ls.length ∧ BL W us us' os ∧ ∀ (m : Nat) (p : L × Nat) (lv : Lv), ls[m]? = some p → vs[m]? = some lv →
      (isSl p.1 = true ∧ lv.l = p.1 ∧ ∃ u, E.cv0 i (j + m) = some u ∧ lv.l.rd p.2 W.w W.fz u lv.x ((os[m]?).getD [])) ∨ (isSl p.1 = false ∧ vs0[m]? = some lv ∧ os[m]? = some [])
  | j, [], vs0, rest, us, k, hlen, hl => ⟨[], us, [], hl, rfl, rfl, .nil _, fun m p lv hp => by simp at hp⟩
  | j, _ :: _, [], rest, us, k, hlen, hl => by simp at hlen
  | j, (l, d) :: ls, x :: vs0, rest, us, k, hlen, hl => by
    have hlen' : vs0.length = ls.length := by simpa using hlen
    have plain : isSl l = false → (backRow s i (j + 1) ls (vs0 ++ rest) us fun ys us => k (x :: ys) us).leads t → ∃ (vs : List Lv) (us' : List (Nat × Nat)) (os : List (List Nat)), (k vs us').leads t ∧ vs.length = ((l, d) :: ls).length ∧ os.length = ((l, d) :: ls).length ∧ BL W us us' os ∧ ∀ (m : Nat) (p : L × Nat) (lv : Lv), ((l, d) :: ls)[m]? = some p → vs[m]? = some lv →
        (isSl p.1 = true ∧ lv.l = p.1 ∧ ∃ u, E.cv0 i (j + m) = some u ∧ lv.l.rd p.2 W.w W.fz u lv.x ((os[m]?).getD [])) ∨ (isSl p.1 = false ∧ (x :: vs0)[m]? = some lv ∧ os[m]? = some []) := by
      intro hs hl
      obtain ⟨vs, us1, os, hl, h1, h2, h3, h4⟩ := backRow_ok h i (j + 1) ls vs0 rest hlen' hl
      refine ⟨x :: vs, us1, [] :: os, hl, by simp [h1], by simp [h2], .skip h3, fun m p lv hp hv => ?_⟩
      cases m with
      | zero => simp at hp hv; subst hp; subst hv; exact .inr ⟨hs, rfl, rfl⟩
      | succ m =>
        have := h4 m p lv (by simpa using hp) (by simpa using hv)
        rw [show j + 1 + m = j + (m + 1) by omega] at this
        simpa using this
    cases l with
    | int i => exact plain rfl hl
    | bool => exact plain rfl hl
    | str => exact plain rfl hl
    | sl t0 e =>
      simp only [List.cons_append, backRow] at hl
      split at hl
      · rename_i gen t' e' xs' d' hleaf
        obtain ⟨u, hu, hrd⟩ := (h.roots i).row hleaf
        have hini := h.init.1 _ _ _ _ _ _ _ hleaf
        have hv : LAok s W (.ref ⟨i, j, 1, gen, []⟩) u := by
          intro gen2 t2 e2 xs2 d2 hl2 _
          have hl2 : s.leaf i j = _ := hl2
          exact ⟨u, e2, hu, rfl, rfl⟩
        obtain ⟨y, us1, o, hl, hr, hb⟩ := backLeaf_ok h hv hl
        obtain ⟨vs, us2, os, hl, h1, h2, h3, h4⟩ := backRow_ok h i (j + 1) ls vs0 rest hlen' hl
        refine ⟨⟨.sl t0 e, y⟩ :: vs, us2, o :: os, hl, by simp [h1], by simp [h2], hb.append h3, fun m p lv hp hv => ?_⟩
        cases m with
        | zero => simp at hp hv; subst hp; subst hv; exact .inl ⟨rfl, rfl, u, by rw [Nat.add_zero, ← hini]; exact hu, by simpa using hr⟩
        | succ m =>
          have := h4 m p lv (by simpa using hp) (by simpa using hv)
          rw [show j + 1 + m = j + (m + 1) by omega] at this
          simpa using this
      · obtain ⟨x, us1, o, hl, hr, hb⟩ := backLeaf_ok h (v := Go.undef) (show LAok s W .bad Go.undef from trivial) hl
        cases d with
        | zero =>
          exfalso
          exact absurd hl id
        | succ d => exact absurd hl id

theorem backPs_ok (h : Rep E s tm W) : ∀ (i : Nat) (ps : List PM) (vss0 : List (List Lv)) {us : List (Nat × Nat)} {k : List Lv → Step β}, vss0.length = ps.length → (∀ (j : Nat) (pm : PM) (vs : List Lv), ps[j]? = some pm → vss0[j]? = some vs → vs.length = pm.ins.length) → (backPs s i ps vss0.flatten us k).leads t →
    ∃ (vss : List (List Lv)) (us' : List (Nat × Nat)) (oss : List (List (List Nat))), (k vss.flatten).leads t ∧ vss.length = ps.length ∧ oss.length = ps.length ∧ BL W us us' oss.flatten ∧
      ∀ (j : Nat) (pm : PM) (vs0 vs : List Lv) (os : List (List Nat)), ps[j]? = some pm → vss0[j]? = some vs0 → vss[j]? = some vs → oss[j]? = some os → PBack E s W (i + j) pm vs0 vs os
  | i, [], vss0, us, k, hlen, hvl, hl => ⟨[], us, [], hl, rfl, rfl, .nil _, fun j pm vs0 vs os hj => by simp at hj⟩
  | i, _ :: _, [], us, k, hlen, hvl, hl => by simp at hlen
  | i, pm :: ps, vs0 :: vss0, us, k, hlen, hvl, hl => by
    have hlen' : vss0.length = ps.length := by simpa using hlen
    have hvl' : ∀ (j : Nat) (pm : PM) (vs : List Lv), ps[j]? = some pm → vss0[j]? = some vs → vs.length = pm.ins.length := fun j pm' vs h1 h2 => hvl (j + 1) pm' vs (by simpa using h1) (by simpa using h2)
    have hv0 := hvl 0 pm vs0 rfl rfl
    have fin : ∀ {us1 : List (Nat × Nat)} (vs : List Lv) (os : List (List Nat)), BL W us us1 os → PBack E s W i pm vs0 vs os → (backPs s (i + 1) ps vss0.flatten us1 fun ys => k (vs ++ ys)).leads t →
        ∃ (vss : List (List Lv)) (us' : List (Nat × Nat)) (oss : List (List (List Nat))), (k vss.flatten).leads t ∧ vss.length = (pm :: ps).length ∧ oss.length = (pm :: ps).length ∧ BL W us us' oss.flatten ∧
          ∀ (j : Nat) (pm' : PM) (vs1 vs : List Lv) (os : List (List Nat)), (pm :: ps)[j]? = some pm' → (vs0 :: vss0)[j]? = some vs1 → vss[j]? = some vs → oss[j]? = some os → PBack E s W (i + j) pm' vs1 vs os := by
      intro us1 vs os hb hp hl
      obtain ⟨vss, us2, oss, hl, h1, h2, h3, h4⟩ := backPs_ok h (i + 1) ps vss0 hlen' hvl' hl
      refine ⟨vs :: vss, us2, os :: oss, by simpa using hl, by simp [h1], by simp [h2], by simpa using hb.append h3, fun j pm' vs1 vs' os' hj hv1 hv ho => ?_⟩
      cases j with
      | zero => simp at hj hv1 hv ho; subst hj; subst hv1; subst hv; subst ho; exact hp
      | succ j =>
        have := h4 j pm' vs1 vs' os' (by simpa using hj) (by simpa using hv1) (by simpa using hv) (by simpa using ho)
        rw [show i + 1 + j = i + (j + 1) by omega] at this
        exact this
    cases pm with
    | val g ls =>
      have e : vs0.length = ls.length := hv0
      simp only [List.flatten_cons, backPs] at hl
      rw [← e, List.drop_left] at hl
      exact fin [] [] (.nil _) ⟨rfl, rfl⟩ (by simpa using hl)
    | fn f =>
      have e : vs0 = [] := List.eq_nil_of_length_eq_zero hv0
      subst e
      simp only [List.flatten_cons, List.nil_append, backPs] at hl
      exact fin [] [] (.nil _) ⟨rfl, rfl⟩ (by simpa using hl)
    | box ls =>
      have e : vs0.length = ls.length := by simpa [PM.ins] using hv0
      simp only [List.flatten_cons, backPs] at hl
      rw [show (vs0 ++ vss0.flatten).drop ls.length = vss0.flatten by rw [← e, List.drop_left]] at hl
      split at hl
      · rename_i hc
        simp only [Bool.and_eq_true, beq_iff_eq] at hc
        obtain ⟨⟨hb, hver⟩, hlen⟩ := hc
        have hv : LAok s W (.ptr i 0 1) (.pointer (some ⟨W.bk i, 0, none⟩)) := fun _ _ => rfl
        obtain ⟨as, hl, _, b, off, hp, hget⟩ := loads_ok h hv hl
        injection hp with hp; injection hp with hp; injection hp with hp1 hp2
        subst hp1; subst hp2
        obtain ⟨vs, us1, os, hl, h1, h2, h3, h4, h5⟩ := backLeaves_ok h ls as (fun j => W.w.cell? ⟨W.bk i, 0 + j, none⟩) hget hl
        refine fin vs os h4 ⟨hb, hver, hlen, h1, h2, fun j p lv hj hv => ?_⟩ hl
        obtain ⟨y, hy, hr⟩ := h5 j p lv hj hv
        exact ⟨y, by simpa using hy, hr⟩
      · exact hl.elim
    | row g ls =>
      have e : vs0.length = ls.length := by simpa [PM.ins] using hv0
      simp only [List.flatten_cons, backPs] at hl
      rw [show (vs0 ++ vss0.flatten).drop ls.length = vss0.flatten by rw [← e, List.drop_left]] at hl
      obtain ⟨vs, us1, os, hl, h1, h2, h3, h4⟩ := backRow_ok h i 0 ls vs0 _ e hl
      exact fin vs os h3 ⟨h1, h2, fun j p lv hp hv => by have := h4 j p lv hp hv; rwa [Nat.zero_add] at this⟩ hl

end
end Go.Ev

namespace Go.Ev
set_option linter.unusedVariables false
set_option linter.unusedSimpArgs false

def slotIn (i : Nat) (pm : PM) (vs : List Lv) : AV := match pm with
  | .val g _ => .v g (vs.map fun x => .sc x.l x.x)
  | .box _ => one (.ptr i 0 1)
  | .row g ls => .v g (rowRefs i 0 ls vs)
  | .fn f => one (.fn f)
def rootIn (pm : PM) (vs : List Lv) (r : Root) : Root := match pm with
  | .box ls => ⟨true, 1, newLeaves 1 ls vs⟩
  | .row _ ls => ⟨false, 1, newLeaves 1 ls vs⟩
  | _ => r

theorem rowRefs_len (i : Nat) : ∀ (j : Nat) (ls : List (L × Nat)) (vs : List Lv), vs.length = ls.length → (rowRefs i j ls vs).length = ls.length
  | _, [], [], _ => rfl
  | _, [], _ :: _, h => by simp at h
  | _, _ :: _, [], h => by simp at h
  | j, (l, d) :: ls, x :: vs, h => by simp [rowRefs, rowRefs_len i (j + 1) ls vs (by simpa using h)]
theorem rowRefs_more (i : Nat) : ∀ (j : Nat) (ls : List (L × Nat)) (vs rest : List Lv), vs.length = ls.length → rowRefs i j ls (vs ++ rest) = rowRefs i j ls vs
  | _, [], [], rest, _ => by cases rest <;> simp [rowRefs]
  | _, [], _ :: _, _, h => by simp at h
  | _, _ :: _, [], _, h => by simp at h
  | j, (l, d) :: ls, x :: vs, rest, h => by simp [rowRefs, rowRefs_more i (j + 1) ls vs rest (by simpa using h)]
theorem rowRefs_get (i : Nat) : ∀ (j : Nat) (ls : List (L × Nat)) (vs : List Lv) (m : Nat) (p : L × Nat) (lv : Lv), ls[m]? = some p → vs[m]? = some lv → (rowRefs i j ls vs)[m]? = some (if isSl p.1 then .ref ⟨i, j + m, 1, 1, []⟩ else .sc lv.l lv.x)
  | _, [], _, m, p, lv, h, _ => by simp at h
  | _, _ :: _, [], m, p, lv, _, h => by simp at h
  | j, (l, d) :: ls, x :: vs, 0, p, lv, h1, h2 => by
    simp at h1 h2; subst h1; subst h2
    cases l <;> rfl
  | j, (l, d) :: ls, x :: vs, m + 1, p, lv, h1, h2 => by
    have := rowRefs_get i (j + 1) ls vs m p lv (by simpa using h1) (by simpa using h2)
    rw [show j + 1 + m = j + (m + 1) by omega] at this
    simpa [rowRefs] using this
theorem rowRefs_vers (i : Nat) : ∀ (j : Nat) (ls : List (L × Nat)) (vs : List Lv) (a : LA), a ∈ rowRefs i j ls vs → ∀ n ∈ a.vers, n = 1
  | _, [], _, a, h => by simp [rowRefs] at h
  | _, _ :: _, [], a, h => by simp [rowRefs] at h
  | j, (l, d) :: ls, x :: vs, a, h => by
    rcases List.mem_cons.1 (show a ∈ _ :: rowRefs i (j + 1) ls vs from h) with rfl | h
    · intro n hn
      cases l <;> simp [LA.vers] at hn
      exact hn
    · exact rowRefs_vers i (j + 1) ls vs a h

theorem app1_lens (s : St) (w : Wr) : (s.app1 w).sl.length = s.sl.length ∧ (s.app1 w).ro.length = s.ro.length := by
  cases w <;> simp [St.app1, upd_len]

/-- One parameter's writes. -/
def initW (i : Nat) (pm : PM) (vs : List Lv) : List Wr := match pm with
  | .val _ _ => [.slot i (slotIn i pm vs)]
  | .fn _ => [.slot i (slotIn i pm vs)]
  | _ => [.root i (rootIn pm vs dead), .slot i (slotIn i pm vs)]
theorem initW_ok (i : Nat) (pm : PM) (vs : List Lv) (s : St) (h1 : i < s.sl.length) (h2 : i < s.ro.length) :
    (s.app (initW i pm vs)).sl.length = s.sl.length ∧ (s.app (initW i pm vs)).ro.length = s.ro.length ∧ (∀ t, t ≠ i → (s.app (initW i pm vs)).slot t = s.slot t ∧ (s.app (initW i pm vs)).root t = s.root t) ∧
      (s.app (initW i pm vs)).slot i = slotIn i pm vs ∧ (s.app (initW i pm vs)).root i = rootIn pm vs (s.root i) := by
  have one : ∀ x, (s.app [.slot i x]).sl.length = s.sl.length ∧ (s.app [.slot i x]).ro.length = s.ro.length ∧ (∀ t, t ≠ i → (s.app [.slot i x]).slot t = s.slot t ∧ (s.app [.slot i x]).root t = s.root t) ∧
      (s.app [.slot i x]).slot i = x ∧ (s.app [.slot i x]).root i = s.root i := by
    intro x
    refine ⟨(app1_lens s _).1, (app1_lens s _).2, fun t ht => ⟨?_, rfl⟩, ?_, rfl⟩
    · show (s.app1 (.slot i x)).slot t = _
      rw [slot_app, if_neg (fun hh => ht hh.1.symm)]
    · show (s.app1 (.slot i x)).slot i = _
      rw [slot_app, if_pos ⟨rfl, h1⟩]
  have two : ∀ y x, (s.app [.root i y, .slot i x]).sl.length = s.sl.length ∧ (s.app [.root i y, .slot i x]).ro.length = s.ro.length ∧ (∀ t, t ≠ i → (s.app [.root i y, .slot i x]).slot t = s.slot t ∧ (s.app [.root i y, .slot i x]).root t = s.root t) ∧
      (s.app [.root i y, .slot i x]).slot i = x ∧ (s.app [.root i y, .slot i x]).root i = y := by
    intro y x
    have hsl : (s.app1 (.root i y)).sl = s.sl := rfl
    refine ⟨(app1_lens (s.app1 (.root i y)) (.slot i x)).1.trans (app1_lens s _).1, (app1_lens (s.app1 (.root i y)) (.slot i x)).2.trans (app1_lens s _).2, fun t ht => ⟨?_, ?_⟩, ?_, ?_⟩
    · show ((s.app1 (.root i y)).app1 (.slot i x)).slot t = _
      rw [slot_app, if_neg (fun hh => ht hh.1.symm)]; rfl
    · show (s.app1 (.root i y)).root t = _
      rw [root_app, if_neg (fun hh => ht hh.1.symm)]
    · show ((s.app1 (.root i y)).app1 (.slot i x)).slot i = _
      rw [slot_app, if_pos ⟨rfl, h1⟩]
    · show (s.app1 (.root i y)).root i = _
      rw [root_app, if_pos ⟨rfl, h2⟩]
  cases pm with
  | val g ls => exact one _
  | fn f => exact one _
  | box ls => exact two _ _
  | row g ls => exact two _ _

theorem initP_ok : ∀ (ps : List PM) (vss : List (List Lv)) (i : Nat) {ws : List Wr} (s : St), vss.length = ps.length → (∀ (j : Nat) (pm : PM) (vs : List Lv), ps[j]? = some pm → vss[j]? = some vs → vs.length = pm.ins.length) →
    initP i ps vss.flatten = some ws → i + ps.length ≤ s.sl.length → i + ps.length ≤ s.ro.length →
    (s.app ws).sl.length = s.sl.length ∧ (s.app ws).ro.length = s.ro.length ∧ (∀ t, (t < i ∨ i + ps.length ≤ t) → (s.app ws).slot t = s.slot t ∧ (s.app ws).root t = s.root t) ∧
      ∀ (j : Nat) (pm : PM) (vs : List Lv), ps[j]? = some pm → vss[j]? = some vs → (s.app ws).slot (i + j) = slotIn (i + j) pm vs ∧ (s.app ws).root (i + j) = rootIn pm vs (s.root (i + j))
  | [], [], i, ws, s, hlen, hv, h, h1, h2 => by
    have : ws = [] := by simpa [initP] using h.symm
    subst this
    exact ⟨rfl, rfl, fun t ht => ⟨rfl, rfl⟩, fun j pm vs hj => by simp at hj⟩
  | [], _ :: _, i, ws, s, hlen, hv, h, h1, h2 => by simp at hlen
  | _ :: _, [], i, ws, s, hlen, hv, h, h1, h2 => by simp at hlen
  | pm :: ps, vs :: vss, i, ws, s, hlen, hv, h, h1, h2 => by
    have hl0 : vs.length = pm.ins.length := hv 0 pm vs rfl rfl
    have hex : ∃ ws', initP (i + 1) ps vss.flatten = some ws' ∧ ws = initW i pm vs ++ ws' := by
      cases pm with
      | val g ls =>
        simp only [List.flatten_cons, initP] at h
        have hl1 : vs.length = ls.length := hl0
        rw [← hl1, List.drop_left, List.take_left] at h
        split at h
        · rename_i ws' hq
          injection h with h
          exact ⟨ws', hq, h.symm⟩
        · cases h
      | fn f =>
        have hl1 : vs = [] := List.eq_nil_of_length_eq_zero hl0
        subst hl1
        simp only [List.flatten_cons, initP, List.nil_append] at h
        split at h
        · rename_i ws' hq
          injection h with h
          exact ⟨ws', hq, h.symm⟩
        · cases h
      | box ls =>
        simp only [List.flatten_cons, initP] at h
        have hl1 : vs.length = ls.length := by simpa [PM.ins] using hl0
        have hd : (vs ++ vss.flatten).drop ls.length = vss.flatten := by rw [← hl1, List.drop_left]
        rw [hd, newLeaves_more 1 ls vs _ hl1] at h
        split at h
        · rename_i ws' hq
          injection h with h
          exact ⟨ws', hq, h.symm⟩
        · cases h
      | row g ls =>
        simp only [List.flatten_cons, initP] at h
        have hl1 : vs.length = ls.length := by simpa [PM.ins] using hl0
        have hd : (vs ++ vss.flatten).drop ls.length = vss.flatten := by rw [← hl1, List.drop_left]
        rw [hd, newLeaves_more 1 ls vs _ hl1, rowRefs_more i 0 ls vs _ hl1] at h
        split at h
        · rename_i ws' hq
          injection h with h
          exact ⟨ws', hq, h.symm⟩
        · cases h
    obtain ⟨ws', hq, rfl⟩ := hex
    simp only [List.length_cons] at h1 h2
    obtain ⟨a1, a2, a3, a4, a5⟩ := initW_ok i pm vs s (by omega) (by omega)
    obtain ⟨b1, b2, b3, b4⟩ := initP_ok ps vss (i + 1) (s.app (initW i pm vs)) (by simpa using hlen) (fun j pm' vs' hj hv' => hv (j + 1) pm' vs' (by simpa using hj) (by simpa using hv')) hq (by rw [a1]; omega) (by rw [a2]; omega)
    rw [app_append]
    refine ⟨b1.trans a1, b2.trans a2, fun t ht => ?_, fun j pm' vs' hj hv' => ?_⟩
    · simp only [List.length_cons] at ht
      obtain ⟨c1, c2⟩ := b3 t (by omega)
      obtain ⟨d1, d2⟩ := a3 t (by omega)
      exact ⟨c1.trans d1, c2.trans d2⟩
    · cases j with
      | zero =>
        simp at hj hv'; subst hj; subst hv'
        obtain ⟨c1, c2⟩ := b3 i (by omega)
        exact ⟨c1.trans a4, c2.trans a5⟩
      | succ j =>
        obtain ⟨c1, c2⟩ := b4 j pm' vs' (by simpa using hj) (by simpa using hv')
        rw [show i + 1 + j = i + (j + 1) by omega] at c1 c2
        rw [(a3 (i + (j + 1)) (by omega)).2] at c2
        exact ⟨c1, c2⟩

section
variable {P : Program} {w : World} {fz : Nat → Prop} {ps : List PM} {args : List Value} {vss : List (List Lv)} {bk : Nat → Nat} {om : Key → List Nat} {N : Nat} {ws : List Wr}

open Classical in
/-- The cells of what is written in place. -/
noncomputable def cvIn (ps : List PM) (w : World) (args : List Value) (bk : Nat → Nat) (r j : Nat) : Option Value := match ps[r]? with
  | some (.box _) => w.cell? ⟨bk r, j, none⟩
  | some (.row g _) => (args[r]?).bind fun u => partG g u j
  | _ => none
noncomputable def entIn (T : List (String × Array Value)) (ps : List PM) (w : World) (fz : Nat → Prop) (args : List Value) (bk : Nat → Nat) (om : Key → List Nat) : Ent :=
  { base := w.heap.size, io := fun b => ∃ k, b ∈ om k, fa := fz, w0 := w, cv0 := cvIn ps w args bk, bk0 := bk, tabs := T }
noncomputable def wdIn (ps : List PM) (w : World) (fz : Nat → Prop) (args : List Value) (bk : Nat → Nat) (om : Key → List Nat) : Wd :=
  { w := w, fz := fz, cv := cvIn ps w args bk, bk := bk, om := om }

theorem PArg.kinds {pm : PM} {u : Value} {vs : List Lv} {b : Nat} {own : Nat → List Nat} (h : PArg w fz pm u vs b own) : vs.length = pm.ins.length := by
  cases pm with
  | val g ls => have := congrArg List.length h.1; simpa [PM.ins] using this
  | box ls => have := congrArg List.length h.2.1; simpa [PM.ins] using this
  | row g ls => have := congrArg List.length h.1; simpa [PM.ins] using this
  | fn f => rw [h.2]; rfl

theorem blank_slot (n t : Nat) : (blank n).slot t = one .bad := by
  show nth _ (List.replicate n (one .bad)) t = _
  rw [nth_of, List.getElem?_replicate]
  split <;> rfl
theorem blank_root (n t : Nat) : (blank n).root t = dead := by
  show nth _ (List.replicate n dead) t = _
  rw [nth_of, List.getElem?_replicate]
  split <;> rfl

theorem init_inv (hin : ArgsIn ps w fz args vss bk om) (hp : initP 0 ps vss.flatten = some ws) (hN : ps.length ≤ N) : Inv N ((blank N).app ws) := by
  obtain ⟨b1, b2, b3, b4⟩ := initP_ok ps vss 0 (blank N) hin.len2 (fun j pm vs hj hv => by
    obtain ⟨u, hu⟩ : ∃ u, args[j]? = some u := ⟨_, List.getElem?_eq_getElem (by rw [hin.len]; exact (List.getElem?_eq_some_iff.1 hj).1)⟩
    exact (hin.each j pm u vs hj hu hv).kinds) hp (by simp [blank]; exact hN) (by simp [blank]; exact hN)
  simp only [Nat.zero_add] at b3 b4
  have hctr : ((blank N).app ws).ctr = 2 := app_ctr ws _
  have get : ∀ t, (∃ pm vs, ps[t]? = some pm ∧ vss[t]? = some vs ∧ ((blank N).app ws).slot t = slotIn t pm vs ∧ ((blank N).app ws).root t = rootIn pm vs dead) ∨ (((blank N).app ws).slot t = one .bad ∧ ((blank N).app ws).root t = dead) := by
    intro t
    rcases Nat.lt_or_ge t ps.length with hlt | hge
    · left
      have h1 := List.getElem?_eq_getElem hlt
      have h2 := List.getElem?_eq_getElem (show t < vss.length by rw [hin.len2]; exact hlt)
      obtain ⟨c1, c2⟩ := b4 t _ _ h1 h2
      rw [blank_root] at c2
      exact ⟨_, _, h1, h2, c1, c2⟩
    · right
      obtain ⟨c1, c2⟩ := b3 t (.inr hge)
      rw [blank_slot] at c1
      rw [blank_root] at c2
      exact ⟨c1, c2⟩
  have nl : ∀ (ls : List (L × Nat)) (vs : List Lv), ∀ a ∈ newLeaves 1 ls vs, (∀ n ∈ a.vers, n = 1) ∧ a.inRoot = true := by
    intro ls
    induction ls with
    | nil => intro vs a ha; simp [newLeaves] at ha
    | cons p ls ih =>
      intro vs a ha
      cases vs with
      | nil => simp [newLeaves] at ha
      | cons x vs =>
        rcases List.mem_cons.1 (show a ∈ newLeaf 1 p.2 x :: newLeaves 1 ls vs from ha) with rfl | ha
        · exact newLeaf_ok2 1 _ _
        · exact ih vs a ha
  have rt : ∀ (pm : PM) (vs : List Lv), ((rootIn pm vs dead).ver < 2) ∧ ∀ a ∈ (rootIn pm vs dead).ls, (∀ n ∈ a.vers, n = 1) ∧ a.inRoot = true := by
    intro pm vs
    cases pm with
    | val g ls => exact ⟨by simp [rootIn, dead], fun a ha => by simp [rootIn, dead] at ha⟩
    | fn f => exact ⟨by simp [rootIn, dead], fun a ha => by simp [rootIn, dead] at ha⟩
    | box ls => exact ⟨by simp [rootIn], fun a ha => nl ls vs a ha⟩
    | row g ls => exact ⟨by simp [rootIn], fun a ha => nl ls vs a ha⟩
  refine ⟨⟨fun t n hn => ?_, fun r n hn => ?_⟩, by rw [hctr]; exact Nat.le_refl _, by rw [b1]; simp [blank], by rw [b2]; simp [blank], fun r a ha => ?_⟩
  · rw [hctr]
    rcases get t with ⟨pm, vs, _, _, h1, _⟩ | ⟨h1, _⟩
    · rw [h1] at hn
      cases pm with
      | val g ls =>
        exfalso
        simp only [slotIn, AV.vers, List.mem_flatMap, List.mem_map] at hn
        obtain ⟨a, ⟨x, _, rfl⟩, hn⟩ := hn
        cases hn
      | fn f => simp [slotIn, one, AV.vers, LA.vers] at hn
      | box ls => simp [slotIn, one, AV.vers, LA.vers] at hn; omega
      | row g ls =>
        obtain ⟨a, ha, hn⟩ := List.mem_flatMap.1 (show n ∈ (rowRefs t 0 ls vs).flatMap LA.vers from hn)
        have := rowRefs_vers t 0 ls vs a ha n hn
        omega
    · rw [h1] at hn; simp [one, AV.vers, LA.vers] at hn
  · rw [hctr]
    rcases get r with ⟨pm, vs, _, _, _, h1⟩ | ⟨_, h1⟩
    · rw [h1] at hn
      rcases List.mem_cons.1 (show n ∈ (rootIn pm vs dead).ver :: (rootIn pm vs dead).ls.flatMap LA.vers from hn) with rfl | hn
      · exact (rt pm vs).1
      · obtain ⟨a, ha, hn⟩ := List.mem_flatMap.1 hn
        have := ((rt pm vs).2 a ha).1 n hn
        omega
    · rw [h1] at hn; simp [dead, Root.vers] at hn; omega
  · rcases get r with ⟨pm, vs, _, _, _, h1⟩ | ⟨_, h1⟩
    · rw [h1] at ha; exact ((rt pm vs).2 a ha).2
    · rw [h1] at ha; simp [dead] at ha

theorem init_rep {T : List (String × Array Value)} (hin : ArgsIn ps w fz args vss bk om) (hp : initP 0 ps vss.flatten = some ws) (hN : ps.length ≤ N) :
    Rep (entIn T ps w fz args bk om) ((blank N).app ws) (args.toArray ++ Array.replicate (N - args.toArray.size) undef) (wdIn ps w fz args bk om) := by
  obtain ⟨b1, b2, b3, b4⟩ := initP_ok ps vss 0 (blank N) hin.len2 (fun j pm vs hj hv => by
    obtain ⟨u, hu⟩ : ∃ u, args[j]? = some u := ⟨_, List.getElem?_eq_getElem (by rw [hin.len]; exact (List.getElem?_eq_some_iff.1 hj).1)⟩
    exact (hin.each j pm u vs hj hu hv).kinds) hp (by simp [blank]; exact hN) (by simp [blank]; exact hN)
  simp only [Nat.zero_add] at b3 b4
  have hsz : (args.toArray ++ Array.replicate (N - args.toArray.size) undef).size = N := by
    have := hin.len
    simp
    omega
  have get : ∀ t, (∃ pm u vs, ps[t]? = some pm ∧ args[t]? = some u ∧ vss[t]? = some vs ∧ ((blank N).app ws).slot t = slotIn t pm vs ∧ ((blank N).app ws).root t = rootIn pm vs dead ∧ (args.toArray ++ Array.replicate (N - args.toArray.size) undef).getD t Go.undef = u) ∨
      (ps[t]? = none ∧ ((blank N).app ws).slot t = one .bad ∧ ((blank N).app ws).root t = dead) := by
    intro t
    rcases Nat.lt_or_ge t ps.length with hlt | hge
    · left
      have h1 := List.getElem?_eq_getElem hlt
      have hlt2 : t < args.length := by rw [hin.len]; exact hlt
      have h0 := List.getElem?_eq_getElem hlt2
      have h2 := List.getElem?_eq_getElem (show t < vss.length by rw [hin.len2]; exact hlt)
      obtain ⟨c1, c2⟩ := b4 t _ _ h1 h2
      rw [blank_root] at c2
      refine ⟨_, _, _, h1, h0, h2, c1, c2, ?_⟩
      rw [Array.getD_eq_getD_getElem?, Array.getElem?_append_left (by simpa using hlt2)]
      simp [hlt2]
    · right
      obtain ⟨c1, c2⟩ := b3 t (.inr hge)
      rw [blank_slot] at c1
      rw [blank_root] at c2
      exact ⟨List.getElem?_eq_none hge, c1, c2⟩
  refine ⟨by rw [b1, hsz]; simp [blank], by rw [b2, hsz]; simp [blank], fun t => ?_, fun r => ?_, ?_, ⟨fun _ _ _ _ _ _ _ _ => rfl, fun _ _ _ => rfl⟩⟩
  · rcases get t with ⟨pm, u, vs, h1, h2, h3, h4, h5, h6⟩ | ⟨_, h4, _⟩
    · rw [h4, h6]
      have ha := hin.each t pm u vs h1 h2 h3
      cases pm with
      | val g ls =>
        obtain ⟨a1, a2, a3⟩ := ha
        have hlen : vs.length = ls.length := by have := congrArg List.length a1; simpa using this
        have hrd : ∀ (j : Nat) (lv : Lv), vs[j]? = some lv → ∃ y, partG g u j = some y ∧ lv.l.rd 0 w fz y lv.x [] := by
          intro j lv hj
          have hlt : j < ls.length := by rw [← hlen]; exact (List.getElem?_eq_some_iff.1 hj).1
          exact a3 j (ls[j], 0) lv (by simp [hlt]) hj
        cases g with
        | false =>
          have hl1 : vs.length = 1 := by rw [hlen]; simpa using a2
          obtain ⟨lv, rfl⟩ : ∃ lv, vs = [lv] := by
            match vs, hl1 with
            | [x], _ => exact ⟨x, rfl⟩
          obtain ⟨y, hy, hr⟩ := hrd 0 lv rfl
          simp [partG] at hy
          subst hy
          exact hr
        | true =>
          obtain ⟨cs, rfl, hcs⟩ := a2
          refine ⟨cs, rfl, by rw [hcs]; simp [hlen], fun j a hj => ?_⟩
          simp only [List.getElem?_map] at hj
          cases hq : vs[j]? with
          | none => rw [hq] at hj; cases hj
          | some lv =>
            rw [hq] at hj; injection hj with hj; subst hj
            obtain ⟨y, hy, hr⟩ := hrd j lv hq
            exact ⟨y, hy, hr⟩
      | box ls => exact fun _ _ => ha.1
      | row g ls =>
        obtain ⟨a1, a2, a3⟩ := ha
        have hlen : vs.length = ls.length := by have := congrArg List.length a1; simpa using this
        have hleaf : ∀ (j : Nat) (p : L × Nat) (lv : Lv), ls[j]? = some p → vs[j]? = some lv → ((blank N).app ws).leaf t j = newLeaf 1 p.2 lv := by
          intro j p lv p1 p2
          show nth LA.bad (((blank N).app ws).root t).ls j = _
          rw [h5]
          show nth LA.bad (newLeaves 1 ls vs) j = _
          rw [nth_of, newLeaves_get 1 ls vs j _ _ p1 p2]
          rfl
        have hok : ∀ (j : Nat) (a : LA), (rowRefs t 0 ls vs)[j]? = some a → ∃ y, partG g u j = some y ∧ LAok ((blank N).app ws) (wdIn ps w fz args bk om) a y := by
          intro j a hj
          have hlt : j < ls.length := by rw [← rowRefs_len t 0 ls vs hlen]; exact (List.getElem?_eq_some_iff.1 hj).1
          have p1 := List.getElem?_eq_getElem hlt
          have p2 := List.getElem?_eq_getElem (show j < vs.length by omega)
          obtain ⟨y, hy, hr⟩ := a3 j _ _ p1 p2
          refine ⟨y, hy, ?_⟩
          rw [rowRefs_get t 0 ls vs j _ _ p1 p2] at hj
          injection hj with hj
          subst hj
          have hl1 : vs[j].l = ls[j].1 := by
            have := congrArg (fun x => x[j]?) a1
            simpa [p1, p2] using this
          split
          · intro gen t2 e2 xs2 d2 hl _
            have hl : ((blank N).app ws).leaf t (0 + j) = _ := hl
            rw [Nat.zero_add, hleaf j _ _ p1 p2] at hl
            refine ⟨y, e2, ?_, rfl, rfl⟩
            show cvIn ps w args bk t (0 + j) = some y
            simp [cvIn, h1, h2, hy]
          · rename_i hs
            have := (L.flat_rd (d' := 0) (w' := w) (fz' := fz) vs[j].l (by rw [hl1]; simpa using hs) hr)
            have h7 := this.1
            rw [show (fun j => om (Key.lf t j)) j = [] from this.2] at h7
            exact h7
        cases g with
        | false =>
          obtain ⟨a, ha2⟩ : ∃ a, rowRefs t 0 ls vs = [a] := by
            have := (rowRefs_len t 0 ls vs hlen).trans a2
            match h : rowRefs t 0 ls vs, this with
            | [x], _ => exact ⟨x, rfl⟩
          show Vok _ _ false (rowRefs t 0 ls vs) u
          obtain ⟨y, hy, hr⟩ := hok 0 a (by rw [ha2]; rfl)
          simp [partG] at hy
          subst hy
          rw [ha2]
          exact hr
        | true =>
          obtain ⟨cs, rfl, hcs⟩ := a2
          exact ⟨cs, rfl, by rw [hcs, rowRefs_len t 0 ls vs hlen], fun j a hj => hok j a hj⟩
      | fn f => exact ha.1
    · rw [h4]; trivial
  · have hnone : (∀ ls, ps[r]? ≠ some (.box ls)) → (∀ g ls, ps[r]? ≠ some (.row g ls)) → RootOk ((blank N).app ws) (wdIn ps w fz args bk om) r dead := by
      intro q1 q2
      refine ⟨fun j => ?_, ?_⟩
      · have : nth LA.bad dead.ls j = .bad := by simp [dead, nth]
        rw [this]
        exact ⟨hin.none r q1 q2 j, fun _ _ => trivial⟩
      · show om (.blk r) = []
        rw [hin.blk]
        split
        · rename_i ls hq; exact absurd hq (q1 ls)
        · rfl
    rcases get r with ⟨pm, u, vs, h1, h2, h3, h4, h5, h6⟩ | ⟨h1, _, h5⟩
    · rw [h5]
      have ha := hin.each r pm u vs h1 h2 h3
      cases pm with
      | val g ls => exact hnone (fun ls' hq => by rw [h1] at hq; cases hq) (fun g ls hq => by rw [h1] at hq; cases hq)
      | fn f => exact hnone (fun ls' hq => by rw [h1] at hq; cases hq) (fun g ls hq => by rw [h1] at hq; cases hq)
      | box ls =>
        obtain ⟨a1, a2, arr, T, fr, a3, a4, a5, a6⟩ := ha
        have hlen : vs.length = ls.length := by have := congrArg List.length a2; simpa using this
        have hcv : ∀ j, cvIn ps w args bk r j = arr[j]? := by
          intro j
          simp [cvIn, h1, World.cell?, a3]
        refine ⟨fun j => ?_, ?_⟩
        · show LeafOk _ _ (nth .bad (newLeaves 1 ls vs) j) (cvIn ps w args bk r j) (om (.lf r j))
          rcases Nat.lt_or_ge j ls.length with hlt | hge
          · have p1 := List.getElem?_eq_getElem hlt
            have p2 := List.getElem?_eq_getElem (show j < vs.length by omega)
            obtain ⟨y, hy, hr⟩ := a6 j _ _ p1 p2
            rw [nth_of, newLeaves_get 1 ls vs j _ _ p1 p2, hcv, hy]
            exact newLeaf_ok (W' := wdIn ps w fz args bk om) hr
          · rw [nth_ge _ (by rw [newLeaves_len 1 ls vs hlen]; exact hge)]
            exact ⟨hin.box r ls h1 j hge, fun _ _ => trivial⟩
        · show (if true = true then _ else _)
          rw [if_pos rfl]
          refine ⟨?_, arr, T, fr, a3, a4, ?_, fun j => hcv j⟩
          · show om (.blk r) = [bk r]
            rw [hin.blk, h1]
          · show arr.size = (newLeaves 1 ls vs).length
            rw [newLeaves_len 1 ls vs hlen, a5]
      | row g ls =>
        obtain ⟨a1, a2, a3⟩ := ha
        have hlen : vs.length = ls.length := by have := congrArg List.length a1; simpa using this
        refine ⟨fun j => ?_, ?_⟩
        · show LeafOk _ _ (nth .bad (newLeaves 1 ls vs) j) (cvIn ps w args bk r j) (om (.lf r j))
          rcases Nat.lt_or_ge j ls.length with hlt | hge
          · have p1 := List.getElem?_eq_getElem hlt
            have p2 := List.getElem?_eq_getElem (show j < vs.length by omega)
            obtain ⟨y, hy, hr⟩ := a3 j _ _ p1 p2
            rw [nth_of, newLeaves_get 1 ls vs j _ _ p1 p2, show cvIn ps w args bk r j = some y by simp [cvIn, h1, h2, hy]]
            exact newLeaf_ok (W' := wdIn ps w fz args bk om) hr
          · rw [nth_ge _ (by rw [newLeaves_len 1 ls vs hlen]; exact hge)]
            exact ⟨hin.row r g ls h1 j hge, fun _ _ => trivial⟩
        · show om (.blk r) = []
          rw [hin.blk, h1]
    · rw [h5]
      exact hnone (fun ls' hq => by rw [h1] at hq; cases hq) (fun g ls hq => by rw [h1] at hq; cases hq)
  · exact {
      nodup := hin.nodup
      disj := hin.disj
      own := fun k b hb => ⟨(hin.own k b hb).1, (hin.own k b hb).2, .inr ⟨k, hb⟩⟩
      fz := fun b hb => ⟨hin.fz b hb, .inl hb⟩
      frame := fun _ _ _ => rfl
      size := Nat.le_refl _
      rest := ⟨rfl, rfl, rfl⟩ }

end
end Go.Ev

namespace Go.Ev
set_option linter.unusedVariables false
set_option linter.unusedSimpArgs false

theorem results_run {P : Program} {fn : Func} {tm : Array Value} {w : World} {vals : List Value} (h : RvOk P w tm fn.results.toList vals) : (results fn tm).run P w = .ok (resVal vals) w := by
  have key : ∀ (g : ResultVar → Sem Value), (∀ t, g (.tmp t) = pure (tm.getD t undef)) → (∀ t T, g (.cell t T) = (do loadVar T (← asAddr (tm.getD t undef)))) → ∀ (l : List ResultVar) (vals : List Value), RvOk P w tm l vals → (l.mapM g).run P w = .ok vals w := by
    intro g hg hg2 l
    induction l with
    | nil =>
      intro vals hl
      cases vals with
      | nil => rfl
      | cons v vs => exact hl.elim
    | cons v l ih =>
      intro vals hl
      cases vals with
      | nil => cases v <;> exact hl.elim
      | cons u us =>
        rw [List.mapM_cons, Sem.run_bind]
        cases v with
        | tmp t =>
          obtain ⟨rfl, hl⟩ := hl
          rw [hg]
          simp [Sem.run_bind, ih us hl]
        | cell a t =>
          obtain ⟨h1, hl⟩ := hl
          rw [hg2, h1]
          simp [Sem.run_bind, ih us hl]
  unfold results
  rw [Array.mapM_eq_mapM_toList]
  simp only [map_eq_pure_bind, bind_assoc, pure_bind]
  rw [Sem.run_bind, key _ ?h1 ?h2 _ vals h]
  case h1 => intro t; rfl
  case h2 => intro t T; rfl
  show Result.ok _ w = _
  congr 1
  match vals with
  | [] => rfl
  | [u] => rfl
  | u :: v :: l => simp [resVal]

section
variable {P : Program} {ty : TypeId → Option Ty} {env : FuncId → Option SmF} {an : An} {n : Nat} {sm : Sm} {fn : Func} {f : FuncId} {c : Code}

theorem out_ok0 {T : List (String × Array Value)} {w : World} {fz : Nat → Prop} {args : List Value} {vss : List (List Lv)} {bk : Nat → Nat} {om : Key → List Nat} {s : St} {W : Wd} {tm : Array Value} {z : sm.outs.D}
    (hin : ArgsIn sm.ps w fz args vss bk om) (h : Rep (entIn T sm.ps w fz args bk om) s tm W) (hty : ∀ t x, ty t = some x → TyF P t x) (hz : retPack0 ty sm fn.results.toList vss.flatten s = some z) :
    ∃ r om' rv vsR vsP, (results fn tm).run P W.w = .ok r W.w ∧ CallOut sm w fz args bk om z r W.w W.fz om' rv vsR vsP := by
  unfold retPack0 at hz
  obtain ⟨tt, hl, hpk⟩ := Step.run_leads _ hz
  obtain ⟨vals, vsR, us1, osR, hl, hb1, hrv, hro⟩ := backRes_ok hty h sm.rs fn.results.toList hl
  obtain ⟨vsP, us2, osP, hl, hlp, hlo, hb2, hps⟩ := backPs_ok h 0 sm.ps vss hin.len2 (fun j pm vs hj hv => by
    obtain ⟨u, hu⟩ : ∃ u, args[j]? = some u := ⟨_, List.getElem?_eq_getElem (by rw [hin.len]; exact (List.getElem?_eq_some_iff.1 hj).1)⟩
    exact (hin.each j pm u vs hj hu hv).kinds) hl
  have hl : vsR.flatten ++ vsP.flatten = tt := hl
  subst hl
  have hbl := hb1.append hb2
  have hpair := hbl.pair h.sep.disj
  have hnd := hbl.nodup
  have hmem := hbl.mem
  rw [List.pairwise_append] at hpair
  obtain ⟨hp1, hp2, hp12⟩ := hpair
  rw [List.pairwise_flatten] at hp2
  obtain ⟨hp2, hp3⟩ := hp2
  let om' : Key → List Nat
    | .fl k => (osR[k]?).getD []
    | .lf i j => (((osP[i]?).getD [])[j]?).getD []
    | .blk i => om (.blk i)
  have inR : ∀ k, ∀ b ∈ om' (.fl k), ∃ o, osR[k]? = some o ∧ b ∈ o := by
    intro k b hb
    have hb : b ∈ (osR[k]?).getD [] := hb
    cases hq : osR[k]? with
    | none => rw [hq] at hb; cases hb
    | some o => rw [hq] at hb; exact ⟨o, rfl, hb⟩
  have inP : ∀ i j, ∀ b ∈ om' (.lf i j), ∃ os o, osP[i]? = some os ∧ os[j]? = some o ∧ b ∈ o := by
    intro i j b hb
    have hb : b ∈ (((osP[i]?).getD [])[j]?).getD [] := hb
    cases hq : osP[i]? with
    | none => rw [hq] at hb; cases hb
    | some os =>
      rw [hq] at hb
      simp only [Option.getD_some] at hb
      cases hq2 : os[j]? with
      | none => rw [hq2] at hb; cases hb
      | some o => rw [hq2] at hb; exact ⟨os, o, rfl, hq2, hb⟩
  have memP : ∀ {i j : Nat} {os : List (List Nat)} {o : List Nat}, osP[i]? = some os → os[j]? = some o → o ∈ osP.flatten := fun h1 h2 => List.mem_flatten.2 ⟨_, List.mem_of_getElem? h1, List.mem_of_getElem? h2⟩
  have blkW : ∀ i, ∀ b ∈ om (.blk i), W.om (.blk i) = om (.blk i) := by
    intro i b hb
    have hk := hin.blk i
    cases hq : sm.ps[i]? with
    | none => rw [hq] at hk; rw [hk] at hb; cases hb
    | some pm =>
      rw [hq] at hk
      cases pm with
      | box ls =>
        have hlt : i < sm.ps.length := (List.getElem?_eq_some_iff.1 hq).1
        have hpb := hps i (.box ls) _ _ _ hq (List.getElem?_eq_getElem (by rw [hin.len2]; exact hlt)) (List.getElem?_eq_getElem (by omega)) (List.getElem?_eq_getElem (by omega))
        rw [Nat.zero_add] at hpb
        obtain ⟨b1, b2, _⟩ := hpb
        have h2 := (h.roots i).2
        rw [if_pos b1] at h2
        rw [h2.1, h.init.2 i b1 b2, hk]
        rfl
      | val g ls => have hk : om (.blk i) = [] := hk; rw [hk] at hb; cases hb
      | row g ls => have hk : om (.blk i) = [] := hk; rw [hk] at hb; cases hb
      | fn f => have hk : om (.blk i) = [] := hk; rw [hk] at hb; cases hb
  have from' : ∀ k, ∀ b ∈ om' k, ∃ k0, b ∈ W.om k0 ∧ ((∃ i, k0 = .blk i ∧ k = .blk i) ∨ ∃ r j, k0 = .lf r j) := by
    intro k b hb
    cases k with
    | fl k =>
      obtain ⟨o, ho, hb⟩ := inR k b hb
      obtain ⟨u, _, hu⟩ := hmem o (List.mem_append_left _ (List.mem_of_getElem? ho)) b hb
      exact ⟨_, hu, .inr ⟨_, _, rfl⟩⟩
    | lf i j =>
      obtain ⟨os, o, h1, h2, hb⟩ := inP i j b hb
      obtain ⟨u, _, hu⟩ := hmem o (List.mem_append_right _ (memP h1 h2)) b hb
      exact ⟨_, hu, .inr ⟨_, _, rfl⟩⟩
    | blk i =>
      have hb : b ∈ om (.blk i) := hb
      exact ⟨.blk i, by rw [blkW i b hb]; exact hb, .inl ⟨i, rfl, rfl⟩⟩
  have hrx := results_run hrv
  refine ⟨_, om', vals, vsR, vsP, hrx, ?_⟩
  refine {
    outs := unpack_pack _ _ _ hpk
    res := rfl
    resOk := hro 0 _ fun j hj => by rw [Nat.zero_add]
    len := hlp
    each := ?_
    blk := fun _ => rfl
    nodup := ?_
    disj := ?_
    own := ?_
    fz := fun b hb => h.sep.fz b hb |>.imp id fun hh => hh.imp id id
    frame := fun b hb hk => h.sep.frame b hb fun ⟨k, hh⟩ => hk k hh
    size := h.sep.size
    rest := h.sep.rest }
  · intro i pm u vs h1 h2 h3
    have hlt : i < osP.length := by rw [hlo]; exact (List.getElem?_eq_some_iff.1 h1).1
    have hos := List.getElem?_eq_getElem hlt
    obtain ⟨vs0, hv0⟩ : ∃ vs0, vss[i]? = some vs0 := ⟨_, List.getElem?_eq_getElem (by rw [hin.len2]; exact (List.getElem?_eq_some_iff.1 h1).1)⟩
    have hpb := hps i pm vs0 vs _ h1 hv0 h3 hos
    rw [Nat.zero_add] at hpb
    have ha := hin.each i pm u vs0 h1 h2 hv0
    have hom : ∀ j, om' (.lf i j) = (osP[i][j]?).getD [] := by
      intro j
      show (((osP[i]?).getD [])[j]?).getD [] = _
      rw [hos]; rfl
    cases pm with
    | val g ls => exact hpb.1
    | fn f => exact hpb.1
    | box ls =>
      obtain ⟨b1, b2, b3, b4, b5, b6⟩ := hpb
      have h2' := (h.roots i).2
      rw [if_pos b1] at h2'
      obtain ⟨q1, arr, T, fr, q2, q3, q4, q5⟩ := h2'
      have hbk : W.bk i = bk i := h.init.2 i b1 b2
      rw [hbk] at q2
      refine ⟨ha.1, b4, arr, T, fr, q2, q3, by rw [q4, b3], fun j p lv hj hv => ?_⟩
      obtain ⟨y, hy, hr⟩ := b6 j p lv hj hv
      refine ⟨y, ?_, ?_⟩
      · rw [hbk] at hy
        simpa [World.cell?, q2] using hy
      · show lv.l.rd p.2 W.w W.fz y lv.x (om' (.lf i j))
        rw [hom]; exact hr
    | row g ls =>
      obtain ⟨a1, a2, a3⟩ := ha
      obtain ⟨b1, b2, b3⟩ := hpb
      have hlen0 : vs0.length = ls.length := by have := congrArg List.length a1; simpa using this
      have hkey : ∀ (j : Nat) (p : L × Nat) (lv : Lv), ls[j]? = some p → vs[j]? = some lv → lv.l = p.1 ∧ ∃ y, partG g u j = some y ∧ lv.l.rd p.2 W.w W.fz y lv.x (om' (.lf i j)) := by
        intro j p lv hj hv
        rw [hom]
        rcases b3 j p lv hj hv with ⟨_, c2, y, hy, hr⟩ | ⟨c1, c2, c3⟩
        · refine ⟨c2, y, ?_, hr⟩
          have hy : cvIn sm.ps w args bk i j = some y := hy
          simpa [cvIn, h1, h2] using hy
        · obtain ⟨y, hy, hr⟩ := a3 j p lv hj c2
          have hl : lv.l = p.1 := by
            have := congrArg (fun x => x[j]?) a1
            simpa [hj, c2] using this
          have hfl := L.flat_rd (d' := p.2) (w' := W.w) (fz' := W.fz) lv.l (by rw [hl]; exact c1) hr
          have h7 := hfl.1
          rw [show (fun j => om (Key.lf i j)) j = [] from hfl.2] at h7
          refine ⟨hl, y, hy, ?_⟩
          rw [c3]
          exact h7
      refine ⟨?_, a2, fun j p lv hj hv => (hkey j p lv hj hv).2⟩
      apply List.ext_getElem?
      intro j
      rcases Nat.lt_or_ge j ls.length with hlt | hge
      · have p1 := List.getElem?_eq_getElem hlt
        have p2 := List.getElem?_eq_getElem (show j < vs.length by omega)
        rw [List.getElem?_map, List.getElem?_map, p1, p2]
        exact congrArg some (hkey j _ _ p1 p2).1
      · rw [List.getElem?_eq_none (by simp; omega), List.getElem?_eq_none (by simp; omega)]
  · intro k
    cases k with
    | fl k =>
      show ((osR[k]?).getD []).Nodup
      cases hq : osR[k]? with
      | none => exact List.nodup_nil
      | some o => exact hnd o (List.mem_append_left _ (List.mem_of_getElem? hq))
    | lf i j =>
      show ((((osP[i]?).getD [])[j]?).getD []).Nodup
      cases hq : osP[i]? with
      | none => exact List.nodup_nil
      | some os =>
        simp only [Option.getD_some]
        cases hq2 : os[j]? with
        | none => exact List.nodup_nil
        | some o => exact hnd o (List.mem_append_right _ (memP hq hq2))
    | blk i => exact hin.nodup _
  · intro k k' hne b hb hb'
    have cross : ∀ i (k0 : Key), (∀ i, k0 ≠ .blk i) → b ∈ om' (.blk i) → b ∈ om' k0 → False := by
      intro i k0 hk h1 h2
      have h1 : b ∈ om (.blk i) := h1
      have h3 : b ∈ W.om (.blk i) := by rw [blkW i b h1]; exact h1
      obtain ⟨k1, h4, h5⟩ := from' k0 b h2
      rcases h5 with ⟨i', _, h5⟩ | ⟨r, j, rfl⟩
      · exact hk i' h5
      · exact h.sep.disj _ _ (by simp) b h3 h4
    cases k with
    | blk i => cases k' with
      | blk i' => exact hin.disj _ _ hne b hb hb'
      | lf i' j' => exact cross i (.lf i' j') (by simp) hb hb'
      | fl k' => exact cross i (.fl k') (by simp) hb hb'
    | lf i j => cases k' with
      | blk i' => exact cross i' (.lf i j) (by simp) hb' hb
      | lf i' j' =>
        obtain ⟨os, o, h1, h2, hb⟩ := inP i j b hb
        obtain ⟨os', o', h1', h2', hc⟩ := inP i' j' b hb'
        by_cases hi : i = i'
        · subst hi
          rw [h1] at h1'; injection h1' with h1'; subst h1'
          have hj : j ≠ j' := fun e => hne (by rw [e])
          exact pair_at (fun _ _ => Apart2.symm) (hp2 os (List.mem_of_getElem? h1)) hj h2 h2' b hb hc
        · have := pair_at (R := fun l₁ l₂ => ∀ x, x ∈ l₁ → ∀ y, y ∈ l₂ → Apart2 x y) (fun a c hh x hx y hy => (hh y hy x hx).symm) hp3 hi h1 h1'
          exact this o (List.mem_of_getElem? h2) o' (List.mem_of_getElem? h2') b hb hc
      | fl k' =>
        obtain ⟨os, o, h1, h2, hb⟩ := inP i j b hb
        obtain ⟨o', h1', hb'⟩ := inR k' b hb'
        exact hp12 o' (List.mem_of_getElem? h1') o (memP h1 h2) b hb' hb
    | fl k => cases k' with
      | blk i' => exact cross i' (.fl k) (by simp) hb' hb
      | lf i' j' =>
        obtain ⟨os, o, h1, h2, hb'⟩ := inP i' j' b hb'
        obtain ⟨o', h1', hb⟩ := inR k b hb
        exact hp12 o' (List.mem_of_getElem? h1') o (memP h1 h2) b hb hb'
      | fl k' =>
        obtain ⟨o, h1, hb⟩ := inR k b hb
        obtain ⟨o', h1', hb'⟩ := inR k' b hb'
        exact pair_at (fun _ _ => Apart2.symm) hp1 (fun e => hne (by rw [e])) h1 h1' b hb hb'
  · intro k b hb
    obtain ⟨k0, h1, _⟩ := from' k b hb
    exact h.sep.own k0 b h1

theorem out_ok {T : List (String × Array Value)} {w : World} {fz : Nat → Prop} {args : List Value} {vss : List (List Lv)} {bk : Nat → Nat} {om : Key → List Nat} {s : St} {W : Wd} {tm : Array Value} {z : sm.outs.D} {v : Nat}
    (hin : ArgsIn sm.ps w fz args vss bk om) (h : Rep (entIn T sm.ps w fz args bk om) s tm W) (hv : NoVer s v) (hty : ∀ t x, ty t = some x → TyF P t x) (hmk : sm.mk? = false) (hz : retPack ty sm fn.results.toList vss.flatten s = some z) :
    ∃ r fz' om' rv vsR vsP, (results fn tm).run P W.w = .ok r W.w ∧ CallOut sm w fz args bk om z r W.w fz' om' rv vsR vsP := by
  unfold retPack at hz
  rw [hmk] at hz
  simp only [Bool.false_eq_true, if_false] at hz
  split at hz
  · rename_i fs hfs
    obtain ⟨W1, h1, fr, _⟩ := freeze_ok h hv hfs
    obtain ⟨r, om', rv, vsR, vsP, q1, q2⟩ := out_ok0 (P := P) (fn := fn) hin h1 hty hz
    rw [fr.w] at q1 q2
    exact ⟨r, W1.fz, om', rv, vsR, vsP, q1, q2⟩
  · cases hz

theorem plainLs_ok : ∀ (ls : List L) (as : List LA) {vs : List Lv}, plainLs ls as = some vs → vs.map (·.l) = ls ∧ as.length = ls.length ∧ ∀ (j : Nat) (lv : Lv), vs[j]? = some lv → as[j]? = some (.sc lv.l lv.x)
  | [], [], vs, h => by
    simp only [plainLs, Option.some.injEq] at h
    subst h
    exact ⟨rfl, rfl, fun j lv hj => by simp at hj⟩
  | l :: ls, a :: as, vs, h => by
    cases a with
    | sc m x =>
      simp only [plainLs] at h
      split at h
      · rename_i y ys hc hr
        injection h with h
        subst h
        obtain ⟨h1, h2, h3⟩ := plainLs_ok ls as hr
        obtain ⟨rfl, hxy⟩ := L.cast_some hc
        cases hxy
        refine ⟨by simp [h1], by simp [h2], fun j lv hj => ?_⟩
        cases j with
        | zero => simp at hj; subst hj; rfl
        | succ j => simpa using h3 j lv (by simpa using hj)
      · cases h
    | _ => simp [plainLs] at h
  | [], _ :: _, vs, h => by simp [plainLs] at h
  | _ :: _, [], vs, h => by simp [plainLs] at h

theorem out_mk {T : List (String × Array Value)} {w : World} {fz : Nat → Prop} {args : List Value} {vss : List (List Lv)} {bk : Nat → Nat} {om : Key → List Nat} {s : St} {W : Wd} {tm : Array Value} {z : sm.outs.D}
    (hin : ArgsIn sm.ps w fz args vss bk om) (h : Rep (entIn T sm.ps w fz args bk om) s tm W) (hmk : sm.mk? = true) (hz : retPack ty sm fn.results.toList vss.flatten s = some z) :
    ∃ r b, (results fn tm).run P W.w = .ok r W.w ∧ MkOut sm w fz z r W.w W.fz b := by
  unfold retPack at hz
  rw [hmk, if_pos rfl] at hz
  unfold retMk at hz
  split at hz
  · rename_i t hrv
    split at hz
    · rename_i r ver hslot
      split at hz
      · rename_i hc
        simp only [Bool.and_eq_true, beq_iff_eq] at hc
        obtain ⟨⟨hpl, hbox⟩, hver⟩ := hc
        split at hz
        · rename_i vs hvs
          have hu := h.slots t
          rw [hslot] at hu
          have hu : tm.getD t Go.undef = .pointer (some ⟨W.bk r, 0, none⟩) := hu hbox hver
          obtain ⟨p1, p2, p3⟩ := plainLs_ok _ _ hvs
          have hroot := h.roots r
          obtain ⟨hl, hb⟩ := hroot
          rw [if_pos hbox] at hb
          obtain ⟨hblk, arr, T0, fr, hcell, hfr, hsz, hcv⟩ := hb
          unfold Sm.plain at hpl
          simp only [Bool.and_eq_true] at hpl
          have hval : ∀ pm ∈ sm.ps, ∃ g ls, pm = .val g ls := fun pm hpm => by
            have := List.all_eq_true.1 hpl.1 pm hpm
            cases pm with
            | val g ls => exact ⟨g, ls, rfl⟩
            | _ => cases this
          have hnone : ∀ k, om k = [] := by
            intro k
            cases k with
            | fl n => exact hin.fl n
            | blk i =>
              rw [hin.blk i]
              cases hq : sm.ps[i]? with
              | none => rfl
              | some pm => obtain ⟨g, ls, rfl⟩ := hval pm (List.mem_of_getElem? hq); rfl
            | lf i j =>
              refine hin.none i (fun ls hq => ?_) (fun g ls hq => ?_) j
              · obtain ⟨g, ls, hh⟩ := hval _ (List.mem_of_getElem? hq); cases hh
              · obtain ⟨g, ls, hh⟩ := hval _ (List.mem_of_getElem? hq); cases hh
          have hio : ∀ b, ¬ (∃ k, b ∈ om k) := fun b ⟨k, hb⟩ => by rw [hnone k] at hb; cases hb
          have hown := h.sep.own (.blk r) (W.bk r) (by rw [hblk]; simp)
          have hrun := results_run (fn := fn) (P := P) (w := W.w) (tm := tm) (vals := [tm.getD t Go.undef]) (by rw [hrv]; exact ⟨rfl, trivial⟩)
          refine ⟨_, W.bk r, hrun, ?_⟩
          have hout : unpack sm.outs z = vs := unpack_pack _ _ _ hz
          exact {
            box := by
              rw [hout]
              refine ⟨hu, p1, arr, T0, fr, hcell, hfr, by rw [hsz, p2]; simp, fun j p lv hj hlv => ?_⟩
              have hlf := p3 j lv hlv
              have hlj := hl j
              rw [nth_of, hlf] at hlj
              have hjl : j < arr.size := by rw [hsz]; exact (List.getElem?_eq_some_iff.1 hlf).1
              have harr : arr[j]? = some arr[j] := Array.getElem?_eq_getElem hjl
              refine ⟨arr[j], harr, ?_⟩
              have hp : p.2 = 0 := by simpa using List.all_eq_true.1 hpl.2 p (List.mem_of_getElem? hj)
              rw [hp]
              exact hlj.2 _ (by rw [hcv j, harr])
            new := ⟨hown.2.2.elim id fun h => (hio _ h).elim, hown.2.1, hown.1⟩
            fz := fun x hx => by
              obtain ⟨a1, a2⟩ := h.sep.fz x hx
              refine ⟨a1, ?_⟩
              rcases a2 with a2 | a2 | a2
              · exact .inl a2
              · exact .inr a2
              · exact (hio _ a2).elim
            frame := fun x hx => h.sep.frame x hx (hio x)
            size := h.sep.size
            rest := h.sep.rest }
        · cases hz
      · cases hz
    · cases hz
  · cases hz

/-- A FUNCTION DOES WHAT THE EVALUATOR SAYS OF ITS CODE. -/
theorem fn_ok {T : List (String × Array Value)} (hf : P.funcs[f]? = some fn) (hb : fn.body = some c) (hlen : sm.ps.length ≤ fn.ntmps) (hty : ∀ t x, ty t = some x → TyF P t x) (henv : EnvFn P T env) (hm : P.follows .mixedOrders = true) :
    FnOk P T f ⟨sm, evFn ty env an n fn sm⟩ := by
  intro args w fz vss bk om x z hgnd hin hx hz
  have hz : evFn ty env an n fn sm x = some z := hz
  have hu : unpack sm.ins x = vss.flatten := unpack_pack _ _ _ hx
  simp only [evFn, hb, hu] at hz
  cases hp : initP 0 sm.ps vss.flatten with
  | none => rw [hp] at hz; cases hz
  | some ws =>
    rw [hp] at hz
    dsimp only at hz
    split at hz
    · cases hz
    · rename_i hcode
      have hcode : codeOk fn.ntmps c = true := by simpa using hcode
      refine calls_of_wp hf hb ?_
      have hrep := init_rep (T := T) hin hp hlen
      have hinv := init_inv (N := fn.ntmps) hin hp hlen
      have hcl : Claim P (entIn T sm.ps w fz args bk om) fn.ntmps an n (retPack ty sm fn.results.toList vss.flatten) c := (ev_both hm c).1
      have fin : ∀ {s' : St} {a' : Act} {W' : Wd} {z' : sm.outs.D}, a'.defers = [] → Rep (entIn T sm.ps w fz args bk om) s' a'.tmps W' → Inv fn.ntmps s' → retPack ty sm fn.results.toList vss.flatten s' = some z' → bodyPost P fn (fun en w' => match sm.mk? with
          | false => ∃ r fz' om' rv vsR vsP, en = .returned r ∧ CallOut sm w fz args bk om z' r w' fz' om' rv vsR vsP
          | true => ∃ r fz' b, en = .returned r ∧ MkOut sm w fz z' r w' fz' b) .ret a' W'.w := by
        intro s' a' W' z' hd hr hi hq
        cases hmk : sm.mk? with
        | false =>
          obtain ⟨r, fz', om', rv, vsR, vsP, h1, h2⟩ := out_ok (P := P) (fn := fn) hin hr (hi.vers.noVer (v := s'.ctr) (Nat.lt_irrefl _) (by have := hi.two; omega)) hty hmk hq
          exact ⟨hd, r, h1, r, fz', om', rv, vsR, vsP, rfl, h2⟩
        | true =>
          obtain ⟨r, b, h1, h2⟩ := out_mk (P := P) (fn := fn) hin hr hmk hq
          exact ⟨hd, r, h1, r, W'.fz, b, rfl, h2⟩
      refine hcl (W := wdIn sm.ps w fz args bk om) (a := ⟨_, []⟩) (Q := bodyPost P fn _) ?_ (show EnvOk P (entIn T sm.ps w fz args bk om) env from ⟨henv, hgnd⟩) hcode (fun _ _ => ⟨rfl, rfl⟩) hrep hinv hz ?_ ?_ ?_
      · exact hty
      · intro s' a' W' hd hr hi hk hq
        exact fin hd hr hi hq
      · intro id s' a' W' hd hr hi hk hq
        cases hq
      · intro y s' a' W' hd hr hi hq hq2
        injection hq2 with hq2
        subst hq2
        exact fin hd hr hi hq
end
end Go.Ev
