/- A plain evaluator for Go's loaded code, and that it is sound; part 3. Conditions: none. -/
import Derived.Test.YtglbgceejloiaaaLib2
import Derived.Orders
namespace Go.Ev
set_option linter.unusedVariables false
set_option linter.unusedSimpArgs false

/-! ### targets -/

abbrev Tgs := List PT
theorem Tg.hits_comm (a b : Tg) : Tg.hits a b = Tg.hits b a := by
  obtain ⟨r, m⟩ := a
  obtain ⟨r', m'⟩ := b
  unfold Tg.hits
  dsimp only
  rw [show (r == r') = (r' == r) from Bool.eq_iff_iff.2 (by rw [beq_iff_eq, beq_iff_eq]; exact ⟨Eq.symm, Eq.symm⟩)]
  cases m <;> cases m' <;> try rfl
  rename_i i j
  dsimp only
  rw [show (i == j) = (j == i) from Bool.eq_iff_iff.2 (by rw [beq_iff_eq, beq_iff_eq]; exact ⟨Eq.symm, Eq.symm⟩)]
theorem tgs_apart {T : Tgs} (hn : (T.flatMap PT.tgs).Pairwise NH) {i i' : Nat} {p p' : PT} (h : T[i]? = some p) (h' : T[i']? = some p') (hne : i ≠ i') {x y : Tg} (hx : x ∈ p.tgs) (hy : y ∈ p'.tgs) : Tg.hits x y = false := by
  have hp := (List.pairwise_flatMap.1 hn).2
  rw [List.pairwise_iff_getElem] at hp
  obtain ⟨hi, rfl⟩ := List.getElem?_eq_some_iff.1 h
  obtain ⟨hi', rfl⟩ := List.getElem?_eq_some_iff.1 h'
  rcases Nat.lt_or_gt_of_ne hne with hlt | hlt
  · have := hp i i' hi hi' hlt x hx y hy
    rw [Tg.hits_comm]; exact this
  · exact hp i' i hi' hi hlt y hy x hx
theorem row_tg {l : List (Option (Loc × List Nat))} {j : Nat} {c : Loc} {o : List Nat} (h : l[j]? = some (some (c, o))) : (c.r, some c.j) ∈ (PT.row l).tgs := List.mem_filterMap.2 ⟨_, List.mem_of_getElem? h, rfl⟩
theorem row_apart {T : Tgs} (hn : (T.flatMap PT.tgs).Pairwise NH) {i j j' : Nat} {l : List (Option (Loc × List Nat))} {c c' : Loc} {o o' : List Nat} (h : T[i]? = some (.row l)) (hj : l[j]? = some (some (c, o))) (hj' : l[j']? = some (some (c', o'))) (hne : j ≠ j') : ¬ (c.r = c'.r ∧ c.j = c'.j) := by
  have hp := (List.pairwise_flatMap.1 hn).1 _ (List.mem_of_getElem? h)
  have hp : l.Pairwise fun a b => ∀ x, (a.map fun p => ((p.1.r, some p.1.j) : Tg)) = some x → ∀ y, (b.map fun p => ((p.1.r, some p.1.j) : Tg)) = some y → NH x y := List.pairwise_filterMap.1 hp
  rw [List.pairwise_iff_getElem] at hp
  obtain ⟨hi, e1⟩ := List.getElem?_eq_some_iff.1 hj
  obtain ⟨hi', e2⟩ := List.getElem?_eq_some_iff.1 hj'
  rintro ⟨q1, q2⟩
  have hh : Tg.hits (c.r, some c.j) (c'.r, some c'.j) = true := by simp [Tg.hits, q1, q2]
  rcases Nat.lt_or_gt_of_ne hne with hlt | hlt
  · have := hp j j' hi hi' hlt (c.r, some c.j) (by rw [e1]; rfl) (c'.r, some c'.j) (by rw [e2]; rfl)
    rw [Tg.hits_comm, show Tg.hits (c'.r, some c'.j) (c.r, some c.j) = false from this] at hh
    cases hh
  · have := hp j' j hi' hi hlt (c'.r, some c'.j) (by rw [e2]; rfl) (c.r, some c.j) (by rw [e1]; rfl)
    rw [show Tg.hits (c.r, some c.j) (c'.r, some c'.j) = false from this] at hh
    cases hh

def argKey (T : Tgs) : Key → Option Key
  | .blk i => match T[i]? with
    | some (.box r) => some (.blk r)
    | _ => none
  | .lf i j => match T[i]? with
    | some (.box r) => some (.lf r j)
    | some (.row l) => match l[j]? with
      | some (some p) => some (.lf p.1.r p.1.j)
      | _ => none
    | _ => none
  | .fl _ => none

theorem argKey_blk {T : Tgs} {i : Nat} {a : Key} (h : argKey T (.blk i) = some a) : ∃ r, a = .blk r ∧ T[i]? = some (.box r) := by
  simp only [argKey] at h
  split at h
  · rename_i r hT; injection h with h; exact ⟨r, h.symm, hT⟩
  · cases h
theorem argKey_lf {T : Tgs} {i j : Nat} {a : Key} (h : argKey T (.lf i j) = some a) : (∃ r, a = .lf r j ∧ T[i]? = some (.box r)) ∨ ∃ l c o, a = .lf c.r c.j ∧ T[i]? = some (.row l) ∧ l[j]? = some (some (c, o)) := by
  simp only [argKey] at h
  split at h
  · rename_i r hT; injection h with h; exact .inl ⟨r, h.symm, hT⟩
  · rename_i l hT
    split at h
    · rename_i p hp; injection h with h; exact .inr ⟨l, p.1, p.2, h.symm, hT, hp⟩
    · cases h
  · cases h
theorem argKey_inj {T : Tgs} (hn : (T.flatMap PT.tgs).Pairwise NH) {k k' a : Key} (h : argKey T k = some a) (h' : argKey T k' = some a) : k = k' := by
  have hbb : ∀ {i i' r : Nat}, T[i]? = some (.box r) → T[i']? = some (.box r) → i = i' := by
    intro i i' r h h'
    refine Classical.byContradiction fun hne => ?_
    have := tgs_apart hn h h' hne (x := (r, none)) (y := (r, none)) (by simp [PT.tgs]) (by simp [PT.tgs])
    simp [Tg.hits] at this
  cases k with
  | fl k => cases h
  | blk i =>
    obtain ⟨r, rfl, hT⟩ := argKey_blk h
    cases k' with
    | fl k => cases h'
    | blk i' =>
      obtain ⟨r', e, hT'⟩ := argKey_blk h'
      injection e with e; subst e
      rw [hbb hT hT']
    | lf i' j' => rcases argKey_lf h' with ⟨r', e, _⟩ | ⟨l, c, o, e, _⟩ <;> cases e
  | lf i j =>
    cases k' with
    | fl k => cases h'
    | blk i' =>
      obtain ⟨r', e, hT'⟩ := argKey_blk h'
      subst e
      rcases argKey_lf h with ⟨r', e, _⟩ | ⟨l, c, o, e, _⟩ <;> cases e
    | lf i' j' =>
      rcases argKey_lf h with ⟨r, rfl, hT⟩ | ⟨l, c, o, rfl, hT, hl⟩
      · rcases argKey_lf h' with ⟨r', e, hT'⟩ | ⟨l', c', o', e, hT', hl'⟩
        · injection e with e1 e2; subst e1; subst e2; rw [hbb hT hT']
        · injection e with e1 e2
          by_cases hi : i = i'
          · subst hi; rw [hT] at hT'; cases hT'
          · have := tgs_apart hn hT hT' hi (x := (r, none)) (y := (c'.r, some c'.j)) (by simp [PT.tgs]) (row_tg hl')
            simp [Tg.hits, e1] at this
      · rcases argKey_lf h' with ⟨r', e, hT'⟩ | ⟨l', c', o', e, hT', hl'⟩
        · injection e with e1 e2
          by_cases hi : i = i'
          · subst hi; rw [hT] at hT'; cases hT'
          · have := tgs_apart hn hT hT' hi (x := (c.r, some c.j)) (y := (r', none)) (row_tg hl) (by simp [PT.tgs])
            simp [Tg.hits, e1] at this
        · injection e with e1 e2
          by_cases hi : i = i'
          · subst hi
            rw [hT] at hT'; injection hT' with hT'; injection hT' with hT'; subst hT'
            by_cases hj : j = j'
            · rw [hj]
            · exact absurd ⟨e1, e2⟩ (row_apart hn hT hl hl' hj)
          · have := tgs_apart hn hT hT' hi (x := (c.r, some c.j)) (y := (c'.r, some c'.j)) (row_tg hl) (row_tg hl')
            simp [Tg.hits, e1, e2] at this

/-! ### leaves that come back -/

theorem newLeaves_len (v : Nat) : ∀ (ls : List (L × Nat)) (vs : List Lv), vs.length = ls.length → (newLeaves v ls vs).length = ls.length
  | [], _, _ => by simp [newLeaves]
  | _ :: _, [], h => by simp at h
  | (_, m) :: ls, x :: xs, h => by simp [newLeaves, newLeaves_len v ls xs (by simpa using h)]
theorem newLeaves_get (v : Nat) : ∀ (ls : List (L × Nat)) (vs : List Lv) (j : Nat) (p : L × Nat) (lv : Lv), ls[j]? = some p → vs[j]? = some lv → (newLeaves v ls vs)[j]? = some (newLeaf v p.2 lv)
  | [], _, j, p, lv, h, _ => by simp at h
  | _ :: _, [], j, p, lv, _, h => by simp at h
  | (l, m) :: ls, x :: xs, 0, p, lv, h1, h2 => by simp at h1 h2; subst h1; subst h2; simp [newLeaves]
  | (l, m) :: ls, x :: xs, j + 1, p, lv, h1, h2 => by simp [newLeaves]; exact newLeaves_get v ls xs j p lv (by simpa using h1) (by simpa using h2)
/-- Extra data do not matter. -/
theorem newLeaves_more (v : Nat) : ∀ (ls : List (L × Nat)) (vs ws : List Lv), vs.length = ls.length → newLeaves v ls (vs ++ ws) = newLeaves v ls vs
  | [], vs, ws, h => by cases vs <;> simp [newLeaves]
  | _ :: _, [], _, h => by simp at h
  | (l, m) :: ls, x :: xs, ws, h => by simp [newLeaves, newLeaves_more v ls xs ws (by simpa using h)]

section
variable {P : Program} {E : Ent} {s : St} {W : Wd} {v : Nat} {tm : Array Value} {cx : Cx}

/-- A new leaf holds what its reading says. -/
theorem newLeaf_ok {s' : St} {W' : Wd} {m : Nat} {lv : Lv} {y : Value} {o : List Nat} (h : lv.l.rd m W'.w W'.fz y lv.x o) : LeafOk s' W' (newLeaf v m lv) (some y) o := by
  obtain ⟨l, x⟩ := lv
  cases l with
  | sl t e =>
    cases m with
    | zero => exact ⟨RowRd.zero h, fun u hu => by injection hu with hu; subst hu; have := RowRd.zero h; subst this; exact h⟩
    | succ m => exact ⟨y, rfl, h⟩
  | int k =>
    obtain ⟨h1, h2⟩ := L.flat_rd (.int k) rfl h (d' := 0) (w' := W'.w) (fz' := W'.fz)
    subst h2
    exact ⟨rfl, fun u hu => by injection hu with hu; subst hu; exact h1⟩
  | bool =>
    obtain ⟨h1, h2⟩ := L.flat_rd .bool rfl h (d' := 0) (w' := W'.w) (fz' := W'.fz)
    subst h2
    exact ⟨rfl, fun u hu => by injection hu with hu; subst hu; exact h1⟩
  | str =>
    obtain ⟨h1, h2⟩ := L.flat_rd .str rfl h (d' := 0) (w' := W'.w) (fz' := W'.fz)
    subst h2
    exact ⟨rfl, fun u hu => by injection hu with hu; subst hu; exact h1⟩
theorem newLeaf_ver {m : Nat} {lv : Lv} {ver gen : Nat} {t : TypeId} {e : Ls} {xs : List e.D} {d : Nat} (h : newLeaf v m lv = .arr ver gen t e xs d) : ver = v ∧ gen = v := by
  obtain ⟨l, x⟩ := lv
  cases l with
  | sl t0 e0 => cases m with
    | zero => cases h
    | succ m =>
      have h : LA.arr v v t0 e0 x (m + 1) = _ := h
      injection h with h1 h2; exact ⟨h1.symm, h2.symm⟩
  | _ => cases h

/-- The update of a leaf of rows that were lent. -/
def RowUp (s : St) (v : Nat) (ls : List (L × Nat)) (as : List LA) (vs : List Lv) (j : Nat) (u : Up) : Prop :=
  ∃ (p : L × Nat) (c : Loc) (lv : Lv) (ver gen : Nat) (t0 : TypeId) (e0 : Ls) (xs0 : List e0.D) (d0 : Nat) (F : List e0.D → List e0.D), ls[j]? = some p ∧ isSl p.1 = true ∧ as[j]? = some (.ref c) ∧ vs[j]? = some lv ∧ s.leaf c.r c.j = .arr ver gen t0 e0 xs0 d0 ∧ modAt (putL lv) c.p t0 e0 = some F ∧
    u = ⟨c.r, c.j, [.arr ver v t0 e0 (F xs0) d0]⟩
theorem RowUp.uniq {ls : List (L × Nat)} {as : List LA} {vs : List Lv} {j : Nat} {u u' : Up} (h : RowUp s v ls as vs j u) (h' : RowUp s v ls as vs j u') : u = u' := by
  obtain ⟨p, c, lv, ver, gen, t0, e0, xs0, d0, F, h1, h2, h3, h4, h5, h6, rfl⟩ := h
  obtain ⟨p', c', lv', ver', gen', t0', e0', xs0', d0', F', g1, g2, g3, g4, g5, g6, rfl⟩ := h'
  rw [h3] at g3; injection g3 with g3; injection g3 with g3; subst g3
  rw [h4] at g4; injection g4 with g4; subst g4
  rw [h5] at g5; injection g5 with a1 a2 a3 a4 a5 a6
  subst a1; subst a3; subst a4; subst a6
  have a5 := eq_of_heq a5
  subst a5
  rw [h6] at g6; injection g6 with g6; subst g6
  rfl
def RowUps (s : St) (v : Nat) (ls : List (L × Nat)) (as : List LA) (vs : List Lv) (us : List Up) : Prop :=
  (∀ u ∈ us, ∃ j, RowUp s v ls as vs j u) ∧ ∀ (j : Nat) (p : L × Nat), ls[j]? = some p → isSl p.1 = true → ∃ u ∈ us, RowUp s v ls as vs j u

theorem RowUp.succ {p : L × Nat} {a : LA} {lv : Lv} {ls : List (L × Nat)} {as : List LA} {vs : List Lv} {j : Nat} {u : Up} (h : RowUp s v ls as vs j u) : RowUp s v (p :: ls) (a :: as) (lv :: vs) (j + 1) u := by
  obtain ⟨p, c, lv, ver, gen, t0, e0, xs0, d0, F, h1, h2, h3, h4, h5, h6, rfl⟩ := h
  exact ⟨p, c, lv, ver, gen, t0, e0, xs0, d0, F, by simpa using h1, h2, by simpa using h3, by simpa using h4, h5, h6, rfl⟩

theorem putRow_ok : ∀ (ls : List (L × Nat)) (as : List LA) (vs rest : List Lv) {ws : List Wr}, vs.length = ls.length → putRow s v ls as (vs ++ rest) = some ws → ∃ us, ws = upsW us ∧ RowUps s v ls as vs us
  | [], [], vs, rest, ws, hlen, h => by
    simp only [putRow, Option.some.injEq] at h
    subst h
    exact ⟨[], rfl, ⟨fun u hu => (by cases hu), fun j p hp => (by simp at hp)⟩⟩
  | [], _ :: _, vs, rest, ws, hlen, h => by simp [putRow] at h
  | _ :: _, [], vs, rest, ws, hlen, h => by simp [putRow] at h
  | _ :: _, _ :: _, [], rest, ws, hlen, h => by simp at hlen
  | (l, d) :: ls, a :: as, x :: vs, rest, ws, hlen, h => by
    simp only [List.cons_append, putRow] at h
    split at h
    · rename_i ws' hws
      obtain ⟨us, rfl, h1, h2⟩ := putRow_ok ls as vs rest (by simpa using hlen) hws
      have plain : isSl l = false → some (upsW us) = some ws → ∃ us, ws = upsW us ∧ RowUps s v ((l, d) :: ls) (a :: as) (x :: vs) us := by
        intro hs h
        injection h with h
        refine ⟨us, h.symm, fun u hu => ?_, fun j p hp hps => ?_⟩
        · obtain ⟨j, hj⟩ := h1 u hu
          exact ⟨j + 1, hj.succ⟩
        · cases j with
          | zero => simp at hp; subst hp; rw [hs] at hps; cases hps
          | succ j =>
            obtain ⟨u, hu, hr⟩ := h2 j p (by simpa using hp) hps
            exact ⟨u, hu, hr.succ⟩
      cases l with
      | int i => exact plain rfl h
      | bool => exact plain rfl h
      | str => exact plain rfl h
      | sl t e =>
        cases a with
        | ref c =>
          dsimp only at h
          split at h
          · rename_i ver gen t0 e0 xs0 d0 hq
            split at h
            · rename_i F hF
              injection h with h
              have hu : RowUp s v ((.sl t e, d) :: ls) (.ref c :: as) (x :: vs) 0 ⟨c.r, c.j, [.arr ver v t0 e0 (F xs0) d0]⟩ := ⟨_, c, x, ver, gen, t0, e0, xs0, d0, F, rfl, rfl, rfl, rfl, hq, hF, rfl⟩
              refine ⟨⟨c.r, c.j, [.arr ver v t0 e0 (F xs0) d0]⟩ :: us, ?_, fun u hu' => ?_, fun j p hp hps => ?_⟩
              · rw [← h]; simp [upsW, leafWrs]
              · rcases List.mem_cons.1 hu' with rfl | hu'
                · exact ⟨0, hu⟩
                · obtain ⟨j, hj⟩ := h1 u hu'
                  exact ⟨j + 1, hj.succ⟩
              · cases j with
                | zero => exact ⟨_, List.mem_cons_self, hu⟩
                | succ j =>
                  obtain ⟨u, hu, hr⟩ := h2 j p (by simpa using hp) hps
                  exact ⟨u, List.mem_cons_of_mem _ hu, hr.succ⟩
            · cases h
          · cases h
        | _ => cases h
    · cases h

/-- The updates for one parameter. -/
def UpOk (s : St) (v : Nat) (pm : PM) (av : AV) (vs : List Lv) (uo : List Up) : Prop := match pm with
  | .box ls => ∃ r ver, av = .v false [.ptr r 0 ver] ∧ uo = [⟨r, 0, newLeaves v ls vs⟩]
  | .row _ ls => ∃ g as, av = .v g as ∧ RowUps s v ls as vs uo
  | _ => uo = []

theorem putBacks_ok : ∀ (ps : List PM) (avs : List AV) (vss : List (List Lv)) {ws : List Wr}, vss.length = ps.length → (∀ (i : Nat) (pm : PM) (vs : List Lv), ps[i]? = some pm → vss[i]? = some vs → vs.length = pm.outs.length) → putBacks s v ps avs vss.flatten = some ws →
    ∃ U : List (List Up), ws = upsW U.flatten ∧ U.length = ps.length ∧ ∀ (i : Nat) (pm : PM) (av : AV) (vs : List Lv) (uo : List Up), ps[i]? = some pm → avs[i]? = some av → vss[i]? = some vs → U[i]? = some uo → UpOk s v pm av vs uo
  | [], avs, [], ws, hlen, hv, h => by
    cases avs with
    | nil => simp [putBacks] at h; subst h; exact ⟨[], rfl, rfl, fun i pm av vs uo h1 => by simp at h1⟩
    | cons a as => simp [putBacks] at h
  | [], avs, _ :: _, ws, hlen, hv, h => by simp at hlen
  | _ :: _, avs, [], ws, hlen, hv, h => by simp at hlen
  | pm :: ps, avs, vs :: vss, ws, hlen, hv, h => by
    have hlen' : vss.length = ps.length := by simpa using hlen
    have hv' : ∀ (i : Nat) (pm : PM) (vs : List Lv), ps[i]? = some pm → vss[i]? = some vs → vs.length = pm.outs.length := fun i pm' vs' h1 h2 => hv (i + 1) pm' vs' (by simpa using h1) (by simpa using h2)
    have h0 := hv 0 pm vs rfl rfl
    cases avs with
    | nil => cases pm <;> simp [putBacks] at h
    | cons av avs =>
      have fin : ∀ (uo : List Up) {ws' : List Wr}, putBacks s v ps avs vss.flatten = some ws' → ws = upsW uo ++ ws' → UpOk s v pm av vs uo →
          ∃ U : List (List Up), ws = upsW U.flatten ∧ U.length = (pm :: ps).length ∧ ∀ (i : Nat) (pm' : PM) (av' : AV) (vs' : List Lv) (uo : List Up), (pm :: ps)[i]? = some pm' → (av :: avs)[i]? = some av' → (vs :: vss)[i]? = some vs' → U[i]? = some uo → UpOk s v pm' av' vs' uo := by
        intro uo ws' hp hw hok
        obtain ⟨U, h1, h2, h3⟩ := putBacks_ok ps avs vss hlen' hv' hp
        refine ⟨uo :: U, ?_, by simp [h2], ?_⟩
        · rw [hw, h1]; simp [upsW]
        · intro i pm' av' vs' uo' e1 e2 e3 e4
          cases i with
          | zero => simp at e1 e2 e3 e4; subst e1; subst e2; subst e3; subst e4; exact hok
          | succ i => exact h3 i pm' av' vs' uo' (by simpa using e1) (by simpa using e2) (by simpa using e3) (by simpa using e4)
      cases pm with
      | val g ls =>
        have hvs : vs = [] := List.eq_nil_of_length_eq_zero (by simpa [PM.outs] using h0)
        subst hvs
        simp only [putBacks, List.flatten_cons, List.nil_append] at h
        exact fin [] h rfl rfl
      | fn f =>
        have hvs : vs = [] := List.eq_nil_of_length_eq_zero (by simpa [PM.outs] using h0)
        subst hvs
        simp only [putBacks, List.flatten_cons, List.nil_append] at h
        exact fin [] h rfl rfl
      | box ls =>
        have hvl : vs.length = ls.length := by simpa [PM.outs] using h0
        simp only [List.flatten_cons] at h
        unfold putBacks at h
        split at h <;> try cases h
        · rename_i e1 _; cases e1
        · rename_i e1 _; cases e1
        · rename_i e1 _; cases e1
        · rename_i ls' ps' r ver avs' e1 e2
          injection e1 with e1 e1'; injection e1 with e1; subst e1; subst e1'
          injection e2 with e2 e2'; subst e2; subst e2'
          split at h
          · rename_i ws' hws
            injection h with h; subst h
            rw [← hvl, List.drop_left] at hws
            refine fin [⟨r, 0, newLeaves v ls vs⟩] hws ?_ ⟨r, ver, rfl, rfl⟩
            rw [newLeaves_more v ls vs _ hvl]
            simp [upsW]
          · cases h
        · rename_i e1 _; cases e1
      | row g ls =>
        have hvl : vs.length = ls.length := by simpa [PM.outs] using h0
        simp only [List.flatten_cons] at h
        cases av with
        | tup bs => simp [putBacks] at h
        | bx bs => simp [putBacks] at h
        | v g' as =>
          simp only [putBacks] at h
          split at h
          · rename_i us ws' hus hws
            injection h with h; subst h
            rw [← hvl, List.drop_left] at hws
            obtain ⟨uo, rfl, hr⟩ := putRow_ok ls as vs _ hvl hus
            exact fin uo hws rfl ⟨g', as, rfl, hr⟩
          · cases h

theorem fold_out (r j : Nat) : ∀ (us : List Up) (a : LA), (∀ u ∈ us, ¬ (r = u.r ∧ u.lo ≤ j ∧ j < u.lo + u.news.length)) → us.foldl (fun a u => if r = u.r ∧ u.lo ≤ j ∧ j < u.lo + u.news.length then nth .bad u.news (j - u.lo) else a) a = a
  | [], _, _ => rfl
  | u :: us, a, h => by
    rw [List.foldl_cons, if_neg (h u (by simp))]
    exact fold_out r j us a fun x hx => h x (List.mem_cons_of_mem _ hx)
/-- Updates that agree: one of them tells. -/
theorem fold_in (r j : Nat) {x : LA} : ∀ (us : List Up) (a : LA), (∀ u ∈ us, r = u.r ∧ u.lo ≤ j ∧ j < u.lo + u.news.length → nth .bad u.news (j - u.lo) = x) → (a = x ∨ ∃ u ∈ us, r = u.r ∧ u.lo ≤ j ∧ j < u.lo + u.news.length) →
    us.foldl (fun a u => if r = u.r ∧ u.lo ≤ j ∧ j < u.lo + u.news.length then nth .bad u.news (j - u.lo) else a) a = x
  | [], a, h, he => by
    rcases he with he | ⟨u, hu, _⟩
    · exact he
    · cases hu
  | u :: us, a, h, he => by
    rw [List.foldl_cons]
    refine fold_in r j us _ (fun y hy => h y (List.mem_cons_of_mem _ hy)) ?_
    by_cases hc : r = u.r ∧ u.lo ≤ j ∧ j < u.lo + u.news.length
    · rw [if_pos hc]; exact .inl (h u List.mem_cons_self hc)
    · rw [if_neg hc]
      rcases he with he | ⟨y, hy, hcy⟩
      · exact .inl he
      · rcases List.mem_cons.1 hy with rfl | hy
        · exact absurd hcy hc
        · exact .inr ⟨y, hy, hcy⟩

/-! ### the results -/

def OwnLeaf (w : World) (fz : Nat → Prop) (v : Nat) (b : LA) (y : Value) (o : List Nat) : Prop := match b with
  | .arr ver gen t e xs m => ver = v ∧ gen = v ∧ RowRd e m w fz y xs o
  | .bad => o = []
  | _ => False

theorem backs_ok {w : World} {fz : Nat → Prop} {d : Nat} {om : Nat → List Nat} : ∀ (ls : List (L × Nat)) (vs rest : List Lv) (off : Nat) (G : Nat → Option Value) {as rs : List LA} {left : List Lv}, vs.length = ls.length → (∀ (j : Nat) (p : L × Nat) (lv : Lv), ls[j]? = some p → vs[j]? = some lv → ∃ y, G j = some y ∧ lv.l.rd p.2 w fz y lv.x (om (off + j))) →
    backs d v ls (vs ++ rest) off = some (as, rs, left) → left = rest ∧ as.length = ls.length ∧ ∃ ys : List Value, ys.length = ls.length ∧ rs.length = ls.length ∧ (∀ k, k < ls.length → ys[k]? = G k) ∧ (∀ (k : Nat) (b : LA), rs[k]? = some b → ∃ y, ys[k]? = some y ∧ OwnLeaf w fz v b y (om (off + k))) ∧
      ∀ (s' : St) (W' : Wd), W'.w = w → W'.fz = fz → (∀ k, k < ls.length → s'.leaf d (off + k) = nth .bad rs k ∧ W'.cv d (off + k) = ys[k]?) → ∀ (k : Nat) (b : LA), as[k]? = some b → ∃ y, ys[k]? = some y ∧ LAok s' W' b y
  | [], vs, rest, off, G, as, rs, left, hlen, hv, h => by
    have : vs = [] := List.eq_nil_of_length_eq_zero hlen
    subst this
    simp only [backs, List.nil_append, Option.some.injEq, Prod.mk.injEq] at h
    obtain ⟨rfl, rfl, rfl⟩ := h
    exact ⟨rfl, rfl, [], rfl, rfl, (fun k hk => by simp at hk), (fun k b hb => by simp at hb), fun s' W' _ _ _ k b hb => by simp at hb⟩
  | _ :: _, [], rest, off, G, as, rs, left, hlen, hv, h => by simp at hlen
  | (l, m) :: ls, lv :: vs, rest, off, G, as, rs, left, hlen, hv, h => by
    obtain ⟨l', x⟩ := lv
    simp only [List.cons_append, backs] at h
    split at h
    · rename_i as' rs' left' hb
      obtain ⟨h1, h2, ys, h3, h4, h5, h6, h7⟩ := backs_ok ls vs rest (off + 1) (fun j => G (j + 1)) (by simpa using hlen) (fun j p lv hp hlv => by
        have := hv (j + 1) p lv (by simpa using hp) (by simpa using hlv)
        rwa [show off + (j + 1) = off + 1 + j by omega] at this) hb
      obtain ⟨y, hy, hr⟩ := hv 0 (l, m) ⟨l', x⟩ rfl rfl
      dsimp only [Nat.add_zero] at hr
      have fin : ∀ (a b : LA), (some (a :: as', b :: rs', left') = some (as, rs, left)) → OwnLeaf w fz v b y (om off) → (∀ (s' : St) (W' : Wd), W'.w = w → W'.fz = fz → s'.leaf d off = b → W'.cv d off = some y → LAok s' W' a y) →
          left = rest ∧ as.length = ((l, m) :: ls).length ∧ ∃ ys : List Value, ys.length = ((l, m) :: ls).length ∧ rs.length = ((l, m) :: ls).length ∧ (∀ k, k < ((l, m) :: ls).length → ys[k]? = G k) ∧ (∀ (k : Nat) (b : LA), rs[k]? = some b → ∃ y, ys[k]? = some y ∧ OwnLeaf w fz v b y (om (off + k))) ∧
            ∀ (s' : St) (W' : Wd), W'.w = w → W'.fz = fz → (∀ k, k < ((l, m) :: ls).length → s'.leaf d (off + k) = nth .bad rs k ∧ W'.cv d (off + k) = ys[k]?) → ∀ (k : Nat) (b : LA), as[k]? = some b → ∃ y, ys[k]? = some y ∧ LAok s' W' b y := by
        intro a b he hown hla
        injection he with he; injection he with e1 he; injection he with e2 e3
        subst e1; subst e2; subst e3
        refine ⟨h1, by simp [h2], y :: ys, by simp [h3], by simp [h4], ?_, ?_, ?_⟩
        · intro k hk
          cases k with
          | zero => simpa using hy.symm
          | succ k => simpa using h5 k (by simpa using hk)
        · intro k b' hb'
          cases k with
          | zero => simp at hb'; subst hb'; exact ⟨y, rfl, hown⟩
          | succ k =>
            obtain ⟨y', hy', ho⟩ := h6 k b' (by simpa using hb')
            exact ⟨y', by simpa using hy', by rw [show off + (k + 1) = off + 1 + k by omega]; exact ho⟩
        · intro s' W' hw hz hs k b' hb'
          cases k with
          | zero =>
            simp at hb'; subst hb'
            obtain ⟨q1, q2⟩ := hs 0 (by simp)
            exact ⟨y, rfl, hla s' W' hw hz q1 q2⟩
          | succ k =>
            obtain ⟨y', hy', ho⟩ := h7 s' W' hw hz (fun k hk => by
              have := hs (k + 1) (by simp; omega)
              rw [show off + 1 + k = off + (k + 1) by omega]
              exact ⟨this.1.trans rfl, this.2.trans (by simp)⟩) k b' (by simpa using hb')
            exact ⟨y', by simpa using hy', ho⟩
      cases l' with
      | sl t e =>
        cases m with
        | zero =>
          refine fin _ _ h (RowRd.zero hr) fun s' W' hw hz _ _ => ?_
          have := RowRd.zero hr
          rw [this] at hr
          show (L.sl t e).rd 0 W'.w W'.fz y x []
          rw [hw, hz]; exact hr
        | succ m =>
          refine fin _ _ h ⟨rfl, rfl, hr⟩ fun s' W' hw hz hl hc => ?_
          intro gen t' e' xs' d' hl' hp
          exact ⟨y, e', hc, rfl, rfl⟩
      | int k =>
        obtain ⟨q1, q2⟩ := L.flat_rd (.int k) rfl hr (d' := 0) (w' := w) (fz' := fz)
        rw [q2] at q1
        exact fin _ _ h q2 fun s' W' hw hz _ _ => by show (L.int k).rd 0 W'.w W'.fz y x []; rw [hw, hz]; exact q1
      | bool =>
        obtain ⟨q1, q2⟩ := L.flat_rd .bool rfl hr (d' := 0) (w' := w) (fz' := fz)
        rw [q2] at q1
        exact fin _ _ h q2 fun s' W' hw hz _ _ => by show L.bool.rd 0 W'.w W'.fz y x []; rw [hw, hz]; exact q1
      | str =>
        obtain ⟨q1, q2⟩ := L.flat_rd .str rfl hr (d' := 0) (w' := w) (fz' := fz)
        rw [q2] at q1
        exact fin _ _ h q2 fun s' W' hw hz _ _ => by show L.str.rd 0 W'.w W'.fz y x []; rw [hw, hz]; exact q1
    · cases h

theorem vok_part {s' : St} {W' : Wd} {g : Bool} {ls : List (L × Nat)} {u : Value} {as : List LA} (hlen : as.length = ls.length) (hg : match g with
    | true => ∃ cs : Array Value, u = .agg cs ∧ cs.size = ls.length
    | false => ls.length = 1) (h : ∀ (k : Nat) (b : LA), as[k]? = some b → ∃ y, partG g u k = some y ∧ LAok s' W' b y) : Vok s' W' g as u := by
  cases g with
  | true =>
    obtain ⟨cs, rfl, hsz⟩ := hg
    exact ⟨cs, rfl, by rw [hsz, hlen], h⟩
  | false =>
    match as, hlen with
    | [], h0 => dsimp only at hg; simp at h0; omega
    | [b], _ =>
      obtain ⟨y, hy, hok⟩ := h 0 b rfl
      simp [partG] at hy; subst hy; exact hok
    | _ :: _ :: _, h0 => dsimp only at hg; simp at h0; omega

theorem backAll_ok {w : World} {fz : Nat → Prop} {d : Nat} {om : Nat → List Nat} : ∀ (rs : List (Bool × List (L × Nat))) (rv : List Value) (vsR : List (List Lv)) (rest : List Lv) (off : Nat) {bs : List (Bool × List LA)} {own : List LA} {left : List Lv}, ROut w fz om rs rv vsR off →
    backAll d v rs (vsR.flatten ++ rest) off = some (bs, own, left) → left = rest ∧ bs.length = rv.length ∧ ∃ ys : List Value, ys.length = own.length ∧ (∀ (k : Nat) (b : LA), own[k]? = some b → ∃ y, ys[k]? = some y ∧ OwnLeaf w fz v b y (om (off + k))) ∧
      ∀ (s' : St) (W' : Wd), W'.w = w → W'.fz = fz → (∀ k, k < own.length → s'.leaf d (off + k) = nth .bad own k ∧ W'.cv d (off + k) = ys[k]?) → ∀ (i : Nat) (p : Bool × List LA) (u : Value), bs[i]? = some p → rv[i]? = some u → Vok s' W' p.1 p.2 u
  | [], [], [], rest, off, bs, own, left, hr, h => by
    simp only [backAll, List.flatten_nil, List.nil_append, Option.some.injEq, Prod.mk.injEq] at h
    obtain ⟨rfl, rfl, rfl⟩ := h
    exact ⟨rfl, rfl, [], rfl, (fun k b hb => by simp at hb), fun _ _ _ _ _ i p u hb => by simp at hb⟩
  | [], [], _ :: _, rest, off, bs, own, left, hr, h => hr.elim
  | [], _ :: _, _, rest, off, bs, own, left, hr, h => by simp [ROut] at hr
  | _ :: _, [], _, rest, off, bs, own, left, hr, h => by simp [ROut] at hr
  | _ :: _, _ :: _, [], rest, off, bs, own, left, hr, h => by simp [ROut] at hr
  | (g, ls) :: rs, u :: rv, vs :: vsR, rest, off, bs, own, left, hr, h => by
    obtain ⟨⟨hm, hg, hvs⟩, hr⟩ := hr
    have hvl : vs.length = ls.length := by have := congrArg List.length hm; simpa using this
    simp only [backAll, List.flatten_cons, List.append_assoc] at h
    split at h
    · rename_i as own1 vs1 hb
      obtain ⟨h1, h2, ys, h3, h4, h5, h6, h7⟩ := backs_ok ls vs (vsR.flatten ++ rest) off (partG g u) hvl hvs hb
      subst h1
      split at h
      · rename_i bs' own2 left' hb'
        injection h with h; injection h with e1 h; injection h with e2 e3
        subst e1; subst e2; subst e3
        obtain ⟨q1, q2, zs, q3, q4, q5⟩ := backAll_ok rs rv vsR rest (off + ls.length) hr hb'
        refine ⟨q1, by simp [q2], ys ++ zs, by simp [h3, h4, q3], ?_, ?_⟩
        · intro k b hk
          by_cases hlt : k < ls.length
          · rw [List.getElem?_append_left (by omega)] at hk
            rw [List.getElem?_append_left (by omega)]
            exact h6 k b hk
          · rw [List.getElem?_append_right (by omega)] at hk
            rw [List.getElem?_append_right (by omega)]
            obtain ⟨y, hy, ho⟩ := q4 (k - own1.length) b hk
            refine ⟨y, by rw [h3, ← h4]; exact hy, ?_⟩
            rw [show off + k = off + ls.length + (k - own1.length) by omega]; exact ho
        · intro s' W' hw hz hs i p u' hi hu'
          cases i with
          | zero =>
            simp at hi hu'; subst hi; subst hu'
            refine vok_part h2 hg fun k b hk => ?_
            have hlt : k < ls.length := by rw [← h2]; exact (List.getElem?_eq_some_iff.1 hk).1
            obtain ⟨y, hy, hok⟩ := h7 s' W' hw hz (fun k hk => by
              obtain ⟨a1, a2⟩ := hs k (by simp; omega)
              rw [a1, a2]
              refine ⟨?_, ?_⟩
              · rw [nth_of, nth_of, List.getElem?_append_left (by omega)]
              · rw [List.getElem?_append_left (by omega)]) k b hk
            exact ⟨y, by rw [← h5 k hlt]; exact hy, hok⟩
          | succ i =>
            refine q5 s' W' hw hz (fun k hk => ?_) i p u' (by simpa using hi) (by simpa using hu')
            obtain ⟨a1, a2⟩ := hs (ls.length + k) (by simp; omega)
            rw [show off + ls.length + k = off + (ls.length + k) by omega, a1, a2]
            refine ⟨?_, ?_⟩
            · rw [nth_of, nth_of, List.getElem?_append_right (by omega)]
              congr 2; omega
            · rw [List.getElem?_append_right (by omega)]
              congr 1; omega
      · cases h
    · cases h
end
end Go.Ev

namespace Go.Ev
set_option linter.unusedVariables false
set_option linter.unusedSimpArgs false

def argOm (T : Tgs) (om : Key → List Nat) : Key → List Nat
  | .blk i => match T[i]? with
    | some (.box r) => om (.blk r)
    | _ => []
  | .lf i j => match T[i]? with
    | some (.box r) => om (.lf r j)
    | some (.row l) => match l[j]? with
      | some (some p) => p.2
      | _ => []
    | _ => []
  | .fl _ => []
def argBk (T : Tgs) (bk : Nat → Nat) (i : Nat) : Nat := match T[i]? with
  | some (.box r) => bk r
  | _ => 0

theorem valRoots_mem : ∀ (ps : List PM) (avs : List AV) (i : Nat) (g : Bool) (ls : List L) (av : AV), ps[i]? = some (.val g ls) → avs[i]? = some av → ∀ r ∈ av.roots, r ∈ valRoots ps avs
  | [], _, i, g, ls, av, h, _, r, hr => by simp at h
  | _ :: _, [], i, g, ls, av, _, h, r, hr => by simp at h
  | pm :: ps, a :: avs, 0, g, ls, av, h1, h2, r, hr => by
    simp at h1 h2; subst h1; subst h2
    exact List.mem_append_left _ hr
  | pm :: ps, a :: avs, i + 1, g, ls, av, h1, h2, r, hr => by
    have := valRoots_mem ps avs i g ls av (by simpa using h1) (by simpa using h2) r hr
    cases pm with
    | val g' ls' => exact List.mem_append_right _ this
    | _ => exact this

section
variable {P : Program} {E : Ent} {s : St} {W : Wd} {v : Nat} {tm : Array Value} {cx : Cx}

/-- What is known where a call's parameters are read. -/
structure Handed (s : St) (W : Wd) (ps : List PM) (avs : List AV) (us : List Value) (vss : List (List Lv)) (T : Tgs) : Prop where
  l1 : avs.length = ps.length
  l2 : us.length = ps.length
  l3 : vss.length = ps.length
  l4 : T.length = ps.length
  nodup : (T.flatMap PT.tgs).Pairwise NH
  each : ∀ (i : Nat) (pm : PM) (av : AV) (u : Value) (vs : List Lv) (tg : PT), ps[i]? = some pm → avs[i]? = some av → us[i]? = some u → vss[i]? = some vs → T[i]? = some tg → ArgOk s W pm av tg u vs
  apart : ∀ r ∈ valRoots ps avs, ∀ (i : Nat) (p : PT), T[i]? = some p → ∀ x ∈ p.tgs, x.1 ≠ r

theorem at_some {α : Type} {l : List α} {i n : Nat} (h : l.length = n) (hi : i < n) : ∃ x, l[i]? = some x := ⟨l[i]'(by omega), List.getElem?_eq_getElem (by omega)⟩

/-- A parameter, in all that is known of it. -/
theorem Handed.all {ps : List PM} {avs : List AV} {us : List Value} {vss : List (List Lv)} {T : Tgs} (hh : Handed s W ps avs us vss T) {i : Nat} {pm : PM} (hp : ps[i]? = some pm) :
    ∃ av u vs tg, avs[i]? = some av ∧ us[i]? = some u ∧ vss[i]? = some vs ∧ T[i]? = some tg ∧ ArgOk s W pm av tg u vs := by
  have hi : i < ps.length := (List.getElem?_eq_some_iff.1 hp).1
  obtain ⟨av, h1⟩ := at_some hh.l1 hi
  obtain ⟨u, h2⟩ := at_some hh.l2 hi
  obtain ⟨vs, h3⟩ := at_some hh.l3 hi
  obtain ⟨tg, h4⟩ := at_some hh.l4 hi
  exact ⟨av, u, vs, tg, h1, h2, h3, h4, hh.each i pm av u vs tg hp h1 h2 h3 h4⟩
/-- A target's parameter. -/
theorem Handed.tgt {ps : List PM} {avs : List AV} {us : List Value} {vss : List (List Lv)} {T : Tgs} (hh : Handed s W ps avs us vss T) {i : Nat} {m : PT} (hT : T[i]? = some m) :
    ∃ pm av u vs, ps[i]? = some pm ∧ avs[i]? = some av ∧ us[i]? = some u ∧ vss[i]? = some vs ∧ ArgOk s W pm av m u vs := by
  have hi : i < ps.length := by rw [← hh.l4]; exact (List.getElem?_eq_some_iff.1 hT).1
  obtain ⟨pm, hp⟩ := at_some rfl hi
  obtain ⟨av, u, vs, tg, h1, h2, h3, h4, h5⟩ := hh.all hp
  rw [hT] at h4; injection h4 with h4; subst h4
  exact ⟨pm, av, u, vs, hp, h1, h2, h3, h5⟩
/-- A row that is lent. -/
theorem Handed.rowT {ps : List PM} {avs : List AV} {us : List Value} {vss : List (List Lv)} {T : Tgs} (hh : Handed s W ps avs us vss T) {i j : Nat} {l : List (Option (Loc × List Nat))} {c : Loc} {o : List Nat} (hT : T[i]? = some (.row l)) (hj : l[j]? = some (some (c, o))) :
    ∃ g ls as u vs p lv y, ps[i]? = some (.row g ls) ∧ avs[i]? = some (.v g as) ∧ us[i]? = some u ∧ vss[i]? = some vs ∧ ls[j]? = some p ∧ as[j]? = some (.ref c) ∧ vs[j]? = some lv ∧ isSl p.1 = true ∧ vs.map (·.l) = ls.map (·.1) ∧ partG g u j = some y ∧ RowLeaf s W p.2 (.ref c) (some (c, o)) lv y := by
  obtain ⟨pm, av, u, vs, e1, e2, e3, e4, e5⟩ := hh.tgt hT
  cases pm with
  | val g ls => cases e5.1
  | fn f => cases e5.1
  | box ls => obtain ⟨r, ver, _, q, _⟩ := e5; cases q
  | row g ls =>
    obtain ⟨as, l', rfl, q2, q3, q4, q5, q6, q7⟩ := e5
    injection q2 with q2; subst q2
    have hlt : j < ls.length := by rw [← q4]; exact (List.getElem?_eq_some_iff.1 hj).1
    have hvl : vs.length = ls.length := by have := congrArg List.length q5; simpa using this
    obtain ⟨p, hp⟩ := at_some rfl hlt
    obtain ⟨a, ha⟩ := at_some q3 hlt
    obtain ⟨lv, hlv⟩ := at_some hvl hlt
    obtain ⟨y, hy, hr⟩ := q7 j p a lv _ hp ha hlv hj
    have hl : lv.l = p.1 := by
      have := congrArg (·[j]?) q5
      simp only [List.getElem?_map, hp, hlv, Option.map_some, Option.some.injEq] at this
      exact this
    have hr' := hr
    rcases hr with ⟨_, h0, _⟩ | ⟨c', o', gen, t, e, xs, h, t', e', ys, rfl, h2, _, _, _, _, h3, _⟩
    · cases h0
    · injection h2 with h2; injection h2 with h2 h2'; subst h2
      exact ⟨g, ls, as, u, vs, p, lv, y, e1, e2, e3, e4, hp, ha, hlv, by rw [← hl, h3]; rfl, q5, hy, hr'⟩

theorem argOm_some {ps : List PM} {avs : List AV} {us : List Value} {vss : List (List Lv)} {T : Tgs} (hh : Handed s W ps avs us vss T) {k : Key} {b : Nat} (h : b ∈ argOm T W.om k) : ∃ a, argKey T k = some a ∧ b ∈ W.om a := by
  cases k with
  | fl k => cases h
  | blk i =>
    simp only [argOm] at h
    split at h
    · rename_i r hT; exact ⟨.blk r, by simp [argKey, hT], h⟩
    · cases h
  | lf i j =>
    simp only [argOm] at h
    split at h
    · rename_i r hT; exact ⟨.lf r j, by simp [argKey, hT], h⟩
    · rename_i l hT
      split at h
      · rename_i p hp
        obtain ⟨c, o⟩ := p
        obtain ⟨g, ls, as, u, vs, p, lv, y, _, _, _, _, _, _, _, _, _, _, hr⟩ := hh.rowT hT hp
        refine ⟨.lf c.r c.j, by simp [argKey, hT, hp], ?_⟩
        rcases hr with ⟨_, h0, _⟩ | ⟨c', o', gen, t, e, xs, h', t', e', ys, _, h2, _, _, _, _, _, _, h4, _⟩
        · cases h0
        · injection h2 with h2; injection h2 with h2 h2'; subst h2; subst h2'
          exact h4 b h
      · cases h
    · cases h

theorem argOm_nodup (h : Rep E s tm W) {ps : List PM} {avs : List AV} {us : List Value} {vss : List (List Lv)} {T : Tgs} (hh : Handed s W ps avs us vss T) (k : Key) : (argOm T W.om k).Nodup := by
  cases k with
  | fl k => exact List.nodup_nil
  | blk i =>
    simp only [argOm]
    split
    · exact h.sep.nodup _
    · exact List.nodup_nil
  | lf i j =>
    simp only [argOm]
    split
    · exact h.sep.nodup _
    · rename_i l hT
      split
      · rename_i p hp
        obtain ⟨c, o⟩ := p
        obtain ⟨g, ls, as, u, vs, p, lv, y, _, _, _, _, _, _, _, _, _, _, hr⟩ := hh.rowT hT hp
        rcases hr with ⟨_, h0, _⟩ | ⟨c', o', gen, t, e, xs, h', t', e', ys, _, h2, _, _, _, _, _, _, h4, h5⟩
        · cases h0
        · injection h2 with h2; injection h2 with h2 h2'; subst h2; subst h2'
          exact h5
      · exact List.nodup_nil
    · exact List.nodup_nil

/-- Whose key it is. -/
theorem Handed.root {ps : List PM} {avs : List AV} {us : List Value} {vss : List (List Lv)} {T : Tgs} (hh : Handed s W ps avs us vss T) {k : Key} {r j : Nat} (h : argKey T k = some (.lf r j)) : r ∉ valRoots ps avs := by
  cases k with
  | fl k => cases h
  | blk i => obtain ⟨r', e, _⟩ := argKey_blk h; cases e
  | lf i j' =>
    rcases argKey_lf h with ⟨r', e, hT⟩ | ⟨l, c, o, e, hT, hl⟩
    · injection e with e1 e2; subst e1
      exact fun hr => hh.apart r hr i _ hT (r, none) (by simp [PT.tgs]) rfl
    · injection e with e1 e2
      exact fun hr => hh.apart r hr i _ hT _ (row_tg hl) e1.symm

theorem bad_om (h : Rep E s tm W) {r j : Nat} (hj : (s.root r).ls.length ≤ j) : W.om (.lf r j) = [] := by
  obtain ⟨h1, _⟩ := h.roots r
  have := h1 j
  rw [nth_ge LA.bad hj] at this
  exact this.1

theorem argsIn_ok (h : Rep E s tm W) {ps : List PM} {avs : List AV} {us : List Value} {vss : List (List Lv)} {T : Tgs} (hh : Handed s W ps avs us vss T) :
    ArgsIn ps W.w (Seen W (valRoots ps avs)) us vss (argBk T W.bk) (argOm T W.om) where
  len := hh.l2
  len2 := hh.l3
  each i pm u vs hp hu hvs := by
    obtain ⟨av, u', vs', tg, h1, h2, h3, h4, h5⟩ := hh.all hp
    rw [hu] at h2; injection h2 with h2; subst h2
    rw [hvs] at h3; injection h3 with h3; subst h3
    cases pm with
    | val g ls =>
      obtain ⟨_, q1, q2, q3⟩ := h5
      refine ⟨q1, q2, fun j p lv hj hlv => ?_⟩
      obtain ⟨y, hy, hr⟩ := q3 j p lv hj hlv
      exact ⟨y, hy, L.rd_frame lv.l hr (fun _ _ => rfl) fun b hb => hb.imp id fun ⟨r, hr, x⟩ => ⟨r, valRoots_mem ps avs i g ls av hp h1 r hr, x⟩⟩
    | box ls =>
      obtain ⟨r, ver, _, rfl, hb, hlen, hu', hvm, hget⟩ := h5
      obtain ⟨_, hbox⟩ := h.roots r
      rw [if_pos hb] at hbox
      obtain ⟨_, arr, T', fr, hhp, hbare, hsz, hcv⟩ := hbox
      have e1 : argBk T W.bk i = W.bk r := by simp [argBk, h4]
      show BArg _ _ _ _ _ _ _
      rw [e1]
      refine ⟨hu', hvm, arr, T', fr, hhp, hbare, by rw [hsz, hlen], fun j p lv hj hlv => ?_⟩
      have hlt : j < arr.size := by rw [hsz, hlen]; exact (List.getElem?_eq_some_iff.1 hj).1
      refine ⟨arr[j], Array.getElem?_eq_getElem hlt, ?_⟩
      have e2 : argOm T W.om (.lf i j) = W.om (.lf r j) := by simp [argOm, h4]
      show lv.l.rd p.2 _ _ _ _ (argOm T W.om (.lf i j))
      rw [e2]
      exact L.rd_frame lv.l (hget j p lv arr[j] hj hlv (by rw [hcv]; exact Array.getElem?_eq_getElem hlt)) (fun _ _ => rfl) fun b hb => .inl hb
    | row g ls =>
      obtain ⟨as, l, rfl, rfl, q3, q4, q5, q6, q7⟩ := h5
      refine ⟨q5, q6, fun j p lv hj hlv => ?_⟩
      have hlt : j < ls.length := (List.getElem?_eq_some_iff.1 hj).1
      obtain ⟨a, ha⟩ := at_some q3 hlt
      obtain ⟨o, ho⟩ := at_some q4 hlt
      obtain ⟨y, hy, hr⟩ := q7 j p a lv o hj ha hlv ho
      refine ⟨y, hy, ?_⟩
      rcases hr with ⟨hs, rfl, hr⟩ | ⟨c, o', gen, t, e, xs, h', t', e', ys, _, rfl, _, _, _, _, rfl, hr, _⟩
      · have e2 : argOm T W.om (.lf i j) = [] := by simp [argOm, h4, ho]
        show lv.l.rd p.2 _ _ _ _ (argOm T W.om (.lf i j))
        rw [e2]
        exact (L.flat_rd lv.l hs hr).1
      · have e2 : argOm T W.om (.lf i j) = o' := by simp [argOm, h4, ho]
        show RowRd e' p.2 _ _ _ _ (argOm T W.om (.lf i j))
        rw [e2]
        exact hr.frame (fun _ _ => rfl) fun b hb => .inl hb
    | fn f => exact h5.2
  blk i := by
    cases hp : ps[i]? with
    | none =>
      have : T[i]? = none := List.getElem?_eq_none (by have := List.getElem?_eq_none_iff.1 hp; rw [hh.l4]; exact this)
      simp [argOm, this]
    | some pm =>
      obtain ⟨av, u', vs', tg, h1, h2, h3, h4, h5⟩ := hh.all hp
      cases pm with
      | val g ls => obtain ⟨rfl, _⟩ := h5; simp [argOm, h4]
      | fn f => obtain ⟨rfl, _⟩ := h5; simp [argOm, h4]
      | row g ls => obtain ⟨as, l, _, rfl, _⟩ := h5; simp [argOm, h4]
      | box ls =>
        obtain ⟨r, ver, _, rfl, hb, _⟩ := h5
        obtain ⟨_, hbox⟩ := h.roots r
        rw [if_pos hb] at hbox
        simp [argOm, argBk, h4, hbox.1]
  none i hn1 hn2 j := by
    cases hp : ps[i]? with
    | none =>
      have : T[i]? = none := List.getElem?_eq_none (by have := List.getElem?_eq_none_iff.1 hp; rw [hh.l4]; exact this)
      simp [argOm, this]
    | some pm =>
      obtain ⟨av, u', vs', tg, h1, h2, h3, h4, h5⟩ := hh.all hp
      cases pm with
      | val g ls => obtain ⟨rfl, _⟩ := h5; simp [argOm, h4]
      | fn f => obtain ⟨rfl, _⟩ := h5; simp [argOm, h4]
      | row g ls => exact absurd hp (hn2 g ls)
      | box ls => exact absurd hp (hn1 ls)
  box i ls hp j hj := by
    obtain ⟨av, u', vs', tg, h1, h2, h3, h4, h5⟩ := hh.all hp
    obtain ⟨r, ver, _, rfl, hb, hlen, _⟩ := h5
    have e2 : argOm T W.om (.lf i j) = W.om (.lf r j) := by simp [argOm, h4]
    rw [e2]
    exact bad_om h (by omega)
  row i g ls hp j hj := by
    obtain ⟨av, u', vs', tg, h1, h2, h3, h4, h5⟩ := hh.all hp
    obtain ⟨as, l, _, rfl, _, hl, _⟩ := h5
    have : l[j]? = none := List.getElem?_eq_none (by omega)
    simp [argOm, h4, this]
  fl k := rfl
  nodup k := argOm_nodup h hh k
  disj k k' hne b hb hb' := by
    obtain ⟨a, ha, hb⟩ := argOm_some hh hb
    obtain ⟨a', ha', hb'⟩ := argOm_some hh hb'
    refine h.sep.disj a a' (fun e => hne ?_) b hb hb'
    subst e; exact argKey_inj hh.nodup ha ha'
  own k b hb := by
    obtain ⟨a, ha, hb⟩ := argOm_some hh hb
    obtain ⟨q1, q2, q3⟩ := h.sep.own a b hb
    refine ⟨?_, q2⟩
    rintro (hz | ⟨r, hr, j, hz⟩)
    · exact q1 hz
    · have hab : a = .lf r j := Classical.byContradiction fun hne => h.sep.disj a _ hne b hb hz
      subst hab
      exact hh.root ha hr
  fz b hb := by
    rcases hb with hz | ⟨r, hr, j, hz⟩
    · exact (h.sep.fz b hz).1
    · exact (h.sep.own _ b hz).2.1
end
end Go.Ev

namespace Go.Ev
set_option linter.unusedVariables false
set_option linter.unusedSimpArgs false

/-! ### what is owned doesn't ask what is looked at -/

mutual
theorem L.rd_two : ∀ (l : L) {w : World} {fz fz' : Nat → Prop} {v : Value} {x : l.D} {o : List Nat}, l.rd 2 w fz v x o → l.rd 2 w fz' v x o
  | .int _, _, _, _, _, _, _, h => h
  | .bool, _, _, _, _, _, _, h => h
  | .str, _, _, _, _, _, _, h => h
  | .sl _ e, w, fz, fz', v, x, o, h => by
    obtain ⟨A, c, hv, hc, h⟩ := h
    refine ⟨A, c, hv, hc, ?_⟩
    cases A with
    | none => exact h
    | some a =>
      rcases h with h | ⟨g, os, hrow, hel, ho⟩
      · exact .inl h
      · exact .inr ⟨g, os, hrow, fun i hi => Ls.rd_two e (hel i hi), ho⟩
theorem Ls.rd_two : ∀ (ls : Ls) {w : World} {fz fz' : Nat → Prop} {g : Nat → Option Value} {x : ls.D} {o : List Nat}, ls.rd 2 w fz g x o → ls.rd 2 w fz' g x o
  | .nil, _, _, _, _, _, _, h => h
  | .one l, _, _, _, _, _, _, h => by
    simp only [Ls.rd] at h ⊢
    obtain ⟨v, hg, h⟩ := h
    exact ⟨v, hg, L.rd_two l h⟩
  | .cons l ls, _, _, _, _, _, _, h => by
    simp only [Ls.rd] at h ⊢
    obtain ⟨v, o1, o2, hg, h1, h2, rfl⟩ := h
    exact ⟨v, o1, o2, hg, L.rd_two l h1, Ls.rd_two ls h2, rfl⟩
end

/-- Readings go over. -/
def Conv (ls : List (L × Nat)) (w : World) (fz fz' : Nat → Prop) : Prop := ∀ p ∈ ls, ∀ (l : L) (x : l.D) (y : Value) (o : List Nat), l = p.1 → l.rd p.2 w fz y x o → l.rd p.2 w fz' y x o
theorem Conv.mono {ls : List (L × Nat)} {w : World} {fz fz' : Nat → Prop} (h : ∀ b, fz b → fz' b) : Conv ls w fz fz' := fun p _ l x y o _ hr => L.rd_frame l hr (fun _ _ => rfl) h
theorem Conv.fresh {ls : List (L × Nat)} (hf : fresh ls = true) (w : World) (fz fz' : Nat → Prop) : Conv ls w fz fz' := by
  intro p hp l x y o hl hr
  have := List.all_eq_true.1 hf p hp
  simp only [Bool.or_eq_true, Bool.not_eq_true', beq_iff_eq, Bool.and_eq_true] at this
  obtain ⟨l', m⟩ := p
  dsimp only at hl this hr ⊢
  subst hl
  rcases this with (h1 | h1) | ⟨h1, h2⟩
  · exact (L.flat_rd l h1 hr).1
  · subst h1; exact L.rd_two l hr
  · subst h1
    cases l with
    | sl t e =>
      obtain ⟨A, c, hv, hc, h⟩ := hr
      refine ⟨A, c, hv, hc, ?_⟩
      cases A with
      | none => exact h
      | some a =>
        rcases h with h | ⟨g, os, hrow, hel, ho⟩
        · exact .inl h
        · exact .inr ⟨g, os, hrow, fun i hi => (Ls.flat_rd e h2 (hel i hi)).1, ho⟩
    | int k => exact hr
    | bool => exact hr
    | str => exact hr
theorem RArg.conv {w : World} {fz fz' : Nat → Prop} {g : Bool} {ls : List (L × Nat)} {u : Value} {vs : List Lv} {own : Nat → List Nat} (h : RArg w fz g ls u vs own) (hc : Conv ls w fz fz') : RArg w fz' g ls u vs own := by
  obtain ⟨h1, h2, h3⟩ := h
  refine ⟨h1, h2, fun j p lv hp hlv => ?_⟩
  obtain ⟨y, hy, hr⟩ := h3 j p lv hp hlv
  have hl : lv.l = p.1 := by
    have := congrArg (·[j]?) h1
    simp only [List.getElem?_map, hp, hlv, Option.map_some, Option.some.injEq] at this
    exact this
  exact ⟨y, hy, hc p (List.mem_of_getElem? hp) lv.l lv.x y _ hl hr⟩
theorem ROut.conv {w : World} {fz fz' : Nat → Prop} {om : Nat → List Nat} : ∀ {rs : List (Bool × List (L × Nat))} {rv : List Value} {vss : List (List Lv)} {off : Nat}, ROut w fz om rs rv vss off → Conv (rs.flatMap (·.2)) w fz fz' → ROut w fz' om rs rv vss off
  | [], [], [], _, h, hc => h
  | [], [], _ :: _, _, h, hc => h.elim
  | [], _ :: _, _, _, h, hc => by simp [ROut] at h
  | _ :: _, [], _, _, h, hc => by simp [ROut] at h
  | _ :: _, _ :: _, [], _, h, hc => by simp [ROut] at h
  | (g, ls) :: rs, u :: us, vs :: vss, off, h, hc =>
    ⟨RArg.conv h.1 fun p hp => hc p (by simp [hp]), ROut.conv h.2 fun p hp => hc p (by
      obtain ⟨q, hq, hp⟩ := List.mem_flatMap.1 hp
      exact List.mem_flatMap.2 ⟨q, List.mem_cons_of_mem _ hq, hp⟩)⟩
theorem POut.conv {w : World} {fz fz' : Nat → Prop} {pm : PM} {u : Value} {vs : List Lv} {blk : Nat} {own : Nat → List Nat} (h : POut w fz pm u vs blk own) (hc : Conv pm.outs w fz fz') : POut w fz' pm u vs blk own := by
  cases pm with
  | val g ls => exact h
  | fn f => exact h
  | box ls =>
    obtain ⟨h1, h2, arr, T, fr, q1, q2, q3, h3⟩ := h
    refine ⟨h1, h2, arr, T, fr, q1, q2, q3, fun j p lv hp hlv => ?_⟩
    obtain ⟨y, hy, hr⟩ := h3 j p lv hp hlv
    have hl : lv.l = p.1 := by
      have := congrArg (·[j]?) h2
      simp only [List.getElem?_map, hp, hlv, Option.map_some, Option.some.injEq] at this
      exact this
    exact ⟨y, hy, hc p (List.mem_of_getElem? hp) lv.l lv.x y _ hl hr⟩
  | row g ls => exact RArg.conv h hc
theorem POut.len {w : World} {fz : Nat → Prop} {pm : PM} {u : Value} {vs : List Lv} {blk : Nat} {own : Nat → List Nat} (h : POut w fz pm u vs blk own) : vs.length = pm.outs.length := by
  cases pm with
  | val g ls => rw [show vs = [] from h]; rfl
  | fn f => rw [show vs = [] from h]; rfl
  | box ls => have := congrArg List.length h.2.1; simpa [PM.outs] using this
  | row g ls => have := congrArg List.length h.1; simpa [PM.outs] using this

/-! ### where what is owned comes from -/

open Classical in
noncomputable def srcOm (T : Tgs) (om qf : Key → List Nat) (fl : Nat → List Nat) : Key → List Nat
  | .fl n => fl n
  | .blk r => if h : ∃ c, argKey T c = some (.blk r) then qf h.choose else om (.blk r)
  | .lf r j => if h : ∃ c, argKey T c = some (.lf r j) then qf h.choose else om (.lf r j)
theorem argKey_fl {T : Tgs} {c : Key} {n : Nat} : argKey T c ≠ some (.fl n) := by
  intro h
  cases c with
  | fl c => cases h
  | blk i => obtain ⟨r, e, _⟩ := argKey_blk h; cases e
  | lf i j => rcases argKey_lf h with ⟨r, e, _⟩ | ⟨l, c, o, e, _⟩ <;> cases e
open Classical in
theorem srcOm_tg {T : Tgs} (hn : (T.flatMap PT.tgs).Pairwise NH) {om qf : Key → List Nat} {fl : Nat → List Nat} {c k : Key} (h : argKey T c = some k) : srcOm T om qf fl k = qf c := by
  have hex : ∃ c, argKey T c = some k := ⟨c, h⟩
  have hc : hex.choose = c := argKey_inj hn hex.choose_spec h
  cases k with
  | fl n => exact absurd h argKey_fl
  | blk r =>
    show (if h : ∃ c, argKey T c = some (.blk r) then qf h.choose else om (.blk r)) = _
    rw [dif_pos hex, hc]
  | lf r j =>
    show (if h : ∃ c, argKey T c = some (.lf r j) then qf h.choose else om (.lf r j)) = _
    rw [dif_pos hex, hc]
theorem srcOm_no {T : Tgs} {om qf : Key → List Nat} {fl : Nat → List Nat} {k : Key} (h : ∀ c, argKey T c ≠ some k) (hk : ∀ n, k ≠ .fl n) : srcOm T om qf fl k = om k := by
  have hex : ¬ ∃ c, argKey T c = some k := fun ⟨c, hc⟩ => h c hc
  cases k with
  | fl n => exact absurd rfl (hk n)
  | blk r => exact dif_neg hex
  | lf r j => exact dif_neg hex

section
variable {P : Program} {E : Ent} {s : St} {W : Wd} {v : Nat} {tm : Array Value} {cx : Cx}

theorem freeze_case (h : Rep E s tm W) (hv : NoVer s v) {ks : List (L × Nat)} {rs : List Nat} {fs : List Wr} {w' : World} {fz' : Nat → Prop} (hf : (if fresh ks then some [] else freezes cx s rs) = some fs) :
    ∃ W1 fzB, Rep E (s.app fs) tm W1 ∧ Froze s (s.app fs) W W1 rs ∧ (∀ b, W1.fz b → fzB b) ∧ (∀ b, fzB b → W1.fz b ∨ (fz' b ∧ (Seen W rs b → W1.fz b))) ∧ Conv ks w' fz' fzB := by
  split at hf
  · rename_i hfr
    injection hf with hf; subst hf
    exact ⟨W, W.fz, h, ⟨⟨rfl, rfl, fun _ => ⟨rfl, rfl, rfl⟩⟩, rfl, rfl, rfl, fun _ _ _ => rfl, fun _ _ => .inl rfl, fun _ _ _ => rfl, fun _ => rfl, fun _ _ hb => hb, fun _ hb => hb, fun _ hb => .inl hb⟩, fun _ hb => hb, fun _ hb => .inl hb, Conv.fresh hfr _ _ _⟩
  · obtain ⟨W1, h1, h2, h3⟩ := freeze_ok h hv hf
    exact ⟨W1, fun b => W1.fz b ∨ fz' b, h1, h2, fun b hb => .inl hb, fun b hb => hb.imp id fun hb => ⟨hb, h3 b⟩, Conv.mono fun b hb => .inr hb⟩

theorem back_ok (h : Rep E s tm W) (hv : NoVer s v) {d : Nat} (hd : d < tm.size) {g : Sm} {avs : List AV} {us : List Value} {vss : List (List Lv)} {T : Tgs} (hh : Handed s W g.ps avs us vss T)
    {z : g.outs.D} {r : Value} {w' : World} {fz' : Nat → Prop} {om' : Key → List Nat} {rv : List Value} {vsR vsP : List (List Lv)} (co : CallOut g W.w (Seen W (valRoots g.ps avs)) us (argBk T W.bk) (argOm T W.om) z r w' fz' om' rv vsR vsP)
    {fs pw : List Wr} {bs : List (Bool × List LA)} {own left : _} (hf : (if fresh g.outk then some [] else freezes cx s (valRoots g.ps avs)) = some fs) (hb : backAll d v g.rs (unpack g.outs z) 0 = some (bs, own, left)) (hp : putBacks s v g.ps avs left = some pw) :
    ∃ W', W'.w = w' ∧ Rep E (s.app (fs ++ pw ++ [.root d ⟨false, v, own⟩, .slot d (slotOf bs)])) (tm.setIfInBounds d r) W' := by
  have hin := argsIn_ok h hh
  obtain ⟨W1, fzB, h1, hfr, hup, hdown, hconv⟩ := freeze_case (cx := cx) (w' := w') (fz' := fz') h hv hf
  have hv1 := hfr.noVer hv
  have hres := ROut.conv co.resOk (fz' := fzB) fun p hp => hconv p (List.mem_append_left _ hp)
  have heach : ∀ (i : Nat) (pm : PM) (u : Value) (vs : List Lv), g.ps[i]? = some pm → us[i]? = some u → vsP[i]? = some vs → POut w' fzB pm u vs (argBk T W.bk i) fun j => om' (.lf i j) := fun i pm u vs e1 e2 e3 =>
    (co.each i pm u vs e1 e2 e3).conv fun p hp => hconv p (List.mem_append_right _ (List.mem_flatMap.2 ⟨pm, List.mem_of_getElem? e1, hp⟩))
  rw [co.outs] at hb
  obtain ⟨rfl, hbl, ys, hyl, hown, hvok⟩ := backAll_ok g.rs rv vsR vsP.flatten 0 hres hb
  obtain ⟨U, rfl, hUl, hU⟩ := putBacks_ok (s := s) (v := v) g.ps avs vsP co.len (fun i pm vs e1 e2 => by
    obtain ⟨av, u, _, _, _, q2, _⟩ := hh.all e1
    exact (heach i pm u vs e1 q2 e2).len) hp
  -- all that is known of one target
  have htg : ∀ {i : Nat} {m : PT}, T[i]? = some m → ∃ pm av u vs vo uo, g.ps[i]? = some pm ∧ avs[i]? = some av ∧ us[i]? = some u ∧ vsP[i]? = some vo ∧ U[i]? = some uo ∧ ArgOk s W pm av m u vs ∧ UpOk s v pm av vo uo ∧ POut w' fzB pm u vo (argBk T W.bk i) (fun j => om' (.lf i j)) := by
    intro i m hT
    obtain ⟨pm, av, u, vs, e1, e2, e3, e4, e5⟩ := hh.tgt hT
    have hi : i < g.ps.length := (List.getElem?_eq_some_iff.1 e1).1
    obtain ⟨vo, e6⟩ := at_some co.len hi
    obtain ⟨uo, e7⟩ := at_some hUl hi
    exact ⟨pm, av, u, vs, vo, uo, e1, e2, e3, e6, e7, e5, hU i pm av vo uo e1 e2 e6 e7, heach i pm u vo e1 e3 e6⟩
  -- every update, by its kind
  have hcls : ∀ u ∈ U.flatten, (∃ (i : Nat) (ls : List (L × Nat)) (vo : List Lv), T[i]? = some (.box u.r) ∧ U[i]? = some [u] ∧ u = ⟨u.r, 0, newLeaves v ls vo⟩ ∧ vo.length = ls.length ∧ (s.root u.r).box = true ∧ (s.root u.r).ls.length = ls.length) ∨
      (∃ (i : Nat) (l : List (Option (Loc × List Nat))) (j : Nat) (c : Loc) (o : List Nat) (g' : Bool) (ls : List (L × Nat)) (as : List LA) (vo : List Lv), T[i]? = some (.row l) ∧ l[j]? = some (some (c, o)) ∧ g.ps[i]? = some (.row g' ls) ∧ avs[i]? = some (.v g' as) ∧ vsP[i]? = some vo ∧ RowUp s v ls as vo j u ∧ u.r = c.r ∧ u.lo = c.j ∧ u.news.length = 1 ∧ c.r < s.ro.length ∧ c.j < (s.root c.r).ls.length) := by
    intro u hu
    obtain ⟨uo, hm, hu⟩ := List.mem_flatten.1 hu
    obtain ⟨i, hi⟩ := List.getElem?_of_mem hm
    have hlt : i < g.ps.length := by rw [← hUl]; exact (List.getElem?_eq_some_iff.1 hi).1
    obtain ⟨m, hT⟩ := at_some hh.l4 hlt
    obtain ⟨pm, av, u', vs, vo, uo', e1, e2, e3, e4, e5, e6, e7, e8⟩ := htg hT
    rw [hi] at e5; injection e5 with e5; subst e5
    cases pm with
    | val g' ls => rw [show uo = [] from e7] at hu; cases hu
    | fn f => rw [show uo = [] from e7] at hu; cases hu
    | box ls =>
      obtain ⟨r, ver, q1, q2⟩ := e7
      obtain ⟨r', ver', q3, rfl, q4, q5, _⟩ := e6
      rw [q1] at q3
      injection q3 with _ q3; injection q3 with q3; injection q3 with q3
      subst q3; subst q2
      have := List.mem_singleton.1 hu
      subst this
      exact .inl ⟨i, ls, vo, hT, hi, rfl, by simpa [PM.outs] using e8.len, q4, q5⟩
    | row g' ls =>
      obtain ⟨as, l, rfl, rfl, q3, q4, q5, q6, q7⟩ := e6
      obtain ⟨g2, as2, q8, q9⟩ := e7
      injection q8 with q8 q8'; subst q8; subst q8'
      obtain ⟨j, hj⟩ := q9.1 u hu
      have hj' := hj
      obtain ⟨p, c, lv2, ver, gen, t0, e0, xs0, d0, F, h1, h2, h3, h4, h5, h6, rfl⟩ := hj
      have hjl : j < ls.length := (List.getElem?_eq_some_iff.1 h1).1
      have hvl : vs.length = ls.length := by have := congrArg List.length q5; simpa using this
      obtain ⟨lv, hlv⟩ := at_some hvl hjl
      obtain ⟨o, ho⟩ := at_some q4 hjl
      obtain ⟨y, hy, hr⟩ := q7 j p _ lv o h1 h3 hlv ho
      have hl : lv.l = p.1 := by
        have := congrArg (·[j]?) q5
        simp only [List.getElem?_map, h1, hlv, Option.map_some, Option.some.injEq] at this
        exact this
      obtain ⟨a1, a2⟩ := leaf_lt h5
      rcases hr with ⟨hs, _⟩ | ⟨c', o', _, _, _, _, _, _, _, _, k1, k2, _⟩
      · rw [hl, h2] at hs; cases hs
      · injection k1 with k1; subst k1; subst k2
        exact .inr ⟨i, l, j, c, o', _, ls, as, vo, hT, ho, e1, e2, e4, hj', rfl, rfl, rfl, a1, a2⟩
  have hfit : ∀ u ∈ U.flatten, (u.news = [] ∨ u.r < (s.app fs).ro.length) ∧ u.lo + u.news.length ≤ ((s.app fs).root u.r).ls.length := by
    intro u hu
    rw [hfr.same.len, (hfr.same.box u.r).2.2]
    rcases hcls u hu with ⟨i, ls, vo, hT, hUi, he, hvl, hb, hl⟩ | ⟨i, l, j, c, o, g', ls, as, vo, hT, hl, e1, e2, e3, hr, q1, q2, q3, q4, q5⟩
    · refine ⟨.inr (root_lt hb), ?_⟩
      rw [hl, he]
      simp [newLeaves_len v ls vo hvl]
    · rw [q1, q2, q3]
      exact ⟨.inr q4, q5⟩
  obtain ⟨hsame2, hleaf2⟩ := ups_same U.flatten (s.app fs) hfit
  rw [app_append, app_append]
  generalize s.app fs = s1 at h1 hfr hfit hsame2 hleaf2 hv1
  generalize s1.app (upsW U.flatten) = s2 at hsame2 hleaf2
  -- what covers a leaf
  have hcov : ∀ u ∈ U.flatten, ∀ r j, r = u.r ∧ u.lo ≤ j ∧ j < u.lo + u.news.length → ∃ c, argKey T c = some (.lf r j) := by
    intro u hu r j hc
    rcases hcls u hu with ⟨i, ls, vo, hT, hUi, he, hvl, hb, hl⟩ | ⟨i, l, jj, c, o, g', ls, as, vo, hT, hl, e1, e2, e3, hr, q1, q2, q3, q4, q5⟩
    · exact ⟨.lf i j, by rw [hc.1]; simp [argKey, hT]⟩
    · have : j = c.j := by omega
      subst this
      exact ⟨.lf i jj, by rw [hc.1, q1]; simp [argKey, hT, hl]⟩
  have hun : ∀ (r j : Nat), (∀ c, argKey T c ≠ some (.lf r j)) → s2.leaf r j = s1.leaf r j := by
    intro r j hn
    rw [hleaf2]
    exact fold_out r j _ _ fun u hu hc => by
      obtain ⟨c, hk⟩ := hcov u hu r j hc
      exact hn c hk
  -- the world after
  have hio : ∀ k, ∀ b ∈ argOm T W.om k, ∃ a, argKey T k = some a ∧ b ∈ W.om a := fun k b hb => argOm_some hh hb
  have hfz1 : ∀ b, W1.fz b → b < W.w.heap.size ∧ ∀ k, b ∉ argOm T W.om k := fun b hb => ⟨hin.fz b (hfr.fz b hb), fun k hk => (hin.own k b hk).1 (hfr.fz b hb)⟩
  have hfar : ∀ k, (∀ c, argKey T c ≠ some k) → ∀ b ∈ W1.om k, b < W.w.heap.size ∧ ∀ c, b ∉ argOm T W.om c := by
    intro k hk b hb
    have hb0 := hfr.sub k b hb
    refine ⟨(h.sep.own k b hb0).2.1, fun c hc => ?_⟩
    obtain ⟨a, ha, hb1⟩ := hio c b hc
    exact h.sep.disj k a (fun e => hk c (e ▸ ha)) b hb0 hb1
  -- a variable that was handed
  have hboxT : ∀ {i r : Nat}, T[i]? = some (.box r) → ∃ (ls : List (L × Nat)) (vo : List Lv) (arr : Array Value) (T' : TypeId) (fr : Nat × Nat), (s.root r).ls.length = ls.length ∧ vo.length = ls.length ∧ w'.heap[W1.bk r]? = some (.cells arr T' fr) ∧ (∀ j, j < arr.size → ¬(fr.1 ≤ j ∧ j < fr.2)) ∧ arr.size = ls.length ∧
      (∀ (j : Nat) (p : L × Nat) (lv : Lv), ls[j]? = some p → vo[j]? = some lv → ∃ y, arr[j]? = some y ∧ lv.l.rd p.2 w' fzB y lv.x (om' (.lf i j))) ∧ ∀ j, s2.leaf r j = if j < ls.length then nth .bad (newLeaves v ls vo) j else .bad := by
    intro i r hT
    obtain ⟨pm, av, u', vs, vo, uo, e1, e2, e3, e4, e5, e6, e7, e8⟩ := htg hT
    cases pm with
    | val g' ls => cases e6.1
    | fn f => cases e6.1
    | row g' ls => obtain ⟨_, _, _, q, _⟩ := e6; cases q
    | box ls =>
      obtain ⟨r', ver', q3, q4, hbx, hlen, _⟩ := e6
      injection q4 with q4; subst q4
      obtain ⟨r2, ver2, q5, q6⟩ := e7
      rw [q5] at q3
      injection q3 with _ q3; injection q3 with q3; injection q3 with q3
      subst q3; subst q6
      have hvl : vo.length = ls.length := by simpa [PM.outs] using e8.len
      obtain ⟨b1, b2, arr, T', fr, b3, b4, b5, b6⟩ := e8
      have hbk : argBk T W.bk i = W1.bk r2 := by rw [hfr.bk]; simp [argBk, hT]
      rw [hbk] at b3
      refine ⟨ls, vo, arr, T', fr, hlen, hvl, b3, b4, b5, b6, fun j => ?_⟩
      have hnl := newLeaves_len v ls vo hvl
      split
      · rename_i hj
        rw [hleaf2]
        refine fold_in r2 j U.flatten _ (fun u hu hc => ?_) (.inr ⟨⟨r2, 0, newLeaves v ls vo⟩, List.mem_flatten.2 ⟨_, List.mem_of_getElem? e5, List.mem_singleton_self _⟩, rfl, Nat.zero_le _, by rw [hnl]; omega⟩)
        rcases hcls u hu with ⟨i', ls', vo', hT', hUi, he, _⟩ | ⟨i', l, jj, c, o, g', ls', as, vo', hT', hl, _, _, _, hr, q1, q2, q3, _⟩
        · have hii : Key.blk i' = .blk i := argKey_inj hh.nodup (a := .blk r2) (by rw [hc.1]; simp [argKey, hT']) (by simp [argKey, hT])
          injection hii with hii; subst hii
          rw [e5] at hUi; injection hUi with hUi; injection hUi with hUi; subst hUi
          simp
        · have : j = c.j := by omega
          subst this
          have hii : Key.lf i' jj = .lf i c.j := argKey_inj hh.nodup (a := .lf r2 c.j) (by rw [hc.1, q1]; simp [argKey, hT', hl]) (by simp [argKey, hT])
          injection hii with hii; subst hii
          rw [hT] at hT'; cases hT'
      · rename_i hj
        unfold St.leaf
        rw [nth_ge]
        rw [(hsame2.box r2).2.2, (hfr.same.box r2).2.2, hlen]; omega
  -- a row that was lent
  have hrowT : ∀ {i jj : Nat} {l : List (Option (Loc × List Nat))} {c : Loc} {o : List Nat}, T[i]? = some (.row l) → l[jj]? = some (some (c, o)) → ∃ (q : List Nat) (ver gen : Nat) (t t0 : TypeId) (e : Ls) (xs xs' : List e.D) (d0 : Nat) (u : Value), s.leaf c.r c.j = .arr ver gen t e xs d0 ∧ s2.leaf c.r c.j = .arr ver v t0 e xs' d0 ∧ W1.cv c.r c.j = some u ∧ RowRd e d0 w' fzB u xs' q ∧ Back (W.om (.lf c.r c.j)) o (om' (.lf i jj)) q := by
    intro i jj l c o hT hl
    obtain ⟨pm, av, u', vs, vo, uo, e1, e2, e3, e4, e5, e6, e7, e8⟩ := htg hT
    cases pm with
    | val g' ls => cases e6.1
    | fn f => cases e6.1
    | box ls => obtain ⟨_, _, _, q, _⟩ := e6; cases q
    | row g' ls =>
      obtain ⟨g2, ls2, as, u2, vs2, p, lv, y, f1, f2, f3, f4, f5, f6, f7, f8, f9, f10, hr⟩ := hh.rowT hT hl
      rw [e1] at f1; injection f1 with f1; injection f1 with f1 f1'; subst f1; subst f1'
      rw [e2] at f2; injection f2 with f2; subst f2
      rw [e3] at f3; injection f3 with f3; subst f3
      obtain ⟨g3, as3, q8, q9⟩ := e7
      injection q8 with q8 q8'; subst q8; subst q8'
      obtain ⟨u, hu, hru⟩ := q9.2 jj p f5 f8
      have hru' := hru
      obtain ⟨p', c', lo, ver, gen, t0, e0, xs0, d0, F, h1', h2', h3', h4', h5', h6', hue⟩ := hru
      rw [f5] at h1'; injection h1' with h1'; subst h1'
      rw [f6] at h3'; injection h3' with h3'; injection h3' with h3'; subst h3'
      have hk : argKey T (.lf i jj) = some (.lf c.r c.j) := by simp [argKey, hT, hl]
      have hleaf : s2.leaf c.r c.j = .arr ver v t0 e0 (F xs0) d0 := by
        rw [hleaf2]
        have hself : nth .bad u.news (c.j - u.lo) = .arr ver v t0 e0 (F xs0) d0 := by rw [hue]; simp [nth]
        refine fold_in c.r c.j U.flatten _ (fun u2 hu2 hc => ?_) (.inr ⟨u, List.mem_flatten.2 ⟨_, List.mem_of_getElem? e5, hu⟩, by rw [hue]; simp⟩)
        rcases hcls u2 hu2 with ⟨i', ls', vo', hT', hUi, he, _⟩ | ⟨i', l', j', c', o', g', ls', as', vo', hT', hl', g1, g2, g3, hr', q1, q2, q3, _⟩
        · have hii : Key.lf i' c.j = .lf i jj := argKey_inj hh.nodup (a := .lf c.r c.j) (by rw [hc.1]; simp [argKey, hT']) hk
          injection hii with hii; subst hii
          rw [hT] at hT'; cases hT'
        · have hcj : c.j = c'.j := by omega
          have hii : Key.lf i' j' = .lf i jj := argKey_inj hh.nodup (a := .lf c.r c.j) (by rw [hc.1, q1, hcj]; simp [argKey, hT', hl']) hk
          injection hii with hii hjj; subst hii; subst hjj
          rw [e1] at g1; injection g1 with g1; injection g1 with g1 g1'; subst g1; subst g1'
          rw [e2] at g2; injection g2 with g2; injection g2 with g2 g2'; subst g2'
          rw [e4] at g3; injection g3 with g3; subst g3
          rw [← hr'.uniq hru'] at hself
          exact hself
      -- what comes back
      obtain ⟨m1, m2, m3⟩ := (show RArg w' fzB _ ls u' vo (fun j => om' (.lf i j)) from e8)
      obtain ⟨y', hy', hro⟩ := m3 jj p lo f5 h4'
      rw [f10] at hy'; injection hy' with hy'; subst hy'
      rcases hr with ⟨_, k0, _⟩ | ⟨c2, o2, gen2, t2, e2', xs2, hh2, t', e', ys, k1, k2, k3, k4, k5, k6, k7, k8, k9, k10⟩
      · cases k0
      · injection k1 with k1; subst k1
        injection k2 with k2; injection k2 with k2 k2'; subst k2'
        rw [h5'] at k3; injection k3 with a1 a2 a3 a4 a5 a6
        subst a1; subst a2; subst a3; subst a4
        have a5 := eq_of_heq a5
        subst a5
        obtain ⟨uu, huu, hrd⟩ := (h.roots c.r).row h5'
        rw [k5] at huu; injection huu with huu; subst huu
        rw [a6] at hrd
        obtain ⟨t3, fn, zs, po, n1, n2, n3, n4, n5⟩ := lend c.p h6' hrd k6 k4 (h.sep.nodup _)
        obtain ⟨z1, z2⟩ := n2.uniq k8
        subst z1; subst z2
        have hlo : lo.l = .sl t3 e' ∧ ∃ ys', HEq lo.x ys' ∧ fn zs = ys' := by
          unfold putL at n1
          split at n1
          · rename_i yy hyy
            obtain ⟨b1, b2⟩ := L.cast_some hyy
            injection n1 with n1
            refine ⟨b1, yy, ?_, by rw [← n1]⟩
            obtain ⟨ll, xx⟩ := lo
            dsimp only at b1 b2 ⊢
            subst b1
            exact heq_of_eq b2
          · cases n1
        obtain ⟨hlo1, ys', hlo2, hlo3⟩ := hlo
        have hrd' : RowRd e' p.2 w' fzB y (fn zs) (om' (.lf i jj)) := by
          obtain ⟨ll, xx⟩ := lo
          dsimp only at hlo1 hlo2 hro
          subst hlo1
          have := eq_of_heq hlo2
          subst this
          rw [hlo3]; exact hro
        obtain ⟨q, hq1, hq2⟩ := n5 w' fzB (om' (.lf i jj)) hrd' {
          nd := co.nodup _
          new := fun b hb hbo => by
            rcases (co.own _ b hb).2.2 with hge | ⟨k0, hk0⟩
            · have := (h.sep.own _ b hbo).2.1; omega
            · obtain ⟨a, ha, hba⟩ := hio k0 b hk0
              have : a = .lf c.r c.j := Classical.byContradiction fun hne => h.sep.disj a _ hne b hba hbo
              subst this
              have := argKey_inj hh.nodup ha hk
              subst this
              have e9 : argOm T W.om (.lf i jj) = po := by simp [argOm, hT, hl]
              rw [← e9]; exact hk0
          rest := fun b hb => by
            refine co.frame b ?_ fun k0 hk0 => ?_
            · rcases hb with hb | hb
              · exact (h.sep.own _ b hb.1).2.1
              · exact (h.sep.fz b hb).1
            · rcases hb with hb | hb
              · obtain ⟨a, ha, hba⟩ := hio k0 b hk0
                have : a = .lf c.r c.j := Classical.byContradiction fun hne => h.sep.disj a _ hne b hba hb.1
                subst this
                have := argKey_inj hh.nodup ha hk
                subst this
                have e9 : argOm T W.om (.lf i jj) = po := by simp [argOm, hT, hl]
                rw [e9] at hk0
                exact hb.2 hk0
              · exact (hin.own k0 b hk0).1 (.inl hb)
          fz := fun b hb => hup b (hfr.up b hb) }
        exact ⟨q, _, _, _, t0, e0, xs0, F xs0, d0, hh2, h5', hleaf, by rw [hfr.cv]; exact k5, by rw [a6]; exact hq1, hq2⟩
  -- where what is owned comes from
  have hq0 : ∀ c, ∃ q : List Nat, ∀ k, argKey T c = some k → q.Nodup ∧ (∀ b ∈ q, b ∈ om' c ∨ (b ∈ W1.om k ∧ b < W.w.heap.size ∧ ∀ c', b ∉ argOm T W.om c')) ∧ (∀ r, k = .blk r → q = om' c) ∧
      (∀ i j r, c = .lf i j → T[i]? = some (.box r) → q = if j < (s.root r).ls.length then om' c else []) ∧
      (∀ i j l cc o, c = .lf i j → T[i]? = some (.row l) → l[j]? = some (some (cc, o)) → ∃ (ver gen : Nat) (t t0 : TypeId) (e : Ls) (xs xs' : List e.D) (d0 : Nat) (u : Value), s.leaf cc.r cc.j = .arr ver gen t e xs d0 ∧ s2.leaf cc.r cc.j = .arr ver v t0 e xs' d0 ∧ W1.cv cc.r cc.j = some u ∧ RowRd e d0 w' fzB u xs' q) := by
    intro c
    cases hk : argKey T c with
    | none => exact ⟨[], fun k hk' => by cases hk'⟩
    | some k =>
      cases c with
      | fl n => cases hk
      | blk i =>
        obtain ⟨r, rfl, hT⟩ := argKey_blk hk
        refine ⟨om' (.blk i), fun k hk' => ?_⟩
        injection hk' with hk'; subst hk'
        exact ⟨co.nodup _, fun b hb => .inl hb, fun _ _ => rfl, fun _ _ _ e => by (cases e), fun _ _ _ _ _ e => by (cases e)⟩
      | lf i j =>
        rcases argKey_lf hk with ⟨r, rfl, hT⟩ | ⟨l, cc, o, rfl, hT, hl⟩
        · refine ⟨if j < (s.root r).ls.length then om' (.lf i j) else [], fun k hk' => ?_⟩
          injection hk' with hk'; subst hk'
          refine ⟨?_, ?_, fun _ e => by (cases e), ?_, ?_⟩
          · split
            · exact co.nodup _
            · exact List.nodup_nil
          · intro b hb
            split at hb
            · exact .inl hb
            · cases hb
          · intro i' j' r' e hT'
            injection e with e1 e2; subst e1; subst e2
            rw [hT] at hT'; injection hT' with hT'; injection hT' with hT'; subst hT'
            rfl
          · intro i' j' l' cc' o' e hT'
            injection e with e1 e2; subst e1; subst e2
            rw [hT] at hT'; cases hT'
        · obtain ⟨q, ver, gen, t, t0, e, xs, xs', d0, u, p1, p2, p3, p4, p5, p6⟩ := hrowT hT hl
          refine ⟨q, fun k hk' => ?_⟩
          injection hk' with hk'; subst hk'
          have e9 : argOm T W.om (.lf i j) = o := by simp [argOm, hT, hl]
          refine ⟨p5, fun b hb => ?_, fun _ e => by (cases e), ?_, ?_⟩
          · rcases p6 b hb with hb | ⟨hb1, hb2⟩
            · exact .inl hb
            · refine .inr ⟨by rw [hfr.om _ _ (hh.root hk)]; exact hb1, (h.sep.own _ b hb1).2.1, fun c' hc' => ?_⟩
              obtain ⟨a, ha, hba⟩ := hio c' b hc'
              have : a = .lf cc.r cc.j := Classical.byContradiction fun hne => h.sep.disj a _ hne b hba hb1
              subst this
              have := argKey_inj hh.nodup ha hk
              subst this
              rw [e9] at hc'
              exact hb2 hc'
          · intro i' j' r' e hT'
            injection e with e1 e2; subst e1; subst e2
            rw [hT] at hT'; cases hT'
          · intro i' j' l' cc' o' e hT' hl'
            injection e with e1 e2; subst e1; subst e2
            rw [hT] at hT'; injection hT' with hT'; injection hT' with hT'; subst hT'
            rw [hl] at hl'; injection hl' with hl'; injection hl' with hl'; injection hl' with q1 q2; subst q1
            exact ⟨ver, gen, t, t0, e, xs, xs', d0, u, p1, p2, p3, p4⟩
  obtain ⟨qf, hqf⟩ := Classical.axiomOfChoice hq0
  let chb : Nat → Prop := fun r => ∃ i : Nat, T[i]? = some (.box r)
  let chk : Nat → Nat → Prop := fun r j => ∃ c, argKey T c = some (.lf r j)
  let newcv : Nat → Nat → Option Value := fun r j => match w'.heap[W1.bk r]? with
    | some (.cells arr _ _) => arr[j]?
    | _ => none
  open Classical in
  let W2 : Wd := {
    w := w'
    fz := fzB
    cv := fun r j => if chb r then newcv r j else W1.cv r j
    bk := W1.bk
    om := srcOm T W1.om qf fun n => om' (.fl n) }
  have hW2om : ∀ k, W2.om k = srcOm T W1.om qf (fun n => om' (.fl n)) k := fun _ => rfl
  have hflom : ∀ k, W2.om (.fl k) = om' (.fl k) := fun k => rfl
  have hW2t : ∀ {c k}, argKey T c = some k → W2.om k = qf c := fun hk => srcOm_tg hh.nodup hk
  have hW2n : ∀ {k}, (∀ c, argKey T c ≠ some k) → (∀ n, k ≠ .fl n) → W2.om k = W1.om k := fun hk hn => srcOm_no hk hn
  have hsrc : ∀ k, ∀ b ∈ W2.om k, (∃ c, (argKey T c = some k ∨ ∃ n, k = .fl n ∧ c = .fl n) ∧ b ∈ om' c) ∨ (b ∈ W1.om k ∧ b < W.w.heap.size ∧ ∀ c, b ∉ argOm T W.om c) := by
    intro k b hb
    by_cases hk : ∃ c, argKey T c = some k
    · obtain ⟨c, hk⟩ := hk
      rw [hW2t hk] at hb
      rcases (hqf c k hk).2.1 b hb with hb | hb
      · exact .inl ⟨c, .inl hk, hb⟩
      · exact .inr hb
    · have hk : ∀ c, argKey T c ≠ some k := fun c hc => hk ⟨c, hc⟩
      by_cases hn : ∃ n, k = .fl n
      · obtain ⟨n, rfl⟩ := hn
        exact .inl ⟨.fl n, .inr ⟨n, rfl, rfl⟩, hb⟩
      · rw [hW2n hk fun n e => hn ⟨n, e⟩] at hb
        exact .inr ⟨hb, hfar k hk b hb⟩
  have hnfz : ∀ c, ∀ b ∈ om' c, ¬ fzB b := by
    intro c b hb hz
    obtain ⟨q1, q2, q3⟩ := co.own c b hb
    rcases hdown b hz with hz | ⟨hz, hseen⟩
    · obtain ⟨p1, p2⟩ := hfz1 b hz
      rcases q3 with q3 | ⟨k0, q3⟩
      · omega
      · exact p2 k0 q3
    · exact q1 hz
  have hnot : ∀ b, (b < W.w.heap.size ∧ ∀ c, b ∉ argOm T W.om c) → ∀ c, b ∉ om' c := by
    intro b hb c hc
    rcases (co.own c b hc).2.2 with q | ⟨k0, q⟩
    · omega
    · exact hb.2 k0 q
  have hsep : Sep E W2 := {
    nodup := by
      intro k
      by_cases hk : ∃ c, argKey T c = some k
      · obtain ⟨c, hk⟩ := hk
        rw [hW2t hk]; exact (hqf c k hk).1
      · have hk : ∀ c, argKey T c ≠ some k := fun c hc => hk ⟨c, hc⟩
        by_cases hn : ∃ n, k = .fl n
        · obtain ⟨n, rfl⟩ := hn
          exact co.nodup _
        · rw [hW2n hk fun n e => hn ⟨n, e⟩]
          exact h1.sep.nodup _
    disj := by
      intro k k' hne b hb hb'
      rcases hsrc k b hb with ⟨c, hc, hb⟩ | ⟨hb, hfb⟩
      · rcases hsrc k' b hb' with ⟨c', hc', hb'⟩ | ⟨hb', hfb'⟩
        · refine co.disj c c' (fun e => hne ?_) b hb hb'
          subst e
          rcases hc with q | ⟨n, q1, q2⟩
          · rcases hc' with q' | ⟨n', q1', q2'⟩
            · rw [q] at q'; injection q'
            · subst q2'; cases q
          · rcases hc' with q' | ⟨n', q1', q2'⟩
            · subst q2; cases q'
            · rw [q2] at q2'; injection q2' with q2'; rw [q1, q1', q2']
        · exact hnot b hfb' c hb
      · rcases hsrc k' b hb' with ⟨c', hc', hb'⟩ | ⟨hb', hfb'⟩
        · exact hnot b hfb c' hb'
        · exact h1.sep.disj k k' hne b hb hb'
    own := by
      intro k b hb
      rcases hsrc k b hb with ⟨c, hc, hb⟩ | ⟨hb, p1, p2⟩
      · obtain ⟨q1, q2, q3⟩ := co.own c b hb
        refine ⟨hnfz c b hb, q2, ?_⟩
        rcases q3 with q3 | ⟨k0, q3⟩
        · left; have := h.sep.size; omega
        · obtain ⟨a, _, ha⟩ := hio k0 b q3; exact (h.sep.own a b ha).2.2
      · obtain ⟨q1, q2, q3⟩ := h1.sep.own k b hb
        refine ⟨fun hz => ?_, Nat.lt_of_lt_of_le p1 co.size, q3⟩
        rcases hdown b hz with hz | ⟨hz, hseen⟩
        · exact q1 hz
        · rcases (co.fz b hz).2 with h3 | h3 | ⟨k0, h3⟩
          · exact q1 (hseen h3)
          · omega
          · exact p2 k0 h3
    fz := by
      intro b hb
      rcases hdown b hb with hz | ⟨hz, hseen⟩
      · have := h1.sep.fz b hz
        rw [hfr.w] at this
        exact ⟨Nat.lt_of_lt_of_le this.1 co.size, this.2⟩
      · obtain ⟨q1, q2⟩ := co.fz b hz
        refine ⟨q1, ?_⟩
        rcases q2 with q2 | q2 | ⟨k0, q2⟩
        · rcases q2 with q2 | ⟨r, hr, j, q2⟩
          · exact (h.sep.fz b q2).2
          · exact .inr (h.sep.own _ b q2).2.2
        · right; left; have := h.sep.size; omega
        · obtain ⟨a, _, ha⟩ := hio k0 b q2; exact .inr (h.sep.own a b ha).2.2
    frame := by
      intro b hb1 hb2
      refine (co.frame b (by have := h.sep.size; omega) fun k hk => ?_).trans (h.sep.frame b hb1 hb2)
      obtain ⟨a, _, ha⟩ := hio k b hk
      rcases (h.sep.own a b ha).2.2 with q | q
      · omega
      · exact hb2 q
    size := Nat.le_trans h.sep.size co.size
    rest := ⟨co.rest.1.trans h.sep.rest.1, co.rest.2.1.trans h.sep.rest.2.1, co.rest.2.2.trans h.sep.rest.2.2⟩ }
  have hsame12 : Same s s2 := ⟨hsame2.sl.trans hfr.same.sl, hsame2.len.trans hfr.same.len, fun x => ⟨(hsame2.box x).1.trans (hfr.same.box x).1, (hsame2.box x).2.1.trans (hfr.same.box x).2.1, (hsame2.box x).2.2.trans (hfr.same.box x).2.2⟩⟩
  have hcvu : ∀ r, ¬ chb r → ∀ j, W2.cv r j = W1.cv r j := fun r hr j => if_neg hr
  have hcvb : ∀ r, chb r → ∀ j, W2.cv r j = newcv r j := fun r hr j => if_pos hr
  have hnb : ∀ {i j r j0 : Nat} {l : List (Option (Loc × List Nat))} {c : Loc} {o : List Nat}, T[i]? = some (.row l) → l[j]? = some (some (c, o)) → ¬ chb c.r := by
    rintro i j r j0 l c o hT hl ⟨i', hT'⟩
    have hii : Key.lf i' c.j = .lf i j := argKey_inj hh.nodup (a := .lf c.r c.j) (by simp [argKey, hT']) (by simp [argKey, hT, hl])
    injection hii with hii; subst hii
    rw [hT] at hT'; cases hT'
  have hrep2 : Rep E s2 tm W2 := by
    refine h1.multi hv1 hsame2 chk chb (fun r j hn => hun r j fun c hc => hn ⟨c, hc⟩) hcvu (fun r j ⟨i, hT⟩ => ⟨.lf i j, by simp [argKey, hT]⟩) (fun _ => rfl) ?_ ?_ ?_ (fun b hb => hup b hb) ?_ hsep ?_ ?_
    · intro r j hn
      exact hW2n (fun c hc => hn ⟨c, hc⟩) fun n e => by cases e
    · intro r
      by_cases hk : ∃ c, argKey T c = some (.blk r)
      · obtain ⟨c, hk⟩ := hk
        rw [hW2t hk, (hqf c _ hk).2.2.1 r rfl]
        cases c with
        | fl c => cases hk
        | lf i j => rcases argKey_lf hk with ⟨r', e, _⟩ | ⟨l, c, o, e, _⟩ <;> cases e
        | blk i =>
          obtain ⟨r', e, hT⟩ := argKey_blk hk
          injection e with e; subst e
          rw [co.blk, hfr.omb]
          simp [argOm, hT]
      · exact hW2n (fun c hc => hk ⟨c, hc⟩) fun n e => by cases e
    · intro b hb
      have : b < W.w.heap.size ∧ ∀ k, b ∉ argOm T W.om k := by
        rcases hb with hb | ⟨r, hr, hb⟩ | ⟨r, j, hr, hb⟩
        · exact hfz1 b hb
        · refine hfar (.blk r) (fun c hc => ?_) b hb
          cases c with
          | fl c => cases hc
          | blk i => obtain ⟨r', e, hT⟩ := argKey_blk hc; injection e with e; subst e; exact hr ⟨i, hT⟩
          | lf i j => rcases argKey_lf hc with ⟨r', e, _⟩ | ⟨l, c, o, e, _⟩ <;> cases e
        · exact hfar (.lf r j) (fun c hc => hr ⟨c, hc⟩) b hb
      show w'.heap[b]? = _
      rw [co.frame b this.1 this.2, hfr.w]
    · intro r j ver gen t e xs d0 hc hl hne
      obtain ⟨c, hk⟩ := hc
      cases c with
      | fl c => cases hk
      | blk i => obtain ⟨r', e, hT⟩ := argKey_blk hk; cases e
      | lf i jj =>
        rcases argKey_lf hk with ⟨r', e, hT⟩ | ⟨l, cc, o, e, hT, hlj⟩
        · injection e with e1 e2; subst e1; subst e2
          obtain ⟨ls, vo, arr, T', fr, c1, c2, c3, c4, c5, c6, c7⟩ := hboxT hT
          rw [c7] at hl
          split at hl
          · rename_i hj
            have hj2 : j < vo.length := by omega
            rw [nth_of, newLeaves_get v ls vo j ls[j] vo[j] (List.getElem?_eq_getElem hj) (List.getElem?_eq_getElem hj2)] at hl
            exact absurd (newLeaf_ver hl).1 hne
          · cases hl
        · injection e with e1 e2; subst e1; subst e2
          obtain ⟨_, ver0, gen0, t1, t0, e0, xs0, xs', d1, u, c1, c2, c3, c4⟩ := hrowT hT hlj
          rw [c2] at hl
          injection hl with f1 f2 f3 f4 f5 f6
          subst f1; subst f2; subst f4
          exact ⟨hnb hT hlj (r := 0) (j0 := 0), gen0, t1, xs0, d1, by rw [hfr.leaf _ _ (hh.root hk)]; exact c1, fun hg => absurd rfl hg⟩
    · intro hturn r j hc
      obtain ⟨c, hk⟩ := hc
      cases c with
      | fl c => cases hk
      | blk i => obtain ⟨r', e, hT⟩ := argKey_blk hk; cases e
      | lf i jj =>
        rw [hW2t hk]
        obtain ⟨_, _, _, hqb, hqr⟩ := hqf _ _ hk
        rcases argKey_lf hk with ⟨r', e, hT⟩ | ⟨l, cc, o, e, hT, hlj⟩
        · injection e with e1 e2; subst e1; subst e2
          obtain ⟨ls, vo, arr, T', fr, c1, c2, c3, c4, c5, c6, c7⟩ := hboxT hT
          rw [hqb i j r rfl hT, c1]
          have hcv : W2.cv r j = arr[j]? := by
            rw [hcvb r ⟨i, hT⟩ j]
            show (match w'.heap[W1.bk r]? with
              | some (.cells arr _ _) => arr[j]?
              | _ => none) = _
            rw [c3]
          rw [c7, hcv]
          by_cases hj : j < ls.length
          · rw [if_pos hj, if_pos hj]
            have hj2 : j < vo.length := by omega
            obtain ⟨y, hy, hr⟩ := c6 j ls[j] vo[j] (List.getElem?_eq_getElem hj) (List.getElem?_eq_getElem hj2)
            rw [nth_of, newLeaves_get v ls vo j ls[j] vo[j] (List.getElem?_eq_getElem hj) (List.getElem?_eq_getElem hj2), hy]
            exact newLeaf_ok hr
          · rw [if_neg hj, if_neg hj]
            exact ⟨rfl, fun _ _ => trivial⟩
        · injection e with e1 e2; subst e1; subst e2
          obtain ⟨ver0, gen0, t1, t0, e0, xs0, xs', d1, u, c1, c2, c3, c4⟩ := hqr i jj l cc o rfl hT hlj
          rw [c2, hcvu cc.r (hnb hT hlj (r := 0) (j0 := 0)) cc.j]
          exact ⟨u, c3, c4⟩
    · rintro r ⟨i, hT⟩ hbx
      obtain ⟨ls, vo, arr, T', fr, c1, c2, c3, c4, c5, c6, c7⟩ := hboxT hT
      refine ⟨arr, T', fr, c3, c4, ?_, fun j => ?_⟩
      · rw [(hfr.same.box r).2.2, c5, c1]
      · rw [hcvb r ⟨i, hT⟩ j]
        show (match w'.heap[W1.bk r]? with
          | some (.cells arr _ _) => arr[j]?
          | _ => none) = _
        rw [c3]
  have hv2 : NoVer s2 v := by
    refine ⟨fun t => ?_, fun r j => ?_, hv.2.2⟩
    · have : s2.slot t = s.slot t := by show nth _ s2.sl t = _; rw [hsame12.sl]; rfl
      rw [this]; exact hv.1 t
    · by_cases hc : chk r j
      · obtain ⟨c, hk⟩ := hc
        cases c with
        | fl c => cases hk
        | blk i => obtain ⟨r', e, hT⟩ := argKey_blk hk; cases e
        | lf i jj =>
          rcases argKey_lf hk with ⟨r', e, hT⟩ | ⟨l, cc, o, e, hT, hlj⟩
          · injection e with e1 e2; subst e1; subst e2
            obtain ⟨ls, vo, arr, T', fr, c1, c2, c3, c4, c5, c6, c7⟩ := hboxT hT
            rw [c7]
            split
            · rename_i hj
              have hj2 : j < vo.length := by omega
              rw [nth_of, newLeaves_get v ls vo j ls[j] vo[j] (List.getElem?_eq_getElem hj) (List.getElem?_eq_getElem hj2)]
              generalize vo[j] = lv
              obtain ⟨l, x⟩ := lv
              cases l with
              | sl t e => cases ls[j].2 with
                | zero => right; simp [newLeaf, LA.vers]
                | succ m => left; rfl
              | _ => right; simp [newLeaf, LA.vers]
            · right; simp [LA.vers]
          · injection e with e1 e2; subst e1; subst e2
            obtain ⟨_, ver0, gen0, t1, t0, e0, xs0, xs', d1, u, c1, c2, c3, c4⟩ := hrowT hT hlj
            rw [c2]; exact .inl rfl
      · rw [hun r j fun c hc' => hc ⟨c, hc'⟩]; exact hv1.2.1 r j
  have hown' : ∀ (k : Nat) (b : LA), own[k]? = some b → ∃ y, ys[k]? = some y ∧ OwnLeaf w' fzB v b y (om' (.fl k)) := fun k b hk => by have := hown k b hk; rwa [Nat.zero_add] at this
  let oj : Nat → List Nat := fun k => if k < own.length then om' (.fl k) else []
  have hoj : ∀ k, ∀ b ∈ oj k, b ∈ om' (.fl k) := by
    intro k b hb
    have hb : b ∈ (if k < own.length then om' (.fl k) else []) := hb
    split at hb
    · exact hb
    · cases hb
  generalize hav : slotOf bs = av
  refine ⟨placeW W2 w' [] d (fun k => ys[k]?) 0 [] oj, rfl, ?_⟩
  refine hrep2.place2 hv2 (us := []) hd (x := ⟨false, v, own⟩) (a := av) (u := r) (w' := w') (cvd := fun k => ys[k]?) (bkd := 0) (ob := []) (oj := oj) rfl ?_ (fun _ _ => rfl) (fun b h1 h2 => rfl) (Nat.le_refl _) ⟨rfl, rfl, rfl⟩ List.nodup_nil ?_ (fun _ _ hb => by cases hb) ?_ ?_ ?_ ?_
  · intro j ver gen t e xs dd hl
    rw [nth_of] at hl
    cases hq : own[j]? with
    | none => rw [hq] at hl; cases hl
    | some b =>
      rw [hq] at hl
      obtain ⟨y, _, ho⟩ := hown' j b hq
      have hl : b = .arr ver gen t e xs dd := hl
      subst hl
      exact ho.1
  · intro j
    show (if j < own.length then om' (.fl j) else []).Nodup
    split
    · exact co.nodup _
    · exact List.nodup_nil
  · intro i j hij b hb hb'
    exact co.disj (.fl i) (.fl j) (fun e => hij (by injection e)) b (hoj i b hb) (hoj j b hb')
  · intro b hb
    rcases hb with hb | ⟨j, hb⟩
    · cases hb
    · exact .inl ⟨.fl j, fun hk => hk, by rw [hflom]; exact hoj j b hb⟩
  · intro hturn hroot
    refine ⟨fun j => ?_, ?_⟩
    · have e1 : (placeW W2 w' [] d (fun k => ys[k]?) 0 [] oj).cv d j = ys[j]? := by simp [placeW]
      have e2 : (placeW W2 w' [] d (fun k => ys[k]?) 0 [] oj).om (.lf d j) = oj j := by simp [placeW]
      rw [e1, e2]
      show LeafOk _ _ (nth LA.bad own j) _ _
      rw [nth_of]
      cases hq : own[j]? with
      | none =>
        have hj : ¬ j < own.length := by have := List.getElem?_eq_none_iff.1 hq; omega
        have : oj j = [] := if_neg hj
        rw [this]
        exact ⟨rfl, fun _ _ => trivial⟩
      | some b =>
        have hj : j < own.length := (List.getElem?_eq_some_iff.1 hq).1
        have : oj j = om' (.fl j) := if_pos hj
        rw [this]
        obtain ⟨y, hy, ho⟩ := hown' j b hq
        show LeafOk _ _ b _ _
        rw [hy]
        cases b with
        | arr ver gen t e xs m => exact ⟨y, rfl, ho.2.2⟩
        | bad => exact ⟨ho, fun _ _ => trivial⟩
        | _ => exact ho.elim
    · show (if false = true then _ else _)
      rw [if_neg (by simp)]
      simp [placeW]
  · intro hturn hroot
    have hvk := hvok (s2.app (gone [] ++ [.root d ⟨false, v, own⟩, .slot d av])) (placeW W2 w' [] d (fun k => ys[k]?) 0 [] oj) rfl rfl (fun k hk => by
      rw [Nat.zero_add]
      refine ⟨?_, by simp [placeW]⟩
      unfold St.leaf
      rw [hroot])
    rw [co.res]
    generalize s2.app (gone [] ++ [.root d ⟨false, v, own⟩, .slot d av]) = s3 at hvk
    generalize placeW W2 w' [] d (fun k => ys[k]?) 0 [] oj = W3 at hvk
    rw [← hav]
    have htup : ∀ {bs : List (Bool × List LA)} {rv : List Value}, bs.length = rv.length → (∀ (i : Nat) (p : Bool × List LA) (u : Value), bs[i]? = some p → rv[i]? = some u → Vok s3 W3 p.1 p.2 u) → AVok s3 W3 (.tup bs) (.tuple rv.toArray) := by
      intro bs rv hl hh
      refine ⟨rv.toArray, rfl, by simp [hl], fun j p hj => ?_⟩
      have hlt : j < rv.length := by rw [← hl]; exact (List.getElem?_eq_some_iff.1 hj).1
      exact ⟨rv[j], by simp [hlt], hh j p rv[j] hj (List.getElem?_eq_getElem hlt)⟩
    match bs, rv, hbl, hvk with
    | [], [], hbl, hvk => exact htup hbl hvk
    | [(g', as)], [u], hbl, hvk => exact hvk 0 (g', as) u rfl rfl
    | p :: q :: bs, u :: u' :: rv, hbl, hvk => exact htup hbl hvk
end
end Go.Ev

namespace Go.Ev
set_option linter.unusedVariables false
set_option linter.unusedSimpArgs false

section
variable {P : Program} {E : Ent} {s : St} {W : Wd} {tm : Array Value} {v : Nat}

/-- The world behind such a call: the new block lies under a key that nothing keeps. -/
def madeW (W : Wd) (w' : World) (fz' : Nat → Prop) (b0 : Nat) : Wd :=
  { W with w := w', fz := fun x => W.fz x ∨ fz' x, om := fun k => match k with
      | .fl n => if n = 0 then [b0] else []
      | k => W.om k }

theorem Rep.made1 (h : Rep E s tm W) (hv : NoVer s v) {b0 : Nat} {w' : World} {fz' : Nat → Prop}
    (hold : ∀ b, b < W.w.heap.size → w'.heap[b]? = W.w.heap[b]?) (hsize : W.w.heap.size ≤ w'.heap.size) (hrest : w'.os = W.w.os ∧ w'.tape = W.w.tape ∧ w'.output = W.w.output)
    (hfz : ∀ x, fz' x → x < w'.heap.size ∧ (W.fz x ∨ W.w.heap.size ≤ x)) (hb : W.w.heap.size ≤ b0 ∧ b0 < w'.heap.size ∧ ¬ fz' b0) : Rep E s tm (madeW W w' fz' b0) := by
  have hs := h.sep
  have hmem : ∀ k b, b ∈ (madeW W w' fz' b0).om k → (b ∈ W.om k ∧ ∀ n, k ≠ .fl n) ∨ (k = .fl 0 ∧ b = b0) := by
    intro k b hk
    cases k with
    | fl n =>
      have hk : b ∈ (if n = 0 then [b0] else ([] : List Nat)) := hk
      by_cases hn : n = 0
      · rw [if_pos hn] at hk; exact .inr ⟨by rw [hn], List.mem_singleton.1 hk⟩
      · rw [if_neg hn] at hk; cases hk
    | blk r => exact .inl ⟨hk, by simp⟩
    | lf r j => exact .inl ⟨hk, by simp⟩
  have hturn : Turn v s s W (madeW W w' fz' b0) := {
    fz := fun b hb => .inl hb
    fzm := fun b hb => hold b (hs.fz b hb).1
    leaf := fun r j ver gen t e xs dd hl hne => ⟨rfl, gen, t, xs, dd, hl, fun _ => ⟨rfl, fun p h' e' u hc' hn => by
      obtain ⟨u0, hu0, hrd⟩ := (h.roots r).row hl
      rw [hc'] at hu0; injection hu0 with hu0; subst hu0
      exact nav_frame p hrd hn fun b hb => hold b (hb.elim (fun hb => (hs.own _ b hb).2.1) fun hb => (hs.fz b hb).1)⟩⟩
    box := fun r hb hne => ⟨hb, rfl, rfl⟩ }
  refine h.redo hv hturn ?_ h.len1 h.len2 (fun t => .inl ⟨rfl, rfl⟩) fun r => ?_
  · exact {
      nodup := fun k => by
        cases k with
        | fl n =>
          show (if n = 0 then [b0] else ([] : List Nat)).Nodup
          split <;> simp
        | blk r => exact hs.nodup (.blk r)
        | lf r j => exact hs.nodup (.lf r j)
      disj := fun k k' hne b h1 h2 => by
        rcases hmem k b h1 with ⟨h1, n1⟩ | ⟨rfl, rfl⟩ <;> rcases hmem k' b h2 with ⟨h2, n2⟩ | ⟨rfl, h2⟩
        · exact hs.disj k k' hne b h1 h2
        · have := (hs.own k b h1).2.1; omega
        · have := (hs.own k' _ h2).2.1; omega
        · exact hne rfl
      own := fun k b h1 => by
        rcases hmem k b h1 with ⟨h1, _⟩ | ⟨rfl, rfl⟩
        · obtain ⟨a1, a2, a3⟩ := hs.own k b h1
          refine ⟨fun hz => hz.elim a1 fun hz => ?_, Nat.lt_of_lt_of_le a2 hsize, a3⟩
          rcases (hfz b hz).2 with h | h
          · exact a1 h
          · omega
        · refine ⟨fun hz => hz.elim (fun hz => ?_) hb.2.2, hb.2.1, .inl (Nat.le_trans hs.size hb.1)⟩
          have := (hs.fz _ hz).1; omega
      fz := fun b hz => by
        rcases hz with hz | hz
        · obtain ⟨a1, a2⟩ := hs.fz b hz
          exact ⟨Nat.lt_of_lt_of_le a1 hsize, a2⟩
        · obtain ⟨a1, a2⟩ := hfz b hz
          refine ⟨a1, a2.elim (fun h => (hs.fz b h).2) fun h => .inr (.inl (Nat.le_trans hs.size h))⟩
      frame := fun b h1 h2 => (hold b (Nat.lt_of_lt_of_le h1 hs.size)).trans (hs.frame b h1 h2)
      size := Nat.le_trans hs.size hsize
      rest := ⟨hrest.1.trans hs.rest.1, hrest.2.1.trans hs.rest.2.1, hrest.2.2.trans hs.rest.2.2⟩ }
  · obtain ⟨h1, h2⟩ := h.roots r
    refine ⟨fun j => ?_, ?_⟩
    · exact LeafOk.turn hturn (by have := hv.2.1 r j; exact this) (fun b hb => hold b (hs.own _ b hb).2.1) (h1 j)
    · show (if (s.root r).box = true then _ else _)
      split
      · rename_i hb
        rw [if_pos hb] at h2
        obtain ⟨ho', arr', T', fr', hh', a1, a2, a3⟩ := h2
        refine ⟨ho', arr', T', fr', (hold _ ?_).trans hh', a1, a2, a3⟩
        exact (Array.getElem?_eq_some_iff.1 hh').1
      · rename_i hb; rw [if_neg hb] at h2; exact h2

theorem Rep.placeMade (h : Rep E s tm W) (hv : NoVer s v) {d : Nat} (hd : d < tm.size) {bs : List LA} {cs : Array Value} {T : TypeId} {fr : Nat × Nat} {b0 : Nat} {w' : World} {fz' : Nat → Prop}
    (hold : ∀ b, b < W.w.heap.size → w'.heap[b]? = W.w.heap[b]?) (hsize : W.w.heap.size ≤ w'.heap.size) (hrest : w'.os = W.w.os ∧ w'.tape = W.w.tape ∧ w'.output = W.w.output)
    (hfz : ∀ x, fz' x → x < w'.heap.size ∧ (W.fz x ∨ W.w.heap.size ≤ x)) (hb : W.w.heap.size ≤ b0 ∧ b0 < w'.heap.size ∧ ¬ fz' b0) (hcell : w'.heap[b0]? = some (.cells cs T fr)) (hfr : ∀ j, j < cs.size → ¬(fr.1 ≤ j ∧ j < fr.2)) (hlen : cs.size = bs.length)
    (hbs : ∀ (j : Nat) (b : LA), bs[j]? = some b → ∃ (l : L) (x : l.D) (y : Value), b = .sc l x ∧ cs[j]? = some y ∧ l.rd 0 w' fz' y x []) :
    ∃ W', W'.w = w' ∧ Rep E (s.app (ownBox d v bs)) (tm.setIfInBounds d (.pointer (some ⟨b0, 0, none⟩))) W' := by
  have h1 := h.made1 hv hold hsize hrest hfz hb
  have hsc : ∀ j, (∃ (l : L) (x : l.D) (y : Value), nth .bad bs j = .sc l x ∧ cs[j]? = some y ∧ l.rd 0 w' fz' y x []) ∨ nth .bad bs j = .bad := by
    intro j
    rcases Nat.lt_or_ge j bs.length with hj | hj
    · left
      have := hbs j bs[j] (List.getElem?_eq_getElem hj)
      rw [nth_of, List.getElem?_eq_getElem hj]; exact this
    · right; exact nth_ge _ hj
  refine ⟨placeW (madeW W w' fz' b0) w' [] d (fun j => cs[j]?) b0 [b0] (fun _ => []), rfl, ?_⟩
  refine h1.place2 (us := []) hv hd (x := ⟨true, v, bs⟩) (a := one (.ptr d 0 v)) rfl ?_ (fun b _ => rfl) (fun b _ _ => rfl) (Nat.le_refl _) ⟨rfl, rfl, rfl⟩ (List.nodup_cons.2 ⟨by simp, List.nodup_nil⟩) (fun _ => List.nodup_nil) (fun _ _ _ hb => by cases hb) (fun _ _ _ _ hb => by cases hb) ?_ ?_ ?_
  · intro j ver gen t e xs dd hl
    dsimp only at hl
    rcases hsc j with ⟨l, x, y, h1, _⟩ | h1 <;> rw [h1] at hl <;> cases hl
  · intro b hb
    rcases hb with hb | ⟨j, hb⟩
    · simp at hb; subst hb
      exact .inl ⟨.fl 0, id, by simp [madeW]⟩
    · cases hb
  · intro _ _
    refine ⟨fun j => ?_, ?_⟩
    · have e1 : (placeW (madeW W w' fz' b0) w' [] d (fun j => cs[j]?) b0 [b0] (fun _ => [])).cv d j = cs[j]? := by simp [placeW]
      have e2 : (placeW (madeW W w' fz' b0) w' [] d (fun j => cs[j]?) b0 [b0] (fun _ => [])).om (.lf d j) = [] := by simp [placeW]
      rw [e1, e2]
      show LeafOk _ _ (nth LA.bad bs j) _ _
      rcases hsc j with ⟨l, x, y, h1, h2, h3⟩ | h1
      · rw [h1]
        refine ⟨rfl, fun u hu => ?_⟩
        rw [h2] at hu; injection hu with hu; subst hu
        exact L.rd_frame l h3 (fun b _ => rfl) (fun b hb => .inr hb)
      · rw [h1]; exact ⟨rfl, fun _ _ => trivial⟩
    · show (if true = true then _ else _)
      rw [if_pos rfl]
      have hbk : (placeW (madeW W w' fz' b0) w' [] d (fun j => cs[j]?) b0 [b0] (fun _ => [])).bk d = b0 := by simp [placeW]
      refine ⟨by simp [placeW], cs, T, fr, ?_, hfr, hlen, fun j => by simp [placeW]⟩
      rw [hbk]; exact hcell
  · intro _ _
    intro _ _
    have hbk : (placeW (madeW W w' fz' b0) w' [] d (fun j => cs[j]?) b0 [b0] (fun _ => [])).bk d = b0 := by simp [placeW]
    rw [hbk]
end
end Go.Ev

namespace Go.Ev
open Go.Sort (Holds insertionSort)
set_option linter.unusedVariables false
set_option linter.unusedSimpArgs false

section
variable {α β : Type} [Inhabited α] [Inhabited β]
theorem swp_size (d : Array α) (i j : Nat) : (Go.Sort.swp d i j).size = d.size := by simp [Go.Sort.swp]
theorem get_map (f : α → β) (d : Array α) (i : Nat) (hi : i < d.size) : (d.map f)[i]! = f d[i]! := by
  rw [getElem!_pos _ i (by simpa using hi), getElem!_pos d i hi, Array.getElem_map]
theorem swp_map (f : α → β) (d : Array α) (i j : Nat) (hi : i < d.size) (hj : j < d.size) : Go.Sort.swp (d.map f) i j = (Go.Sort.swp d i j).map f := by
  unfold Go.Sort.swp
  rw [get_map f d i hi, get_map f d j hj]
  apply Array.ext_getElem?
  intro k
  simp only [Array.getElem?_setIfInBounds, Array.getElem?_map, Array.size_map, Array.size_setIfInBounds]
  by_cases h1 : j = k
  · by_cases h2 : j < d.size
    · simp [h1, h1 ▸ h2]
    · simp [h1, h1 ▸ h2]
  · by_cases h2 : i = k
    · by_cases h3 : i < d.size
      · simp [h1, h2, h2 ▸ h3]
      · simp [h1, h2, h2 ▸ h3]
    · simp [h1, h2]
theorem insInner_map (f : α → β) (lt : α → α → Bool) (lt' : β → β → Bool) (h : ∀ x y, lt' (f x) (f y) = lt x y) (a : Nat) : ∀ (j : Nat) (d : Array α), j < d.size → Go.Sort.insInner lt' a j (d.map f) = (Go.Sort.insInner lt a j d).map f ∧ (Go.Sort.insInner lt a j d).size = d.size
  | 0, d, _ => ⟨rfl, rfl⟩
  | j + 1, d, hj => by
    simp only [Go.Sort.insInner]
    rw [get_map f d (j + 1) hj, get_map f d j (by omega), h]
    split
    · rw [swp_map f d (j + 1) j hj (by omega)]
      obtain ⟨e1, e2⟩ := insInner_map f lt lt' h a j (Go.Sort.swp d (j + 1) j) (by rw [swp_size]; omega)
      exact ⟨e1, e2.trans (swp_size _ _ _)⟩
    · exact ⟨rfl, rfl⟩
theorem insOuter_lt (lt : α → α → Bool) (a b i : Nat) (d : Array α) (h : i < b) : Go.Sort.insOuter lt a b i d = Go.Sort.insOuter lt a b (i + 1) (Go.Sort.insInner lt a i d) := by
  rw [Go.Sort.insOuter, if_pos h]
theorem insOuter_ge (lt : α → α → Bool) (a b i : Nat) (d : Array α) (h : ¬ i < b) : Go.Sort.insOuter lt a b i d = d := by
  rw [Go.Sort.insOuter, if_neg h]
theorem insOuter_map (f : α → β) (lt : α → α → Bool) (lt' : β → β → Bool) (h : ∀ x y, lt' (f x) (f y) = lt x y) (a b : Nat) : ∀ (n i : Nat) (d : Array α), b - i ≤ n → b ≤ d.size → Go.Sort.insOuter lt' a b i (d.map f) = (Go.Sort.insOuter lt a b i d).map f ∧ (Go.Sort.insOuter lt a b i d).size = d.size
  | 0, i, d, hn, hb => by
    rw [insOuter_ge lt' a b i _ (by omega), insOuter_ge lt a b i _ (by omega)]
    exact ⟨rfl, rfl⟩
  | n + 1, i, d, hn, hb => by
    by_cases hi : i < b
    · rw [insOuter_lt lt' a b i _ hi, insOuter_lt lt a b i _ hi]
      obtain ⟨e1, e2⟩ := insInner_map f lt lt' h a i d (by omega)
      rw [e1]
      obtain ⟨e3, e4⟩ := insOuter_map f lt lt' h a b n (i + 1) (Go.Sort.insInner lt a i d) (by omega) (by rw [e2]; exact hb)
      exact ⟨e3, e4.trans e2⟩
    · rw [insOuter_ge lt' a b i _ hi, insOuter_ge lt a b i _ hi]
      exact ⟨rfl, rfl⟩
theorem insertionSort_map (f : α → β) (lt : α → α → Bool) (lt' : β → β → Bool) (h : ∀ x y, lt' (f x) (f y) = lt x y) (d : Array α) (b : Nat) (hb : b ≤ d.size) : insertionSort lt' (d.map f) 0 b = (insertionSort lt d 0 b).map f ∧ (insertionSort lt d 0 b).size = d.size :=
  insOuter_map f lt lt' h 0 b b 1 d (by omega) hb

theorem putRow_heap (enc : α → Value) (w : World) (blk off : Nat) (d : Array α) {arr : Array Value} {T : TypeId} {fr : Nat × Nat} (h : w.heap[blk]? = some (.cells arr T fr)) : (Go.Sort.putRow enc w blk off d).heap[blk]? = some (.cells (Go.Sort.putCells enc off d arr) T fr) := by
  simp [Go.Sort.putRow, Go.Sort.mapBlock, Array.getElem?_modify, h, Go.Sort.onCells]
theorem putRow_else (enc : α → Value) (w : World) (blk off : Nat) (d : Array α) {b : Nat} (h : b ≠ blk) : (Go.Sort.putRow enc w blk off d).heap[b]? = w.heap[b]? := by
  simp [Go.Sort.putRow, Go.Sort.mapBlock, Array.getElem?_modify, Ne.symm h]
end

section
variable {P : Program} {E : Ent} {s : St} {W : Wd} {o : Oper} {a : Act} {ws : List Wr} {cx : Cx} {v : Nat} {tm : Array Value}

/-- What lies not in the row that is sorted. -/
def Else (W : Wd) (r : Nat) (b : Nat) : Prop := W.fz b ∨ ∃ k, (∀ j, k ≠ .lf r j) ∧ b ∈ W.om k
theorem BoxRd.frame {w w' : World} {fz : Nat → Prop} {ls : List L} {u : Value} {vs : List Lv} (h : BoxRd w fz ls u vs) (hf : ∀ b, fz b → w'.heap[b]? = w.heap[b]?) : BoxRd w' fz ls u vs := by
  obtain ⟨b, arr, T, fr, hu, hz, hh, hs, hm, hr⟩ := h
  exact ⟨b, arr, T, fr, hu, hz, (hf b hz).trans hh, hs, hm, fun j lv hj => let ⟨y, hy, hl⟩ := hr j lv hj; ⟨y, hy, L.rd_frame lv.l hl (fun b hb => hf b (hb.elim (fun hb => by cases hb) id)) fun _ hb => hb⟩⟩
theorem BoxesRd.frame {w w' : World} {fz : Nat → Prop} (hf : ∀ b, fz b → w'.heap[b]? = w.heap[b]?) : ∀ {bs : List (List L)} {us : List Value} {vs : List Lv}, BoxesRd w fz bs us vs → BoxesRd w' fz bs us vs
  | [], [], vs, h => h
  | ls :: bs, u :: us, vs, h => by
    obtain ⟨x, y, e, h1, h2⟩ := h
    exact ⟨x, y, e, h1.frame hf, BoxesRd.frame hf h2⟩
  | [], _ :: _, vs, h => h.elim
  | _ :: _, [], vs, h => h.elim
theorem CapRd.frame {w w' : World} {fz : Nat → Prop} {rv : Value} (hf : ∀ b, fz b → w'.heap[b]? = w.heap[b]?) {c : Cap} {u : Value} {vs : List Lv} (h : CapRd w fz rv c u vs) : CapRd w' fz rv c u vs := by
  cases c with
  | box ls => exact BoxRd.frame h hf
  | clo g bs =>
    obtain ⟨b, T, fr, lb, hu, hz, hh, hb⟩ := h
    exact ⟨b, T, fr, lb, hu, hz, (hf b hz).trans hh, hb.frame hf⟩
  | row =>
    obtain ⟨e, b, T, fr, hu, hz, hh⟩ := h
    exact ⟨e, b, T, fr, hu, hz, (hf b hz).trans hh⟩
theorem CapsRd.frame {w w' : World} {fz : Nat → Prop} {rv : Value} (hf : ∀ b, fz b → w'.heap[b]? = w.heap[b]?) : ∀ {cs : List Cap} {us : List Value} {vs : List Lv}, CapsRd w fz rv cs us vs → CapsRd w' fz rv cs us vs
  | [], [], vs, h => h
  | c :: cs, u :: us, vs, h => by
    obtain ⟨x, y, e, h1, h2⟩ := h
    exact ⟨x, y, e, h1.frame hf, CapsRd.frame hf h2⟩
  | [], _ :: _, vs, h => h.elim
  | _ :: _, [], vs, h => h.elim

/-- Blocks of variables that are captured. -/
def Blks (s : St) (W : Wd) (ps : List (Nat × Nat)) (bs : List Nat) : Prop := bs.length = ps.length ∧ ∀ (k : Nat) (p : Nat × Nat) (b : Nat), ps[k]? = some p → bs[k]? = some b → (s.root p.1).box = true → (s.root p.1).ver = p.2 → b = W.bk p.1
theorem Blks.cons {p : Nat × Nat} {ps : List (Nat × Nat)} {bs : List Nat} (h : Blks s W (p :: ps) bs) : ∃ b bs', bs = b :: bs' ∧ ((s.root p.1).box = true → (s.root p.1).ver = p.2 → b = W.bk p.1) ∧ Blks s W ps bs' := by
  obtain ⟨h1, h2⟩ := h
  match bs, h1 with
  | b :: bs, h1 => exact ⟨b, bs, rfl, h2 0 p b rfl rfl, by simpa using h1, fun k q c hq hc => h2 (k + 1) q c (by simpa using hq) (by simpa using hc)⟩
theorem Blks.nil {bs : List Nat} (h : Blks s W [] bs) : bs = [] := List.eq_nil_of_length_eq_zero h.1
def ptrV (b : Nat) : Value := .pointer (some ⟨b, 0, none⟩)

theorem box_rd (h : Rep E s tm W) {not r : Nat} {ls : List L} (hb : (s.root r).box = true) (hne : r ≠ not) (hlen : (s.root r).ls.length = ls.length) (hlf : (s.root r).ls.all leafy = true) {β : Type} {z : β} {k : List Lv → Step β} (hl : (s.data ls (seenFrom r 0 (s.root r).ls) k).leads z) :
    ∃ x, (k x).leads z ∧ BoxRd W.w (Else W not) ls (ptrV (W.bk r)) x := by
  obtain ⟨_, hbox⟩ := h.roots r
  rw [if_pos hb] at hbox
  obtain ⟨hob, arr, T, fr, hh, hbare, hsz, hcv⟩ := hbox
  obtain ⟨vs, hl, hvl, hvm, hvs⟩ := data_ok h (g := fun j => arr[j]?) (fun j b hj => by
    rw [seenFrom_get] at hj
    cases hq : (s.root r).ls[j]? with
    | none => rw [hq] at hj; cases hj
    | some y =>
      rw [hq] at hj
      injection hj with hj
      have hlt : j < (s.root r).ls.length := (List.getElem?_eq_some_iff.1 hq).1
      have hleaf : s.leaf r j = y := by unfold St.leaf; rw [nth_of, hq]; rfl
      have hcell : W.cv r j = some (arr[j]'(by omega)) := by rw [hcv]; exact Array.getElem?_eq_getElem _
      refine ⟨arr[j]'(by omega), Array.getElem?_eq_getElem _, ?_⟩
      rw [← hj, Nat.zero_add]
      exact seen_ok h hleaf hcell) hl
  refine ⟨vs, hl, W.bk r, arr, T, fr, rfl, .inr ⟨.blk r, (fun j e => by cases e), by rw [hob]; simp⟩, hh, by rw [hsz, hlen], hvm, fun j lv hj => ?_⟩
  obtain ⟨u, hu, hr⟩ := hvs j lv hj
  refine ⟨u, hu, L.rd_frame lv.l hr (fun _ _ => rfl) fun b hb => ?_⟩
  rcases hb with hb | ⟨r', hr', j', hb⟩
  · exact .inl hb
  · refine .inr ⟨.lf r' j', fun j e => ?_, hb⟩
    injection e with e1 e2
    have : r' = r := by
      obtain ⟨y, hy, hy'⟩ := List.mem_flatMap.1 hr'
      obtain ⟨i, hi⟩ := List.getElem?_of_mem hy
      rw [seenFrom_get] at hi
      cases hq : (s.root r).ls[i]? with
      | none => rw [hq] at hi; cases hi
      | some y0 =>
        rw [hq] at hi
        injection hi with hi
        subst hi
        have := List.all_eq_true.1 hlf y0 (List.mem_of_getElem? hq)
        cases y0 with
        | arr => simpa [seen, LA.roots] using hy'
        | sc => simp [seen, LA.roots] at hy'
        | _ => cases this
    exact hne (this.symm.trans e1)

theorem boxes_rd (h : Rep E s tm W) {not : Nat} {β : Type} {z : β} : ∀ {bs : List (List L)} {ps : List (Nat × Nat)} {ks : List Nat} {k : List Lv → Step β}, Blks s W ps ks → (boxData s not bs ps k).leads z → ∃ x, (k x).leads z ∧ BoxesRd W.w (Else W not) bs (ks.map ptrV) x
  | [], [], ks, k, hk, hl => by rw [hk.nil]; exact ⟨[], hl, rfl⟩
  | ls :: bs, (r, ver) :: ps, ks, k, hk, hl => by
    obtain ⟨b, ks', rfl, hb0, hk'⟩ := hk.cons
    simp only [boxData] at hl
    split at hl
    · rename_i hc
      simp only [Bool.and_eq_true, beq_iff_eq, bne_iff_ne, ne_eq] at hc
      obtain ⟨⟨⟨⟨hb, hver⟩, hne⟩, hlen⟩, hall⟩ := hc
      obtain ⟨x, hl, hx⟩ := box_rd h hb hne hlen hall hl
      obtain ⟨y, hl, hy⟩ := boxes_rd h hk' hl
      have e : b = W.bk r := hb0 hb hver
      exact ⟨_, hl, x, y, rfl, by rw [e]; exact hx, hy⟩
    · exact hl.elim
  | [], _ :: _, ks, k, hk, hl => hl.elim
  | _ :: _, [], ks, k, hk, hl => hl.elim

theorem caps_rd (h : Rep E s tm W) {c : Loc} {qs : List (Nat × Nat)} {rv : Value} (hrv : W.cv c.r c.j = some rv) {β : Type} {z : β} : ∀ {cs : List Cap} {ps : List (Nat × Nat)} {ks : List Nat} {k : List Lv → Step β}, Blks s W ps ks → (capData s c qs cs ps k).leads z → ∃ x, (k x).leads z ∧ CapsRd W.w (Else W c.r) rv cs (ks.map ptrV) x
  | [], [], ks, k, hk, hl => by rw [hk.nil]; exact ⟨[], hl, rfl⟩
  | .box ls :: cs, p :: ps, ks, k, hk, hl => by
    obtain ⟨b, ks', rfl, hb0, hk'⟩ := hk.cons
    simp only [capData] at hl
    have hk1 : Blks s W [p] [b] := ⟨rfl, fun i q d hq hd => by
      cases i with
      | zero => simp at hq hd; subst hq; subst hd; exact hb0
      | succ i => simp at hq⟩
    obtain ⟨x, hl, hx⟩ := boxes_rd h hk1 hl
    obtain ⟨y, hl, hy⟩ := caps_rd h hrv hk' hl
    obtain ⟨x1, x2, e, h1, h2⟩ := hx
    have e2 : x2 = [] := h2
    subst e2
    exact ⟨_, hl, x, y, rfl, by rw [e, List.append_nil]; exact h1, hy⟩
  | .clo g bs :: cs, (r, ver) :: ps, ks, k, hk, hl => by
    obtain ⟨b, ks', rfl, hb0, hk'⟩ := hk.cons
    simp only [capData] at hl
    split at hl
    · rename_i g' ps' qs' hls
      split at hl
      · rename_i hc
        simp only [Bool.and_eq_true, beq_iff_eq, bne_iff_ne, ne_eq] at hc
        obtain ⟨⟨⟨⟨hb, hver⟩, hne⟩, hg⟩, hall⟩ := hc
        subst hg
        obtain ⟨hlf, hbox⟩ := h.roots r
        rw [if_pos hb] at hbox
        obtain ⟨hob, arr, T, fr, hh, hbare, hsz, hcv⟩ := hbox
        rw [hls] at hsz
        have hsz : arr.size = 1 := hsz
        obtain ⟨u, hu⟩ : ∃ u, arr = #[u] := by
          match arr, hsz with
          | ⟨[u]⟩, _ => exact ⟨u, rfl⟩
        have hl0 := hlf 0
        rw [hls] at hl0
        have hl0 : [] = W.om (.lf r 0) ∨ True := .inr trivial
        have hl1 := hlf 0
        rw [hls] at hl1
        have hclo : LAok s W (.clo g ps' qs') u := hl1.2 u (by rw [hcv, hu]; rfl)
        obtain ⟨ks2, hv2, hlen2, hk2⟩ := hclo
        obtain ⟨x, hl, hx⟩ := boxes_rd h (ks := ks2) ⟨hlen2, hk2⟩ hl
        obtain ⟨y, hl, hy⟩ := caps_rd h hrv hk' hl
        have e : b = W.bk r := hb0 hb hver
        refine ⟨_, hl, x, y, rfl, ?_, hy⟩
        refine ⟨W.bk r, T, fr, _, by rw [e]; rfl, .inr ⟨.blk r, (fun j e => by cases e), by rw [hob]; simp⟩, ?_, hx⟩
        rw [hh, hu, hv2]
        rfl
      · exact hl.elim
    · exact hl.elim
  | .row :: cs, (r, ver) :: ps, ks, k, hk, hl => by
    obtain ⟨b, ks', rfl, hb0, hk'⟩ := hk.cons
    simp only [capData] at hl
    split at hl
    · rename_i hc
      simp only [Bool.and_eq_true, beq_iff_eq] at hc
      obtain ⟨⟨⟨⟨hb, hver⟩, hr⟩, hj⟩, hlen⟩ := hc
      obtain ⟨y, hl, hy⟩ := caps_rd h hrv hk' hl
      obtain ⟨hlf, hbox⟩ := h.roots r
      rw [if_pos hb] at hbox
      obtain ⟨hob, arr, T, fr, hh, hbare, hsz, hcv⟩ := hbox
      obtain ⟨u, hu⟩ : ∃ u, arr = #[u] := by
        have hsz : arr.size = 1 := by rw [hsz, hlen]
        match arr, hsz with
        | ⟨[u]⟩, _ => exact ⟨u, rfl⟩
      have hrv' := hrv
      rw [← hr, hj, hcv, hu] at hrv'
      have hurv : u = rv := by simpa using hrv'
      have e : b = W.bk r := hb0 hb hver
      refine ⟨_, hl, [], y, rfl, ⟨rfl, W.bk r, T, fr, by rw [e]; rfl, .inr ⟨.blk r, (fun j e => by cases e), by rw [hob]; simp⟩, ?_⟩, hy⟩
      rw [hh, hu, hurv]
    · exact hl.elim
  | [], _ :: _, ks, k, hk, hl => hl.elim
  | .box _ :: _, [], ks, k, hk, hl => hl.elim
  | .clo _ _ :: _, [], ks, k, hk, hl => hl.elim
  | .row :: _, [], ks, k, hk, hl => hl.elim

theorem op_makeInterface (hc : CxF P cx) (h : Rep E s a.tmps W) {t : TypeId} {x : Operand} (ho : o.op = .makeInterface t x) (hl : (opDelta cx v o s).leads ws) : Goes P E o a W.w (s.app ws) := by
  simp only [opDelta, ho] at hl
  have h1 := opd1_ok h x
  split at hl
  · rename_i ty c ht hx
    split at hl
    · exact hl.elim
    · rename_i hag
      split at hl
      · rename_i t' e hls
        rw [out_leads hl]
        rw [hx] at h1
        have hund : P.underlying t = some (.slice t') := (lone_of hc ht hls (by simpa using hag) : LoneF P t (.sl t' e)).1
        refine goes_out h (u := .iface t (a.eval x)) ?_ (show LAok s W (.ifc t c) _ from ⟨_, rfl, h1⟩)
        simp [execOp, ho, Instr.makeInterface, run_underlying hund]
      · exact hl.elim
  · exact hl.elim
theorem ptrs_ok (h : Rep E s a.tmps W) : ∀ {xs : List Operand} {ps : List (Nat × Nat)}, ptrsOf s (xs.map s.opd) = some ps → xs.map a.eval = (ps.map fun p => W.bk p.1).map (fun b => Value.pointer (some ⟨b, 0, none⟩))
  | [], ps, hp => by
    simp only [List.map_nil, ptrsOf, Option.some.injEq] at hp
    subst hp; rfl
  | x :: xs, ps, hp => by
    have hx := opd_ok h x
    rw [List.map_cons] at hp
    unfold ptrsOf at hp
    split at hp
    · rename_i e; cases e
    · rename_i r ver vs e
      injection e with e1 e2
      split at hp
      · rename_i hc
        simp only [Bool.and_eq_true, beq_iff_eq] at hc
        split at hp
        · rename_i ps' hps'
          injection hp with hp
          subst hp
          rw [← e2] at hps'
          have ih := ptrs_ok h hps'
          rw [e1] at hx
          have hx : a.eval x = .pointer (some ⟨W.bk r, 0, none⟩) := hx hc.1 hc.2
          rw [List.map_cons, ih, hx]
          rfl
        · cases hp
      · cases hp
    · cases hp
theorem op_makeFunc (h : Rep E s a.tmps W) {fn : Fn} {xs ys : Array Operand} (ho : o.op = .makeFunc fn xs ys) (hl : (opDelta cx v o s).leads ws) : Goes P E o a W.w (s.app ws) := by
  cases fn with
  | func g =>
    simp only [opDelta, ho] at hl
    split at hl
    · rename_i hsz
      split at hl
      · rename_i ps hps
        rw [out_leads hl]
        have hp := ptrs_ok h hps
        have hx0 : xs = #[] := Array.size_eq_zero_iff.1 (by simpa using hsz)
        refine goes_out h (u := .func (.func g) #[] (ys.map a.eval)) ?_ (show LAok s W (.clo g ps (behind s ps)) _ from ⟨ps.map fun p => W.bk p.1, ?_, by simp, fun k p b hk hb _ _ => ?_⟩)
        · simp [execOp, ho, Instr.makeFunc, hx0]
        · rw [← hp, ← Array.toList_map, Array.toArray_toList]
        · rw [List.getElem?_map, hk] at hb
          simpa using hb.symm
      · exact hl.elim
    · exact hl.elim
  | _ => simp only [opDelta, ho] at hl; exact hl.elim
theorem two_args {l : List Operand} {f : Operand → AV} {p q : AV} (h : l.map f = [p, q]) : ∃ x y, l = [x, y] ∧ f x = p ∧ f y = q := by
  match l, h with
  | [x, y], h => simp at h; exact ⟨x, y, rfl, h.1, h.2⟩

theorem sort_core (h : Rep E s a.tmps W) (hv : NoVer s v) {fid g : FuncId} {σ : Srt} (hso : SrtOk P fid g σ) {cl : Loc} {gen : Nat} {t0 : TypeId} {xs zs : List Int} {ks : List Nat} {vs : List Lv} {u : Value} {y : (mkLs (σ.caps.flatMap Cap.kinds)).D}
    (hleaf : s.leaf cl.r cl.j = .arr cl.ver gen t0 (.one (.int .i64)) xs 2) (hcv : W.cv cl.r cl.j = some u) (hrd : RowRd (.one (.int .i64)) 2 W.w W.fz u xs (W.om (.lf cl.r cl.j))) (hcaps : CapsRd W.w (Else W cl.r) u σ.caps (ks.map ptrV) vs) (hy : pack (mkLs (σ.caps.flatMap Cap.kinds)) vs = some y)
    (hzs : sortO (σ.lt y) xs = some zs) : Calls P fid #[.iface σ.t u, .func (.func g) #[] (ks.map fun b => Value.pointer (some ⟨b, 0, none⟩)).toArray] W.w fun en w' => en = .returned (.tuple #[]) ∧
      ∃ W1 : Wd, W1.w = w' ∧ Rep E (s.app [.leaf cl.r cl.j (.arr cl.ver v t0 (.one (.int .i64)) zs 2)]) a.tmps W1 := by
  have hdis : ∀ b, Else W cl.r b → b ∉ W.om (.lf cl.r cl.j) := by
    intro b hb hin
    rcases hb with hb | ⟨k, hk, hb⟩
    · exact (h.sep.own _ b hin).1 hb
    · exact h.sep.disj k _ (hk _) b hb hin
  have helt : ∀ b, Else W cl.r b → b < W.w.heap.size := by
    intro b hb
    rcases hb with hb | ⟨k, hk, hb⟩
    · exact (h.sep.fz b hb).1
    · exact (h.sep.own _ b hb).2.1
  -- nothing to sort
  have tiny : xs.length ≤ 1 → Calls P fid #[.iface σ.t u, .func (.func g) #[] (ks.map fun b => Value.pointer (some ⟨b, 0, none⟩)).toArray] W.w (fun en w' => en = .returned (.tuple #[]) ∧ ∃ os, w' = Go.Sort.grow W.w os) := by
    intro hlen
    obtain ⟨A, cc, huv, hcc, _⟩ := hrd.els
    rw [huv]
    exact hso.sort.tiny A _ cc hlen _ _ _ _
  unfold sortO at hzs
  by_cases hlen1 : xs.length ≤ 1
  · rw [show decide (xs.length ≤ 1) = true by simpa using hlen1] at hzs
    injection hzs with hzs
    refine (tiny hlen1).mono ?_
    rintro en w' ⟨rfl, os, rfl⟩
    refine ⟨rfl, ?_⟩
    have hrel := h.releaf hv (e := .one (.int .i64)) (xs' := xs) hleaf hcv hrd (fun b _ => rfl) rfl ⟨rfl, rfl, rfl⟩
    rw [hzs] at hrel
    refine ⟨_, rfl, hrel.world (w' := Go.Sort.grow W.w os) (hrel.still_lt fun b hb => Go.Sort.heap_grow_old _ _ hb) (fun b hb _ => Go.Sort.heap_grow_old _ _ (by have := h.sep.size; omega)) (by show W.w.heap.size ≤ (Go.Sort.grow W.w os).heap.size; rw [Go.Sort.size_grow]; omega) ⟨rfl, rfl, rfl⟩⟩
  · rw [show decide (xs.length ≤ 1) = false by simpa using hlen1, cond_false] at hzs
    cases hok : (decide (xs.length ≤ 20) && xs.all fun x => xs.all fun z => (σ.lt y x z).isSome) with
    | false => rw [hok] at hzs; cases hzs
    | true =>
      rw [hok, cond_true] at hzs
      injection hzs with hzs
      simp only [Bool.and_eq_true, decide_eq_true_eq] at hok
      obtain ⟨h20, hall⟩ := hok
      obtain ⟨A, cc, huv, hcc, hnone, hsome⟩ := hrd.els
      have hcc : xs.length ≤ cc := hcc
      cases A with
      | none => have := (hnone rfl).1; omega
      | some ad =>
        obtain ⟨arr, T, fr, os1, hspot, hh, hfit, hbare0, hel, hoo, _⟩ := hsome ad rfl (.inr (by omega))
        have hbare := hbare0 (by omega)
        obtain ⟨blk, off, sp⟩ := ad
        dsimp only at hspot hh hfit hel hoo
        subst hspot
        have hfit : off + cc * 1 ≤ arr.size := hfit
        have hblk : blk ∈ W.om (.lf cl.r cl.j) := by rw [hoo (by omega)]; exact List.mem_cons_self
        have hblt : blk < W.w.heap.size := (h.sep.own _ blk hblk).2.1
        have hcellv : ∀ i (hi : i < xs.length), arr[off + i]? = some (.int .i64 (xs[i])) := by
          intro i hi
          have h3 := hel i hi
          simp only [Ls.rd] at h3
          obtain ⟨w3, hw3, h4, _⟩ := h3
          have hw3 : arr[off + (i * 1 + 0)]? = some w3 := hw3
          rw [Nat.mul_one, Nat.add_zero] at hw3
          rw [hw3]
          exact congrArg some h4
        -- elements of the row
        obtain ⟨x0, hx0⟩ : ∃ x0, x0 ∈ xs := by
          match hq : xs, hlen1 with
          | x :: _, _ => exact ⟨x, by simp⟩
        letI : Inhabited {x : Int // x ∈ xs} := ⟨⟨x0, hx0⟩⟩
        let D : Array {x : Int // x ∈ xs} := xs.attach.toArray
        have hDs : D.size = xs.length := by simp [D]
        have hDm : D.map Subtype.val = xs.toArray := by simp [D]
        let enc : {x : Int // x ∈ xs} → Value := fun x => .int .i64 x.1
        let lt' : {x : Int // x ∈ xs} → {x : Int // x ∈ xs} → Bool := fun p q => ltB (σ.lt y) p.1 q.1
        have hholds : Holds enc W.w blk off D := by
          intro j hj
          rw [hDs] at hj
          refine ⟨?_, ?_⟩
          · simp only [World.cell?, hh]
            rw [show (arr[off + j]?) = some (Value.int .i64 (xs[j])) from hcellv j hj]
            congr 1
            rw [getElem!_pos D j (by rw [hDs]; exact hj)]
            simp [D, enc]
          · have hlt : off + j < arr.size := by omega
            have := hbare (off + j) hlt
            obtain ⟨lo, hi⟩ := fr
            simp only [World.frozen?, hh]
            simp at this ⊢
            exact this
        have hless : ∀ (m : Nat) (os : Array Obj) (dk : Array {x : Int // x ∈ xs}), dk.size = D.size → ∀ i j : Nat, i < D.size → j < D.size →
            Calls P g (#[.int .i64 i, .int .i64 j] ++ (ks.map fun b => Value.pointer (some ⟨b, 0, none⟩)).toArray) (Go.Sort.grow (Go.Sort.putRow enc (Go.Sort.ahead W.w m) blk off dk) os) fun e w' => e = .returned (.bool (lt' dk[i]! dk[j]!)) ∧ ∃ q os', w' = Go.Sort.grow ((Go.Sort.grow (Go.Sort.putRow enc (Go.Sort.ahead W.w m) blk off dk) os).drewN q) os' := by
          intro m os dk hdk i j hi hj
          have hframe : ∀ b, Else W cl.r b → (Go.Sort.grow (Go.Sort.putRow enc (Go.Sort.ahead W.w m) blk off dk) os).heap[b]? = W.w.heap[b]? := by
            intro b hb
            rw [Go.Sort.heap_grow_old _ _ (by rw [Go.Sort.size_putRow]; exact helt b hb), putRow_else enc _ blk off dk (b := b) (fun e => hdis b hb (e ▸ hblk))]
            rfl
          have hc2 := hcaps.frame hframe
          rw [huv] at hc2
          have hval : σ.lt y dk[i]!.1 dk[j]!.1 = some (lt' dk[i]! dk[j]!) := by
            have h5 := List.all_eq_true.1 hall dk[i]!.1 dk[i]!.2
            have h6 := List.all_eq_true.1 h5 dk[j]!.1 dk[j]!.2
            obtain ⟨b, hb⟩ := Option.isSome_iff_exists.1 h6
            show _ = some (ltB (σ.lt y) dk[i]!.1 dk[j]!.1)
            unfold ltB
            rw [hb]
          exact hso.less _ _ _ _ y blk off xs.length cc (fun t => dk[t]!.1) hc2 hy (fun t ht => by
            rw [Go.Sort.cell?_grow _ _ _ (by show blk < _; rw [Go.Sort.size_putRow]; exact hblt)]
            exact Go.Sort.cell?_putRow enc (Go.Sort.ahead W.w m) blk off D dk hholds hdk t (by rw [hdk, hDs]; exact ht)) h20 i j (by rw [← hDs]; exact hi) (by rw [← hDs]; exact hj) _ hval
        have hcall := hso.sort.many _ enc (fun _ => rfl) lt' g (ks.map fun b => Value.pointer (some ⟨b, 0, none⟩)).toArray hso.enters blk off cc D (by rw [hDs]; omega) (by rw [hDs]; exact h20) W.w hless hholds hblt
        rw [hDs] at hcall
        rw [huv]
        refine hcall.mono ?_
        rintro en w' ⟨rfl, n, os, rfl⟩
        refine ⟨rfl, ?_⟩
        obtain ⟨hmap, hsize⟩ := insertionSort_map Subtype.val lt' (ltB (σ.lt y)) (fun _ _ => rfl) D xs.length (by rw [hDs]; exact Nat.le_refl _)
        rw [hDm] at hmap
        generalize hS : insertionSort lt' D 0 xs.length = S at hmap hsize
        rw [hmap] at hzs
        have hzl : zs.length = xs.length := by
          rw [← hzs]; simp [hsize, hDs]
        have hzget : ∀ i (hi : i < xs.length), zs[i]? = some S[i]!.1 := by
          intro i hi
          rw [← hzs, getElem!_pos S i (by rw [hsize, hDs]; exact hi)]
          simp [hsize, hDs, hi]
        have hput : Put W.w (Go.Sort.putRow enc (Go.Sort.ahead W.w n) blk off S) blk (Go.Sort.putCells enc off S arr) T fr := {
          here := putRow_heap enc (Go.Sort.ahead W.w n) blk off S hh
          else_ := fun b hb => putRow_else enc (Go.Sort.ahead W.w n) blk off S hb
          size := Go.Sort.size_putRow enc (Go.Sort.ahead W.w n) blk off S
          rest := ⟨rfl, rfl, rfl⟩ }
        have hpsz : (Go.Sort.putCells enc off S arr).size = arr.size := by simp [Go.Sort.putCells]
        have hrow : RowRd (.one (.int .i64)) 2 (Go.Sort.putRow enc (Go.Sort.ahead W.w n) blk off S) W.fz (.slice (some ⟨blk, off, none⟩) zs.length cc) zs (blk :: (List.range zs.length).flatMap fun _ => []) := by
          refine mkRow (e := .one (.int .i64)) (xs := zs) (ad := ⟨blk, off, none⟩) hput.here rfl (by rw [hpsz]; exact hbare) (by rw [hpsz]; exact hfit) (show zs.length ≤ cc by omega) ?_
          intro i hi
          have hi : i < zs.length := hi
          rw [hzl] at hi
          simp only [Ls.rd]
          have hcell : (Go.Sort.putCells enc off S arr)[off + i]? = some (enc S[i]!) := by
            simp only [Go.Sort.putCells, Array.getElem?_mapIdx, hcellv i hi, Option.map_some]
            rw [if_pos ⟨by omega, by rw [hsize, hDs]; omega⟩, show off + i - off = i by omega]
          refine ⟨enc S[i]!, ?_, ?_, rfl⟩
          · show (Go.Sort.putCells enc off S arr)[off + (i * 1 + 0)]? = _
            rw [Nat.mul_one, Nat.add_zero]; exact hcell
          · have h7 := hzget i hi
            rw [List.getElem?_eq_getElem (by rw [hzl]; exact hi)] at h7
            injection h7 with h7
            exact (congrArg (Value.int .i64) h7).symm
        have hod : (blk :: (List.range zs.length).flatMap fun _ => ([] : List Nat)) = W.om (.lf cl.r cl.j) := by
          rw [hoo (by omega)]
          congr 1
          have : (List.range xs.length).flatMap os1 = [] := by
            rw [List.flatMap_eq_nil_iff]
            intro i hi
            have h3 := hel i (List.mem_range.1 hi)
            simp only [Ls.rd] at h3
            obtain ⟨w3, hw3, _, h4⟩ := h3
            exact h4
          rw [flatNil]
          exact this.symm
        rw [hod, hzl] at hrow
        rw [huv] at hcv
        have hrel := h.releaf hv (e := .one (.int .i64)) (xs' := zs) hleaf hcv hrow (fun b hb => hput.else_ b fun e => hb (e ▸ hblk)) hput.size hput.rest
        refine ⟨_, rfl, hrel.world (w' := Go.Sort.grow (Go.Sort.putRow enc (Go.Sort.ahead W.w n) blk off S) os) (hrel.still_lt fun b hb => Go.Sort.heap_grow_old _ _ hb) (fun b hb hio => Go.Sort.heap_grow_old _ _ (by show b < (Go.Sort.putRow enc (Go.Sort.ahead W.w n) blk off S).heap.size; rw [hput.size]; have := h.sep.size; omega)) (by show _ ≤ (Go.Sort.grow (Go.Sort.putRow enc (Go.Sort.ahead W.w n) blk off S) os).heap.size; rw [Go.Sort.size_grow]; exact Nat.le_add_right _ _) ⟨rfl, rfl, rfl⟩⟩

theorem sort_goes (henv : EnvOk P E cx.env) (h : Rep E s a.tmps W) (hv : NoVer s v) {c : Call} {f : Operand} {fid : FuncId} {d : Nat} (ho : o.op = .call c) (hb : c.callee = .value f) (hds : o.dst = some d) (hdlt : d < a.tmps.size) (hf : a.eval f = .func (.func fid) #[] #[])
    (hl : (sortCall cx s d v fid (c.args.toList.map s.opd) fun ws => .go ws).leads ws) : Goes P E o a W.w (s.app ws) := by
  unfold sortCall at hl
  split at hl
  · rename_i t cl g ps qs hargs
    split at hl
    · rename_i σ hσ
      split at hl
      · rename_i ver gen t0 xs hleaf
        split at hl
        · rename_i hcond
          simp only [Bool.and_eq_true, beq_iff_eq, Bool.not_eq_true'] at hcond
          obtain ⟨⟨⟨hver, hp⟩, hpin⟩, hts⟩ := hcond
          subst hver; subst hts
          have hp : cl.p = [] := by cases hq : cl.p <;> simp_all [isNil]
          obtain ⟨x1, x2, hxy, hx1, hx2⟩ := two_args hargs
          have hargs2 : c.args = #[x1, x2] := by rw [← Array.toList_inj, hxy]
          have h1 := opd_ok h x1
          have h2 := opd_ok h x2
          rw [hx1] at h1
          rw [hx2] at h2
          obtain ⟨u, hu1, hu2⟩ : LAok s W (.ifc σ.t cl) (a.eval x1) := h1
          obtain ⟨ks, hk1, hk2⟩ : LAok s W (.clo g ps qs) (a.eval x2) := h2
          obtain ⟨h', e', hcv, hn⟩ := hu2 _ _ _ _ _ hleaf (.inl hp)
          rw [hp] at hn
          obtain ⟨rfl, rfl⟩ := hn
          obtain ⟨u', hu', hrd⟩ := (h.roots cl.r).row hleaf
          rw [hcv] at hu'; injection hu' with hu'; subst hu'
          obtain ⟨vs, hl, hcaps⟩ := caps_rd h hcv (ks := ks) hk2 hl
          split at hl
          · rename_i y hy
            obtain ⟨zs, hzs, hl⟩ := hl
            have hl : _ = ws := hl
            have hso := henv.1.srts fid g σ hσ
            obtain ⟨fn, cb, hfn1, hfn2, hfn3⟩ := hso.sort.body
            have hrunc : (execOp a.eval o).run P W.w = .ok (.enter fid #[a.eval x1, a.eval x2]) W.w := by
              have hfn3 : ¬ fn.name = "runtime.NumGoroutine" := by simpa using hfn3
              simp [execOp, ho, hb, hargs2, resolve, invoke, hf, Deferred.ofValue, callFunc, hfn1, hfn2, hfn3]
            have fin : ∀ w' : World, (∃ W1 : Wd, W1.w = w' ∧ Rep E (s.app [.leaf cl.r cl.j (.arr cl.ver v t0 (.one (.int .i64)) (show List Int from zs) 2)]) a.tmps W1) → ∀ (next : Act → World → Prop), (∀ a' W', a'.defers = a.defers → Rep E (s.app ws) a'.tmps W' → next a' W'.w) → next (a.put o.dst (.tuple #[])) w' := by
              intro w' ⟨W1, hW1, hrep⟩ next hnext
              have hs := hrep.slot d (x := .tup []) (u := .tuple #[]) ⟨#[], rfl, rfl, fun j p hj => by simp at hj⟩
              rw [← hW1]
              refine hnext _ W1 (by rw [hds]; rfl) ?_
              rw [← hl, hds]
              exact hs
            intro next Q hnext
            unfold Oper.wp
            rw [hrunc, Oper.upon_enter, hu1, hk1]
            have hcore := sort_core (v := v) (zs := zs) h hv hso hleaf hcv hrd hcaps hy hzs
            refine hcore.mono ?_
            rintro en w' ⟨rfl, W1, hW1, hrep⟩
            exact fin _ ⟨W1, hW1, hrep⟩ next hnext
          · exact hl.elim
        · exact hl.elim
      · exact hl.elim
    · exact hl.elim
  · exact hl.elim
end
end Go.Ev

namespace Go.Ev
set_option linter.unusedVariables false
set_option linter.unusedSimpArgs false

section
variable {P : Program} {E : Ent} {s : St} {W : Wd} {o : Oper} {a : Act} {ws : List Wr} {cx : Cx} {v : Nat} {tm : Array Value}

theorem op_call (henv : EnvOk P E cx.env) (h : Rep E s a.tmps W) (hv : NoVer s v) {c : Call} {f : Operand} (ho : o.op = .call c) (hb : c.callee = .value f) (hd : ∀ d, o.dst = some d → d < a.tmps.size) (hl : (opDelta cx v o s).leads ws) : Goes P E o a W.w (s.app ws) := by
  simp only [opDelta, ho, hb] at hl
  have hf := opd1_ok h f
  split at hl
  · rename_i fid d hfid hds
    rw [hfid] at hf
    have hf : a.eval f = .func (.func fid) #[] #[] := hf
    unfold call at hl
    split at hl
    · exact sort_goes henv h hv ho hb hds (hd d hds) hf hl
    · rename_i g hg
      cases hmk : g.s.mk? with
      | true =>
        rw [hmk, if_pos rfl] at hl
        obtain ⟨vss, T, hl, l1, l3, l4, hn, heach⟩ := args_ok h g.s.ps (c.args.toList.map s.opd) (c.args.toList.map a.eval) (by simp) (fun i av u h1 h2 => by
          rw [List.getElem?_map] at h1 h2
          cases hx : c.args.toList[i]? with
          | none => rw [hx] at h1; cases h1
          | some x =>
            rw [hx] at h1 h2
            injection h1 with h1; injection h2 with h2
            subst h1; subst h2
            exact opd_ok h x) hl
        split at hl
        · rename_i hap
          simp only [Bool.and_eq_true] at hap
          obtain ⟨hpl, hvr⟩ := hap
          have hvr : valRoots g.s.ps (c.args.toList.map s.opd) = [] := by
            revert hvr
            cases valRoots g.s.ps (c.args.toList.map s.opd) with
            | nil => intro _; rfl
            | cons => intro h; cases h
          split at hl
          · exact hl.elim
          · rename_i y hy
            obtain ⟨z, hz, hl⟩ := hl
            have hl : _ = ws := hl
            have hh : Handed s W g.s.ps (c.args.toList.map s.opd) (c.args.toList.map a.eval) vss T := {
              l1 := l1
              l2 := by rw [← l1]; simp
              l3 := l3
              l4 := l4
              nodup := hn
              each := heach
              apart := fun r hr => by rw [hvr] at hr; cases hr }
            obtain ⟨hfn, fn, cb, hfn1, hfn2, hfn3⟩ := henv.1.fns fid g hg
            have hcall := hfn (c.args.toList.map a.eval) W.w (Seen W (valRoots g.s.ps (c.args.toList.map s.opd))) vss _ _ y z (henv.gnd h.sep fun k b hb => let ⟨a, _, h2⟩ := argOm_some hh hb; ⟨a, h2⟩) (argsIn_ok h hh) hy hz
            rw [hmk] at hcall
            intro next Q hnext
            have hrun : (execOp a.eval o).run P W.w = .ok (.enter fid (c.args.toList.map a.eval).toArray) W.w := by
              have : (c.args.toList.map a.eval).toArray = c.args.map a.eval := by rw [← Array.toList_map, Array.toArray_toList]
              rw [this]
              have hfn3 : ¬ fn.name = "runtime.NumGoroutine" := by simpa using hfn3
              simp [execOp, ho, hb, resolve, invoke, hf, Deferred.ofValue, callFunc, hfn1, hfn2, hfn3]
            unfold Oper.wp
            rw [hrun, Oper.upon_enter]
            refine hcall.mono ?_
            rintro en w' ⟨r, fz', b0, rfl, mo⟩
            obtain ⟨rfl, hkinds, cs, T0, fr, hcell, hfr, hlen, hread⟩ := mo.box
            have hvl : (unpack g.s.outs z).length = g.s.outk.length := by have := congrArg List.length hkinds; simpa using this
            have hzero : ∀ p ∈ g.s.outk, p.2 = 0 := fun p hp => by
              unfold Sm.plain at hpl
              simp only [Bool.and_eq_true] at hpl
              simpa using List.all_eq_true.1 hpl.2 p hp
            obtain ⟨W', hW', hrep⟩ := h.placeMade hv (hd d hds) (bs := newLeaves v g.s.outk (unpack g.s.outs z)) mo.frame mo.size mo.rest (fun x hx => by
              obtain ⟨a1, a2⟩ := mo.fz x hx
              refine ⟨a1, a2.imp (fun h => ?_) id⟩
              rcases h with h | ⟨r, hr, _⟩
              · exact h
              · rw [hvr] at hr; cases hr) mo.new hcell hfr (by rw [newLeaves_len _ _ _ hvl]; exact hlen) (fun j b hj => by
              have hjl : j < g.s.outk.length := by
                have := (List.getElem?_eq_some_iff.1 hj).1
                rwa [newLeaves_len _ _ _ hvl] at this
              have q1 := List.getElem?_eq_getElem hjl
              have q2 := List.getElem?_eq_getElem (show j < (unpack g.s.outs z).length by omega)
              have q3 := newLeaves_get v _ _ j _ _ q1 q2
              rw [q3] at hj; injection hj with hj
              obtain ⟨y', hy', hr⟩ := hread j _ _ q1 q2
              rw [hzero _ (List.getElem_mem hjl)] at hr hj
              refine ⟨_, _, y', ?_, hy', hr⟩
              rw [← hj]
              generalize (unpack g.s.outs z)[j] = lv
              obtain ⟨l, x⟩ := lv
              cases l <;> rfl)
            rw [← hl, hds] at *
            rw [← hW']
            exact hnext _ W' rfl hrep
        · exact hl.elim
      | false =>
      rw [hmk] at hl
      simp only [Bool.false_eq_true, if_false] at hl
      obtain ⟨vss, T, hl, l1, l3, l4, hn, heach⟩ := args_ok h g.s.ps (c.args.toList.map s.opd) (c.args.toList.map a.eval) (by simp) (fun i av u h1 h2 => by
        rw [List.getElem?_map] at h1 h2
        cases hx : c.args.toList[i]? with
        | none => rw [hx] at h1; cases h1
        | some x =>
          rw [hx] at h1 h2
          injection h1 with h1; injection h2 with h2
          subst h1; subst h2
          exact opd_ok h x) hl
      split at hl
      · rename_i hap
        split at hl
        · exact hl.elim
        · rename_i y hy
          obtain ⟨z, hz, hl⟩ := hl
          cases hback : backAll d v g.s.rs (unpack g.s.outs z) 0 with
          | none => simp only [hback] at hl; exact hl.elim
          | some bol =>
            obtain ⟨bs, own, left⟩ := bol
            simp only [hback] at hl
            generalize hfs : (if fresh g.s.outk = true then some [] else freezes cx s (valRoots g.s.ps (c.args.toList.map s.opd))) = fso at hl
            split at hl
            · rename_i pw fs hpw
              have hl : _ = ws := hl
              have hh : Handed s W g.s.ps (c.args.toList.map s.opd) (c.args.toList.map a.eval) vss T := {
                l1 := l1
                l2 := by rw [← l1]; simp
                l3 := l3
                l4 := l4
                nodup := hn
                each := heach
                apart := fun r hr i p hT x hx e => by
                  have h1 := List.all_eq_true.1 hap r hr
                  simp only [Bool.not_eq_true'] at h1
                  have h2 : hitsAny (T.flatMap PT.tgs) (r, none) = true := List.any_eq_true.2 ⟨x, List.mem_flatMap.2 ⟨p, List.mem_of_getElem? hT, hx⟩, by simp [Tg.hits, e]⟩
                  rw [h1] at h2; cases h2 }
              obtain ⟨hfn, fn, cb, hfn1, hfn2, hfn3⟩ := henv.1.fns fid g hg
              have hcall := hfn (c.args.toList.map a.eval) W.w (Seen W (valRoots g.s.ps (c.args.toList.map s.opd))) vss _ _ y z (henv.gnd h.sep fun k b hb => let ⟨a, _, h2⟩ := argOm_some hh hb; ⟨a, h2⟩) (argsIn_ok h hh) hy hz
              rw [hmk] at hcall
              intro next Q hnext
              have hrun : (execOp a.eval o).run P W.w = .ok (.enter fid (c.args.toList.map a.eval).toArray) W.w := by
                have : (c.args.toList.map a.eval).toArray = c.args.map a.eval := by rw [← Array.toList_map, Array.toArray_toList]
                rw [this]
                have hfn3 : ¬ fn.name = "runtime.NumGoroutine" := by simpa using hfn3
                simp [execOp, ho, hb, resolve, invoke, hf, Deferred.ofValue, callFunc, hfn1, hfn2, hfn3]
              unfold Oper.wp
              rw [hrun, Oper.upon_enter]
              refine hcall.mono ?_
              rintro en w' ⟨r, fz', om', rv, vsR, vsP, rfl, co⟩
              obtain ⟨W', hW', hrep⟩ := back_ok (cx := cx) h hv (hd d hds) hh co hfs hback hpw
              rw [← hl, hds] at *
              rw [← hW']
              exact hnext _ W' rfl hrep
            · exact hl.elim
      · exact hl.elim
  · exact hl.elim
end
end Go.Ev

namespace Go.Ev
set_option linter.unusedVariables false
set_option linter.unusedSimpArgs false

section
variable {P : Program} {E : Ent} {s : St} {W : Wd} {o : Oper} {a : Act} {ws : List Wr} {cx : Cx} {v : Nat} {tm : Array Value}

theorem op_sound (hc : CxF P cx) (henv : EnvOk P E cx.env) (h : Rep E s a.tmps W) (hv : NoVer s v) (hd : ∀ d, o.dst = some d → d < a.tmps.size) (hl : (opDelta cx v o s).leads ws) : Goes P E o a W.w (s.app ws) := by
  cases ho : o.op with
  | move x =>
    cases hn : isNils (s.opd x) with
    | true => exact op_moveNil h hv ho hn hd hl
    | false => exact op_move h ho hn hl
  | assign x => exact op_assign h hv ho hd hl
  | pick x y z => exact op_pick h ho hl
  | alloc t => exact op_alloc hc henv.1.ftys h hv ho hd hl
  | box t x => exact op_box hc h hv ho hd hl
  | build t ps => exact op_build hc h ho hl
  | buildSlice t n ps => exact op_buildSlice hc h hv ho hd hl
  | load t x => exact op_load hc h ho hl
  | store t x y => exact op_store hc henv.1.ftys h hv ho hl
  | makeInterface t x => exact op_makeInterface hc h ho hl
  | makeFunc fn xs ys => exact op_makeFunc h ho hl
  | nilCheck x => exact op_nilCheck h ho hl
  | binOp op tx x y ty => exact op_binOp hc h ho hl
  | unOp op tx x => exact op_unOp h ho hl
  | convert t1 t2 x => exact op_convert hc h ho hl
  | makeSlice t x y => exact op_makeSlice hc h hv ho hd hl
  | slice ti x lo hi m =>
    cases m with
    | none => exact op_slice hc h ho hl
    | some m => simp only [opDelta, ho] at hl; exact hl.elim
  | fieldAddr t x f => exact op_fieldAddr hc h ho hl
  | field t x f => exact op_field hc h ho hl
  | indexAddr t x i => exact op_indexAddr hc h ho hl
  | index t x i => exact op_index hc h ho hl
  | extract x i => exact op_extract h ho hl
  | call c =>
    cases hb : c.callee with
    | builtin b =>
      cases b with
      | len => exact op_len hc h ho hb hl
      | append => exact op_append hc h hv ho hb hd hl
      | min => exact op_min h ho hb hl
      | max => exact op_max h ho hb hl
      | _ => simp only [opDelta, ho, hb] at hl; exact hl.elim
    | value f => exact op_call henv h hv ho hb hd hl
    | invoke r n => simp only [opDelta, ho, hb] at hl; exact hl.elim
  | _ => simp only [opDelta, ho] at hl; exact hl.elim
end
end Go.Ev

namespace Go.Ev
set_option linter.unusedVariables false
set_option linter.unusedSimpArgs false

section
variable {s s' : St} {cx : Cx} {v : Nat} {β : Type}

theorem leaf_eq {r : Nat} (h : s'.root r = s.root r) (j : Nat) : s'.leaf r j = s.leaf r j := by unfold St.leaf; rw [h]
theorem content_eq {c : Loc} (h : s'.root c.r = s.root c.r) (k : (t : TypeId) → (e : Ls) → List e.D → Nat → Step β) : s'.content c k = s.content c k := by
  unfold St.content; rw [leaf_eq h]
def Sees (s s' : St) (rs : List Nat) : Prop := ∀ r ∈ rs, s'.root r = s.root r

theorem datum_eq {l : L} {la : LA} (h : Sees s s' la.roots) (k : l.D → Step β) : s'.datum l la k = s.datum l la k := by
  cases la with
  | ref c => exact content_eq (h c.r (by simp [LA.roots])) _
  | win c lo hi => exact content_eq (h c.r (by simp [LA.roots])) _
  | _ => rfl
theorem data_eq : ∀ {ls : List L} {as : List LA} (h : Sees s s' (as.flatMap LA.roots)) (k : List Lv → Step β), s'.data ls as k = s.data ls as k
  | [], [], h, k => rfl
  | [], _ :: _, h, k => rfl
  | _ :: _, [], h, k => rfl
  | l :: ls, a :: as, h, k => by
    simp only [St.data]
    rw [datum_eq fun r hr => h r (by simp [hr])]
    congr 1; funext x
    exact data_eq (fun r hr => h r (by simp only [List.flatMap_cons, List.mem_append]; exact .inr hr)) _
theorem loads_eq {la : LA} (h : Sees s s' la.roots) (n : Nat) (k : List LA → Step β) : s'.loads la n k = s.loads la n k := by
  cases la with
  | ptr r j ver => simp only [St.loads]; rw [h r (by simp [LA.roots])]
  | eptr c =>
    simp only [St.loads]
    split
    · rfl
    · rename_i q i off hq
      have hg : s'.genAt c.r c.j = s.genAt c.r c.j := by unfold St.genAt; rw [leaf_eq (h c.r (by simp [LA.roots]))]
      rw [hg]
      exact content_eq (c := { c with p := q }) (h c.r (by simp [LA.roots])) _
  | _ => rfl
theorem av_sees {a : AV} (h : Sees s s' a.roots) : Sees s s' a.one?.roots := by
  cases a with
  | tup vs => intro r hr; cases hr
  | bx as => intro r hr; cases hr
  | v g as =>
    cases g with
    | true => intro r hr; cases hr
    | false => cases as with
      | nil => intro r hr; cases hr
      | cons b bs => cases bs with
        | nil => intro r hr; exact h r (List.mem_flatMap.2 ⟨b, by simp, hr⟩)
        | cons => intro r hr; cases hr
theorem loadsV_eq {a : AV} (h : Sees s s' a.roots) (n : Nat) (k : List LA → Step β) : s'.loadsV a n k = s.loadsV a n k := by
  cases a with
  | bx as => rfl
  | v g as => exact loads_eq (av_sees h) n k
  | tup vs => exact loads_eq (av_sees h) n k
theorem lent_eq : ∀ {as : List LA}, Sees s s' (as.flatMap LA.roots) → lent s' as = lent s as
  | [], _ => rfl
  | a :: as, h => by
    unfold lent
    simp only [List.any_cons]
    have ih := lent_eq (as := as) fun r hr => h r (by simp only [List.flatMap_cons, List.mem_append]; exact .inr hr)
    unfold lent at ih
    rw [ih]
    congr 1
    cases a with
    | ref c => simp only; rw [h c.r (by simp [LA.roots])]
    | _ => rfl
theorem alive_eq {la : LA} (h : Sees s s' la.roots) : s'.alive la = s.alive la := by
  cases la with
  | ptr r j ver => simp only [St.alive]; rw [h r (by simp [LA.roots])]
  | eptr c => simp only [St.alive]; rw [leaf_eq (h c.r (by simp [LA.roots]))]
  | _ => rfl
theorem sure_eq {la : LA} (h : Sees s s' la.roots) : s'.sure la = s.sure la := by
  cases la with
  | ptr r j ver => simp only [St.sure]; rw [h r (by simp [LA.roots])]
  | ref c => simp only [St.sure]; rw [leaf_eq (h c.r (by simp [LA.roots]))]
  | win c lo hi => simp only [St.sure]; rw [leaf_eq (h c.r (by simp [LA.roots]))]
  | eptr c => simp only [St.sure]; exact alive_eq h
  | _ => rfl
theorem take_eq {la : LA} (h : Sees s s' la.roots) (l : L) (k : LA → List (Nat × Nat) → Step β) : s'.take cx v la l k = s.take cx v la l k := by
  cases la with
  | ptr r j ver => simp only [St.take]; rw [h r (by simp [LA.roots])]
  | ref c => simp only [St.take]; rw [leaf_eq (h c.r (by simp [LA.roots]))]; simp only [content_eq (h c.r (by simp [LA.roots]))]
  | win c lo hi => simp only [St.take]; rw [leaf_eq (h c.r (by simp [LA.roots]))]
  | _ => rfl
theorem takes_eq : ∀ {ls : List L} {as : List LA} (h : Sees s s' (as.flatMap LA.roots)) (k : List LA → List (Nat × Nat) → Step β), s'.takes cx v ls as k = s.takes cx v ls as k
  | [], [], h, k => rfl
  | [], _ :: _, h, k => rfl
  | _ :: _, [], h, k => rfl
  | l :: ls, a :: as, h, k => by
    simp only [St.takes]
    rw [take_eq fun r hr => h r (by simp [hr])]
    congr 1; funext b us
    exact takes_eq (fun r hr => h r (by simp only [List.flatMap_cons, List.mem_append]; exact .inr hr)) _
theorem setIn_eq {c : Loc} (h : s'.root c.r = s.root c.r) (g : Nat) (vs : List Lv) : s'.setIn g c vs = s.setIn g c vs := by
  unfold St.setIn; rw [leaf_eq h]
theorem stores_eq {la : LA} (h : Sees s s' la.roots) {as : List LA} (h2 : Sees s s' (as.flatMap LA.roots)) (ls : List L) (k : List Wr → Step β) : s'.stores cx v la ls as k = s.stores cx v la ls as k := by
  cases la with
  | ptr r j ver => simp only [St.stores]; rw [h r (by simp [LA.roots]), takes_eq h2]
  | eptr c =>
    simp only [St.stores]
    have hh : s'.half c.r c.j = s.half c.r c.j := by unfold St.half; rw [leaf_eq (h c.r (by simp [LA.roots]))]
    have hs : s'.storeHalf v c ls as k = s.storeHalf v c ls as k := by unfold St.storeHalf; rw [leaf_eq (h c.r (by simp [LA.roots]))]; simp only [data_eq h2]
    rw [data_eq h2, takes_eq h2, leaf_eq (h c.r (by simp [LA.roots])), hh, hs]
    congr 2
    funext vs
    rw [setIn_eq (h c.r (by simp [LA.roots]))]
  | _ => rfl
theorem lenOf_eq {la : LA} (h : Sees s s' la.roots) (k : Int → Step β) : lenOf s' la k = lenOf s la k := by
  cases la with
  | ref c => exact content_eq (h c.r (by simp [LA.roots])) _
  | win c lo hi => exact content_eq (h c.r (by simp [LA.roots])) _
  | _ => rfl
theorem moreOf_eq {la : LA} (h : Sees s s' la.roots) (t : TypeId) (e : Ls) (k : List e.D → List (Nat × Nat) → Step β) : moreOf cx s' la t e k = moreOf cx s la t e k := by
  unfold moreOf
  rw [datum_eq h]
  cases la with
  | ref c => simp only; rw [leaf_eq (h c.r (by simp [LA.roots]))]
  | _ => rfl
theorem appendTo_eq {la lb : LA} (h : Sees s s' la.roots) (h2 : Sees s s' lb.roots) (d v : Nat) (t : TypeId) (e : Ls) (k : List Wr → Step β) : appendTo cx s' d v t e la lb k = appendTo cx s d v t e la lb k := by
  cases la with
  | nils => simp only [appendTo]; exact moreOf_eq h2 _ _ _
  | ref c =>
    simp only [appendTo]
    rw [leaf_eq (h c.r (by simp [LA.roots]))]
    cases s.leaf c.r c.j with
    | arr ver gen t' e' xs dd =>
      simp only
      split
      · split
        · exact moreOf_eq h2 _ _ _
        · rfl
      · rfl
    | _ => rfl
  | win c lo hi =>
    simp only [appendTo]
    rw [leaf_eq (h c.r (by simp [LA.roots]))]
    cases s.leaf c.r c.j with
    | arr ver gen t' e' xs dd =>
      simp only
      split
      · split
        · exact moreOf_eq h2 _ _ _
        · rfl
      · rfl
    | _ => rfl
  | _ => rfl
theorem appendAny_eq {la lb : LA} (h : Sees s s' la.roots) (h2 : Sees s s' lb.roots) (d v : Nat) (t : TypeId) (e : Ls) (k : List Wr → Step β) : appendAny cx s' d v t e la lb k = appendAny cx s d v t e la lb k := by
  unfold appendAny
  cases hn : nested la with
  | none =>
    have hh : halfOf s' la = halfOf s la := by
      cases la with
      | ref c =>
        unfold halfOf St.half
        simp only [leaf_eq (h c.r (by simp [LA.roots]))]
      | _ => rfl
    dsimp only
    rw [hh]
    cases hq : halfOf s la with
    | none => exact appendTo_eq h h2 d v t e k
    | some c =>
      have hc : c.r ∈ la.roots := by
        unfold halfOf at hq
        split at hq
        · split at hq
          · split at hq
            · injection hq with hq; subst hq; simp [LA.roots]
            · cases hq
          · cases hq
        · cases hq
      dsimp only
      unfold appendHalf
      rw [leaf_eq (h c.r hc)]
      simp only [datum_eq h2]
  | some c =>
    have hc : c.r ∈ la.roots := by
      unfold nested at hn
      split at hn
      · split at hn
        · injection hn with hn; subst hn; simp [LA.roots]
        · cases hn
      · cases hn
    dsimp only
    unfold appendNest
    rw [leaf_eq (h c.r hc)]
    simp only [content_eq (h c.r hc), datum_eq h2]
theorem fillL_eq {fs : List (Nat × TypeId)} : ∀ {ps : List (Nat × Operand)} (h : ∀ p ∈ ps, s'.opd p.2 = s.opd p.2 ∧ Sees s s' (s.opd p.2).roots) (ls : List LA), fillL cx s' fs ps ls = fillL cx s fs ps ls
  | [], h, ls => rfl
  | (i, x) :: ps, h, ls => by
    obtain ⟨h1, h2⟩ := h (i, x) (by simp)
    dsimp only at h1 h2
    simp only [fillL]
    rw [h1]
    generalize s.opd x = p at h2
    cases p with
    | tup vs => rfl
    | bx as => rfl
    | v g as =>
      have : as.all s'.sure = as.all s.sure := by
        rw [Bool.eq_iff_iff, List.all_eq_true, List.all_eq_true]
        refine forall_congr' fun b => forall_congr' fun hb => ?_
        rw [sure_eq fun r hr => h2 r (List.mem_flatMap.2 ⟨b, hb, hr⟩)]
      cases nth? fs i with
      | none => rfl
      | some q =>
        obtain ⟨off, t⟩ := q
        dsimp only
        cases cx.ty t with
        | none => rfl
        | some tf =>
          dsimp only
          rw [this]
          split
          · exact fillL_eq (fun p hp => h p (List.mem_cons_of_mem _ hp)) _
          · rfl
theorem elemsOf_eq {e : Ls} : ∀ {ps : List (Nat × Operand)} (h : ∀ p ∈ ps, s'.opd p.2 = s.opd p.2 ∧ Sees s s' (s.opd p.2).roots) (n : Nat) (k : List e.D → List (Nat × Nat) → Step β), elemsOf cx s' v e ps n k = elemsOf cx s v e ps n k
  | [], h, n, k => rfl
  | (i, x) :: ps, h, n, k => by
    obtain ⟨h1, h2⟩ := h (i, x) (by simp)
    dsimp only at h1 h2
    have ih : ∀ (n : Nat) (k : List e.D → List (Nat × Nat) → Step β), elemsOf cx s' v e ps n k = elemsOf cx s v e ps n k := elemsOf_eq fun p hp => h p (List.mem_cons_of_mem _ hp)
    simp only [elemsOf]
    rw [h1]
    generalize s.opd x = p at h2
    cases p with
    | tup vs => rfl
    | bx as => rfl
    | v g as =>
      have h2 : Sees s s' (as.flatMap LA.roots) := h2
      simp only [data_eq h2, takes_eq h2, ih]

theorem nestFirst_roots : ∀ {as : List LA} {c : Loc}, nestFirst as = some c → c.r ∈ as.flatMap LA.roots
  | [], c, h => by cases h
  | a :: as, c, h => by
    rw [List.flatMap_cons]
    unfold nestFirst at h
    split at h
    · rename_i c' hc'
      injection h with h; subst h
      obtain ⟨e1, _⟩ := nested_one hc'
      exact List.mem_append_left _ (by rw [e1]; simp [LA.roots])
    · exact List.mem_append_right _ (nestFirst_roots h)
theorem lendOf_eq {e : Ls} {ps : List (Nat × Operand)} (h : ∀ p ∈ ps, s'.opd p.2 = s.opd p.2 ∧ Sees s s' (s.opd p.2).roots) : lendOf s' e ps = lendOf s e ps := by
  unfold lendOf
  split
  · rfl
  · split
    · rename_i x
      rw [(h (0, x) (by simp)).1]
    · rfl
theorem buildLend_eq {e : Ls} {ps : List (Nat × Operand)} (h : ∀ p ∈ ps, s'.opd p.2 = s.opd p.2 ∧ Sees s s' (s.opd p.2).roots) {x : Operand} {c : Loc} (hl : lendOf s e ps = some (x, c)) (d v : Nat) (t : TypeId) (k : List Wr → Step β) :
    buildLend cx s' d v t e x c k = buildLend cx s d v t e x c k := by
  unfold lendOf at hl
  split at hl
  · cases hl
  · split at hl
    · rename_i x'
      split at hl
      · rename_i g as hopd
        split at hl
        · rename_i c' hc'
          injection hl with hl
          injection hl with e1 e2
          subst e1; subst e2
          obtain ⟨h1, h2⟩ := h (0, x') (by simp)
          dsimp only at h1 h2
          rw [hopd] at h2
          have h2 : Sees s s' (as.flatMap LA.roots) := h2
          unfold buildLend
          rw [h1, hopd]
          dsimp only
          rw [leaf_eq (h2 c'.r (nestFirst_roots hc'))]
          simp only [data_eq h2]
        · cases hl
      · cases hl
    · cases hl
theorem deep_roots (r : Nat) : ∀ (ls : List (L × Nat)) (as : List LA) (j : Nat), deepAs ls as = true → ∀ b ∈ seenFrom r j as, ∀ r' ∈ b.roots, r' = r
  | [], [], j, h, b, hb, r', hr => by cases hb
  | [], _ :: _, j, h, b, hb, r', hr => by cases h
  | _ :: _, [], j, h, b, hb, r', hr => by cases h
  | (l, m) :: ls, a :: as, j, h, b, hb, r', hr => by
    simp only [deepAs, Bool.and_eq_true] at h
    rcases List.mem_cons.1 hb with hb | hb
    · subst hb
      cases a with
      | arr ver gen t e xs d => simpa [seen, LA.roots] using hr
      | sc l x => simp [seen, LA.roots] at hr
      | _ => simp at h
    · exact deep_roots r ls as (j + 1) h.2 b hb r' hr
theorem rowArg_eq {la : LA} (h : Sees s s' la.roots) (l : L) (d : Nat) (k : Lv → List Tg → Step β) : rowArg s' l d la k = rowArg s l d la k := by
  cases l with
  | sl t e =>
    cases la with
    | ref c =>
      show (if (match s'.leaf c.r c.j with
        | .arr _ _ _ _ _ dd => dd == d && (isNil c.p || d == 2)
        | _ => false) then s'.datum (.sl t e) (.ref c) _ else Step.none) = (if (match s.leaf c.r c.j with
        | .arr _ _ _ _ _ dd => dd == d && (isNil c.p || d == 2)
        | _ => false) then s.datum (.sl t e) (.ref c) _ else Step.none)
      rw [leaf_eq (h c.r (by simp [LA.roots])), datum_eq h]
    | _ => rfl
  | int i => exact datum_eq h _
  | bool => exact datum_eq h _
  | str => exact datum_eq h _
theorem rowArgs_eq : ∀ {ls : List (L × Nat)} {as : List LA} (h : Sees s s' (as.flatMap LA.roots)) (k : List Lv → List Tg → Step β), rowArgs s' ls as k = rowArgs s ls as k
  | [], [], h, k => rfl
  | [], _ :: _, h, k => rfl
  | _ :: _, [], h, k => rfl
  | (l, d) :: ls, a :: as, h, k => by
    simp only [rowArgs]
    rw [rowArg_eq fun r hr => h r (by simp [hr])]
    congr 1; funext x us
    exact rowArgs_eq (fun r hr => h r (by simp only [List.flatMap_cons, List.mem_append]; exact .inr hr)) _
theorem putRow_eq : ∀ {ls : List (L × Nat)} {as : List LA} (h : Sees s s' (as.flatMap LA.roots)) (vs : List Lv), putRow s' v ls as vs = putRow s v ls as vs
  | [], [], h, vs => rfl
  | [], _ :: _, h, vs => by simp [putRow]
  | _ :: _, [], h, vs => by simp [putRow]
  | _ :: _, _ :: _, h, [] => by simp [putRow]
  | (l, d) :: ls, a :: as, h, x :: vs => by
    simp only [putRow]
    rw [putRow_eq (fun r hr => h r (by simp only [List.flatMap_cons, List.mem_append]; exact .inr hr)) vs]
    cases a with
    | ref c =>
      have e : s'.leaf c.r c.j = s.leaf c.r c.j := leaf_eq (h c.r (by simp [LA.roots])) c.j
      simp only [e]
    | _ => rfl
theorem argsOf_eq : ∀ {ps : List PM} {vs : List AV} (h : ∀ a ∈ vs, Sees s s' a.roots) (k : List Lv → List Tg → Step β), argsOf s' ps vs k = argsOf s ps vs k
  | [], [], h, k => rfl
  | [], _ :: _, h, k => by simp only [argsOf]
  | pm :: ps, [], h, k => by cases pm <;> simp only [argsOf]
  | pm :: ps, a :: vs, h, k => by
    have ih : ∀ (k : List Lv → List Tg → Step β), argsOf s' ps vs k = argsOf s ps vs k := argsOf_eq fun a ha => h a (List.mem_cons_of_mem _ ha)
    have ha := h a (by simp)
    cases pm with
    | val g ls =>
      cases a with
      | tup vs => simp only [argsOf]
      | bx as => simp only [argsOf]
      | v g' as =>
        simp only [argsOf]
        rw [data_eq (show Sees s s' (as.flatMap LA.roots) from ha)]
        simp only [ih]
    | fn f =>
      unfold argsOf
      split
      all_goals (try rename_i e1 e2; try cases e1; try cases e2; try rfl)
      all_goals (try simp only [ih])
    | box ls =>
      unfold argsOf
      split
      all_goals (try rename_i e1 e2; try cases e1; try cases e2; try rfl)
      rename_i r ver
      have hr : s'.root r = s.root r := ha r (by simp [AV.roots, LA.roots])
      · rw [hr]
        by_cases hc : ((s.root r).box && (s.root r).ver == ver && deepAs ls (s.root r).ls) = true
        · rw [if_pos hc, if_pos hc]
          have hdeep : deepAs ls (s.root r).ls = true := by simp only [Bool.and_eq_true] at hc; exact hc.2
          have hd : Sees s s' ((seenFrom r 0 (s.root r).ls).flatMap LA.roots) := fun r' hr' => by
            obtain ⟨b, hb, hb'⟩ := List.mem_flatMap.1 hr'
            rw [deep_roots r ls _ 0 hdeep b hb r' hb']; exact hr
          simp only [ih]
          exact data_eq hd _
        · rw [if_neg hc, if_neg hc]
      all_goals rfl
    | row g ls =>
      cases a with
      | tup vs => simp only [argsOf]
      | bx as => simp only [argsOf]
      | v g' as =>
        simp only [argsOf]
        rw [rowArgs_eq (show Sees s s' (as.flatMap LA.roots) from ha)]
        simp only [ih]
theorem putBacks_eq : ∀ {ps : List PM} {avs : List AV} (h : ∀ a ∈ avs, Sees s s' a.roots) (vs : List Lv), putBacks s' v ps avs vs = putBacks s v ps avs vs
  | [], [], h, [] => rfl
  | [], [], h, _ :: _ => rfl
  | [], _ :: _, h, vs => by simp only [putBacks]
  | pm :: ps, [], h, vs => by cases pm <;> simp only [putBacks]
  | pm :: ps, a :: avs, h, vs => by
    have ih : ∀ vs, putBacks s' v ps avs vs = putBacks s v ps avs vs := putBacks_eq fun a ha => h a (List.mem_cons_of_mem _ ha)
    have ha := h a (by simp)
    cases pm with
    | val g ls => simp only [putBacks, ih]
    | fn f => simp only [putBacks, ih]
    | box ls =>
      unfold putBacks
      split
      all_goals (try rename_i e1 e2; try cases e1; try cases e2; try rfl)
      · rw [ih]
      all_goals rfl
    | row g ls =>
      cases a with
      | tup vs => simp only [putBacks]
      | bx as => simp only [putBacks]
      | v g' as =>
        simp only [putBacks]
        rw [putRow_eq (show Sees s s' (as.flatMap LA.roots) from ha)]
        simp only [ih]
theorem boxData_eq {not : Nat} : ∀ {bs : List (List L)} {ps : List (Nat × Nat)} (h : ∀ p ∈ ps, s'.root p.1 = s.root p.1) (k : List Lv → Step β), boxData s' not bs ps k = boxData s not bs ps k
  | [], [], h, k => rfl
  | [], _ :: _, h, k => rfl
  | _ :: _, [], h, k => rfl
  | ls :: bs, (r, ver) :: ps, h, k => by
    have hr : s'.root r = s.root r := h (r, ver) (by simp)
    simp only [boxData]
    rw [hr]
    split
    · rename_i hc
      simp only [Bool.and_eq_true] at hc
      have hall := hc.2
      have hsees : Sees s s' ((seenFrom r 0 (s.root r).ls).flatMap LA.roots) := fun r' hr' => by
        obtain ⟨y, hy, hy'⟩ := List.mem_flatMap.1 hr'
        obtain ⟨i, hi⟩ := List.getElem?_of_mem hy
        rw [seenFrom_get] at hi
        cases hq : (s.root r).ls[i]? with
        | none => rw [hq] at hi; cases hi
        | some y0 =>
          rw [hq] at hi
          injection hi with hi
          subst hi
          have := List.all_eq_true.1 hall y0 (List.mem_of_getElem? hq)
          cases y0 with
          | arr =>
            have : r' = r := by simpa [seen, LA.roots] using hy'
            rw [this]; exact hr
          | sc => simp [seen, LA.roots] at hy'
          | _ => cases this
      rw [data_eq hsees]
      congr 1; funext x
      exact boxData_eq (fun p hp => h p (List.mem_cons_of_mem _ hp)) _
    · rfl
theorem capData_eq {c : Loc} {qs : List (Nat × Nat)} (hq : ∀ p ∈ qs, s'.root p.1 = s.root p.1) : ∀ {cs : List Cap} {ps : List (Nat × Nat)} (h : ∀ p ∈ ps, s'.root p.1 = s.root p.1) (k : List Lv → Step β), capData s' c qs cs ps k = capData s c qs cs ps k
  | [], [], h, k => rfl
  | [], _ :: _, h, k => rfl
  | .box _ :: _, [], h, k => rfl
  | .clo _ _ :: _, [], h, k => rfl
  | .row :: _, [], h, k => rfl
  | .box ls :: cs, p :: ps, h, k => by
    simp only [capData]
    rw [boxData_eq (fun q hq => h q (by simp at hq; simp [hq]))]
    congr 1; funext x
    exact capData_eq hq (fun p hp => h p (List.mem_cons_of_mem _ hp)) _
  | .clo g bs :: cs, (r, ver) :: ps, h, k => by
    have hr : s'.root r = s.root r := h (r, ver) (by simp)
    simp only [capData]
    rw [hr]
    split
    · split
      · rename_i hc
        simp only [Bool.and_eq_true] at hc
        have hall := hc.2
        rw [boxData_eq (fun p hp => hq p (by simpa using List.all_eq_true.1 hall p hp))]
        congr 1; funext x
        exact capData_eq hq (fun p hp => h p (List.mem_cons_of_mem _ hp)) _
      · rfl
    · rfl
  | .row :: cs, (r, ver) :: ps, h, k => by
    have hr : s'.root r = s.root r := h (r, ver) (by simp)
    simp only [capData]
    rw [hr]
    split
    · exact capData_eq hq (fun p hp => h p (List.mem_cons_of_mem _ hp)) _
    · rfl
theorem sortCall_eq {avs : List AV} (h : ∀ a ∈ avs, Sees s s' a.roots) (d : Nat) (f : FuncId) (k : List Wr → Step β) : sortCall cx s' d v f avs k = sortCall cx s d v f avs k := by
  unfold sortCall
  split
  · rename_i t c g ps qs
    have h1 := h (.v false [.ifc t c]) (by simp)
    have h2 := h (.v false [.clo g ps qs]) (by simp)
    have hc : s'.root c.r = s.root c.r := h1 c.r (by simp [AV.roots, LA.roots])
    have hps : ∀ p ∈ ps, s'.root p.1 = s.root p.1 := fun p hp => h2 p.1 (List.mem_flatMap.2 ⟨.clo g ps qs, by simp, List.mem_append_left _ (List.mem_map.2 ⟨p, hp, rfl⟩)⟩)
    have hqs : ∀ p ∈ qs, s'.root p.1 = s.root p.1 := fun p hp => h2 p.1 (List.mem_flatMap.2 ⟨.clo g ps qs, by simp, List.mem_append_right _ (List.mem_map.2 ⟨p, hp, rfl⟩)⟩)
    rw [leaf_eq hc]
    simp only [capData_eq hqs hps]
  · rfl
theorem ptrsOf_eq : ∀ {vs : List AV} (h : ∀ a ∈ vs, Sees s s' a.roots), ptrsOf s' vs = ptrsOf s vs ∧ ∀ ps, ptrsOf s vs = some ps → behind s' ps = behind s ps
  | [], h => ⟨rfl, fun ps hp => by simp only [ptrsOf, Option.some.injEq] at hp; subst hp; rfl⟩
  | a :: vs, h => by
    obtain ⟨ih1, ih2⟩ := ptrsOf_eq (vs := vs) fun b hb => h b (List.mem_cons_of_mem _ hb)
    have ha := h a (by simp)
    unfold ptrsOf
    split
    · rename_i e; exact absurd e (by simp)
    · rename_i r ver vs' e
      injection e with e1 e2
      subst e1; subst e2
      have hr : s'.root r = s.root r := ha r (by simp [AV.roots, LA.roots])
      rw [hr, ih1]
      refine ⟨rfl, fun ps hp => ?_⟩
      split at hp
      · split at hp
        · rename_i ps' hps'
          injection hp with hp
          subst hp
          simp only [behind]
          rw [hr, ih2 ps' hps']
        · cases hp
      · cases hp
    · exact ⟨rfl, fun ps hp => by cases hp⟩
theorem storeF_eq {t : TypeId} {q : LA} {p : AV} {dst : Option Tmp} (h : Sees s s' q.roots) : storeF cx s' t q p dst = storeF cx s t q p dst := by
  unfold storeF
  split
  · split
    · split
      · rename_i r j ver
        rw [h r (by simp [LA.roots])]
      · rfl
    · rfl
  · rfl
theorem freezes_eq : ∀ {rs : List Nat} (h : Sees s s' rs), freezes cx s' rs = freezes cx s rs
  | [], h => rfl
  | r :: rs, h => by
    simp only [freezes]
    rw [freezes_eq (fun r hr => h r (List.mem_cons_of_mem _ hr)), h r (by simp)]
theorem valRoots_sub : ∀ (ps : List PM) (avs : List AV) (r : Nat), r ∈ valRoots ps avs → ∃ a ∈ avs, r ∈ a.roots
  | [], _, r, h => by simp [valRoots] at h
  | pm :: _, [], r, h => by cases pm <;> simp [valRoots] at h
  | pm :: ps, a :: avs, r, h => by
    have ih := valRoots_sub ps avs r
    have sub : r ∈ valRoots ps avs → ∃ b ∈ a :: avs, r ∈ b.roots := fun h => let ⟨b, hb, hr⟩ := ih h; ⟨b, List.mem_cons_of_mem _ hb, hr⟩
    cases pm with
    | val g ls =>
      rcases List.mem_append.1 (show r ∈ a.roots ++ valRoots ps avs from h) with h | h
      · exact ⟨a, by simp, h⟩
      · exact sub h
    | _ => exact sub h
theorem call_eq {avs : List AV} (h : ∀ a ∈ avs, Sees s s' a.roots) (d : Nat) (f : FuncId) (k : List Wr → Step β) : call cx s' d v f avs k = call cx s d v f avs k := by
  unfold call
  cases cx.env.fn f with
  | none => exact sortCall_eq h d f k
  | some g =>
    dsimp only
    cases g.s.mk? with
    | true => simp only [if_true]; rw [argsOf_eq h]
    | false =>
    simp only [Bool.false_eq_true, if_false]
    rw [argsOf_eq h]
    have h2 : ∀ vs, putBacks s' v g.s.ps avs vs = putBacks s v g.s.ps avs vs := putBacks_eq h
    have h3 : freezes cx s' (valRoots g.s.ps avs) = freezes cx s (valRoots g.s.ps avs) := freezes_eq fun r hr => let ⟨a, ha, hr'⟩ := valRoots_sub _ _ r hr; h a ha r hr'
    simp only [h2, h3]

def Wr.isLeaf : Wr → Bool
  | .leaf _ _ _ => true
  | _ => false
theorem app1_leaf_root (s : St) (r j : Nat) (a : LA) (r' : Nat) : (s.app1 (.leaf r j a)).root r' = if r = r' then { s.root r with ls := upd (s.root r).ls j a } else s.root r' := by
  show nth dead (upd s.ro r _) r' = _
  rw [nth_upd]
  by_cases h : r = r'
  · subst h
    by_cases hl : r < s.ro.length
    · rw [if_pos ⟨rfl, hl⟩, if_pos rfl]
    · rw [if_neg (fun hh => hl hh.2), if_pos rfl]
      have : s.root r = dead := nth_ge _ (Nat.le_of_not_lt hl)
      show s.root r = _
      rw [this]; rfl
  · rw [if_neg (fun hh => h hh.1), if_neg h]; rfl
theorem Sees.app {rs : List Nat} (h : Sees s s' rs) : ∀ {fs : List Wr}, (∀ w ∈ fs, w.isLeaf = true) → Sees (s.app fs) (s'.app fs) rs := by
  intro fs hf r hr
  have key : ∀ (fs : List Wr) (s s' : St), (∀ w ∈ fs, w.isLeaf = true) → s'.root r = s.root r → (s'.app fs).root r = (s.app fs).root r := by
    intro fs
    induction fs with
    | nil => intro s s' _ h; exact h
    | cons w fs ih =>
      intro s s' hf h
      have hw := hf w List.mem_cons_self
      refine ih _ _ (fun x hx => hf x (List.mem_cons_of_mem _ hx)) ?_
      cases w with
      | leaf r0 j a =>
        rw [app1_leaf_root, app1_leaf_root]
        by_cases e : r0 = r
        · subst e; rw [if_pos rfl, if_pos rfl, h]
        · rw [if_neg e, if_neg e, h]
      | slot t a => cases hw
      | root r x => cases hw
  exact key fs s s' hf (h r hr)
theorem leafWrs_leaf : ∀ (r j : Nat) (ls : List LA), ∀ w ∈ leafWrs r j ls, w.isLeaf = true
  | _, _, [], w, hw => by cases hw
  | r, j, a :: as, w, hw => by
    rcases List.mem_cons.1 hw with e | hw
    · subst e; rfl
    · exact leafWrs_leaf r (j + 1) as w hw
theorem freezes_leaf : ∀ {rs : List Nat} {fs : List Wr}, freezes cx s rs = some fs → ∀ w ∈ fs, w.isLeaf = true
  | [], fs, h, w, hw => by injection h with h; subst h; cases hw
  | r :: rs, fs, h, w, hw => by
    simp only [freezes] at h
    split at h
    · cases h
    · split at h
      · rename_i ws' hws
        injection h with h; subst h
        rcases List.mem_append.1 hw with hw | hw
        · exact leafWrs_leaf r 0 _ w hw
        · exact freezes_leaf hws w hw
      · cases h
theorem nestR_sub : ∀ {as : List LA} {r : Nat}, r ∈ nestR as → r ∈ as.flatMap LA.roots
  | [], r, h => by cases h
  | a :: as, r, h => by
    rw [List.flatMap_cons]
    refine List.mem_append.2 ?_
    cases a with
    | ref c =>
      simp only [nestR] at h
      split at h
      · exact .inr (nestR_sub h)
      · rcases List.mem_cons.1 h with e | h
        · subst e; exact .inl (by simp [LA.roots])
        · exact .inr (nestR_sub h)
    | _ => exact .inr (nestR_sub (by simpa [nestR] using h))
theorem nestS_sub {q : LA} {as : List LA} {r : Nat} (h : r ∈ nestS q as) : r ∈ as.flatMap LA.roots := by
  cases q with
  | ptr => exact nestR_sub h
  | _ => cases h

/-- The states agree on what the mask names. -/
def Agree (m : Nat) (s s' : St) : Prop := (∀ t, m.testBit (2 * t) = true → s'.slot t = s.slot t) ∧ ∀ r, m.testBit (2 * r + 1) = true → s'.root r = s.root r

end
end Go.Ev

namespace Go.Ev
set_option linter.unusedVariables false
set_option linter.unusedSimpArgs false

section
variable {s s' : St} {cx : Cx} {v : Nat} {β : Type}

/-- Both see the operand alike. -/
def SeesX (s s' : St) (x : Operand) : Prop := s'.opd x = s.opd x ∧ Sees s s' (s.opd x).roots
theorem SeesX.one {x : Operand} (h : SeesX s s' x) : s'.opd1 x = s.opd1 x ∧ Sees s s' (s.opd1 x).roots := by
  refine ⟨by unfold St.opd1; rw [h.1], fun r hr => h.2 r ?_⟩
  unfold St.opd1 at hr
  cases hq : s.opd x with
  | tup vs => rw [hq] at hr; cases hr
  | bx as => rw [hq] at hr; cases hr
  | v g as =>
    rw [hq] at hr
    cases g with
    | true => cases hr
    | false => cases as with
      | nil => cases hr
      | cons b bs => cases bs with
        | nil => exact List.mem_flatMap.2 ⟨b, by simp, hr⟩
        | cons => cases hr
theorem asIntO_eq {x : Option Operand} (h : ∀ y, x = some y → SeesX s s' y) (d : Int) (k : Int → Step β) : asIntO s' x d k = asIntO s x d k := by
  cases x with
  | none => rfl
  | some y => simp only [asIntO]; rw [(h y rfl).one.1]

theorem call_case {o : Oper} {c : Call} (ho : o.op = .call c) (hargs : ∀ x ∈ c.args.toList, SeesX s s' x) (hfn : ∀ f, c.callee = .value f → SeesX s s' f) : opDelta cx v o s' = opDelta cx v o s := by
  cases hb : c.callee with
  | builtin b =>
    cases b with
    | len =>
      simp only [opDelta, ho, hb]
      split
      · rename_i x t hx ht
        have hx := (hargs x (by rw [hx]; simp)).one
        simp only [hx.1, lenOf_eq hx.2]
      · rfl
    | append =>
      simp only [opDelta, ho, hb]
      split
      · rename_i x y t1 t2 ty d hx _ _ _
        have hx1 := (hargs x (by rw [hx]; simp)).one
        have hy1 := (hargs y (by rw [hx]; simp)).one
        simp only [hx1.1, hy1.1, appendAny_eq hx1.2 hy1.2]
      · rfl
    | min =>
      simp only [opDelta, ho, hb]
      split
      · rename_i x y hx
        have hx1 := (hargs x (by rw [hx]; simp)).one
        have hy1 := (hargs y (by rw [hx]; simp)).one
        rw [hx1.1, hy1.1]
      · rfl
    | max =>
      simp only [opDelta, ho, hb]
      split
      · rename_i x y hx
        have hx1 := (hargs x (by rw [hx]; simp)).one
        have hy1 := (hargs y (by rw [hx]; simp)).one
        rw [hx1.1, hy1.1]
      · rfl
    | _ => simp only [opDelta, ho, hb]
  | value f =>
    have hf := (hfn f hb).one
    have hmap : c.args.toList.map s'.opd = c.args.toList.map s.opd := List.map_congr_left fun x hx => (hargs x hx).1
    have hroots : ∀ a ∈ c.args.toList.map s.opd, Sees s s' a.roots := fun a ha => by
      obtain ⟨x, hx, rfl⟩ := List.mem_map.1 ha
      exact (hargs x hx).2
    simp only [opDelta, ho, hb]
    rw [hf.1, hmap]
    simp only [call_eq hroots]
  | invoke r n => simp only [opDelta, ho, hb]

theorem opDelta_eq {o : Oper} (h : ∀ x ∈ o.op.operands.toList, SeesX s s' x) : opDelta cx v o s' = opDelta cx v o s := by
  by_cases hcall : ∃ c, o.op = .call c
  · obtain ⟨c, ho⟩ := hcall
    exact call_case ho (fun x hx => h x (by rw [ho]; simp [Op.operands, Call.operands]; exact .inr (by simpa using hx))) fun f hb => h f (by rw [ho]; simp [Op.operands, Call.operands, hb])
  unfold opDelta
  cases ho : o.op with
  | move x =>
    have hx := h x (by rw [ho]; simp [Op.operands])
    simp only [hx.1]
  | assign x =>
    have hx := (h x (by rw [ho]; simp [Op.operands])).one
    simp only [hx.1]
    cases o.dst with
    | none => rfl
    | some d =>
      have hx2 := hx.2
      generalize s.opd1 x = p at hx2
      cases p <;> first | rfl | simp only [take_eq hx2]
  | pick x y z =>
    have hx := (h x (by rw [ho]; simp [Op.operands])).one
    have hy := h y (by rw [ho]; simp [Op.operands])
    have hz := h z (by rw [ho]; simp [Op.operands])
    simp only [hx.1, hy.1, hz.1]
  | alloc t => rfl
  | box t x =>
    have hx := h x (by rw [ho]; simp [Op.operands])
    simp only [hx.1]
    have hx2 := hx.2
    generalize s.opd x = p at hx2
    cases cx.ty t with
    | none => rfl
    | some ty => cases o.dst with
      | none => rfl
      | some d => cases p with
        | tup vs => rfl
        | bx as => rfl
        | v g as =>
          simp only [lent_eq (show Sees s s' (as.flatMap LA.roots) from hx2), takes_eq (show Sees s s' (as.flatMap LA.roots) from hx2)]
  | build t ps =>
    have hp : ∀ p ∈ ps.toList, s'.opd p.2 = s.opd p.2 ∧ Sees s s' (s.opd p.2).roots := fun p hp => h p.2 (by rw [ho]; simp only [Op.operands, List.toList_toArray]; exact List.mem_map.2 ⟨p, hp, rfl⟩)
    simp only [fillL_eq hp]
  | buildSlice t n ps =>
    have hp : ∀ p ∈ ps.toList, s'.opd p.2 = s.opd p.2 ∧ Sees s s' (s.opd p.2).roots := fun p hp => h p.2 (by rw [ho]; simp only [Op.operands, List.toList_toArray]; exact List.mem_map.2 ⟨p, hp, rfl⟩)
    simp only [elemsOf_eq hp, lendOf_eq hp]
    cases cx.ty t with
    | none => rfl
    | some ty => cases o.dst with
      | none => rfl
      | some d =>
        dsimp only
        split
        · rfl
        · cases ty.ls with
          | one l => cases l with
            | sl t' e =>
              dsimp only
              split
              · cases hq : lendOf s e ps.toList with
                | none => rfl
                | some q => exact buildLend_eq hp hq _ _ _ _
              · rfl
            | _ => rfl
          | _ => rfl
  | load t x =>
    have hx := h x (by rw [ho]; simp [Op.operands])
    simp only [hx.1, loadsV_eq hx.2]
  | store t x y =>
    have hx := (h x (by rw [ho]; simp [Op.operands])).one
    have hy := h y (by rw [ho]; simp [Op.operands])
    simp only [hx.1, hy.1]
    have hy2 := hy.2
    generalize s.opd y = p at hy2
    cases cx.ty t with
    | none =>
      have hx2 := hx.2
      generalize s.opd1 x = q at hx2
      exact storeF_eq hx2
    | some ty => cases p with
      | tup vs => rfl
      | bx as => rfl
      | v g as =>
        have hy2 : Sees s s' (as.flatMap LA.roots) := hy2
        dsimp only
        cases hn : nestS (s.opd1 x) as with
        | nil => simp only [storeD, stores_eq hx.2 hy2]
        | cons r rs =>
          have hsub : Sees s s' (r :: rs) := fun r' hr' => hy2 r' (by rw [← hn] at hr'; exact nestS_sub hr')
          simp only [freezes_eq hsub]
          cases hf : freezes cx s (r :: rs) with
          | none => rfl
          | some fs =>
            have hleafs := freezes_leaf hf
            simp only [storeD, stores_eq (hx.2.app hleafs) (hy2.app hleafs)]
  | makeInterface t x =>
    have hx := (h x (by rw [ho]; simp [Op.operands])).one
    simp only [hx.1]
  | makeFunc fn xs ys =>
    cases fn with
    | func g =>
      have hmap : ys.toList.map s'.opd = ys.toList.map s.opd := List.map_congr_left fun y hy => (h y (by rw [ho]; simp [Op.operands]; exact .inr (by simpa using hy))).1
      have hroots : ∀ a ∈ ys.toList.map s.opd, Sees s s' a.roots := fun a ha => by
        obtain ⟨y, hy, rfl⟩ := List.mem_map.1 ha
        exact (h y (by rw [ho]; simp [Op.operands]; exact .inr (by simpa using hy))).2
      obtain ⟨e1, e2⟩ := ptrsOf_eq hroots
      simp only [hmap, e1]
      split
      · cases hp : ptrsOf s (ys.toList.map s.opd) with
        | none => rfl
        | some ps => simp only [e2 ps hp]
      · rfl
    | _ => rfl
  | nilCheck x =>
    have hx := h x (by rw [ho]; simp [Op.operands])
    simp only [hx.1]
    have hx2 := hx.2
    generalize s.opd x = p at hx2
    cases p with
    | bx as => rfl
    | v g as => simp only [alive_eq (av_sees hx2)]
    | tup vs => simp only [alive_eq (av_sees hx2)]
  | binOp op tx x y ty =>
    have hx := h x (by rw [ho]; simp [Op.operands])
    have hy := h y (by rw [ho]; simp [Op.operands])
    simp only [hx.1, hy.1]
  | unOp op tx x =>
    have hx := (h x (by rw [ho]; simp [Op.operands])).one
    simp only [hx.1]
  | convert t1 t2 x =>
    have hx := (h x (by rw [ho]; simp [Op.operands])).one
    simp only [hx.1]
    have hx2 := hx.2
    generalize s.opd1 x = p at hx2
    cases cx.ty t1 with
    | none => rfl
    | some ta => cases cx.ty t2 with
      | none => rfl
      | some ty => cases p with
        | sc l z => cases l <;> first | rfl | (simp only [datum_eq hx2])
        | _ => simp only [datum_eq hx2]
  | makeSlice t x y =>
    have hx := (h x (by rw [ho]; simp [Op.operands])).one
    have hy := (h y (by rw [ho]; simp [Op.operands])).one
    simp only [hx.1, hy.1]
  | slice ti x lo hi m =>
    have hx := (h x (by rw [ho]; simp [Op.operands])).one
    have hlo : ∀ y, lo = some y → SeesX s s' y := fun y e => h y (by rw [ho, e]; simp [Op.operands])
    have hhi : ∀ y, hi = some y → SeesX s s' y := fun y e => h y (by rw [ho, e]; simp [Op.operands])
    cases m with
    | some m => rfl
    | none =>
      simp only [hx.1]
      have hx2 := hx.2
      generalize s.opd1 x = p at hx2
      cases p with
      | sc l b => cases l <;> simp only [asIntO_eq hlo, asIntO_eq hhi]
      | ref c => simp only [asIntO_eq hlo, asIntO_eq hhi, content_eq (hx2 c.r (by simp [LA.roots]))]
      | _ => rfl
  | fieldAddr t x f =>
    have hx := h x (by rw [ho]; simp [Op.operands])
    simp only [hx.1]
    have hx2 := hx.2
    generalize s.opd x = p at hx2
    cases p with
    | bx as => rfl
    | v g as => simp only [alive_eq (av_sees hx2)]
    | tup vs => simp only [alive_eq (av_sees hx2)]
  | field t x f =>
    have hx := h x (by rw [ho]; simp [Op.operands])
    simp only [hx.1]
  | indexAddr ti x i =>
    have hx := (h x (by rw [ho]; simp [Op.operands])).one
    have hi := (h i (by rw [ho]; simp [Op.operands])).one
    simp only [hx.1, hi.1]
    have hx2 := hx.2
    generalize s.opd1 x = p at hx2
    cases p with
    | ref c => simp only [content_eq (hx2 c.r (by simp [LA.roots]))]
    | win c lo hi => simp only [content_eq (hx2 c.r (by simp [LA.roots]))]
    | sc l b => cases l <;> rfl
    | _ => rfl
  | index ti x i =>
    have hx := (h x (by rw [ho]; simp [Op.operands])).one
    have hi := (h i (by rw [ho]; simp [Op.operands])).one
    simp only [hx.1, hi.1]
  | extract x i =>
    have hx := h x (by rw [ho]; simp [Op.operands])
    simp only [hx.1]
  | call c => exact absurd ⟨c, ho⟩ hcall
  | _ => rfl

/-! ### masks -/

theorem bit_lor (a b i : Nat) : (Nat.lor a b).testBit i = (a.testBit i || b.testBit i) := Nat.testBit_or a b i
theorem bit_pow (n i : Nat) : (2 ^ n).testBit i = decide (n = i) := Nat.testBit_two_pow
theorem av_mask (a : AV) (r : Nat) (h : r ∈ a.roots) : a.mask.testBit (2 * r + 1) = true := by
  unfold AV.mask
  revert h
  generalize a.roots = rs
  intro h
  induction rs with
  | nil => cases h
  | cons x rs ih =>
    rw [List.foldr_cons, bit_lor, bit_pow]
    rcases List.mem_cons.1 h with rfl | h
    · simp
    · rw [ih h]; simp
theorem fold_mask (s : St) : ∀ (xs : List Operand) (m0 : Nat) (x : Operand), x ∈ xs → (∀ t, x = .tmp t → (xs.foldr (fun x m => match x with
    | .tmp t => Nat.lor (2 ^ (2 * t)) (Nat.lor (s.slot t).mask m)
    | _ => m) m0).testBit (2 * t) = true ∧ ∀ r ∈ (s.slot t).roots, (xs.foldr (fun x m => match x with
    | .tmp t => Nat.lor (2 ^ (2 * t)) (Nat.lor (s.slot t).mask m)
    | _ => m) m0).testBit (2 * r + 1) = true)
  | [], m0, x, h, t, e => by cases h
  | y :: xs, m0, x, h, t, e => by
    rw [List.foldr_cons]
    rcases List.mem_cons.1 h with h | h
    · subst h; subst e
      dsimp only
      refine ⟨by rw [bit_lor, bit_pow]; simp, fun r hr => by rw [bit_lor, bit_lor, av_mask _ r hr]; simp⟩
    · obtain ⟨h1, h2⟩ := fold_mask s xs m0 x h t e
      cases y with
      | tmp u =>
        dsimp only
        exact ⟨by rw [bit_lor, bit_lor, h1]; simp, fun r hr => by rw [bit_lor, bit_lor, h2 r hr]; simp⟩
      | _ => exact ⟨h1, h2⟩
theorem fold_mask0 (s : St) (i : Nat) : ∀ (xs : List Operand) (m0 : Nat), m0.testBit i = true → (xs.foldr (fun x m => match x with
    | .tmp t => Nat.lor (2 ^ (2 * t)) (Nat.lor (s.slot t).mask m)
    | _ => m) m0).testBit i = true
  | [], m0, h => h
  | y :: xs, m0, h => by
    rw [List.foldr_cons]
    have := fold_mask0 s i xs m0 h
    cases y with
    | tmp u => dsimp only; rw [bit_lor, bit_lor, this]; simp
    | _ => exact this

theorem const_roots (x : Operand) (h : ∀ t, x ≠ .tmp t) : s'.opd x = s.opd x ∧ (s.opd x).roots = [] := by
  have hv : ∀ v, (ofConst v).roots = [] := fun v => by
    cases v with
    | slice A n c =>
      cases A with
      | none => cases n with
        | zero => cases c <;> rfl
        | succ n => rfl
      | some a => rfl
    | pointer A => cases A <;> rfl
    | _ => rfl
  cases x with
  | tmp t => exact absurd rfl (h t)
  | const c =>
    cases c with
    | agg cs =>
      refine ⟨rfl, ?_⟩
      show (cs.toList.map ofConst).flatMap LA.roots = []
      rw [List.flatMap_map]
      simp only [hv, flatNil]
    | bool b => exact ⟨rfl, by simp [St.opd, AV.roots, hv]⟩
    | int k n => exact ⟨rfl, by simp [St.opd, AV.roots, hv]⟩
    | float k n => exact ⟨rfl, by simp [St.opd, AV.roots, hv]⟩
    | complex k x y => exact ⟨rfl, by simp [St.opd, AV.roots, hv]⟩
    | string b => exact ⟨rfl, by simp [St.opd, AV.roots, hv]⟩
    | pointer b => exact ⟨rfl, by simp [St.opd, AV.roots, hv]⟩
    | slice b n c => exact ⟨rfl, by simp [St.opd, AV.roots, hv]⟩
    | map r => exact ⟨rfl, by simp [St.opd, AV.roots, hv]⟩
    | chan r => exact ⟨rfl, by simp [St.opd, AV.roots, hv]⟩
    | func f x y => exact ⟨rfl, by simp [St.opd, AV.roots, hv]⟩
    | nilFunc => exact ⟨rfl, by simp [St.opd, AV.roots, hv]⟩
    | iface t x => exact ⟨rfl, by simp [St.opd, AV.roots, hv]⟩
    | nilIface => exact ⟨rfl, by simp [St.opd, AV.roots, hv]⟩
    | tuple vs => exact ⟨rfl, by simp [St.opd, AV.roots, hv]⟩
  | global g => exact ⟨rfl, rfl⟩
  | func f => exact ⟨rfl, rfl⟩

/-- An operation writes alike where the states agree on what it reads. -/
theorem foot_ok {ops : Array Oper} {o : Oper} (h : Agree (readMask ops o s) s s') : opDelta cx v o s' = opDelta cx v o s ∧ ∀ j want t, o.guard = some (j, want) → (ops[j]?).bind (·.dst) = some t → s'.slot t = s.slot t := by
  have hguard : ∀ j want t, o.guard = some (j, want) → (ops[j]?).bind (·.dst) = some t → (guardMask ops o).testBit (2 * t) = true := by
    intro j want t hg ht
    unfold guardMask
    rw [hg]
    dsimp only
    rw [ht]
    dsimp only
    rw [bit_pow]; simp
  by_cases hm : ∃ t, o.op = .move (.tmp t) ∨ (∃ i, o.op = .extract (.tmp t) i) ∨ ∃ T f, o.op = .field T (.tmp t) f
  · obtain ⟨t, ho⟩ := hm
    have hrm : readMask ops o s = Nat.lor (2 ^ (2 * t)) (guardMask ops o) := by rcases ho with ho | ⟨i, ho⟩ | ⟨T, f, ho⟩ <;> (unfold readMask; rw [ho])
    rw [hrm] at h
    have h1 : s'.slot t = s.slot t := h.1 t (by rw [bit_lor, bit_pow]; simp)
    refine ⟨?_, fun j want u hg ht => h.1 u (by rw [bit_lor, hguard j want u hg ht]; simp)⟩
    have h2 : s'.opd (.tmp t) = s.opd (.tmp t) := h1
    unfold opDelta
    rcases ho with ho | ⟨i, ho⟩ | ⟨T, f, ho⟩ <;> (rw [ho]; simp only [h2])
  have hrm : readMask ops o s = o.op.operands.toList.foldr (fun x m => match x with
    | .tmp t => Nat.lor (2 ^ (2 * t)) (Nat.lor (s.slot t).mask m)
    | _ => m) (guardMask ops o) := by
    unfold readMask
    split
    · rename_i t ho; exact absurd ⟨t, .inl ho⟩ hm
    · rename_i t i ho; exact absurd ⟨t, .inr (.inl ⟨_, ho⟩)⟩ hm
    · rename_i T t f ho; exact absurd ⟨t, .inr (.inr ⟨_, _, ho⟩)⟩ hm
    · rfl
  rw [hrm] at h
  refine ⟨opDelta_eq fun x hx => ?_, fun j want t hg ht => ?_⟩
  · by_cases hq : ∃ t, x = .tmp t
    · obtain ⟨t, rfl⟩ := hq
      obtain ⟨h1, h2⟩ := fold_mask s o.op.operands.toList _ (.tmp t) hx t rfl
      exact ⟨h.1 t h1, fun r hr => h.2 r (h2 r hr)⟩
    · obtain ⟨h1, h2⟩ := const_roots (s := s) (s' := s') x fun t e => hq ⟨t, e⟩
      exact ⟨h1, fun r hr => by rw [h2] at hr; cases hr⟩
  · exact h.1 t (fold_mask0 s _ _ _ (hguard j want t hg ht))
end
end Go.Ev

namespace Go.Ev
set_option linter.unusedVariables false
set_option linter.unusedSimpArgs false

/-! ### writes -/

def Apart (m n : Nat) : Prop := ∀ i, m.testBit i = true → n.testBit i = false
theorem apart_land {m n : Nat} (h : (Nat.land m n == 0) = true) : Apart m n := by
  intro i hi
  have h0 : m &&& n = 0 := by simpa using h
  have := congrArg (fun x => x.testBit i) h0
  simp only [Nat.testBit_and, Nat.zero_testBit, hi, Bool.true_and] at this
  exact this
theorem Apart.symm {m n : Nat} (h : Apart m n) : Apart n m := fun i hi => by
  cases hm : m.testBit i with
  | false => rfl
  | true => rw [h i hm] at hi; cases hi

theorem app1_len (s : St) (w : Wr) : (s.app1 w).sl.length = s.sl.length ∧ (s.app1 w).ro.length = s.ro.length := by
  cases w <;> exact ⟨by simp [St.app1, upd_len], by simp [St.app1, upd_len]⟩
theorem app_len : ∀ (ws : List Wr) (s : St), (s.app ws).sl.length = s.sl.length ∧ (s.app ws).ro.length = s.ro.length
  | [], s => ⟨rfl, rfl⟩
  | w :: ws, s => by
    obtain ⟨h1, h2⟩ := app_len ws (s.app1 w)
    obtain ⟨h3, h4⟩ := app1_len s w
    exact ⟨h1.trans h3, h2.trans h4⟩
theorem app_ctr : ∀ (ws : List Wr) (s : St), (s.app ws).ctr = s.ctr
  | [], s => rfl
  | w :: ws, s => (app_ctr ws (s.app1 w)).trans (by cases w <;> rfl)

theorem app1_slot_miss {s : St} {w : Wr} {t : Nat} (h : w.mask.testBit (2 * t) = false) : (s.app1 w).slot t = s.slot t := by
  cases w with
  | slot u a =>
    simp only [Wr.mask, bit_pow, decide_eq_false_iff_not] at h
    rw [slot_app, if_neg (fun hh => h (by rw [hh.1]))]
  | root r x => rfl
  | leaf r j a => rfl
theorem app1_root_miss {s : St} {w : Wr} {r : Nat} (h : w.mask.testBit (2 * r + 1) = false) : (s.app1 w).root r = s.root r := by
  cases w with
  | slot u a => rfl
  | root q x =>
    simp only [Wr.mask, bit_pow, decide_eq_false_iff_not] at h
    rw [root_app, if_neg (fun hh => h (by rw [hh.1]))]
  | leaf q j a =>
    simp only [Wr.mask, bit_pow, decide_eq_false_iff_not] at h
    show nth dead (upd s.ro q _) r = _
    rw [nth_upd, if_neg (fun hh => h (by rw [hh.1]))]; rfl
theorem writeMask_cons (w : Wr) (ws : List Wr) (i : Nat) : (writeMask (w :: ws)).testBit i = (w.mask.testBit i || (writeMask ws).testBit i) := bit_lor _ _ _
theorem app_slot_miss {t : Nat} : ∀ {ws : List Wr} {s : St}, (writeMask ws).testBit (2 * t) = false → (s.app ws).slot t = s.slot t
  | [], s, h => rfl
  | w :: ws, s, h => by
    rw [writeMask_cons, Bool.or_eq_false_iff] at h
    exact (app_slot_miss h.2).trans (app1_slot_miss h.1)
theorem app_root_miss {r : Nat} : ∀ {ws : List Wr} {s : St}, (writeMask ws).testBit (2 * r + 1) = false → (s.app ws).root r = s.root r
  | [], s, h => rfl
  | w :: ws, s, h => by
    rw [writeMask_cons, Bool.or_eq_false_iff] at h
    exact (app_root_miss h.2).trans (app1_root_miss h.1)
/-- What lies at a place after writes follows from what lay there. -/
theorem app_slot_cong {t : Nat} : ∀ {ws : List Wr} {s s' : St}, s'.sl.length = s.sl.length → s'.slot t = s.slot t → (s'.app ws).slot t = (s.app ws).slot t
  | [], s, s', hl, h => h
  | w :: ws, s, s', hl, h => by
    show ((s'.app1 w).app ws).slot t = ((s.app1 w).app ws).slot t
    refine app_slot_cong ((app1_len s' w).1.trans (hl.trans (app1_len s w).1.symm)) ?_
    cases w with
    | slot u a => rw [slot_app, slot_app, hl, h]
    | root r x => exact h
    | leaf r j a => exact h
theorem app_root_cong {r : Nat} : ∀ {ws : List Wr} {s s' : St}, s'.ro.length = s.ro.length → s'.root r = s.root r → (s'.app ws).root r = (s.app ws).root r
  | [], s, s', hl, h => h
  | w :: ws, s, s', hl, h => by
    show ((s'.app1 w).app ws).root r = ((s.app1 w).app ws).root r
    refine app_root_cong ((app1_len s' w).2.trans (hl.trans (app1_len s w).2.symm)) ?_
    cases w with
    | slot u a => exact h
    | root q x => rw [root_app, root_app, hl, h]
    | leaf q j a =>
      show nth dead (upd s'.ro q _) r = nth dead (upd s.ro q _) r
      rw [nth_upd, nth_upd, hl]
      split
      · rename_i hq; obtain ⟨rfl, _⟩ := hq; rw [h]
      · exact h

theorem upd_comm {α : Type} (l : List α) {n m : Nat} (h : n ≠ m) (x y : α) : upd (upd l n x) m y = upd (upd l m y) n x := by
  rw [upd_set, upd_set, upd_set, upd_set]; exact List.set_comm _ _ h
theorem app1_comm {s : St} {w w' : Wr} (h : Apart w.mask w'.mask) : (s.app1 w).app1 w' = (s.app1 w').app1 w := by
  have key : ∀ {n m : Nat}, Apart (2 ^ n) (2 ^ m) → n ≠ m := by
    intro n m h e
    have := h n (by rw [bit_pow]; simp)
    rw [bit_pow, e] at this; simp at this
  cases w with
  | slot t a => cases w' with
    | slot u b =>
      have hne : t ≠ u := fun e => key h (by rw [e])
      simp only [St.app1]; rw [upd_comm _ hne]
    | root r x => rfl
    | leaf r j b => rfl
  | root r x => cases w' with
    | slot u b => rfl
    | root q y =>
      have hne : r ≠ q := fun e => key h (by rw [e])
      simp only [St.app1]; rw [upd_comm _ hne]
    | leaf q j b =>
      have hne : r ≠ q := fun e => key h (by rw [e])
      have e1 : (s.app1 (.root r x)).root q = s.root q := by rw [root_app, if_neg (fun hh => hne hh.1)]
      simp only [St.app1] at e1 ⊢
      rw [e1, upd_comm _ hne]
  | leaf r j a => cases w' with
    | slot u b => rfl
    | root q y =>
      have hne : q ≠ r := fun e => key h (by rw [e])
      have e1 : (s.app1 (.root q y)).root r = s.root r := by rw [root_app, if_neg (fun hh => hne hh.1)]
      simp only [St.app1] at e1 ⊢
      rw [e1, upd_comm _ hne.symm]
    | leaf q k b =>
      have hne : r ≠ q := fun e => key h (by rw [e])
      have e1 : (s.app1 (.leaf r j a)).root q = s.root q := app1_root_miss (by simp only [Wr.mask, bit_pow, decide_eq_false_iff_not]; omega)
      have e2 : (s.app1 (.leaf q k b)).root r = s.root r := app1_root_miss (by simp only [Wr.mask, bit_pow, decide_eq_false_iff_not]; omega)
      simp only [St.app1] at e1 e2 ⊢
      rw [e1, e2, upd_comm _ hne]
theorem app_app1_comm {w : Wr} : ∀ {ws : List Wr} {s : St}, Apart w.mask (writeMask ws) → (s.app1 w).app ws = (s.app ws).app1 w
  | [], s, h => rfl
  | w' :: ws, s, h => by
    have h1 : Apart w.mask w'.mask := fun i hi => by have := h i hi; rw [writeMask_cons, Bool.or_eq_false_iff] at this; exact this.1
    have h2 : Apart w.mask (writeMask ws) := fun i hi => by have := h i hi; rw [writeMask_cons, Bool.or_eq_false_iff] at this; exact this.2
    show ((s.app1 w).app1 w').app ws = _
    rw [app1_comm h1, app_app1_comm h2]; rfl
theorem app_comm {ws' : List Wr} : ∀ {ws : List Wr} {s : St}, Apart (writeMask ws) (writeMask ws') → (s.app ws).app ws' = (s.app ws').app ws
  | [], s, h => rfl
  | w :: ws, s, h => by
    have h1 : Apart w.mask (writeMask ws') := fun i hi => h i (by rw [writeMask_cons, hi]; rfl)
    have h2 : Apart (writeMask ws) (writeMask ws') := fun i hi => h i (by rw [writeMask_cons, hi]; simp)
    show ((s.app1 w).app ws).app ws' = _
    rw [app_comm h2, app_app1_comm h1]; rfl

/-! ### versions -/

def VersIn (s : St) (p : Nat → Prop) : Prop := (∀ t, ∀ n ∈ (s.slot t).vers, p n) ∧ ∀ r, ∀ n ∈ (s.root r).vers, p n
theorem VersIn.mono {s : St} {p q : Nat → Prop} (h : VersIn s p) (hq : ∀ n, p n → q n) : VersIn s q := ⟨fun t n hn => hq n (h.1 t n hn), fun r n hn => hq n (h.2 r n hn)⟩
theorem VersIn.zero {s : St} {p : Nat → Prop} (h : VersIn s p) : p 0 := by
  refine h.2 s.ro.length 0 ?_
  have : s.root s.ro.length = dead := nth_ge _ (Nat.le_refl _)
  rw [this]; exact List.mem_cons_self
theorem VersIn.app1 {s : St} {p : Nat → Prop} (h : VersIn s p) {w : Wr} (hw : ∀ n ∈ w.vers, p n) : VersIn (s.app1 w) p := by
  cases w with
  | slot u a =>
    refine ⟨fun t n hn => ?_, h.2⟩
    rw [slot_app] at hn
    split at hn
    · exact hw n hn
    · exact h.1 t n hn
  | root q x =>
    refine ⟨h.1, fun r n hn => ?_⟩
    rw [root_app] at hn
    split at hn
    · exact hw n hn
    · exact h.2 r n hn
  | leaf q j a =>
    refine ⟨h.1, fun r n hn => ?_⟩
    have hroot : (s.app1 (.leaf q j a)).root r = if q = r ∧ q < s.ro.length then { s.root q with ls := upd (s.root q).ls j a } else s.root r := nth_upd _ _ _ _ _
    rw [hroot] at hn
    split at hn
    · rcases List.mem_cons.1 hn with hn | hn
      · subst hn; exact h.2 q _ List.mem_cons_self
      · obtain ⟨b, hb, hn2⟩ := List.mem_flatMap.1 hn
        have hb : b ∈ upd (s.root q).ls j a := hb
        rw [upd_set] at hb
        rcases List.mem_or_eq_of_mem_set hb with hb | hb
        · exact h.2 q n (List.mem_cons_of_mem _ (List.mem_flatMap.2 ⟨b, hb, hn2⟩))
        · rw [hb] at hn2; exact hw n hn2
    · exact h.2 r n hn
theorem VersIn.app {p : Nat → Prop} : ∀ {ws : List Wr} {s : St}, VersIn s p → (∀ w ∈ ws, ∀ n ∈ w.vers, p n) → VersIn (s.app ws) p
  | [], s, h, hw => h
  | w :: ws, s, h, hw => VersIn.app (ws := ws) (s := s.app1 w) (h.app1 (hw w (by simp))) fun x hx => hw x (List.mem_cons_of_mem _ hx)
theorem VersIn.noVer {s : St} {p : Nat → Prop} (h : VersIn s p) {v : Nat} (hv : ¬ p v) (h1 : 1 < v) : NoVer s v := by
  refine ⟨fun t hin => hv (h.1 t v hin), fun r j => .inr fun hin => ?_, h1⟩
  by_cases hj : j < (s.root r).ls.length
  · exact hv (h.2 r v (List.mem_cons_of_mem _ (List.mem_flatMap.2 ⟨_, nth_mem hj, hin⟩)))
  · have : s.leaf r j = .bad := nth_ge _ (Nat.le_of_not_lt hj)
    rw [this] at hin; cases hin

/-! ### traces -/

def Guarded (ops : Array Oper) (o : Oper) (s : St) (b : Bool) : Prop := match o.guard with
  | none => b = true
  | some (j, want) => ∃ t, (ops[j]?).bind (·.dst) = some t ∧ ((s.slot t = .v false [.undef] ∧ b = false) ∨ ∃ c : Bool, s.slot t = .v false [.sc .bool c] ∧ b = (c == want))
def Does (cx : Cx) (g : Rg) (bs : List Nat) (i : Nat) (o : Oper) (s : St) (ws : List Wr) : Prop :=
  (Guarded g.ops o s true ∧ (opDelta cx (g.v0 + i) o s).leads ws ∧ okDelta cx o.dst g.v0 (g.v0 + i) (nth 0 bs i) ws = true) ∨ (Guarded g.ops o s false ∧ ws = undefW o.dst)
def Trace (cx : Cx) (g : Rg) (bs : List Nat) : Nat → List Oper → List (Nat × Nat) → St → List (Nat × List Wr) → Prop
  | _, [], _, _, [] => True
  | i, o :: r, lg, s, (rm, ws) :: tr => rm = readMask g.ops o s ∧ (g.draw = true → indep (nth 0 bs i) rm (writeMask ws) 0 lg = true) ∧ Does cx g bs i o s ws ∧ Trace cx g bs (i + 1) r (lg ++ [(rm, writeMask ws)]) (s.app ws) tr
  | _, _, _, _, _ => False
def appsIf (A : Nat → Bool) : Nat → List (Nat × List Wr) → St → St
  | _, [], s => s
  | i, x :: tr, s => appsIf A (i + 1) tr (bif A i then s.app x.2 else s)

theorem upd_nth {α : Type} (d : α) : ∀ (l : List α) (n : Nat), upd l n (nth d l n) = l
  | [], n => rfl
  | x :: xs, 0 => rfl
  | x :: xs, n + 1 => by simp [upd, nth, upd_nth d xs n]
theorem app1_slot_same {s : St} {t : Nat} {a : AV} (h : s.slot t = a) : s.app1 (.slot t a) = s := by
  subst h
  show { s with sl := upd s.sl t (s.slot t) } = s
  have : upd s.sl t (s.slot t) = s.sl := upd_nth _ _ _
  rw [this]

theorem evOps_trace {R : Type} {cx : Cx} {g : Rg} {bs : List Nat} {k : St → Option R} {x : R} : ∀ (r : List Oper) (i : Nat) (lg : List (Nat × Nat)) (s : St), evOps cx g (number i r) bs lg s k = some x →
    ∃ tr, Trace cx g bs i r lg s tr ∧ tr.length = r.length ∧ k (appsIf (fun _ => true) i tr s) = some x
  | [], i, lg, s, h => ⟨[], trivial, rfl, h⟩
  | o :: r, i, lg, s, h => by
    simp only [number, evOps] at h
    have exec : Guarded g.ops o s true → ((opDelta cx (g.v0 + i) o s).run fun ws =>
        if okDelta cx o.dst g.v0 (g.v0 + i) (nth 0 bs i) ws && (!g.draw || indep (nth 0 bs i) (readMask g.ops o s) (writeMask ws) 0 lg) then evOps cx g (number (i + 1) r) bs (lg ++ [(readMask g.ops o s, writeMask ws)]) (s.app ws) k else none) = some x →
        ∃ tr, Trace cx g bs i (o :: r) lg s tr ∧ tr.length = (o :: r).length ∧ k (appsIf (fun _ => true) i tr s) = some x := by
      intro hg h
      obtain ⟨ws, hl, h⟩ := Step.run_leads _ h
      split at h
      · rename_i hc
        simp only [Bool.and_eq_true, Bool.or_eq_true, Bool.not_eq_true'] at hc
        obtain ⟨tr, h1, h2, h3⟩ := evOps_trace r (i + 1) _ _ h
        exact ⟨(_, ws) :: tr, ⟨rfl, fun hd => hc.2.resolve_left (by simp [hd]), .inl ⟨hg, hl, hc.1⟩, h1⟩, by simp [h2], h3⟩
      · cases h
    have skip : Guarded g.ops o s false → (if (!g.draw || indep (nth 0 bs i) (readMask g.ops o s) (writeMask (undefW o.dst)) 0 lg) = true then evOps cx g (number (i + 1) r) bs (lg ++ [(readMask g.ops o s, writeMask (undefW o.dst))]) (s.app (undefW o.dst)) k else none) = some x →
        ∃ tr, Trace cx g bs i (o :: r) lg s tr ∧ tr.length = (o :: r).length ∧ k (appsIf (fun _ => true) i tr s) = some x := by
      intro hg h
      split at h
      · rename_i hc
        simp only [Bool.or_eq_true, Bool.not_eq_true'] at hc
        obtain ⟨tr, h1, h2, h3⟩ := evOps_trace r (i + 1) _ _ h
        exact ⟨(_, undefW o.dst) :: tr, ⟨rfl, fun hd => hc.resolve_left (by simp [hd]), .inr ⟨hg, rfl⟩, h1⟩, by simp [h2], h3⟩
      · cases h
    cases hgd : o.guard with
    | none =>
      rw [hgd] at h
      exact exec (by unfold Guarded; rw [hgd]) h
    | some p =>
      obtain ⟨j, want⟩ := p
      rw [hgd] at h
      dsimp only at h
      cases ht : (g.ops[j]?).bind (·.dst) with
      | none => rw [ht] at h; cases h
      | some t =>
        rw [ht] at h
        dsimp only at h
        have gd : ∀ (c : Bool), s.slot t = .v false [.sc .bool c] → Guarded g.ops o s (c == want) := fun c hc => by unfold Guarded; rw [hgd]; exact ⟨t, ht, .inr ⟨c, hc, rfl⟩⟩
        split at h
        · rename_i hs
          exact skip (by unfold Guarded; rw [hgd]; exact ⟨t, ht, .inl ⟨hs, rfl⟩⟩) h
        · rename_i c hs
          cases want with
          | true =>
            dsimp only at h
            cases c with
            | true =>
              have hsame : s.app1 (.slot t (scB true)) = s := app1_slot_same hs
              rw [hsame] at h
              exact exec (gd true hs) h
            | false =>
              have hsame : s.app1 (.slot t (scB false)) = s := app1_slot_same hs
              rw [hsame] at h
              exact skip (gd false hs) h
          | false =>
            dsimp only at h
            cases c with
            | true =>
              have hsame : s.app1 (.slot t (scB true)) = s := app1_slot_same hs
              rw [hsame] at h
              exact skip (gd true hs) h
            | false =>
              have hsame : s.app1 (.slot t (scB false)) = s := app1_slot_same hs
              rw [hsame] at h
              exact exec (gd false hs) h
        · cases h
end Go.Ev

namespace Go.Ev
set_option linter.unusedVariables false
set_option linter.unusedSimpArgs false

/-! ### what lies before what -/

theorem befs_ext : ∀ (os : List Oper) (acc : List Nat) (i : Nat), i < acc.length → nth 0 (befs os acc) i = nth 0 acc i
  | [], acc, i, h => rfl
  | o :: os, acc, i, h => by
    simp only [befs]
    rw [befs_ext os _ i (by simp; omega), nth_of, nth_of, List.getElem?_append_left h]
theorem fold_bef (acc : List Nat) (j : Nat) : ∀ (es : List Edge), (es.foldr (fun e m => if Region.binds .any e then Nat.lor (2 ^ e.on) (Nat.lor (nth 0 acc e.on) m) else m) 0).testBit j = true → ∃ e ∈ es, Region.binds .any e = true ∧ (e.on = j ∨ (nth 0 acc e.on).testBit j = true)
  | [], h => by simp at h
  | e :: es, h => by
    rw [List.foldr_cons] at h
    split at h
    · rename_i hb
      rw [bit_lor, bit_lor, bit_pow] at h
      simp only [Bool.or_eq_true, decide_eq_true_eq] at h
      rcases h with h | h | h
      · exact ⟨e, by simp, hb, .inl h⟩
      · exact ⟨e, by simp, hb, .inr h⟩
      · obtain ⟨e', h1, h2⟩ := fold_bef acc j es h; exact ⟨e', List.mem_cons_of_mem _ h1, h2⟩
    · obtain ⟨e', h1, h2⟩ := fold_bef acc j es h; exact ⟨e', List.mem_cons_of_mem _ h1, h2⟩
theorem befs_bit (j : Nat) : ∀ (os : List Oper) (acc : List Nat) (k : Nat) (o : Oper), os[k]? = some o → (nth 0 (befs os acc) (acc.length + k)).testBit j = true → ∃ e ∈ o.after.toList, Region.binds .any e = true ∧ (e.on = j ∨ (nth 0 (befs os acc) e.on).testBit j = true)
  | [], acc, k, o, h, hb => by simp at h
  | x :: os, acc, k, o, h, hb => by
    simp only [befs] at hb ⊢
    cases k with
    | zero =>
      simp at h; subst h
      rw [Nat.add_zero, befs_ext os _ acc.length (by simp), nth_of, List.getElem?_append_right (Nat.le_refl _)] at hb
      simp only [Nat.sub_self, List.getElem?_cons_zero, Option.getD_some] at hb
      obtain ⟨e, h1, h2, h3⟩ := fold_bef acc j _ hb
      refine ⟨e, h1, h2, h3.imp id fun h3 => ?_⟩
      by_cases hlt : e.on < acc.length
      · rw [befs_ext os _ e.on (by simp; omega), nth_of, List.getElem?_append_left hlt, ← nth_of]; exact h3
      · rw [nth_ge 0 (Nat.le_of_not_lt hlt)] at h3; simp at h3
    | succ k =>
      refine befs_bit j os _ k o (by simpa using h) ?_
      rw [List.length_append, List.length_singleton, show acc.length + 1 + k = acc.length + (k + 1) by omega]
      exact hb

theorem edgesOk_get : ∀ (os : List Oper) (i : Nat), edgesOk i os = true → ∀ (k : Nat) (o : Oper), os[k]? = some o → ∀ e ∈ o.after.toList, Region.binds .any e = true → e.on < i + k
  | [], i, h, k, o, ho => by simp at ho
  | x :: os, i, h, k, o, ho => by
    simp only [edgesOk, Bool.and_eq_true] at h
    cases k with
    | zero =>
      simp at ho; subst ho
      intro e he hb
      have := List.all_eq_true.1 h.1 e he
      simpa [hb] using this
    | succ k =>
      intro e he hb
      have := edgesOk_get os (i + 1) h.2 k o (by simpa using ho) e he hb
      omega

/-- What lies before lies in every set that is closed downwards. -/
theorem closed_bit {ops : Array Oper} (hE : edgesOk 0 ops.toList = true) {A : Nat → Prop} (hA : ∀ i o, A i → ops[i]? = some o → ∀ e ∈ o.after.toList, Region.binds .any e = true → A e.on) (hn : ∀ i, A i → i < ops.size) :
    ∀ (i : Nat), A i → ∀ j, (nth 0 (befs ops.toList []) i).testBit j = true → A j := by
  intro i
  induction i using Nat.strongRecOn with
  | _ i ih =>
    intro hi j hj
    have hlt := hn i hi
    have ho : ops.toList[i]? = some ops[i] := by simp [hlt]
    obtain ⟨e, h1, h2, h3⟩ := befs_bit j ops.toList [] i ops[i] ho (by simpa using hj)
    have hon := edgesOk_get ops.toList 0 hE i ops[i] ho e h1 h2
    have hAe := hA i ops[i] hi (by simp [hlt]) e h1 h2
    rcases h3 with h3 | h3
    · rw [← h3]; exact hAe
    · exact ih e.on (by omega) hAe j h3
theorem ready_bit {ops : Array Oper} (hE : edgesOk 0 ops.toList = true) {A : Nat → Prop} (hA : ∀ i o, A i → ops[i]? = some o → ∀ e ∈ o.after.toList, Region.binds .any e = true → A e.on) (hn : ∀ i, A i → i < ops.size)
    {i : Nat} {o : Oper} (ho : ops[i]? = some o) (hi : ∀ e ∈ o.after.toList, Region.binds .any e = true → A e.on) (j : Nat) (hj : (nth 0 (befs ops.toList []) i).testBit j = true) : A j := by
  have ho' : ops.toList[i]? = some o := by simpa using ho
  obtain ⟨e, h1, h2, h3⟩ := befs_bit j ops.toList [] i o ho' (by simpa using hj)
  rcases h3 with h3 | h3
  · rw [← h3]; exact hi e h1 h2
  · exact closed_bit hE hA hn e.on (hi e h1 h2) j h3

section
variable {P : Program} {E : Ent} {s : St} {W : Wd} {a : Act} {cx : Cx} {g : Rg} {bs : List Nat} {Q : Exit → Act → World → Prop}

theorem wanted_ok {tm : Array Value} (h : Rep E s tm W) {ops : Array Oper} {o : Oper} {b : Bool} (hg : Guarded ops o s b) : Region.wanted o (yielded ops tm) = b := by
  unfold Guarded at hg
  unfold Region.wanted
  cases hq : o.guard with
  | none => rw [hq] at hg; exact hg.symm
  | some p =>
    obtain ⟨j, want⟩ := p
    rw [hq] at hg
    dsimp only at hg ⊢
    obtain ⟨t, ht, hs⟩ := hg
    have hsl := h.slots t
    unfold yielded
    rw [ht]
    dsimp only [Option.bind_some]
    rcases hs with ⟨hs, rfl⟩ | ⟨c, hs, rfl⟩
    · rw [hs] at hsl
      have hsl : tm.getD t Go.undef = Go.undef := hsl
      cases hx : tm[t]? with
      | none => rfl
      | some x =>
        have : x = Go.undef := by rw [← hsl]; simp [Array.getD_eq_getD_getElem?, hx]
        subst this; rfl
    · rw [hs] at hsl
      have hsl : tm.getD t Go.undef = .bool c := hsl.1
      cases hx : tm[t]? with
      | none => rw [Array.getD_eq_getD_getElem?, hx] at hsl; cases hsl
      | some x =>
        have : x = .bool c := by rw [← hsl]; simp [Array.getD_eq_getD_getElem?, hx]
        subst this
        cases c <;> cases want <;> rfl

/-- One operation of a region, as a trace tells it. -/
theorem does_wp (hc : CxF P cx) (henv : EnvOk P E cx.env) (h : Rep E s a.tmps W) {i : Nat} {o : Oper} {ws : List Wr} (hv : NoVer s (g.v0 + i)) (hd : ∀ d, o.dst = some d → d < a.tmps.size) (hdoes : Does cx g bs i o s ws)
    {K : Act → World → Prop} (hK : ∀ a' W', a'.defers = a.defers → Rep E (s.app ws) a'.tmps W' → K a' W'.w) (ho : g.ops[i]? = some o) : wpOp P g.ops Q i K a W.w := by
  unfold wpOp
  rw [ho]
  dsimp only
  rcases hdoes with ⟨hg, hl, _⟩ | ⟨hg, rfl⟩
  · rw [wanted_ok h hg, if_pos rfl]
    exact .inl (op_sound hc henv h hv hd hl K Q fun a' W' h1 h2 => hK a' W' h1 h2)
  · rw [wanted_ok h hg, if_neg (by simp)]
    cases hds : o.dst with
    | none => exact hK a W rfl (by simp only [undefW, hds]; exact h)
    | some d =>
      refine hK _ W rfl ?_
      simp only [undefW, hds]
      exact h.slot d (show AVok s W (one .undef) Go.undef from rfl)

def pA (v0 : Nat) (A : Nat → Prop) (n : Nat) : Prop := n < v0 ∨ ∃ j, A j ∧ n = v0 + j
theorem does_vers {i : Nat} {o : Oper} {ws : List Wr} (hdoes : Does cx g bs i o s ws) {A : Nat → Prop} (hA : ∀ j, (nth 0 bs i).testBit j = true → A j) : ∀ w ∈ ws, ∀ n ∈ w.vers, pA g.v0 (fun j => A j ∨ j = i) n := by
  intro w hw n hn
  rcases hdoes with ⟨_, _, hok⟩ | ⟨_, rfl⟩
  · have h1 := List.all_eq_true.1 hok w hw
    rw [Bool.and_eq_true] at h1
    have h2 := List.all_eq_true.1 h1.2 n hn
    simp only [Bool.or_eq_true, decide_eq_true_eq, beq_iff_eq, Bool.and_eq_true] at h2
    rcases h2 with (h2 | h2) | ⟨h2, h3⟩
    · exact .inl h2
    · exact .inr ⟨i, .inr rfl, h2⟩
    · exact .inr ⟨n - g.v0, .inl (hA _ h3), by omega⟩
  · cases hds : o.dst with
    | none => rw [hds] at hw; cases hw
    | some d =>
      rw [hds] at hw
      have : w = .slot d (one .undef) := by simpa [undefW] using hw
      subst this
      simp [Wr.vers, one, AV.vers, LA.vers] at hn

theorem seq_wp (hc : CxF P cx) (henv : EnvOk P E cx.env) (h1 : 1 < g.v0) (hb : ∀ i j, i < g.ops.size → (nth 0 bs i).testBit j = true → j < i) : ∀ (r : List Oper) (i : Nat) (lg : List (Nat × Nat)) (s : St) (tr : List (Nat × List Wr)) (a : Act) (W : Wd), Trace cx g bs i r lg s tr →
    (∀ (k : Nat) (o : Oper), r[k]? = some o → g.ops[i + k]? = some o) → Rep E s a.tmps W → VersIn s (pA g.v0 (· < i)) → (∀ o ∈ r, ∀ d, o.dst = some d → d < s.sl.length) →
    (∀ a' W', a'.defers = a.defers → Rep E (appsIf (fun _ => true) i tr s) a'.tmps W' → VersIn (appsIf (fun _ => true) i tr s) (pA g.v0 (· < i + r.length)) → Q .normal a' W'.w) → wpOps P g.ops Q (List.range' i r.length) a W.w
  | [], i, lg, s, [], a, W, ht, hr, hrep, hver, hd, hK => hK a W rfl hrep hver
  | [], i, lg, s, _ :: _, a, W, ht, hr, hrep, hver, hd, hK => ht.elim
  | _ :: _, i, lg, s, [], a, W, ht, hr, hrep, hver, hd, hK => ht.elim
  | o :: r, i, lg, s, (rm, ws) :: tr, a, W, ht, hr, hrep, hver, hd, hK => by
    obtain ⟨hrm, _, hdoes, ht⟩ := ht
    have ho : g.ops[i]? = some o := by have := hr 0 o rfl; simpa using this
    have hlt : i < g.ops.size := (Array.getElem?_eq_some_iff.1 ho).1
    rw [List.length_cons, List.range'_succ, wpOps_cons]
    have hnv : NoVer s (g.v0 + i) := hver.noVer (by rintro (hh | ⟨j, hj, e⟩) <;> omega) (by omega)
    refine does_wp hc henv hrep hnv (fun d hds => by rw [← hrep.len1]; exact hd o (by simp) d hds) hdoes (fun a' W' hdef hrep' => ?_) ho
    refine seq_wp hc henv h1 hb r (i + 1) _ _ tr a' W' ht (fun k o hk => by rw [show i + 1 + k = i + (k + 1) by omega]; exact hr (k + 1) o (by simpa using hk)) hrep' ?_ ?_ ?_
    · refine (hver.mono ?_).app (fun w hw n hn => ?_)
      · rintro n (hn | ⟨j, hj, e⟩)
        · exact .inl hn
        · exact .inr ⟨j, by omega, e⟩
      · rcases does_vers hdoes (A := (· < i)) (fun j hj => hb i j hlt hj) w hw n hn with hn | ⟨j, hj, e⟩
        · exact .inl hn
        · exact .inr ⟨j, by omega, e⟩
    · intro o' ho' d hds
      rw [(app_len ws s).1]; exact hd o' (List.mem_cons_of_mem _ ho') d hds
    · intro a2 W2 hdef2 hrep2 hver2
      refine hK a2 W2 (hdef2.trans hdef) hrep2 (hver2.mono ?_)
      rintro n (hn | ⟨j, hj, e⟩)
      · exact .inl hn
      · exact .inr ⟨j, by simp; omega, e⟩
end
end Go.Ev

namespace Go.Ev
set_option linter.unusedVariables false
set_option linter.unusedSimpArgs false

theorem indep_get (b rm wm : Nat) : ∀ (lg : List (Nat × Nat)) (j : Nat), indep b rm wm j lg = true → ∀ (k : Nat) (r w : Nat), lg[k]? = some (r, w) → b.testBit (j + k) = true ∨ (Apart w (Nat.lor rm wm) ∧ Apart r wm)
  | [], j, h, k, r, w, hk => by simp at hk
  | (r0, w0) :: lg, j, h, k, r, w, hk => by
    simp only [indep, Bool.and_eq_true, Bool.or_eq_true] at h
    cases k with
    | zero =>
      simp at hk; obtain ⟨rfl, rfl⟩ := hk
      exact h.1.imp id fun hh => ⟨apart_land hh.1, apart_land hh.2⟩
    | succ k =>
      have := indep_get b rm wm lg (j + 1) h.2 k r w (by simpa using hk)
      rwa [show j + 1 + k = j + (k + 1) by omega] at this

section
variable {cx : Cx} {g : Rg} {bs : List Nat}

/-- The state before operation 'i' of a trace, and what is known there. -/
theorem trace_at : ∀ (r : List Oper) (i : Nat) (lg : List (Nat × Nat)) (s : St) (tr : List (Nat × List Wr)), Trace cx g bs i r lg s tr → ∀ (k : Nat) (o : Oper) (rm : Nat) (ws : List Wr), r[k]? = some o → tr[k]? = some (rm, ws) →
    rm = readMask g.ops o (appsIf (fun j => decide (j < i + k)) i tr s) ∧ Does cx g bs (i + k) o (appsIf (fun j => decide (j < i + k)) i tr s) ws ∧ (g.draw = true → indep (nth 0 bs (i + k)) rm (writeMask ws) 0 (lg ++ (tr.take k).map fun x => (x.1, writeMask x.2)) = true)
  | [], i, lg, s, tr, ht, k, o, rm, ws, h1, h2 => by simp at h1
  | o0 :: r, i, lg, s, [], ht, k, o, rm, ws, h1, h2 => by simp at h2
  | o0 :: r, i, lg, s, (rm0, ws0) :: tr, ht, k, o, rm, ws, h1, h2 => by
    obtain ⟨hrm, hin, hdoes, ht⟩ := ht
    have none : ∀ (tr : List (Nat × List Wr)) (i j : Nat) (s : St), j ≤ i → appsIf (fun q => decide (q < j)) i tr s = s := by
      intro tr
      induction tr with
      | nil => intro i j s h; rfl
      | cons x tr ih =>
        intro i j s h
        simp only [appsIf]
        rw [show decide (i < j) = false by simp; omega]
        exact ih (i + 1) j s (by omega)
    cases k with
    | zero =>
      simp at h1 h2
      obtain ⟨rfl, rfl⟩ := h2
      subst h1
      rw [Nat.add_zero, none _ _ _ _ (Nat.le_refl _)]
      exact ⟨hrm, hdoes, fun hd => by simpa using hin hd⟩
    | succ k =>
      obtain ⟨q1, q2, q3⟩ := trace_at r (i + 1) _ _ tr ht k o rm ws (by simpa using h1) (by simpa using h2)
      have e : appsIf (fun j => decide (j < i + (k + 1))) i ((rm0, ws0) :: tr) s = appsIf (fun j => decide (j < i + 1 + k)) (i + 1) tr (s.app ws0) := by
        simp only [appsIf]
        rw [show decide (i < i + (k + 1)) = true from decide_eq_true (by omega), show i + (k + 1) = i + 1 + k by omega]
        rfl
      rw [e, show i + (k + 1) = i + 1 + k by omega]
      refine ⟨q1, q2, fun hd => ?_⟩
      have := q3 hd
      simpa using this

theorem appsIf_len (A : Nat → Bool) : ∀ (tr : List (Nat × List Wr)) (i : Nat) (s : St), (appsIf A i tr s).sl.length = s.sl.length ∧ (appsIf A i tr s).ro.length = s.ro.length
  | [], i, s => ⟨rfl, rfl⟩
  | x :: tr, i, s => by
    simp only [appsIf]
    obtain ⟨h1, h2⟩ := appsIf_len A tr (i + 1) (bif A i then s.app x.2 else s)
    cases hA : A i with
    | true => rw [hA] at h1 h2; exact ⟨h1.trans (app_len _ _).1, h2.trans (app_len _ _).2⟩
    | false => rw [hA] at h1 h2; exact ⟨h1, h2⟩
theorem appsIf_slot {A B : Nat → Bool} {t : Nat} : ∀ (tr : List (Nat × List Wr)) (i : Nat) (s s' : St), s'.sl.length = s.sl.length → s'.slot t = s.slot t → (∀ k x, tr[k]? = some x → (writeMask x.2).testBit (2 * t) = true → B (i + k) = A (i + k)) →
    (appsIf B i tr s').slot t = (appsIf A i tr s).slot t
  | [], i, s, s', hl, h, hA => h
  | x :: tr, i, s, s', hl, h, hA => by
    simp only [appsIf]
    refine appsIf_slot tr (i + 1) _ _ ?_ ?_ fun k y hk hy => by rw [show i + 1 + k = i + (k + 1) by omega]; exact hA (k + 1) y (by simpa using hk) hy
    · cases A i <;> cases B i <;> simp [app_len, hl]
    · by_cases hm : (writeMask x.2).testBit (2 * t) = true
      · have := hA 0 x rfl hm
        rw [Nat.add_zero] at this
        rw [this]
        cases A i with
        | true => exact app_slot_cong hl h
        | false => exact h
      · have hm : (writeMask x.2).testBit (2 * t) = false := by simpa using hm
        have e1 : ∀ b : Bool, (bif b then s'.app x.2 else s').slot t = s'.slot t := fun b => by cases b; rfl; exact app_slot_miss hm
        have e2 : ∀ b : Bool, (bif b then s.app x.2 else s).slot t = s.slot t := fun b => by cases b; rfl; exact app_slot_miss hm
        rw [e1, e2]; exact h
theorem appsIf_root {A B : Nat → Bool} {t : Nat} : ∀ (tr : List (Nat × List Wr)) (i : Nat) (s s' : St), s'.ro.length = s.ro.length → s'.root t = s.root t → (∀ k x, tr[k]? = some x → (writeMask x.2).testBit (2 * t + 1) = true → B (i + k) = A (i + k)) →
    (appsIf B i tr s').root t = (appsIf A i tr s).root t
  | [], i, s, s', hl, h, hA => h
  | x :: tr, i, s, s', hl, h, hA => by
    simp only [appsIf]
    refine appsIf_root tr (i + 1) _ _ ?_ ?_ fun k y hk hy => by rw [show i + 1 + k = i + (k + 1) by omega]; exact hA (k + 1) y (by simpa using hk) hy
    · cases A i <;> cases B i <;> simp [app_len, hl]
    · by_cases hm : (writeMask x.2).testBit (2 * t + 1) = true
      · have := hA 0 x rfl hm
        rw [Nat.add_zero] at this
        rw [this]
        cases A i with
        | true => exact app_root_cong hl h
        | false => exact h
      · have hm : (writeMask x.2).testBit (2 * t + 1) = false := by simpa using hm
        have e1 : ∀ b : Bool, (bif b then s'.app x.2 else s').root t = s'.root t := fun b => by cases b; rfl; exact app_root_miss hm
        have e2 : ∀ b : Bool, (bif b then s.app x.2 else s).root t = s.root t := fun b => by cases b; rfl; exact app_root_miss hm
        rw [e1, e2]; exact h
theorem appsIf_push {A : Nat → Bool} {ws : List Wr} : ∀ (tr : List (Nat × List Wr)) (i : Nat) (s : St), (∀ k x, tr[k]? = some x → A (i + k) = true → Apart (writeMask ws) (writeMask x.2)) → appsIf A i tr (s.app ws) = (appsIf A i tr s).app ws
  | [], i, s, h => rfl
  | x :: tr, i, s, h => by
    simp only [appsIf]
    have ih : ∀ s, appsIf A (i + 1) tr (s.app ws) = (appsIf A (i + 1) tr s).app ws := fun s => appsIf_push tr (i + 1) s fun k y hk hy => h (k + 1) y (by simpa using hk) (by rw [show i + (k + 1) = i + 1 + k by omega]; exact hy)
    cases hA : A i with
    | false => exact ih s
    | true =>
      dsimp only [cond_true]
      rw [← ih, app_comm (h 0 x rfl (by simpa using hA))]
theorem appsIf_congr {A B : Nat → Bool} : ∀ (tr : List (Nat × List Wr)) (i : Nat) (s : St), (∀ k, k < tr.length → A (i + k) = B (i + k)) → appsIf A i tr s = appsIf B i tr s
  | [], i, s, h => rfl
  | x :: tr, i, s, h => by
    simp only [appsIf]
    have h0 := h 0 (by simp)
    rw [Nat.add_zero] at h0
    rw [h0]
    exact appsIf_congr tr (i + 1) _ fun k hk => by rw [show i + 1 + k = i + (k + 1) by omega]; exact h (k + 1) (by simp; omega)
/-- One more operation is done. -/
theorem appsIf_more {A B : Nat → Bool} {n : Nat} {rm : Nat} {ws : List Wr} : ∀ (tr : List (Nat × List Wr)) (i : Nat) (s : St), tr[n]? = some (rm, ws) → A (i + n) = false → B (i + n) = true → (∀ k, k ≠ n → B (i + k) = A (i + k)) →
    (∀ k x, n < k → tr[k]? = some x → A (i + k) = true → Apart (writeMask ws) (writeMask x.2)) → appsIf B i tr s = (appsIf A i tr s).app ws
  | [], i, s, hn, hA, hB, hsame, hap => by simp at hn
  | x :: tr, i, s, hn, hA, hB, hsame, hap => by
    simp only [appsIf]
    cases n with
    | zero =>
      simp at hn; subst hn
      rw [Nat.add_zero] at hA hB
      rw [hA, hB]
      dsimp only [cond_true, cond_false]
      rw [appsIf_congr (A := B) (B := A) tr (i + 1) _ fun k hk => by rw [show i + 1 + k = i + (k + 1) by omega]; exact hsame (k + 1) (by omega)]
      exact appsIf_push tr (i + 1) s fun k y hk hy => hap (k + 1) y (by omega) (by simpa using hk) (by rw [show i + (k + 1) = i + 1 + k by omega]; exact hy)
    | succ n =>
      have h0 := hsame 0 (by omega)
      rw [Nat.add_zero] at h0
      rw [h0]
      exact appsIf_more tr (i + 1) _ (by simpa using hn) (by rw [show i + 1 + n = i + (n + 1) by omega]; exact hA) (by rw [show i + 1 + n = i + (n + 1) by omega]; exact hB)
        (fun k hk => by rw [show i + 1 + k = i + (k + 1) by omega]; exact hsame (k + 1) (by omega)) (fun k y hk hy hA => hap (k + 1) y (by omega) (by simpa using hy) (by rw [show i + (k + 1) = i + 1 + k by omega]; exact hA))
end

section
variable {P : Program} {E : Ent} {cx : Cx} {g : Rg} {Q : Exit → Act → World → Prop}

theorem guarded_eq {ops : Array Oper} {o : Oper} {s s' : St} {b : Bool} (h : ∀ j want t, o.guard = some (j, want) → (ops[j]?).bind (·.dst) = some t → s'.slot t = s.slot t) (hg : Guarded ops o s b) : Guarded ops o s' b := by
  unfold Guarded at hg ⊢
  cases hq : o.guard with
  | none => rw [hq] at hg; exact hg
  | some p =>
    obtain ⟨j, want⟩ := p
    rw [hq] at hg
    dsimp only at hg ⊢
    obtain ⟨t, ht, hs⟩ := hg
    exact ⟨t, ht, by rw [h j want t hq ht]; exact hs⟩

theorem any_wp (hc : CxF P cx) (henv : EnvOk P E cx.env) (h1 : 1 < g.v0) (hE : edgesOk 0 g.ops.toList = true) (hdraw : g.draw = true) {s : St} {tr : List (Nat × List Wr)} (ht : Trace cx g (befs g.ops.toList []) 0 g.ops.toList [] s tr) (hlen : tr.length = g.ops.size)
    (hver : VersIn s (· < g.v0)) (hd : ∀ o ∈ g.ops.toList, ∀ d, o.dst = some d → d < s.sl.length) {df : List Deferred}
    (hK : ∀ a' W', a'.defers = df → Rep E (appsIf (fun _ => true) 0 tr s) a'.tmps W' → VersIn (appsIf (fun _ => true) 0 tr s) (pA g.v0 (· < g.ops.size)) → Q .normal a' W'.w) :
    ∀ (fuel : Nat) (listed : Array Bool) (a : Act) (W : Wd), listed.size = g.ops.size → listed.toList.count false = fuel → a.defers = df → Rep E (appsIf (fun i => listed.getD i false) 0 tr s) a.tmps W →
      VersIn (appsIf (fun i => listed.getD i false) 0 tr s) (pA g.v0 fun i => listed.getD i false = true) →
      (∀ i o, listed.getD i false = true → g.ops[i]? = some o → ∀ e ∈ o.after.toList, Region.binds .any e = true → listed.getD e.on false = true) → wpAny P .any g.ops Q fuel listed a W.w := by
  intro fuel
  have hall : ∀ (listed : Array Bool), listed.size = g.ops.size → (∀ i, i < g.ops.size → listed.getD i false = true) → appsIf (fun i => listed.getD i false) 0 tr s = appsIf (fun _ => true) 0 tr s := fun listed hs h =>
    appsIf_congr tr 0 s fun k hk => by rw [Nat.zero_add]; exact h k (by omega)
  have hrdy : ∀ (listed : Array Bool) (i : Nat), i ∈ Region.ready .any g.ops listed → listed.size = g.ops.size → i < g.ops.size ∧ listed.getD i false = false ∧ ∃ o, g.ops[i]? = some o ∧ ∀ e ∈ o.after.toList, Region.binds .any e = true → listed.getD e.on false = true := by
    intro listed i hi hs
    obtain ⟨hi1, hi2⟩ := List.mem_filter.1 hi
    have hlt : i < g.ops.size := List.mem_range.1 hi1
    rw [Bool.and_eq_true] at hi2
    refine ⟨hlt, ?_, g.ops[i], by simp [hlt], ?_⟩
    · have h2 := hi2.1
      have hl : i < listed.size := by omega
      simp only [Array.getD_eq_getD_getElem?, Array.getElem?_eq_getElem hl, Option.getD_some] at h2 ⊢
      simpa using h2
    · intro e he hb
      have h2 := hi2.2
      rw [Array.getElem?_eq_getElem hlt] at h2
      simp only [Option.map_some, Option.getD_some] at h2
      have h3 := Array.all_eq_true'.1 h2 e (by simpa using he)
      rw [hb] at h3
      simpa using h3
  induction fuel with
  | zero =>
    intro listed a W hs hcount hdf hrep hv hcl
    have hno : ∀ i, i < g.ops.size → listed.getD i false = true := by
      intro i hi
      have hl : i < listed.size := by omega
      have hne : false ∉ listed.toList := List.count_eq_zero.1 hcount
      rw [Array.getD_eq_getD_getElem?, Array.getElem?_eq_getElem hl, Option.getD_some]
      cases hq : listed[i] with
      | true => rfl
      | false => exact absurd (by rw [← hq]; exact Array.getElem_mem_toList hl) hne
    refine ⟨?_, ?_⟩
    · rw [List.eq_nil_iff_forall_not_mem]
      intro i hi
      obtain ⟨q1, q2, _⟩ := hrdy listed i hi hs
      rw [hno i q1] at q2; cases q2
    · rw [hall listed hs hno] at hrep hv
      refine hK a W hdf hrep (hv.mono ?_)
      rintro n (hn | ⟨j, hj, e⟩)
      · exact .inl hn
      · refine .inr ⟨j, ?_, e⟩
        rw [← hs]
        rcases Nat.lt_or_ge j listed.size with h | h
        · exact h
        · rw [Array.getD_eq_getD_getElem?, Array.getElem?_eq_none h] at hj; cases hj
  | succ fuel ih =>
    intro listed a W hs hcount hdf hrep hv hcl
    have hAn : ∀ i, listed.getD i false = true → i < g.ops.size := by
      intro i hi
      rw [← hs]
      rcases Nat.lt_or_ge i listed.size with h | h
      · exact h
      · rw [Array.getD_eq_getD_getElem?, Array.getElem?_eq_none h] at hi; cases hi
    refine ⟨fun hemp => ?_, fun i hi => ?_⟩
    · exfalso
      -- the first that is not listed is ready
      have hex : ∃ i, i < g.ops.size ∧ listed.getD i false = false := by
        have : false ∈ listed.toList := by
          refine Classical.byContradiction fun hn => ?_
          rw [List.count_eq_zero.2 hn] at hcount; cases hcount
        obtain ⟨i, hi, he⟩ := List.mem_iff_getElem.1 this
        have hi' : i < listed.size := by simpa using hi
        refine ⟨i, by omega, ?_⟩
        rw [Array.getD_eq_getD_getElem?, Array.getElem?_eq_getElem hi', Option.getD_some]
        simpa using he
      have hmin : ∀ n i, i ≤ n → i < g.ops.size → listed.getD i false = false → ∃ j, j ∈ Region.ready .any g.ops listed := by
        intro n
        induction n using Nat.strongRecOn with
        | _ n ihn =>
          intro i hin hi hli
          by_cases hp : ∀ e ∈ (g.ops[i]).after.toList, Region.binds .any e = true → listed.getD e.on false = true
          · refine ⟨i, List.mem_filter.2 ⟨List.mem_range.2 hi, ?_⟩⟩
            have hl : i < listed.size := by omega
            rw [Bool.and_eq_true]
            refine ⟨?_, ?_⟩
            · simp only [Array.getD_eq_getD_getElem?, Array.getElem?_eq_getElem hl, Option.getD_some] at hli ⊢
              simp [hli]
            · rw [Array.getElem?_eq_getElem hi]
              simp only [Option.map_some, Option.getD_some]
              refine Array.all_eq_true'.2 fun e he => ?_
              cases hb : Region.binds .any e with
              | false => rfl
              | true => simpa using hp e (by simpa using he) hb
          · have : ∃ e ∈ (g.ops[i]).after.toList, Region.binds .any e = true ∧ listed.getD e.on false = false := by
              refine Classical.byContradiction fun hn => hp fun e he hb => ?_
              cases hq : listed.getD e.on false with
              | true => rfl
              | false => exact absurd ⟨e, he, hb, hq⟩ hn
            obtain ⟨e, he, hb, hle⟩ := this
            have hon := edgesOk_get g.ops.toList 0 hE i g.ops[i] (by simp [hi]) e he hb
            exact ihn e.on (by omega) e.on (Nat.le_refl _) (by omega) hle
      obtain ⟨i, hi, hli⟩ := hex
      obtain ⟨j, hj⟩ := hmin i i (Nat.le_refl _) hi hli
      rw [hemp] at hj; cases hj
    · obtain ⟨hlt, hnl, o, ho, hpre⟩ := hrdy listed i hi hs
      have hol : g.ops.toList[i]? = some o := by simpa using ho
      obtain ⟨⟨rm, ws⟩, htr⟩ : ∃ x, tr[i]? = some x := ⟨tr[i]'(by omega), List.getElem?_eq_getElem (by omega)⟩
      obtain ⟨t1, t2, t3⟩ := trace_at g.ops.toList 0 [] s tr ht i o rm ws hol htr
      simp only [Nat.zero_add, List.nil_append] at t1 t2 t3
      have t3 := t3 hdraw
      have hbit : ∀ j, (nth 0 (befs g.ops.toList []) i).testBit j = true → listed.getD j false = true := ready_bit hE hcl hAn ho hpre
      -- later operations that are done are apart
      have hlater : ∀ k x, i < k → tr[k]? = some x → listed.getD k false = true → Apart (writeMask ws) (Nat.lor x.1 (writeMask x.2)) ∧ Apart rm (writeMask x.2) := by
        intro k x hk hx hlk
        obtain ⟨ok, hok⟩ : ∃ o, g.ops.toList[k]? = some o := ⟨_, List.getElem?_eq_getElem (by have := hAn k hlk; simpa using this)⟩
        obtain ⟨rmk, wsk⟩ := x
        obtain ⟨_, _, k3⟩ := trace_at g.ops.toList 0 [] s tr ht k ok rmk wsk hok hx
        simp only [Nat.zero_add, List.nil_append] at k3
        have := indep_get _ _ _ _ 0 (k3 hdraw) i rm (writeMask ws) (by rw [List.getElem?_map, List.getElem?_take_of_lt hk, htr]; rfl)
        rw [Nat.zero_add] at this
        refine this.resolve_left fun hb => ?_
        have := closed_bit hE (A := fun i => listed.getD i false = true) hcl hAn k hlk i hb
        rw [hnl] at this; cases this
      -- earlier operations that are not done are apart
      have hearly : ∀ k x, k < i → tr[k]? = some x → listed.getD k false = false → Apart (writeMask x.2) (Nat.lor rm (writeMask ws)) := by
        intro k x hk hx hlk
        have := indep_get _ _ _ _ 0 t3 k x.1 (writeMask x.2) (by rw [List.getElem?_map, List.getElem?_take_of_lt hk, hx]; rfl)
        rw [Nat.zero_add] at this
        rcases this with hb | hb
        · rw [hbit k hb] at hlk; cases hlk
        · exact hb.1
      have hag : Agree rm (appsIf (fun j => decide (j < i)) 0 tr s) (appsIf (fun i => listed.getD i false) 0 tr s) := by
        have key : ∀ (b : Nat), rm.testBit b = true → ∀ k x, tr[k]? = some x → (writeMask x.2).testBit b = true → listed.getD (0 + k) false = decide (0 + k < i) := by
          intro b hb k x hx hw
          rw [Nat.zero_add]
          rcases Nat.lt_trichotomy k i with hk | hk | hk
          · cases hl : listed.getD k false with
            | true => simp [hk]
            | false =>
              have := hearly k x hk hx hl b hw
              rw [bit_lor, hb] at this; simp at this
          · subst hk; rw [hnl]; simp
          · cases hl : listed.getD k false with
            | false => simp; omega
            | true =>
              have := (hlater k x hk hx hl).2 b hb
              rw [hw] at this; cases this
        exact ⟨fun t hb => appsIf_slot tr 0 s s rfl rfl fun k x hx hw => key _ hb k x hx hw, fun t hb => appsIf_root tr 0 s s rfl rfl fun k x hx hw => key _ hb k x hx hw⟩
      have hfoot := foot_ok (cx := cx) (v := g.v0 + i) (ops := g.ops) (o := o) (s := appsIf (fun j => decide (j < i)) 0 tr s) (s' := appsIf (fun i => listed.getD i false) 0 tr s) (by rw [← t1]; exact hag)
      have hdoes : Does cx g (befs g.ops.toList []) i o (appsIf (fun i => listed.getD i false) 0 tr s) ws := by
        rcases t2 with ⟨g1, g2, g3⟩ | ⟨g1, g2⟩
        · exact .inl ⟨guarded_eq hfoot.2 g1, by rw [hfoot.1]; exact g2, g3⟩
        · exact .inr ⟨guarded_eq hfoot.2 g1, g2⟩
      have hnv : NoVer (appsIf (fun i => listed.getD i false) 0 tr s) (g.v0 + i) := hv.noVer (by
        rintro (hh | ⟨j, hj, e⟩)
        · omega
        · have : j = i := by omega
          subst this; rw [hnl] at hj; cases hj) (by omega)
      have hset : ∀ k, (listed.setIfInBounds i true).getD k false = (if i = k then true else listed.getD k false) := by
        intro k
        simp only [Array.getD_eq_getD_getElem?, Array.getElem?_setIfInBounds]
        by_cases hk : i = k
        · subst hk; simp [show i < listed.size by omega]
        · simp [hk]
      have hmore : appsIf (fun k => (listed.setIfInBounds i true).getD k false) 0 tr s = (appsIf (fun i => listed.getD i false) 0 tr s).app ws := by
        refine appsIf_more tr 0 s htr (by rw [Nat.zero_add]; exact hnl) (by rw [Nat.zero_add, hset]; simp) (fun k hk => by rw [Nat.zero_add, hset, if_neg (fun e => hk e.symm)]) fun k x hk hx hl => ?_
        rw [Nat.zero_add] at hl
        intro b hb
        have := (hlater k x hk hx hl).1 b hb
        rw [bit_lor, Bool.or_eq_false_iff] at this
        exact this.2
      refine does_wp hc henv hrep hnv (fun d hds => by rw [← hrep.len1, (appsIf_len _ tr 0 s).1]; exact hd o (List.mem_of_getElem? hol) d hds) hdoes (fun a' W' hdef hrep' => ?_) ho
      refine ih (listed.setIfInBounds i true) a' W' (by simp [hs]) ?_ (hdef.trans hdf) (by rw [hmore]; exact hrep') ?_ ?_
      · have hi' : i < listed.toList.length := by simp; omega
        have hfalse : listed.toList[i] = false := by
          have hl : i < listed.size := by omega
          rw [Array.getD_eq_getD_getElem?, Array.getElem?_eq_getElem hl, Option.getD_some] at hnl
          simpa using hnl
        rw [Array.toList_setIfInBounds, List.count_set hi', hfalse, hcount]
        simp
      · rw [hmore]
        refine (hv.mono ?_).app (fun w hw n hn => ?_)
        · rintro n (hn | ⟨j, hj, e⟩)
          · exact .inl hn
          · exact .inr ⟨j, by show (listed.setIfInBounds i true).getD j false = true; rw [hset]; split; rfl; exact hj, e⟩
        · rcases does_vers hdoes (A := fun j => listed.getD j false = true) hbit w hw n hn with hn | ⟨j, hj, e⟩
          · exact .inl hn
          · refine .inr ⟨j, ?_, e⟩
            show (listed.setIfInBounds i true).getD j false = true
            rw [hset]
            rcases hj with hj | hj
            · split
              · rfl
              · exact hj
            · rw [if_pos hj.symm]
      · intro k o' hk ho' e he hb
        rw [hset] at hk ⊢
        split
        · rfl
        · by_cases hki : i = k
          · subst hki
            rw [ho] at ho'; injection ho' with ho'; subst ho'
            exact hpre e he hb
          · rw [if_neg hki] at hk
            exact hcl k o' hk ho' e he hb
end
end Go.Ev

namespace Go.Ev
set_option linter.unusedVariables false
set_option linter.unusedSimpArgs false

/-- What may have turned bad. -/
def dirty (cx : Cx) (a : LA) : Prop := match a with
  | .ref c => cx.lock c.r = false
  | .win c _ _ => cx.lock c.r = false
  | .eptr c => cx.lock c.r = false
  | .ptr r _ _ => cx.slk r = false
  | .ifc _ c => cx.lock c.r = false
  | .clo _ ps _ => ∃ p ∈ ps, cx.slk p.1 = false
  | _ => False
def LClean (cx : Cx) (a a' : LA) : Prop := a' = a ∨ (a' = .bad ∧ dirty cx a)
inductive AClean (cx : Cx) : AV → AV → Prop
  | same (v) : AClean cx v v
  | v (g as as') (h : as'.length = as.length) (hl : ∀ (j : Nat) (a : LA), as[j]? = some a → ∃ a', as'[j]? = some a' ∧ LClean cx a a') : AClean cx (.v g as) (.v g as')
  | tup (vs) : AClean cx (.tup vs) (one .bad)
  | bx (as) : AClean cx (.bx as) (one .bad)
theorem LClean.trans {cx : Cx} {a b c : LA} (h1 : LClean cx a b) (h2 : LClean cx b c) : LClean cx a c := by
  rcases h1 with rfl | ⟨rfl, hd⟩
  · exact h2
  · rcases h2 with rfl | ⟨rfl, _⟩ <;> exact .inr ⟨rfl, hd⟩
theorem AClean.trans {cx : Cx} {a b c : AV} (h1 : AClean cx a b) (h2 : AClean cx b c) : AClean cx a c := by
  cases h1 with
  | same => exact h2
  | v g as as' h hl =>
    cases h2 with
    | same => exact .v g as as' h hl
    | v _ _ as2 h' hl' =>
      refine .v g as as2 (h'.trans h) fun j a hj => ?_
      obtain ⟨a', h3, h4⟩ := hl j a hj
      obtain ⟨a2, h5, h6⟩ := hl' j a' h3
      exact ⟨a2, h5, h4.trans h6⟩
  | tup vs =>
    cases h2 with
    | same => exact .tup vs
    | v _ _ as2 h' hl' =>
      obtain ⟨a2, h5, h6⟩ := hl' 0 .bad rfl
      have : as2 = [.bad] := by
        match as2, h' with
        | [x], _ =>
          simp at h5; subst h5
          rcases h6 with rfl | ⟨rfl, _⟩ <;> rfl
      subst this
      exact .tup vs
  | bx as =>
    cases h2 with
    | same => exact .bx as
    | v _ _ as2 h' hl' =>
      obtain ⟨a2, h5, h6⟩ := hl' 0 .bad rfl
      have : as2 = [.bad] := by
        match as2, h' with
        | [x], _ =>
          simp at h5; subst h5
          rcases h6 with rfl | ⟨rfl, _⟩ <;> rfl
      subst this
      exact .bx as

structure Keeps (cx : Cx) (s s' : St) : Prop where
  slots : ∀ t, cx.slk t = true → AClean cx (s.slot t) (s'.slot t)
  roots : ∀ r, cx.lock r = true → s'.root r = s.root r
  box : ∀ r, cx.slk r = true → (s'.root r).box = (s.root r).box ∧ (s'.root r).ver = (s.root r).ver ∧ (s'.root r).ls.length = (s.root r).ls.length
  l1 : s'.sl.length = s.sl.length
  l2 : s'.ro.length = s.ro.length
  ctr : s.ctr ≤ s'.ctr
theorem Keeps.refl (cx : Cx) (s : St) : Keeps cx s s := ⟨fun t _ => .same _, fun _ _ => rfl, fun _ _ => ⟨rfl, rfl, rfl⟩, rfl, rfl, Nat.le_refl _⟩
theorem Keeps.trans {cx : Cx} {s s1 s2 : St} (h1 : Keeps cx s s1) (h2 : Keeps cx s1 s2) : Keeps cx s s2 where
  slots t ht := (h1.slots t ht).trans (h2.slots t ht)
  roots r hr := (h2.roots r hr).trans (h1.roots r hr)
  box r hr := let ⟨a, b, c⟩ := h1.box r hr; let ⟨a', b', c'⟩ := h2.box r hr; ⟨a'.trans a, b'.trans b, c'.trans c⟩
  l1 := h2.l1.trans h1.l1
  l2 := h2.l2.trans h1.l2
  ctr := Nat.le_trans h1.ctr h2.ctr

/-- No root holds a reference into a row. -/
def RootsIn (s : St) : Prop := ∀ r, ∀ a ∈ (s.root r).ls, a.inRoot = true
structure Inv (N : Nat) (s : St) : Prop where
  vers : VersIn s (· < s.ctr)
  two : 2 ≤ s.ctr
  len : s.sl.length = N
  len2 : s.ro.length = N
  rin : RootsIn s

theorem keeps_app1 {cx : Cx} {s : St} {dst : Option Nat} {w : Wr} (hd : ∀ d, dst = some d → cx.slk d = false) (hw : w.ok cx dst = true) : Keeps cx s (s.app1 w) where
  slots t ht := by
    cases w with
    | slot u a =>
      rw [slot_app, if_neg]
      · exact .same _
      · rintro ⟨rfl, _⟩
        simp only [Wr.ok] at hw
        cases hq : dst with
        | none => rw [hq] at hw; cases hw
        | some d =>
          rw [hq] at hw
          have : u = d := by simpa using hw
          subst this
          rw [hd u hq] at ht; cases ht
    | root r x => exact .same _
    | leaf r j a => exact .same _
  roots r hr := by
    cases w with
    | slot u a => rfl
    | root q x =>
      simp only [Wr.ok, Bool.and_eq_true, Bool.not_eq_true'] at hw
      rw [root_app, if_neg]
      rintro ⟨rfl, _⟩
      rw [hr] at hw; exact absurd hw.1.1 (by simp)
    | leaf q j a =>
      simp only [Wr.ok, Bool.and_eq_true, Bool.not_eq_true'] at hw
      refine app1_root_miss ?_
      simp only [Wr.mask, bit_pow, decide_eq_false_iff_not]
      intro e
      have : q = r := by omega
      subst this
      rw [hr] at hw; exact absurd hw.1 (by simp)
  box r hr := by
    cases w with
    | slot u a => exact ⟨rfl, rfl, rfl⟩
    | root q x =>
      simp only [Wr.ok, Bool.and_eq_true] at hw
      rw [root_app, if_neg]
      · exact ⟨rfl, rfl, rfl⟩
      · rintro ⟨rfl, _⟩
        cases hq : dst with
        | none => rw [hq] at hw; exact absurd hw.2 (by simp)
        | some d =>
          rw [hq] at hw
          have : q = d := by simpa using hw.2
          subst this
          rw [hd q hq] at hr; cases hr
    | leaf q j a => exact (app_leaf_same s q j a).box r
  l1 := (app1_len s w).1
  l2 := (app1_len s w).2
  ctr := by cases w <;> exact Nat.le_refl _
theorem keeps_app {cx : Cx} {dst : Option Nat} (hd : ∀ d, dst = some d → cx.slk d = false) : ∀ {ws : List Wr} {s : St}, (∀ w ∈ ws, w.ok cx dst = true) → Keeps cx s (s.app ws)
  | [], s, h => Keeps.refl cx s
  | w :: ws, s, h => (keeps_app1 hd (h w (by simp))).trans (keeps_app (ws := ws) (s := s.app1 w) hd fun x hx => h x (List.mem_cons_of_mem _ hx))
theorem rin_app1 {cx : Cx} {s : St} {dst : Option Nat} {w : Wr} (h : RootsIn s) (hw : w.ok cx dst = true) : RootsIn (s.app1 w) := by
  intro r a ha
  cases w with
  | slot u b => exact h r a ha
  | root q x =>
    simp only [Wr.ok, Bool.and_eq_true] at hw
    rw [root_app] at ha
    split at ha
    · exact List.all_eq_true.1 hw.1.2 a ha
    · exact h r a ha
  | leaf q j b =>
    simp only [Wr.ok, Bool.and_eq_true] at hw
    have hroot : (s.app1 (.leaf q j b)).root r = if q = r ∧ q < s.ro.length then { s.root q with ls := upd (s.root q).ls j b } else s.root r := nth_upd _ _ _ _ _
    rw [hroot] at ha
    split at ha
    · have ha : a ∈ upd (s.root q).ls j b := ha
      rw [upd_set] at ha
      rcases List.mem_or_eq_of_mem_set ha with ha | ha
      · exact h q a ha
      · rw [ha]; exact hw.2
    · exact h r a ha
theorem rin_app {cx : Cx} {dst : Option Nat} : ∀ {ws : List Wr} {s : St}, RootsIn s → (∀ w ∈ ws, w.ok cx dst = true) → RootsIn (s.app ws)
  | [], s, h, hw => h
  | w :: ws, s, h, hw => rin_app (ws := ws) (s := s.app1 w) (rin_app1 h (hw w (by simp))) fun x hx => hw x (List.mem_cons_of_mem _ hx)

theorem does_ok {cx : Cx} {g : Rg} {bs : List Nat} {i : Nat} {o : Oper} {s : St} {ws : List Wr} (h : Does cx g bs i o s ws) : ∀ w ∈ ws, w.ok cx o.dst = true := by
  intro w hw
  rcases h with ⟨_, _, h⟩ | ⟨_, rfl⟩
  · have := List.all_eq_true.1 h w hw
    rw [Bool.and_eq_true] at this; exact this.1
  · cases hd : o.dst with
    | none => rw [hd] at hw; cases hw
    | some d =>
      rw [hd] at hw
      have : w = .slot d (one .undef) := by simpa [undefW] using hw
      subst this; simp [Wr.ok]
/-- A region keeps what is locked. -/
theorem keeps_trace {cx : Cx} {g : Rg} {bs : List Nat} : ∀ (r : List Oper) (i : Nat) (lg : List (Nat × Nat)) (s : St) (tr : List (Nat × List Wr)), Trace cx g bs i r lg s tr → (∀ o ∈ r, ∀ d, o.dst = some d → cx.slk d = false) → RootsIn s →
    Keeps cx s (appsIf (fun _ => true) i tr s) ∧ RootsIn (appsIf (fun _ => true) i tr s)
  | [], i, lg, s, [], ht, hd, hr => ⟨Keeps.refl cx s, hr⟩
  | [], i, lg, s, _ :: _, ht, hd, hr => ht.elim
  | _ :: _, i, lg, s, [], ht, hd, hr => ht.elim
  | o :: r, i, lg, s, (rm, ws) :: tr, ht, hd, hr => by
    obtain ⟨_, _, hdoes, ht⟩ := ht
    have hok := does_ok hdoes
    obtain ⟨h1, h2⟩ := keeps_trace r (i + 1) _ (s.app ws) tr ht (fun o ho => hd o (List.mem_cons_of_mem _ ho)) (rin_app hr hok)
    exact ⟨(keeps_app (hd o (by simp)) hok).trans h1, h2⟩
end Go.Ev

namespace Go.Ev
set_option linter.unusedVariables false
set_option linter.unusedSimpArgs false

section
variable {E : Ent} {s : St} {W : Wd} {tm : Array Value} {β : Type} {t : β}

theorem one_ok {a : AV} {v : Value} (h : AVok s W a v) : LAok s W a.one? v := by
  cases a with
  | tup vs => trivial
  | bx as => trivial
  | v g as =>
    cases g with
    | true => trivial
    | false => cases as with
      | nil => trivial
      | cons b bs => cases bs with
        | nil => exact h
        | cons => trivial
theorem frozen_leaf (h : Rep E s tm W) {r j ver gen : Nat} {t0 : TypeId} {e : Ls} {xs : List e.D} (hl : s.leaf r j = .arr ver gen t0 e xs 0) : W.om (.lf r j) = [] := by
  obtain ⟨u, _, hr⟩ := (h.roots r).row hl
  exact RowRd.zero hr
/-- A datum that nobody can turn reads so without any row that is owned. -/
theorem still_ok (h : Rep E s tm W) {l : L} {la : LA} {v : Value} (hv : LAok s W la v) (hs : s.still l la = true) {k : l.D → Step β} (hl : (s.datum l la k).leads t) : ∃ x, (k x).leads t ∧ l.rd 0 W.w W.fz v x [] := by
  cases l with
  | int kk => obtain ⟨x, hl, hr⟩ := datum_ok h hv hl; exact ⟨x, hl, (L.flat_rd _ rfl hr).1⟩
  | bool => obtain ⟨x, hl, hr⟩ := datum_ok h hv hl; exact ⟨x, hl, (L.flat_rd _ rfl hr).1⟩
  | str => obtain ⟨x, hl, hr⟩ := datum_ok h hv hl; exact ⟨x, hl, (L.flat_rd _ rfl hr).1⟩
  | sl t0 e =>
    unfold St.datum at hl
    cases la with
    | sc m x =>
      simp only at hl
      split at hl
      · rename_i y hy
        obtain ⟨q1, q2⟩ := L.cast_some hy
        subst q1
        have q2 : x = y := q2
        subst q2
        exact ⟨x, hl, hv⟩
      · exact hl.elim
    | nils => exact ⟨_, hl, by rw [show v = .slice none 0 0 from hv]; exact nil_row⟩
    | ref c =>
      simp only [St.still] at hs
      split at hs
      · rename_i ver gen t1 e1 xs hq
        obtain ⟨t', e', ys, d', o', hl, hr, ho⟩ := content_ref h hv hl
        split at hl
        · rename_i y hy
          obtain ⟨q1, q2⟩ := L.cast_some hy
          cases q1
          have q2 : ys = y := q2
          subst q2
          exact ⟨ys, hl, hr.freeze fun b hb => hb.elim id fun hb => by have := ho b hb; rw [frozen_leaf h hq] at this; cases this⟩
        · exact hl.elim
      · cases hs
    | win c lo hi =>
      simp only [St.still] at hs
      split at hs
      · rename_i ver gen t1 e1 xs hq
        obtain ⟨t', e', ys, d', o', hl, hr, ho⟩ := content_win h hv hl
        split at hl
        · rename_i y hy
          obtain ⟨q1, q2⟩ := L.cast_some hy
          cases q1
          have q2 : sub ys lo hi = y := q2
          subst q2
          exact ⟨_, hl, hr.freeze fun b hb => hb.elim id fun hb => by have := ho b hb; rw [frozen_leaf h hq] at this; cases this⟩
        · exact hl.elim
      · cases hs
    | _ => exact hl.elim

/-- What one pattern's data say. 'fz': what may be looked at then. -/
def Told (s : St) (W : Wd) (tm : Array Value) (fz : Nat → Prop) (p : VP) (vs : List Lv) : Prop := match p with
  | .slot t l => t < s.sl.length ∧ ∃ x, vs = [⟨l, x⟩] ∧ l.rd 0 W.w W.fz (tm.getD t Go.undef) x []
  | .own t ty e d k => t < s.sl.length ∧ ∃ xs : List e.D, vs = [⟨.sl ty e, xs⟩] ∧ (s.root t).box = false ∧ W.cv t 0 = some (tm.getD t Go.undef) ∧ RowRd e d W.w W.fz (tm.getD t Go.undef) xs (W.om (.lf t 0)) ∧ (k = true → ∃ gen t' e' xs' d', s.leaf t 0 = .arr 1 gen t' e' xs' d')
  | .box r ls => (s.root r).box = true ∧ ls.length = (s.root r).ls.length ∧ vs.length = (ls.filterMap id).length ∧ ∀ (v j : Nat) (y : Value), W.cv r j = some y → match nth .bad (boxLeaves v ls vs) j with
    | .arr ver gen t e xs d => ver = v ∧ gen = v ∧ RowRd e d W.w W.fz y xs (W.om (.lf r j))
    | .sc l x => l.rd 0 W.w fz y x []
    | .bad => True
    | _ => False

theorem packB_ok (h : Rep E s tm W) {fz : Nat → Prop} (r : Nat) (hfz : ∀ b, W.fz b → fz b) : ∀ (ls : List (Option (L × Nat))) (as : List LA) (j : Nat) {k : List Lv → Step β}, (∀ i b, as[i]? = some b → s.leaf r (j + i) = b) → (∀ a ∈ as, a.inRoot = true) →
    (∀ (i : Nat) (l : L), ls[i]? = some (some (l, 0)) → ∀ b ∈ W.om (.lf r (j + i)), fz b) → (packB s ls as k).leads t →
    ∃ vs, (k vs).leads t ∧ ls.length = as.length ∧ vs.length = (ls.filterMap id).length ∧ ∀ (v i : Nat) (y : Value), W.cv r (j + i) = some y → match nth .bad (boxLeaves v ls vs) i with
      | .arr ver gen t e xs d => ver = v ∧ gen = v ∧ RowRd e d W.w W.fz y xs (W.om (.lf r (j + i)))
      | .sc l x => l.rd 0 W.w fz y x []
      | .bad => True
      | _ => False
  | [], [], j, k, hg, hin, hz, hl => ⟨[], hl, rfl, rfl, fun v i y hy => by simp [boxLeaves, nth]⟩
  | [], _ :: _, j, k, hg, hin, hz, hl => hl.elim
  | none :: ls, [], j, k, hg, hin, hz, hl => hl.elim
  | some _ :: ls, [], j, k, hg, hin, hz, hl => hl.elim
  | none :: ls, a :: as, j, k, hg, hin, hz, hl => by
    simp only [packB] at hl
    obtain ⟨vs, hl, h1, h2, h3⟩ := packB_ok h r hfz ls as (j + 1) (fun i b hi => by have := hg (i + 1) b (by simpa using hi); rw [show j + 1 + i = j + (i + 1) by omega]; exact this) (fun a ha => hin a (List.mem_cons_of_mem _ ha))
      (fun i l hi b hb => hz (i + 1) l (by simpa using hi) b (by rw [show j + (i + 1) = j + 1 + i by omega]; exact hb)) hl
    refine ⟨vs, hl, by simp [h1], by simpa using h2, fun v i y hy => ?_⟩
    cases i with
    | zero => simp [boxLeaves, nth]
    | succ i =>
      have := h3 v i y (by rw [show j + 1 + i = j + (i + 1) by omega]; exact hy)
      rw [show j + 1 + i = j + (i + 1) by omega] at this
      exact this
  | some (l, d) :: ls, a :: as, j, k, hg, hin, hz, hl => by
    have hleaf : s.leaf r j = a := hg 0 a rfl
    obtain ⟨hlo, _⟩ := h.roots r
    have hlo : LeafOk s W (s.leaf r j) (W.cv r j) (W.om (.lf r j)) := hlo j
    rw [hleaf] at hlo
    have fin : ∀ (x : l.D), (packB s ls as fun vs => k (⟨l, x⟩ :: vs)).leads t → (∀ (v : Nat) (y : Value), W.cv r j = some y → match newLeaf v d ⟨l, x⟩ with
          | .arr ver gen t e xs d => ver = v ∧ gen = v ∧ RowRd e d W.w W.fz y xs (W.om (.lf r j))
          | .sc l x => l.rd 0 W.w fz y x []
          | .bad => True
          | _ => False) →
        ∃ vs, (k vs).leads t ∧ (some (l, d) :: ls).length = (a :: as).length ∧ vs.length = ((some (l, d) :: ls).filterMap id).length ∧ ∀ (v i : Nat) (y : Value), W.cv r (j + i) = some y → match nth .bad (boxLeaves v (some (l, d) :: ls) vs) i with
          | .arr ver gen t e xs d => ver = v ∧ gen = v ∧ RowRd e d W.w W.fz y xs (W.om (.lf r (j + i)))
          | .sc l x => l.rd 0 W.w fz y x []
          | .bad => True
          | _ => False := by
      intro x hl hx
      obtain ⟨vs, hl, h1, h2, h3⟩ := packB_ok h r hfz ls as (j + 1) (fun i b hi => by have := hg (i + 1) b (by simpa using hi); rw [show j + 1 + i = j + (i + 1) by omega]; exact this) (fun a ha => hin a (List.mem_cons_of_mem _ ha))
        (fun i l hi b hb => hz (i + 1) l (by simpa using hi) b (by rw [show j + (i + 1) = j + 1 + i by omega]; exact hb)) hl
      refine ⟨⟨l, x⟩ :: vs, hl, by simp [h1], by simp [h2], fun v i y hy => ?_⟩
      cases i with
      | zero => exact hx v y (by simpa using hy)
      | succ i =>
        have := h3 v i y (by rw [show j + 1 + i = j + (i + 1) by omega]; exact hy)
        rw [show j + 1 + i = j + (i + 1) by omega] at this
        exact this
    have hflat : ∀ (x : l.D), isSl l = false → (∀ y, W.cv r j = some y → l.rd 0 W.w W.fz y x []) → ∀ (v : Nat) (y : Value), W.cv r j = some y → match newLeaf v d ⟨l, x⟩ with
          | .arr ver gen t e xs d => ver = v ∧ gen = v ∧ RowRd e d W.w W.fz y xs (W.om (.lf r j))
          | .sc l x => l.rd 0 W.w fz y x []
          | .bad => True
          | _ => False := by
      intro x hns hx v y hy
      have := (L.flat_rd l hns (hx y hy) (d' := 0) (w' := W.w) (fz' := fz)).1
      cases l with
      | sl t e => simp [isSl] at hns
      | _ => exact this
    cases a with
    | arr ver gen t0 e0 xs d0 =>
      simp only [packB] at hl
      split at hl
      · rename_i hd
        simp only [Bool.or_eq_true, beq_iff_eq] at hd
        split at hl
        · rename_i y hy
          obtain ⟨q1, q2⟩ := L.cast_some hy
          subst q1
          have q2 : xs = y := q2
          subst q2
          refine fin xs hl fun v y hy => ?_
          obtain ⟨u, hu, hr⟩ := hlo
          rw [hy] at hu; injection hu with hu; subst hu
          cases d with
          | zero =>
            show (L.sl t0 e0).rd 0 W.w fz y xs []
            exact hr.freeze fun b hb => hb.elim (hfz b) fun hb => hz 0 (.sl t0 e0) rfl b (by simpa using hb)
          | succ d =>
            have : d0 = d + 1 := by omega
            subst this
            exact ⟨rfl, rfl, hr⟩
        · exact hl.elim
      · exact hl.elim
    | sc m x =>
      have hrd : ∀ y, W.cv r j = some y → m.rd 0 W.w W.fz y x [] := hlo.2
      cases d with
      | zero =>
        have hl : (s.datum l (.sc m x) fun y => packB s ls as fun vs => k (⟨l, y⟩ :: vs)).leads t := hl
        simp only [St.datum] at hl
        split at hl
        · rename_i y hy
          obtain ⟨q1, q2⟩ := L.cast_some hy
          subst q1
          have q2 : x = y := q2
          subst q2
          refine fin x hl fun v y hy => ?_
          have hr := L.rd_frame m (hrd y hy) (fun _ _ => rfl) hfz
          cases m <;> exact hr
        · exact hl.elim
      | succ d =>
        cases hl0 : l with
        | sl t1 e1 => subst hl0; exact hl.elim
        | int kk =>
          subst hl0
          have hl : (s.datum (.int kk) (.sc m x) fun y => packB s ls as fun vs => k (⟨.int kk, y⟩ :: vs)).leads t := hl
          simp only [St.datum] at hl
          split at hl
          · rename_i y hy
            obtain ⟨q1, q2⟩ := L.cast_some hy
            subst q1
            have q2 : x = y := q2
            subst q2
            exact fin x hl (hflat x rfl hrd)
          · exact hl.elim
        | bool =>
          subst hl0
          have hl : (s.datum .bool (.sc m x) fun y => packB s ls as fun vs => k (⟨.bool, y⟩ :: vs)).leads t := hl
          simp only [St.datum] at hl
          split at hl
          · rename_i y hy
            obtain ⟨q1, q2⟩ := L.cast_some hy
            subst q1
            have q2 : x = y := q2
            subst q2
            exact fin x hl (hflat x rfl hrd)
          · exact hl.elim
        | str =>
          subst hl0
          have hl : (s.datum .str (.sc m x) fun y => packB s ls as fun vs => k (⟨.str, y⟩ :: vs)).leads t := hl
          simp only [St.datum] at hl
          split at hl
          · rename_i y hy
            obtain ⟨q1, q2⟩ := L.cast_some hy
            subst q1
            have q2 : x = y := q2
            subst q2
            exact fin x hl (hflat x rfl hrd)
          · exact hl.elim
    | nils =>
      cases d with
      | zero =>
        cases l with
        | sl t1 e1 =>
          refine fin ([] : List e1.D) hl fun v y hy => ?_
          show (L.sl t1 e1).rd 0 W.w fz y ([] : List e1.D) []
          rw [show y = .slice none 0 0 from hlo.2 y hy]; exact nil_row
        | _ => exact hl.elim
      | succ d => cases l <;> exact hl.elim
    | ref c => have := hin (.ref c) (by simp); cases this
    | win c lo hi => have := hin (.win c lo hi) (by simp); cases this
    | _ => cases d with
      | zero => exact hl.elim
      | succ d => cases l <;> exact hl.elim

/-- What a box's pattern freezes. -/
def Frz (ps : List VP) (r j : Nat) : Prop := ∃ ls l, VP.box r ls ∈ ps ∧ ls[j]? = some (some (l, 0))

theorem packV_ok (h : Rep E s tm W) (hin : RootsIn s) {fz : Nat → Prop} (hfz : ∀ b, W.fz b → fz b) {p : VP} (hz : ∀ r j, Frz [p] r j → ∀ b ∈ W.om (.lf r j), fz b) {k : List Lv → Step β} (hl : (packV s p k).leads t) :
    ∃ vs, (k vs).leads t ∧ Told s W tm fz p vs := by
  cases p with
  | slot u l =>
    simp only [packV] at hl
    split at hl
    · rename_i hs
      have hlt : u < s.sl.length := by
        rcases Nat.lt_or_ge u s.sl.length with hlt | hge
        · exact hlt
        · have : s.slot u = .v false [.bad] := nth_ge _ hge
          rw [this] at hl; exact hl.elim
      obtain ⟨x, hl, hr⟩ := still_ok h (one_ok (h.slots u)) hs hl
      exact ⟨_, hl, hlt, x, rfl, hr⟩
    · exact hl.elim
  | own u ty e d k0 =>
    simp only [packV] at hl
    split at hl
    · rename_i c vv ver gen t' e' xs d' hsl hro
      split at hl
      · rename_i hc
        simp only [Bool.and_eq_true, beq_iff_eq] at hc
        obtain ⟨⟨⟨⟨⟨hcr, hcj⟩, hp⟩, hver⟩, hd⟩, hk0⟩ := hc
        have hp : c.p = [] := by cases hq : c.p <;> simp_all [isNil]
        subst hd
        split at hl
        · rename_i y hy
          obtain ⟨q1, q2⟩ := L.cast_some hy
          cases q1
          have q2 : xs = y := q2
          subst q2
          have hleaf : s.leaf c.r c.j = .arr c.ver gen ty e xs d := by
            unfold St.leaf; rw [hcr, hcj, hro, hver]; rfl
          have hval : LAok s W (.ref c) (tm.getD u Go.undef) := by have := h.slots u; rw [hsl] at this; exact this
          obtain ⟨h', e2, hcv, hn⟩ := hval gen _ _ _ _ hleaf (.inl hp)
          rw [hp] at hn
          obtain ⟨rfl, rfl⟩ := hn
          obtain ⟨u', hu', hrd⟩ := (h.roots c.r).row hleaf
          rw [hcv] at hu'; injection hu' with hu'; rw [← hu'] at hrd
          rw [hcr, hcj] at hrd hcv
          have hlt : u < s.sl.length := by
            rcases Nat.lt_or_ge u s.sl.length with hlt | hge
            · exact hlt
            · have : s.slot u = .v false [.bad] := nth_ge _ hge
              rw [this] at hsl; cases hsl
          refine ⟨_, hl, hlt, xs, rfl, by rw [hro], hcv, hrd, fun hk => ?_⟩
          rw [hcr, hcj] at hleaf
          rw [hk] at hk0
          have h1 : c.ver = 1 := by simpa [hver] using hk0
          rw [h1] at hleaf
          exact ⟨_, _, _, _, _, hleaf⟩
        · exact hl.elim
      · exact hl.elim
    · exact hl.elim
  | box r ls =>
    simp only [packV] at hl
    split at hl
    · rename_i hb
      obtain ⟨vs, hl, h1, h2, h3⟩ := packB_ok h (fz := fz) r hfz ls (s.root r).ls 0 (fun i b hi => by unfold St.leaf; rw [Nat.zero_add, nth_of, hi]; rfl) (hin r)
        (fun i l hi b hb => hz r i ⟨ls, l, by simp, hi⟩ b (by simpa using hb)) hl
      exact ⟨vs, hl, hb, h1, h2, fun v j y hy => by have := h3 v j y (by simpa using hy); simpa using this⟩
    · exact hl.elim

theorem packs_ok (h : Rep E s tm W) (hin : RootsIn s) {fz : Nat → Prop} (hfz : ∀ b, W.fz b → fz b) : ∀ {ps : List VP} {k : List Lv → Step β}, (∀ r j, Frz ps r j → ∀ b ∈ W.om (.lf r j), fz b) → (packs s ps k).leads t →
    ∃ vss : List (List Lv), (k vss.flatten).leads t ∧ vss.length = ps.length ∧ ∀ (i : Nat) (p : VP) (vs : List Lv), ps[i]? = some p → vss[i]? = some vs → Told s W tm fz p vs
  | [], k, hz, hl => ⟨[], hl, rfl, fun i p vs hp => by simp at hp⟩
  | p :: ps, k, hz, hl => by
    simp only [packs] at hl
    obtain ⟨vs, hl, hv⟩ := packV_ok h hin hfz (fun r j ⟨ls, l, hm, hj⟩ => hz r j ⟨ls, l, by simp at hm; simp [hm], hj⟩) hl
    obtain ⟨vss, hl, h1, h2⟩ := packs_ok h hin hfz (fun r j ⟨ls, l, hm, hj⟩ => hz r j ⟨ls, l, List.mem_cons_of_mem _ hm, hj⟩) hl
    refine ⟨vs :: vss, by simpa using hl, by simp [h1], fun i q us hq hu => ?_⟩
    cases i with
    | zero => simp at hq hu; subst hq; subst hu; exact hv
    | succ i => exact h2 i q us (by simpa using hq) (by simpa using hu)
end
end Go.Ev

namespace Go.Ev
set_option linter.unusedVariables false
set_option linter.unusedSimpArgs false

def VP.cnt : VP → Nat
  | .slot _ _ => 1
  | .own _ _ _ _ _ => 1
  | .box _ ls => (ls.filterMap id).length
theorem boxLeaves_more (v : Nat) : ∀ (ls : List (Option (L × Nat))) (vs ws : List Lv), vs.length = (ls.filterMap id).length → boxLeaves v ls (vs ++ ws) = boxLeaves v ls vs
  | [], vs, ws, h => by simp [boxLeaves]
  | none :: ls, vs, ws, h => by simp only [boxLeaves]; rw [boxLeaves_more v ls vs ws (by simpa using h)]
  | some (l, d) :: ls, [], ws, h => by simp at h
  | some (l, d) :: ls, x :: vs, ws, h => by simp only [boxLeaves, List.cons_append]; rw [boxLeaves_more v ls vs ws (by simpa using h)]
theorem boxLeaves_len (v : Nat) : ∀ (ls : List (Option (L × Nat))) (vs : List Lv), (boxLeaves v ls vs).length = ls.length
  | [], vs => rfl
  | none :: ls, vs => by simp [boxLeaves, boxLeaves_len v ls vs]
  | some (l, d) :: ls, [] => by simp [boxLeaves, boxLeaves_len v ls []]
  | some (l, d) :: ls, x :: vs => by simp [boxLeaves, boxLeaves_len v ls vs]
theorem embedV_len (v : Nat) (s0 : St) : ∀ (ps : List VP) (vs : List Lv) (σ : St), (σ.app (embedV v s0 ps vs)).sl.length = σ.sl.length ∧ (σ.app (embedV v s0 ps vs)).ro.length = σ.ro.length := fun ps vs σ => app_len _ σ

/-- What a pattern writes. -/
def At (v : Nat) (s0 σ : St) (p : VP) (vs : List Lv) : Prop := match p with
  | .slot t _ => ∀ x, vs = [x] → σ.slot t = one (.sc x.l x.x)
  | .own t _ _ d k => ∀ x, vs = [x] → σ.slot t = one (.ref ⟨t, 0, ownVer v k, v, []⟩) ∧ σ.root t = ⟨false, v, [ownLeaf v d k x]⟩
  | .box r ls => σ.root r = ⟨true, (s0.root r).ver, boxLeaves v ls vs⟩
theorem distinct_cons {x : Nat} {xs : List Nat} (h : distinct (x :: xs) = true) : x ∉ xs ∧ distinct xs = true := by
  simp only [distinct, Bool.and_eq_true, Bool.not_eq_true'] at h
  refine ⟨fun hm => ?_, h.2⟩
  have := (has_mem xs x).2 hm
  rw [h.1] at this; cases this
theorem distinct_append : ∀ {xs ys : List Nat}, distinct (xs ++ ys) = true → (∀ x ∈ xs, x ∉ ys) ∧ distinct ys = true
  | [], ys, h => ⟨(fun x hx => by cases hx), h⟩
  | x :: xs, ys, h => by
    obtain ⟨h1, h2⟩ := distinct_cons (xs := xs ++ ys) h
    obtain ⟨h3, h4⟩ := distinct_append h2
    refine ⟨fun y hy => ?_, h4⟩
    rcases List.mem_cons.1 hy with rfl | hy
    · exact fun hm => h1 (List.mem_append_right _ hm)
    · exact h3 y hy

theorem embedV_look (v : Nat) (s0 : St) : ∀ (ps : List VP) (vss : List (List Lv)) (σ : St), vss.length = ps.length → (∀ (i : Nat) (p : VP) (vs : List Lv), ps[i]? = some p → vss[i]? = some vs → vs.length = p.cnt) →
    distinct (ps.flatMap VP.slots) = true → distinct (ps.flatMap VP.roots) = true → (∀ t ∈ ps.flatMap VP.slots, t < σ.sl.length) → (∀ r ∈ ps.flatMap VP.roots, r < σ.ro.length) →
    (∀ t, t ∉ ps.flatMap VP.slots → (σ.app (embedV v s0 ps vss.flatten)).slot t = σ.slot t) ∧ (∀ r, r ∉ ps.flatMap VP.roots → (σ.app (embedV v s0 ps vss.flatten)).root r = σ.root r) ∧
    ∀ (i : Nat) (p : VP) (vs : List Lv), ps[i]? = some p → vss[i]? = some vs → At v s0 (σ.app (embedV v s0 ps vss.flatten)) p vs
  | [], [], σ, hl, hc, d1, d2, b1, b2 => ⟨fun _ _ => rfl, fun _ _ => rfl, fun i p vs hp => by simp at hp⟩
  | [], _ :: _, σ, hl, hc, d1, d2, b1, b2 => by simp at hl
  | _ :: _, [], σ, hl, hc, d1, d2, b1, b2 => by simp at hl
  | p :: ps, vs :: vss, σ, hl, hc, d1, d2, b1, b2 => by
    rw [List.flatMap_cons] at d1 d2
    obtain ⟨n1, d1'⟩ := distinct_append d1
    obtain ⟨n2, d2'⟩ := distinct_append d2
    have hcnt := hc 0 p vs rfl rfl
    have hb1 : ∀ t ∈ p.slots, t < σ.sl.length := fun t ht => b1 t (by rw [List.flatMap_cons]; exact List.mem_append_left _ ht)
    have hb2 : ∀ t ∈ p.roots, t < σ.ro.length := fun t ht => b2 t (by rw [List.flatMap_cons]; exact List.mem_append_left _ ht)
    have main : ∀ (ws : List Wr), embedV v s0 (p :: ps) (vs :: vss).flatten = ws ++ embedV v s0 ps vss.flatten → (∀ t, t ∉ p.slots → (σ.app ws).slot t = σ.slot t) → (∀ r, r ∉ p.roots → (σ.app ws).root r = σ.root r) → At v s0 (σ.app ws) p vs →
        (∀ t, t ∉ (p :: ps).flatMap VP.slots → (σ.app (embedV v s0 (p :: ps) (vs :: vss).flatten)).slot t = σ.slot t) ∧ (∀ r, r ∉ (p :: ps).flatMap VP.roots → (σ.app (embedV v s0 (p :: ps) (vs :: vss).flatten)).root r = σ.root r) ∧
        ∀ (i : Nat) (q : VP) (us : List Lv), (p :: ps)[i]? = some q → (vs :: vss)[i]? = some us → At v s0 (σ.app (embedV v s0 (p :: ps) (vs :: vss).flatten)) q us := by
      intro ws he hs hr ha
      obtain ⟨i1, i2, i3⟩ := embedV_look v s0 ps vss (σ.app ws) (by simpa using hl) (fun i q us h1 h2 => hc (i + 1) q us (by simpa using h1) (by simpa using h2)) d1' d2'
        (fun t ht => by rw [(app_len ws σ).1]; exact b1 t (by rw [List.flatMap_cons]; exact List.mem_append_right _ ht)) (fun t ht => by rw [(app_len ws σ).2]; exact b2 t (by rw [List.flatMap_cons]; exact List.mem_append_right _ ht))
      rw [he, app_append]
      refine ⟨fun t ht => ?_, fun r hr' => ?_, fun i q us h1 h2 => ?_⟩
      · rw [List.flatMap_cons] at ht
        rw [i1 t (fun hm => ht (List.mem_append_right _ hm)), hs t (fun hm => ht (List.mem_append_left _ hm))]
      · rw [List.flatMap_cons] at hr'
        rw [i2 r (fun hm => hr' (List.mem_append_right _ hm)), hr r (fun hm => hr' (List.mem_append_left _ hm))]
      · cases i with
        | zero =>
          simp at h1 h2; subst h1; subst h2
          cases p with
          | slot t l => intro x hx; rw [i1 t (n1 t (by simp [VP.slots]))]; exact ha x hx
          | own t ty e d k =>
            intro x hx
            rw [i1 t (n1 t (by simp [VP.slots])), i2 t (n2 t (by simp [VP.roots]))]; exact ha x hx
          | box r ls =>
            show (_ : St).root r = _
            rw [i2 r (n2 r (by simp [VP.roots]))]; exact ha
        | succ i => exact i3 i q us (by simpa using h1) (by simpa using h2)
    cases p with
    | slot t l =>
      obtain ⟨x, rfl⟩ : ∃ x, vs = [x] := by
        match vs, hcnt with
        | [x], _ => exact ⟨x, rfl⟩
      refine main [.slot t (one (.sc x.l x.x))] rfl (fun u hu => ?_) (fun r hr => rfl) ?_
      · show (σ.app1 _).slot u = _
        rw [slot_app, if_neg (fun hh => hu (by simp [VP.slots, hh.1]))]
      · intro y hy
        simp at hy; subst hy
        show (σ.app1 _).slot t = _
        rw [slot_app, if_pos ⟨rfl, hb1 t (by simp [VP.slots])⟩]
    | own t ty e d k =>
      obtain ⟨x, rfl⟩ : ∃ x, vs = [x] := by
        match vs, hcnt with
        | [x], _ => exact ⟨x, rfl⟩
      refine main [.root t ⟨false, v, [ownLeaf v d k x]⟩, .slot t (one (.ref ⟨t, 0, ownVer v k, v, []⟩))] rfl (fun u hu => ?_) (fun r hr => ?_) ?_
      · show ((σ.app1 _).app1 _).slot u = _
        rw [slot_app, if_neg (fun hh => hu (by simp [VP.slots, hh.1]))]; rfl
      · show (σ.app1 _).root r = _
        rw [root_app, if_neg (fun hh => hr (by simp [VP.roots, hh.1]))]
      · intro y hy
        simp at hy; subst hy
        refine ⟨?_, ?_⟩
        · show ((σ.app1 _).app1 _).slot t = _
          rw [slot_app, if_pos ⟨rfl, by rw [(app1_len _ _).1]; exact hb1 t (by simp [VP.slots])⟩]
        · show (σ.app1 _).root t = _
          rw [root_app, if_pos ⟨rfl, hb2 t (by simp [VP.roots])⟩]
    | box r ls =>
      refine main [.root r ⟨true, (s0.root r).ver, boxLeaves v ls vs⟩] ?_ (fun u hu => rfl) (fun q hq => ?_) ?_
      · have hcnt : vs.length = (ls.filterMap id).length := hcnt
        simp only [embedV, List.flatten_cons]
        rw [boxLeaves_more v ls vs _ hcnt, ← hcnt, List.drop_left]; rfl
      · show (σ.app1 _).root q = _
        rw [root_app, if_neg (fun hh => hq (by simp [VP.roots, hh.1]))]
      · show (σ.app1 _).root r = _
        rw [root_app, if_pos ⟨rfl, hb2 r (by simp [VP.roots])⟩]
end Go.Ev

namespace Go.Ev
set_option linter.unusedVariables false
set_option linter.unusedSimpArgs false

theorem mapN_len {α γ : Type} (f : Nat → α → γ) : ∀ (n : Nat) (xs : List α), (mapN f n xs).length = xs.length
  | _, [] => rfl
  | n, x :: xs => by simp [mapN, mapN_len f (n + 1) xs]
theorem mapN_nth {α γ : Type} (f : Nat → α → γ) (d : γ) (d0 : α) : ∀ (n : Nat) (xs : List α) (i : Nat), i < xs.length → nth d (mapN f n xs) i = f (n + i) (nth d0 xs i)
  | n, [], i, h => by simp at h
  | n, x :: xs, 0, h => rfl
  | n, x :: xs, i + 1, h => by
    simp only [mapN, nth]
    rw [mapN_nth f d d0 (n + 1) xs i (by simpa using h), show n + 1 + i = n + (i + 1) by omega]
theorem base_slot (ms : List Nat) (ps : List VP) (s : St) (t : Nat) : (base ms ps s).slot t = if has ms t then one .bad else (s.slot t).clean (fun r => has ms r || has (ps.flatMap VP.slots) r) fun r => has ms r || has (ps.flatMap VP.roots) r := by
  unfold St.slot base
  by_cases h : t < s.sl.length
  · dsimp only
    rw [mapN_nth _ _ (.v false [.bad]) 0 s.sl t h, Nat.zero_add]
  · dsimp only
    rw [nth_ge _ (by rw [mapN_len]; omega), nth_ge _ (by omega)]
    split <;> rfl
theorem base_root (ms : List Nat) (ps : List VP) (s : St) (r : Nat) : (base ms ps s).root r = if has ms r then dead else s.root r := by
  unfold St.root base
  by_cases h : r < s.ro.length
  · dsimp only
    rw [mapN_nth _ _ dead 0 s.ro r h, Nat.zero_add]
  · dsimp only
    rw [nth_ge _ (by rw [mapN_len]; omega), nth_ge _ (by omega)]
    split <;> rfl
theorem base_len (ms : List Nat) (ps : List VP) (s : St) : (base ms ps s).sl.length = s.sl.length ∧ (base ms ps s).ro.length = s.ro.length := ⟨mapN_len _ _ _, mapN_len _ _ _⟩

theorem clean_vers (m1 m2 : Nat → Bool) (a : AV) : ∀ n ∈ (a.clean m1 m2).vers, n ∈ a.vers := by
  cases a with
  | tup vs => intro n hn; simp [AV.clean, one, AV.vers, LA.vers] at hn
  | bx as => intro n hn; simp [AV.clean, one, AV.vers, LA.vers] at hn
  | v g as =>
    intro n hn
    obtain ⟨b, hb, hn⟩ := List.mem_flatMap.1 (show n ∈ (as.map (LA.clean m1 m2)).flatMap LA.vers from hn)
    obtain ⟨c, hc, rfl⟩ := List.mem_map.1 hb
    refine List.mem_flatMap.2 ⟨c, hc, ?_⟩
    cases c with
    | ref c => simp only [LA.clean] at hn; split at hn; cases hn; exact hn
    | win c lo hi => simp only [LA.clean] at hn; split at hn; cases hn; exact hn
    | eptr c => simp only [LA.clean] at hn; split at hn; cases hn; exact hn
    | ptr r j ver => simp only [LA.clean] at hn; split at hn; cases hn; exact hn
    | ifc t c => simp only [LA.clean] at hn; split at hn; cases hn; exact hn
    | clo g ps qs => simp only [LA.clean] at hn; split at hn; cases hn; exact hn
    | _ => exact hn
/-- Cleaning as a relation. -/
theorem clean_rel {cx : Cx} {m1 m2 : Nat → Bool} (h1 : ∀ r, m1 r = true → cx.slk r = false) (h2 : ∀ r, m2 r = true → cx.lock r = false) (a : AV) : AClean cx a (a.clean m1 m2) := by
  cases a with
  | tup vs => exact .tup vs
  | bx as => exact .bx as
  | v g as =>
    refine .v g as _ (by simp) fun j b hj => ⟨LA.clean m1 m2 b, by rw [List.getElem?_map, hj]; rfl, ?_⟩
    cases b with
    | ref c => simp only [LA.clean]; split; exact .inr ⟨rfl, h2 _ (by assumption)⟩; exact .inl rfl
    | win c lo hi => simp only [LA.clean]; split; exact .inr ⟨rfl, h2 _ (by assumption)⟩; exact .inl rfl
    | eptr c => simp only [LA.clean]; split; exact .inr ⟨rfl, h2 _ (by assumption)⟩; exact .inl rfl
    | ptr r j ver => simp only [LA.clean]; split; exact .inr ⟨rfl, h1 _ (by assumption)⟩; exact .inl rfl
    | ifc t c => simp only [LA.clean]; split; exact .inr ⟨rfl, h2 _ (by assumption)⟩; exact .inl rfl
    | clo g ps qs =>
      simp only [LA.clean]
      split
      · rename_i h
        obtain ⟨p, hp, hm⟩ := List.any_eq_true.1 h
        exact .inr ⟨rfl, p, hp, h1 _ hm⟩
      · exact .inl rfl
    | _ => exact .inl rfl
end Go.Ev

namespace Go.Ev
set_option linter.unusedVariables false
set_option linter.unusedSimpArgs false

theorem boxLeaves_frz (v : Nat) : ∀ (ls : List (Option (L × Nat))) (vs : List Lv) (j : Nat) (l : L), ls[j]? = some (some (l, 0)) → (nth .bad (boxLeaves v ls vs) j).isArr = false
  | [], vs, j, l, h => by simp at h
  | none :: ls, vs, 0, l, h => by simp at h
  | none :: ls, vs, j + 1, l, h => boxLeaves_frz v ls vs j l (by simpa using h)
  | some (l', d) :: ls, [], 0, l, h => rfl
  | some (l', d) :: ls, [], j + 1, l, h => boxLeaves_frz v ls [] j l (by simpa using h)
  | some (l', d) :: ls, ⟨l0, x⟩ :: vs, 0, l, h => by
    simp at h
    obtain ⟨_, rfl⟩ := h
    cases l0 <;> rfl
  | some (l', d) :: ls, x :: vs, j + 1, l, h => boxLeaves_frz v ls vs j l (by simpa using h)

theorem in_lock {cx : Cx} {ms : List Nat} {ps : List VP} {r : Nat} (h1 : r ∉ ms) (h2 : r ∉ ps.flatMap VP.roots) : (cx.in ms ps).lock r = true := by
  have a : has ms r = false := by cases h : has ms r; rfl; exact absurd ((has_mem _ _).1 h) h1
  have b : has (ps.flatMap VP.roots) r = false := by cases h : has (ps.flatMap VP.roots) r; rfl; exact absurd ((has_mem _ _).1 h) h2
  simp [Cx.in, a, b]
theorem in_slk {cx : Cx} {ms : List Nat} {ps : List VP} {r : Nat} (h1 : r ∉ ms) (h2 : r ∉ ps.flatMap VP.slots) : (cx.in ms ps).slk r = true := by
  have a : has ms r = false := by cases h : has ms r; rfl; exact absurd ((has_mem _ _).1 h) h1
  have b : has (ps.flatMap VP.slots) r = false := by cases h : has (ps.flatMap VP.slots) r; rfl; exact absurd ((has_mem _ _).1 h) h2
  simp [Cx.in, a, b]

/-- What is known of the told patterns and of the state that begins anew ('σ'). -/
structure Anew (ms : List Nat) (ps : List VP) (s0 s1 σ : St) (W : Wd) (tm : Array Value) (fz : Nat → Prop) (vss : List (List Lv)) : Prop where
  len : vss.length = ps.length
  told : ∀ (i : Nat) (p : VP) (vs : List Lv), ps[i]? = some p → vss[i]? = some vs → Told s1 W tm fz p vs
  at_ : ∀ (i : Nat) (p : VP) (vs : List Lv), ps[i]? = some p → vss[i]? = some vs → At s0.ctr s0 σ p vs
  slot : ∀ t, t ∉ ps.flatMap VP.slots → σ.slot t = (base ms ps s0).slot t
  root : ∀ r, r ∉ ps.flatMap VP.roots → σ.root r = (base ms ps s0).root r
  l1 : σ.sl.length = s0.sl.length
  l2 : σ.ro.length = s0.ro.length
theorem Anew.get {ms : List Nat} {ps : List VP} {s0 s1 σ : St} {W : Wd} {tm : Array Value} {fz : Nat → Prop} {vss : List (List Lv)} (h : Anew ms ps s0 s1 σ W tm fz vss) {p : VP} (hp : p ∈ ps) : ∃ vs, Told s1 W tm fz p vs ∧ At s0.ctr s0 σ p vs := by
  obtain ⟨i, hi⟩ := List.getElem?_of_mem hp
  obtain ⟨vs, hv⟩ := at_some h.len (List.getElem?_eq_some_iff.1 hi).1
  exact ⟨vs, h.told i p vs hi hv, h.at_ i p vs hi hv⟩

def fzOf (W : Wd) (ps : List VP) (b : Nat) : Prop := W.fz b ∨ ∃ r j, Frz ps r j ∧ b ∈ W.om (.lf r j)

theorem anew_ok {E : Ent} {cx : Cx} {N : Nat} {ms : List Nat} {ps : List VP} {s0 s1 : St} {tm : Array Value} {W : Wd} {x : (patK ps).D} (h1 : Rep E s1 tm W) (r1 : RootsIn s1) (hk : Keeps (cx.in ms ps) s0 s1) (hp : patOk cx ms ps = true) (hx : packTo ps s1 = some x) :
    ∃ vss, Anew ms ps s0 s1 (embed ms ps s0 x) W tm (fzOf W ps) vss := by
  unfold packTo at hx
  obtain ⟨lvs, hl, hpk⟩ := Step.run_leads _ hx
  obtain ⟨vss, hl, hlen, htold⟩ := packs_ok h1 r1 (fz := fzOf W ps) (fun b hb => .inl hb) (fun r j hf b hb => .inr ⟨r, j, hf, hb⟩) hl
  have hl : vss.flatten = lvs := hl
  subst hl
  have hup := unpack_pack _ _ _ hpk
  simp only [patOk, Bool.and_eq_true] at hp
  obtain ⟨⟨d1, d2⟩, _⟩ := hp
  have hro : s1.ro.length = s1.sl.length := by rw [h1.len1, h1.len2]
  have hget : ∀ p ∈ ps, ∃ vs, Told s1 W tm (fzOf W ps) p vs := fun p hp => by
    obtain ⟨i, hi⟩ := List.getElem?_of_mem hp
    obtain ⟨vs, hv⟩ := at_some hlen (List.getElem?_eq_some_iff.1 hi).1
    exact ⟨vs, htold i p vs hi hv⟩
  have hlook := embedV_look s0.ctr s0 ps vss (base ms ps s0) hlen (fun i p vs hi hv => by
      have := htold i p vs hi hv
      cases p with
      | slot t l => obtain ⟨_, x, rfl, _⟩ := this; rfl
      | own t ty e d k => obtain ⟨_, x, rfl, _⟩ := this; rfl
      | box r ls => exact this.2.2.1) d2 d1
    (fun t ht => by
      rw [(base_len ms ps s0).1, ← hk.l1]
      obtain ⟨p, hp, ht⟩ := List.mem_flatMap.1 ht
      obtain ⟨vs, hv⟩ := hget p hp
      cases p with
      | slot u l => simp [VP.slots] at ht; subst ht; exact hv.1
      | own u ty e d k => simp [VP.slots] at ht; subst ht; exact hv.1
      | box r ls => simp [VP.slots] at ht)
    (fun t ht => by
      rw [(base_len ms ps s0).2, ← hk.l2]
      obtain ⟨p, hp, ht⟩ := List.mem_flatMap.1 ht
      obtain ⟨vs, hv⟩ := hget p hp
      cases p with
      | slot u l => simp [VP.roots] at ht
      | own u ty e d k => simp [VP.roots] at ht; subst ht; rw [hro]; exact hv.1
      | box r ls => simp [VP.roots] at ht; subst ht; exact root_lt hv.1)
  have he : embed ms ps s0 x = (base ms ps s0).app (embedV s0.ctr s0 ps vss.flatten) := by unfold embed; rw [hup]
  rw [he]
  obtain ⟨a, b, c⟩ := hlook
  exact ⟨vss, hlen, htold, c, a, b, (app_len _ _).1.trans (base_len ms ps s0).1, (app_len _ _).2.trans (base_len ms ps s0).2⟩
end Go.Ev

namespace Go.Ev
set_option linter.unusedVariables false
set_option linter.unusedSimpArgs false

section
variable {E : Ent} {cx : Cx} {N : Nat} {ms : List Nat} {ps : List VP} {s0 s1 σ : St} {tm : Array Value} {W : Wd} {vss : List (List Lv)}

noncomputable def anewW (σ : St) (W : Wd) (ps : List VP) : Wd where
  w := W.w
  fz := fzOf W ps
  cv := W.cv
  bk := W.bk
  om k := match k with
    | .lf r j => bif (σ.leaf r j).isArr then W.om (.lf r j) else []
    | .blk r => bif (σ.root r).box then W.om (.blk r) else []
    | .fl _ => []
theorem anewW_sub (k : Key) : ∀ b ∈ (anewW σ W ps).om k, b ∈ W.om k := by
  intro b hb
  cases k with
  | lf r j =>
    have hb : b ∈ (bif (σ.leaf r j).isArr then W.om (.lf r j) else []) := hb
    cases h : (σ.leaf r j).isArr <;> rw [h] at hb
    · cases hb
    · exact hb
  | blk r =>
    have hb : b ∈ (bif (σ.root r).box then W.om (.blk r) else []) := hb
    cases h : (σ.root r).box <;> rw [h] at hb
    · cases hb
    · exact hb
  | fl k => cases hb

theorem mem_roots {p : VP} (hp : p ∈ ps) {r : Nat} (hr : r ∈ p.roots) : r ∈ ps.flatMap VP.roots := List.mem_flatMap.2 ⟨p, hp, hr⟩

theorem anew_frz (ha : Anew ms ps s0 s1 σ W tm (fzOf W ps) vss) {r j : Nat} (hf : Frz ps r j) : (σ.leaf r j).isArr = false := by
  obtain ⟨ls, l, hm, hj⟩ := hf
  obtain ⟨vs, _, hat⟩ := ha.get hm
  have hat : σ.root r = _ := hat
  unfold St.leaf
  rw [hat]
  exact boxLeaves_frz _ ls vs j l hj

theorem anew_sep (h : Rep E s1 tm W) (ha : Anew ms ps s0 s1 σ W tm (fzOf W ps) vss) : Sep E (anewW σ W ps) where
  nodup k := by
    cases k with
    | lf r j =>
      show (bif (σ.leaf r j).isArr then W.om (.lf r j) else []).Nodup
      cases (σ.leaf r j).isArr
      · exact List.nodup_nil
      · exact h.sep.nodup _
    | blk r =>
      show (bif (σ.root r).box then W.om (.blk r) else []).Nodup
      cases (σ.root r).box
      · exact List.nodup_nil
      · exact h.sep.nodup _
    | fl k => exact List.nodup_nil
  disj k k' hne b hb hb' := h.sep.disj k k' hne b (anewW_sub k b hb) (anewW_sub k' b hb')
  own k b hb := by
    obtain ⟨q1, q2, q3⟩ := h.sep.own k b (anewW_sub k b hb)
    refine ⟨?_, q2, q3⟩
    rintro (hz | ⟨r, j, hf, hz⟩)
    · exact q1 hz
    · have hk : k = .lf r j := Classical.byContradiction fun hne => h.sep.disj k _ hne b (anewW_sub k b hb) hz
      subst hk
      have hb : b ∈ (bif (σ.leaf r j).isArr then W.om (.lf r j) else []) := hb
      rw [anew_frz ha hf] at hb; cases hb
  fz b hb := by
    rcases hb with hz | ⟨r, j, _, hz⟩
    · exact h.sep.fz b hz
    · obtain ⟨_, q2, q3⟩ := h.sep.own _ b hz; exact ⟨q2, .inr q3⟩
  frame := h.sep.frame
  size := h.sep.size
  rest := h.sep.rest

/-- Variables of the new state were there. -/
theorem anew_box (hk : Keeps (cx.in ms ps) s0 s1) (hp : patOk cx ms ps = true) (ha : Anew ms ps s0 s1 σ W tm (fzOf W ps) vss) {r : Nat} (hb : (σ.root r).box = true) : (s1.root r).box = true ∧ (s1.root r).ver = (σ.root r).ver ∧ (s1.root r).ls.length = (σ.root r).ls.length := by
  simp only [patOk, Bool.and_eq_true] at hp
  obtain ⟨_, hall⟩ := hp
  by_cases hr : r ∈ ps.flatMap VP.roots
  · obtain ⟨p, hm, hr⟩ := List.mem_flatMap.1 hr
    obtain ⟨vs, ht, hat⟩ := ha.get hm
    cases p with
    | slot t l => simp [VP.roots] at hr
    | own t ty e d k =>
      simp [VP.roots] at hr; subst hr
      obtain ⟨_, xs, rfl, _⟩ := ht
      have := (hat _ rfl).2
      rw [this] at hb; cases hb
    | box q ls =>
      simp [VP.roots] at hr; subst hr
      have hat : σ.root r = _ := hat
      have h2 := List.all_eq_true.1 hall _ hm
      simp only [Bool.and_eq_true, Bool.not_eq_true'] at h2
      have n1 : r ∉ ms := fun hh => by rw [(has_mem _ _).2 hh] at h2; exact absurd h2.1.1 (by simp)
      have n2 : r ∉ ps.flatMap VP.slots := fun hh => by rw [(has_mem _ _).2 hh] at h2; exact absurd h2.2 (by simp)
      obtain ⟨b1, b2, b3⟩ := hk.box r (in_slk n1 n2)
      refine ⟨ht.1, ?_, ?_⟩
      · rw [hat, b2]
      · rw [hat]; exact ht.2.1.symm.trans (boxLeaves_len _ _ _).symm
  · have hro := ha.root r hr
    rw [base_root] at hro
    split at hro
    · rw [hro] at hb; cases hb
    · rename_i hms
      have n1 : r ∉ ms := fun hh => hms ((has_mem _ _).2 hh)
      have := hk.roots r (in_lock n1 hr)
      have e : s1.root r = σ.root r := this.trans hro.symm
      rw [e]; exact ⟨hb, rfl, rfl⟩

/-- A leaf that isn't a reference into what turned holds still. -/
theorem anew_la (hk : Keeps (cx.in ms ps) s0 s1) (hp : patOk cx ms ps = true) (ha : Anew ms ps s0 s1 σ W tm (fzOf W ps) vss) {a : LA} {v : Value} (hr : ∀ c, (a = .ref c ∨ (∃ lo hi, a = .win c lo hi) ∨ a = .eptr c ∨ ∃ t, a = .ifc t c) → σ.root c.r = s1.root c.r) (hv : LAok s1 W a v) : LAok σ (anewW σ W ps) a v := by
  cases a with
  | bad => trivial
  | undef => exact hv
  | nils => exact hv
  | nilp => exact hv
  | sc l x => exact L.rd_frame l hv (fun _ _ => rfl) fun b hb => .inl hb
  | ref c =>
    intro gen t e xs d hl hg
    rw [leaf_eq (hr c (.inl rfl))] at hl
    exact hv gen t e xs d hl hg
  | win c lo hi =>
    intro gen t e xs d hl hg
    rw [leaf_eq (hr c (.inr (.inl ⟨lo, hi, rfl⟩)))] at hl
    exact hv gen t e xs d hl hg
  | eptr c =>
    intro gen t e xs d hl hg
    rw [leaf_eq (hr c (.inr (.inr (.inl rfl))))] at hl
    exact hv gen t e xs d hl hg
  | ptr r j ver =>
    intro hb hver
    obtain ⟨b1, b2, _⟩ := anew_box hk hp ha hb
    exact hv b1 (b2.trans hver)
  | fptr e x off =>
    obtain ⟨ad, g, arr, T, fr, hv', hz, hh, hg, hrd⟩ := hv
    exact ⟨ad, g, arr, T, fr, hv', .inl hz, hh, hg, Ls.rd_frame e hrd (fun _ _ => rfl) fun b hb => .inl hb⟩
  | fn f => exact hv
  | ifc tt c =>
    obtain ⟨u, hu, hv⟩ := hv
    refine ⟨u, hu, fun gen t e xs d hl hg => ?_⟩
    rw [leaf_eq (hr c (.inr (.inr (.inr ⟨tt, rfl⟩))))] at hl
    exact hv gen t e xs d hl hg
  | clo g qs _ =>
    obtain ⟨bs, hu, hlen, hv⟩ := hv
    refine ⟨bs, hu, hlen, fun k p b hp' hb hx hver => ?_⟩
    obtain ⟨b1, b2, _⟩ := anew_box hk hp ha hx
    exact hv k p b hp' hb b1 (b2.trans hver)
  | arr => exact hv
end
end Go.Ev
