/- A plain evaluator for Go's loaded code, and that it is sound; part 4. Conditions: none. -/
import Derived.Test.YtjbfgbgibmebfaaLib3
namespace Go.Ev
open Go.ChangeShapes Go.RowKit
set_option linter.unusedVariables false
set_option linter.unusedSimpArgs false

def aggOf (P : Program) (t : TypeId) : Bool := match P.underlying t with
  | some (.struct _) => true
  | _ => false
def valsOf (P : Program) : List TypeId → Option (List PM)
  | [] => some []
  | t :: ts => match lay P 12 t, valsOf P ts with
    | some ls, some ps => some (.val (aggOf P t) ls :: ps)
    | _, _ => none
def readsB (P : Program) (ts : List TypeId) : Bool := ts.all fun t => P.readableRec t && decide (t < P.types.size)

section
variable {H : Type} {enc : TypeId × Value → H} {P : Program} {w : World} {base base' : Nat} {held : Bool}

theorem one_cell {t : TypeId} {v : Value} {ls : List L} {r : Reach} (h : Value.okWide P w r base t v) (hl : lay P 12 t = some ls) (ha : aggOf P t = false) : v.cells = #[v] ∧ ls.length = 1 := by
  unfold lay at hl
  unfold aggOf at ha
  unfold Value.okWide Cell.okWide Cell.ok at h
  split at hl
  · rename_i hu; rw [hu] at h; injection hl with hl; subst hl
    cases v <;> first | exact ⟨rfl, rfl⟩ | exact h.elim
  · rename_i hu; rw [hu] at h; injection hl with hl; subst hl
    cases v <;> first | exact ⟨rfl, rfl⟩ | exact h.elim
  · rename_i hu; rw [hu] at h; injection hl with hl; subst hl
    cases v <;> first | exact ⟨rfl, rfl⟩ | exact h.elim
  · rename_i hu
    rw [hu] at h
    split at hl
    · split at hl
      · injection hl with hl; subst hl
        cases v <;> first | exact ⟨rfl, rfl⟩ | exact h.elim
      · cases hl
    · cases hl
  · rename_i hu; rw [hu] at ha; cases ha
  · cases hl
theorem agg_cells {t : TypeId} {v : Value} {r : Reach} (h : Value.okWide P w r base t v) (ha : aggOf P t = true) : ∃ cs, v = .agg cs := by
  unfold aggOf at ha
  unfold Value.okWide at h
  split at ha
  · rename_i hu; rw [hu] at h; obtain ⟨cs, h, _⟩ := h; exact ⟨cs, h⟩
  · cases ha

theorem args_of : ∀ {ts : List TypeId} {vs : List Value} {ds : List (DataW H)} {p : List MemPlace} {pms : List PM}, DataW.TrodAll enc P w base (fun _ => true) held ts vs ds p →
    (∀ (j : Nat) t v, ts[j]? = some t → vs[j]? = some v → Value.okWide P w .any base' t v) → valsOf P ts = some pms →
    vs.length = pms.length ∧ ds.length = ts.length ∧ ∃ vss : List (List Lv), vss.length = pms.length ∧ vss.flatten.map (·.l) = pms.flatMap PM.ins ∧ (∀ (j : Nat) (lv : Lv), vss.flatten[j]? = some lv → lv.l.fit lv.x) ∧
      ∀ (i : Nat) (pm : PM) (u : Value) (xs : List Lv), pms[i]? = some pm → vs[i]? = some u → vss[i]? = some xs → PArg w (Old w) pm u xs 0 (fun _ => []) ∧ ∃ g ls, pm = .val g ls
  | [], [], [], p, pms, h, hv, hp => by
    simp only [valsOf, Option.some.injEq] at hp
    subst hp
    exact ⟨rfl, rfl, [], rfl, rfl, (fun j lv hj => by simp at hj), fun i pm u xs hi => by simp at hi⟩
  | t :: ts, v :: vs, d :: ds, p, pms, h, hv, hp => by
    obtain ⟨p1, p2, ⟨fuel, h1⟩, h2, _⟩ := h
    simp only [valsOf] at hp
    split at hp
    · rename_i ls ps hl hps
      injection hp with hp; subst hp
      obtain ⟨a1, a2, vss, a3, a4, a5, a6⟩ := args_of h2 (fun j t v ht hv' => hv (j + 1) t v (by simpa using ht) (by simpa using hv')) hps
      have hok := hv 0 t v rfl rfl
      obtain ⟨hlen, us, b1, b2⟩ := trod_lay 12 hl h1
      have hul : us.length = ls.length := by have := congrArg List.length b1; simpa using this
      refine ⟨by simp [a1], by simp [a2], us :: vss, by simp [a3], by simp [a4, b1, PM.ins], fun j lv hj => ?_, fun i pm u xs hi hu hx => ?_⟩
      · rw [List.flatten_cons] at hj
        rcases Nat.lt_or_ge j us.length with hlt | hge
        · rw [List.getElem?_append_left hlt] at hj
          obtain ⟨_, _, _, hf⟩ := b2 j lv hj
          exact hf
        · rw [List.getElem?_append_right hge] at hj
          exact a5 _ lv hj
      · cases i with
        | succ i => exact a6 i pm u xs (by simpa using hi) (by simpa using hu) (by simpa using hx)
        | zero =>
          simp at hi hu hx
          subst hi; subst hu; subst hx
          refine ⟨⟨by simp [b1, Function.comp_def], ?_, fun j p lv hj hlv => ?_⟩, _, _, rfl⟩
          · cases hag : aggOf P t with
            | true =>
              obtain ⟨cs, rfl⟩ := agg_cells hok hag
              exact ⟨cs, rfl, by simpa [Value.cells] using hlen⟩
            | false =>
              have := (one_cell hok hl hag).2
              simpa using this
          · obtain ⟨y, hy, hr, _⟩ := b2 j lv hlv
            have hp2 : p.2 = 0 := by
              simp only [List.getElem?_map] at hj
              cases hq : ls[j]? with
              | none => rw [hq] at hj; cases hj
              | some l => rw [hq] at hj; injection hj with hj; rw [← hj]
            rw [hp2]
            refine ⟨y, ?_, hr⟩
            cases hag : aggOf P t with
            | true =>
              show v.cells[j]? = some y
              rw [← hy]; simp
            | false =>
              obtain ⟨q1, q2⟩ := one_cell hok hl hag
              rw [q1] at hy
              cases j with
              | zero => simp at hy; subst hy; rfl
              | succ j => simp at hy
    · cases hp
  | [], _ :: _, _, _, _, h, _, _ => by cases h
  | [], [], _ :: _, _, _, h, _, _ => by cases h
  | _ :: _, [], _, _, _, h, _, _ => by cases h
  | _ :: _, _ :: _, [], _, _, h, _, _ => by cases h

theorem trodAll_below (hl : laidOutB P = true) {W W' : World} (hb : Below W.heap.size W W') : ∀ {ts : List TypeId} {vs : List Value} {ds : List (DataW H)} {p : List MemPlace}, readsB P ts = true →
    DataW.TrodAll enc P W 0 (fun _ => true) true ts vs ds p → (∀ x ∈ p, x.block < W.heap.size) → DataW.TrodAll enc P W' 0 (fun b => decide (b < W.heap.size)) true ts vs ds p
  | [], [], [], p, hr, h, hlt => h
  | t :: ts, v :: vs, d :: ds, p, hr, h, hlt => by
    obtain ⟨p1, p2, h1, h2, rfl⟩ := h
    simp only [readsB, List.all_cons, Bool.and_eq_true, decide_eq_true_eq] at hr
    exact ⟨p1, p2, Below.trod hl hr.1.1 hr.1.2 h1 hb (fun x hx => hlt x (List.mem_append_left _ hx)), trodAll_below hl hb (by simpa [readsB] using hr.2) h2 (fun x hx => hlt x (List.mem_append_right _ hx)), rfl⟩
  | [], _ :: _, _, _, _, h, _ => by cases h
  | [], [], _ :: _, _, _, h, _ => by cases h
  | _ :: _, [], _, _, _, h, _ => by cases h
  | _ :: _, _ :: _, [], _, _, h, _ => by cases h
end

theorem rout_one {w : World} {fz : Nat → Prop} {om : Nat → List Nat} {g : Bool} {ls : List (L × Nat)} : ∀ {rv : List Value} {vsR : List (List Lv)} {off : Nat}, ROut w fz om [(g, ls)] rv vsR off → ∃ u vs, rv = [u] ∧ vsR = [vs] ∧ RArg w fz g ls u vs (fun j => om (off + j))
  | [u], [vs], _, h => ⟨u, vs, rfl, rfl, h.1⟩
  | [], _, _, h => h.elim
  | _ :: _, [], _, h => h.elim
  | [_], _ :: _ :: _, _, h => h.2.elim
  | _ :: _ :: _, [_], _, h => h.2.elim
  | _ :: _ :: _, _ :: _ :: _, _, h => h.2.elim

/-- A LAW: its function's summary, its plain statement: its row. -/
theorem row_ok {H : Type} {enc : TypeId × Value → H} {C : Checked} {os : Os} {f : FuncId} {fn : Func} {s : ChangeSpec} {conds : List PathCond}
    (own : ownKnob C.prog.godebug = none) (started : os.Started) (noInit : C.prog.inits.idxOf? f = none) (hfn : C.prog.funcs[f]? = some fn)
    (witness : ∃ (w : World) (tape : Tape) (i : Input), w.os = os ∧ (w.forCall tape i).Shaped C.prog ∧ i.vars = [] ∧ Input.okWide C.prog (w.forCall tape i) .any w.heap.size f i ∧
      s.pre6 enc C.prog fn conds false (w.forCall tape i).memory i.args ∧ ({} : Assume).holds C.prog (lone (Frame.enter C.prog f i.args .normal) [] (w.forCall tape i)))
    {sm : Sm} {F : Nat → sm.ins.D → Option sm.outs.D} (hok : ∀ n, FnOk C.prog [] f ⟨sm, F n⟩) (hps : valsOf C.prog fn.params.toList = some sm.ps) (hrs : sm.rs = [(false, [(.bool, 0)])])
    {tb : TypeId} (hres : fn.resultTypes = #[tb]) (htb : C.prog.underlying tb = some .bool) (hvars : s.vars = []) (hreads : readsB C.prog fn.params.toList = true) (hlaid : laidOutB C.prog = true)
    (hspec : ∀ (ds : List (DataW H)), ds.length = fn.params.toList.length → s.fn H ds = { results := [.lit (.bool true)], args := ds })
    (pure : ∀ x : sm.ins.D, sm.ins.fit x → ∃ n z, F n x = some z ∧ unpack sm.outs z = [⟨.bool, (show Bool from true)⟩]) :
    ReturnsInHanded {} C os f .any (s.pre6 enc C.prog fn conds false) (s.post enc C.prog fn false true false false) := by
  refine returnsInHanded_of_change_sized own started noInit hfn witness ?_
  intro W base args ds gs before hval hW _ _ _
  have hW' := hW
  obtain ⟨p, q, hA, hV, rfl, hfz, hnd⟩ := hW
  rw [hvars] at hV
  obtain ⟨rfl, rfl⟩ := trodVars_none hV
  obtain ⟨a1, a2, vss, a3, a4, a5, a6⟩ := args_of hA (fun j t v ht hv => hval j t v (by simpa using ht) (by simpa using hv)) hps
  have hkin : vss.flatten.map (·.l) = sm.ins.kinds := by rw [a4]; exact (mkLs_kinds _).symm
  obtain ⟨x, hx, hfit⟩ := pack_of sm.ins vss.flatten hkin
  obtain ⟨n, z, hz, hzu⟩ := pure x (hfit a5)
  have hin : ArgsIn sm.ps W (Old W) args.toList vss (fun _ => 0) (fun _ => []) := {
    len := a1
    len2 := a3
    each := fun i pm u xs h1 h2 h3 => (a6 i pm u xs h1 h2 h3).1
    blk := fun i => by
      cases hq : sm.ps[i]? with
      | none => rfl
      | some pm =>
        have hlt := (List.getElem?_eq_some_iff.1 hq).1
        obtain ⟨_, g, ls, rfl⟩ := a6 i pm _ _ hq (List.getElem?_eq_getElem (by omega)) (List.getElem?_eq_getElem (by omega))
        rfl
    none := fun i _ _ j => rfl
    box := fun i ls _ j _ => rfl
    row := fun i g ls _ j _ => rfl
    fl := fun k => rfl
    nodup := fun k => List.nodup_nil
    disj := fun k k' _ b hb => by cases hb
    own := fun k b hb => by cases hb
    fz := fun b hb => hb }
  have hcall := hok n args.toList W (Old W) vss _ _ x z (fun _ h => by cases h) hin hx hz
  have hmk : sm.mk? = false := by unfold Sm.mk?; rw [hrs]
  have hmk : (SmF.mk sm (F n)).s.mk? = false := hmk
  rw [hmk] at hcall
  rw [Array.toArray_toList] at hcall
  refine hcall.mono ?_
  rintro en W' ⟨r, fz', om', rv, vsR, vsP, rfl, co⟩
  have hout := co.outs
  have hres1 := co.resOk
  rw [hrs] at hres1
  obtain ⟨u, vs, rfl, rfl, b1, _, b2⟩ := rout_one hres1
  have hvl : vs.length = 1 := by have := congrArg List.length b1; simpa using this
  obtain ⟨lv, rfl⟩ : ∃ lv, vs = [lv] := by
    match vs, hvl with
    | [x], _ => exact ⟨x, rfl⟩
  obtain ⟨l0, x0⟩ := lv
  have hl0 : l0 = .bool := by simpa using b1
  subst hl0
  obtain ⟨y, hy, hr⟩ := b2 0 (.bool, 0) ⟨.bool, x0⟩ rfl rfl
  have hyu : u = y := by simpa [partG] using hy
  subst hyu
  have hzu : unpack sm.outs z = [⟨.bool, (show Bool from true)⟩] := hzu
  have hout : unpack sm.outs z = _ := hout
  rw [hzu] at hout
  simp only [List.flatten_cons, List.flatten_nil, List.append_nil, List.cons_append, List.nil_append, List.cons.injEq] at hout
  have hx0 : x0 = (show Bool from true) := by
    have := hout.1
    injection this with _ h2
    exact h2.symm
  subst hx0
  have hu : u = .bool true := hr.1
  subst hu
  have hrr : r = .bool true := co.res
  subst hrr
  have hbelow : Below W.heap.size W W' := ⟨co.rest.1, co.rest.2.1, co.rest.2.2, co.size, fun k hk => co.frame k hk fun _ hb => by cases hb⟩
  have hlt : ∀ y ∈ p, y.block < W.heap.size := fun y hy => hW'.lt y (by simpa using hy)
  refine ⟨_, rfl, ds, [], _, [], p, [], hW', ?_, ?_, ?_, hbelow.frame _, fun h => by cases h⟩
  · rw [List.append_nil, hspec ds a2, hres]
    exact trodAll_mk1 (shut_bool htb _)
  · rw [List.append_nil, hspec ds a2]
    exact trodAll_below hlaid hbelow hreads hA hlt
  · rw [List.append_nil, hspec ds a2, hvars]
    rfl
end Go.Ev

namespace Go.Ev
set_option linter.unusedVariables false
set_option linter.unusedSimpArgs false

/-- Look-up in a list by number. -/
def find {α : Type} : List (Nat × α) → Nat → Option α
  | [], _ => none
  | (k, x) :: r, t => match Nat.beq k t with
    | true => some x
    | false => find r t
theorem find_mem {α : Type} : ∀ {l : List (Nat × α)} {t : Nat} {x : α}, find l t = some x → (t, x) ∈ l
  | [], t, x, h => by cases h
  | (k, y) :: r, t, x, h => by
    unfold find at h
    split at h
    · rename_i hk
      have : k = t := Nat.eq_of_beq_eq_true hk
      injection h with h; subst h; subst this; exact List.mem_cons_self
    · exact List.mem_cons_of_mem _ (find_mem h)

/-! ### types -/

/-- Is it the zero of such a leaf? -/
def isZ : L → Value → Bool
  | .int k, .int k' n => IntKind.code k == IntKind.code k' && n == 0
  | .bool, .bool b => !b
  | .str, .string s => s.size == 0
  | .sl _ _, .slice none l c => l == 0 && c == 0
  | _, _ => false
theorem isZ_ok {l : L} {v : Value} (h : isZ l v = true) : v = zcell l := by
  unfold isZ at h
  split at h
  · simp only [Bool.and_eq_true, beq_iff_eq] at h
    obtain ⟨h1, rfl⟩ := h
    rw [IntKind.code_inj h1]; rfl
  · simp at h; subst h; rfl
  · rename_i s
    have : s = .empty := ByteArray.size_eq_zero_iff.1 (by simpa using h)
    subst this; rfl
  · simp only [Bool.and_eq_true, beq_iff_eq] at h
    obtain ⟨rfl, rfl⟩ := h; rfl
  · cases h
def allZ : List L → List Value → Bool
  | [], [] => true
  | l :: ls, v :: vs => isZ l v && allZ ls vs
  | _, _ => false
theorem allZ_ok : ∀ {ls : List L} {vs : List Value}, allZ ls vs = true → vs = ls.map zcell
  | [], [], _ => rfl
  | l :: ls, v :: vs, h => by
    simp only [allZ, Bool.and_eq_true] at h
    rw [isZ_ok h.1, allZ_ok h.2]; rfl
  | [], _ :: _, h => by cases h
  | _ :: _, [], h => by cases h

def elB (P : Program) (t : TypeId) (e : Ls) : Bool := decide (0 < e.n) && match P.info? t with
  | some i => i.size == e.n && decide (i.bytes ≤ 1024) && match i.zero with
    | some z => allZ e.kinds z.cells.toList
    | none => false
  | none => false
theorem elB_ok {P : Program} {t : TypeId} {e : Ls} (h : elB P t e = true) : ElF P t e := by
  unfold elB at h
  simp only [Bool.and_eq_true, decide_eq_true_eq] at h
  obtain ⟨hp, h⟩ := h
  split at h
  · rename_i i hi
    simp only [Bool.and_eq_true, decide_eq_true_eq, beq_iff_eq] at h
    obtain ⟨⟨h1, h2⟩, h⟩ := h
    split at h
    · rename_i z hz
      exact ⟨⟨i, hi, h1, h2, z, hz, by rw [← allZ_ok h]⟩, hp⟩
    · cases h
  · cases h
def loneB (P : Program) (t : TypeId) : L → Bool
  | .int k => match P.underlying t with
    | some (.int k') => IntKind.code k == IntKind.code k'
    | _ => false
  | .bool => match P.underlying t with
    | some .bool => true
    | _ => false
  | .str => match P.underlying t with
    | some .string => true
    | _ => false
  | .sl t' e => (match P.underlying t with
    | some (.slice t'') => t' == t''
    | _ => false) && elB P t' e
theorem loneB_ok {P : Program} {t : TypeId} {l : L} (h : loneB P t l = true) : LoneF P t l := by
  cases l with
  | int k =>
    simp only [loneB] at h
    split at h
    · rename_i k' hk
      have := IntKind.code_inj (by simpa using h : IntKind.code k = IntKind.code k')
      subst this; exact hk
    · cases h
  | bool =>
    simp only [loneB] at h
    split at h
    · assumption
    · cases h
  | str =>
    simp only [loneB] at h
    split at h
    · assumption
    · cases h
  | sl t' e =>
    simp only [loneB, Bool.and_eq_true] at h
    obtain ⟨h1, h2⟩ := h
    split at h1
    · rename_i t'' ht
      have : t' = t'' := by simpa using h1
      subst this
      exact ⟨ht, elB_ok h2⟩
    · cases h1
def fieldsB : List Field → List (Nat × TypeId) → Bool
  | [], [] => true
  | f :: fs, (o, t) :: r => f.offset == o && f.type == t && fieldsB fs r
  | _, _ => false
theorem fieldsB_ok : ∀ {fs : List Field} {r : List (Nat × TypeId)}, fieldsB fs r = true → fs.map (fun f => (f.offset, f.type)) = r
  | [], [], _ => rfl
  | f :: fs, (o, t) :: r, h => by
    simp only [fieldsB, Bool.and_eq_true, beq_iff_eq] at h
    rw [List.map_cons, h.1.1, h.1.2, fieldsB_ok h.2]
  | [], _ :: _, h => by cases h
  | _ :: _, [], h => by cases h
def placesB (P : Program) : List Field → Bool
  | [] => true
  | f :: fs => (P.info? f.type).isSome && placesB P fs
theorem placesB_ok {P : Program} : ∀ {fs : List Field}, placesB P fs = true → ∃ pl, fs.mapM (fun f => (P.info? f.type).map fun i => (f.offset, i.size)) = some pl
  | [], _ => ⟨[], rfl⟩
  | f :: fs, h => by
    simp only [placesB, Bool.and_eq_true] at h
    obtain ⟨pl, hpl⟩ := placesB_ok h.2
    obtain ⟨i, hi⟩ := Option.isSome_iff_exists.1 h.1
    exact ⟨(f.offset, i.size) :: pl, by simp [List.mapM_cons, hi, hpl]⟩
def tyB (P : Program) (t : TypeId) (ty : Ty) : Bool :=
  (match P.info? t with
    | some i => i.size == ty.ls.n && match i.zero with
      | some z => match ty.agg with
        | true => match z with
          | .agg cs => allZ ty.ls.kinds cs.toList
          | _ => false
        | false => allZ ty.ls.kinds z.cells.toList
      | none => false
    | none => false) &&
  match ty.agg with
  | true => match P.underlying t with
    | some (.struct fs) => fieldsB fs.toList ty.fs && placesB P fs.toList
    | _ => false
  | false => match ty.ls with
    | .one l => loneB P t l
    | _ => false
theorem tyB_ok {P : Program} {t : TypeId} {ty : Ty} (h : tyB P t ty = true) : TyF P t ty := by
  unfold tyB at h
  simp only [Bool.and_eq_true] at h
  obtain ⟨h1, h2⟩ := h
  refine ⟨?_, fun ha => ?_, fun ha => ?_⟩
  · split at h1
    · rename_i i hi
      simp only [Bool.and_eq_true, beq_iff_eq] at h1
      obtain ⟨hs, h1⟩ := h1
      split at h1
      · rename_i z hz
        refine ⟨i, hi, hs, z, hz, ?_⟩
        split at h1
        · rename_i ha
          split at h1
          · rename_i cs
            have hc : cs = (ty.ls.kinds.map zcell).toArray := by rw [← allZ_ok h1]
            exact ⟨hc, .inl (by rw [hc])⟩
          · cases h1
        · rename_i ha
          exact ⟨by rw [← allZ_ok h1], .inr ha⟩
      · cases h1
    · cases h1
  · rw [ha] at h2
    dsimp only at h2
    split at h2
    · rename_i fs hfs
      simp only [Bool.and_eq_true] at h2
      exact ⟨fs, hfs, fieldsB_ok h2.1, placesB_ok h2.2⟩
    · cases h2
  · rw [ha] at h2
    dsimp only at h2
    split at h2
    · rename_i l hl; exact ⟨l, hl, loneB_ok h2⟩
    · cases h2
theorem table_ok {P : Program} {tbl : List (Nat × Ty)} (h : tbl.all (fun p => tyB P p.1 p.2) = true) : ∀ t x, find tbl t = some x → TyF P t x :=
  fun t x hx => tyB_ok (List.all_eq_true.1 h _ (find_mem hx))

/-! ### summaries -/

/-- A function's code is there. -/
def HasBody (P : Program) (f : FuncId) : Prop := ∃ (fn : Func) (c : Code), P.funcs[f]? = some fn ∧ fn.body = some c ∧ (fn.name == "runtime.NumGoroutine") = false
theorem env_nil {P : Program} {T : List (String × Array Value)} : EnvFn P T (find []) := fun f g h => by cases h
theorem env_cons {P : Program} {T : List (String × Array Value)} {f : FuncId} {g : SmF} {l : List (FuncId × SmF)} (h : FnOk P T f g) (hb : HasBody P f) (hl : EnvFn P T (find l)) : EnvFn P T (find ((f, g) :: l)) := by
  intro f' g' h'
  unfold find at h'
  split at h'
  · rename_i hk
    have : f = f' := Nat.eq_of_beq_eq_true hk
    subst this
    injection h' with h'; subst h'
    exact ⟨h, hb⟩
  · exact hl f' g' h'
/-- A function whose native form is known. -/
theorem fn_native {P : Program} {T : List (String × Array Value)} {tbl : List (Nat × Ty)} {l : List (FuncId × SmF)} {an : An} {n : Nat} {sm : Sm} {fn : Func} {f : FuncId} {c : Code} {F : sm.ins.D → Option sm.outs.D}
    (hf : P.funcs[f]? = some fn) (hb : fn.body = some c) (hlen : decide (sm.ps.length ≤ fn.ntmps) = true) (ht : tbl.all (fun p => tyB P p.1 p.2) = true) (hl : EnvFn P T (find l)) (hm : P.follows .mixedOrders = true)
    (hF : ∀ x, evFn (find tbl) (find l) an n fn sm x = F x) : FnOk P T f ⟨sm, F⟩ := by
  have h := fn_ok (an := an) (n := n) (sm := sm) hf hb (of_decide_eq_true hlen) (table_ok ht) hl hm
  have : evFn (find tbl) (find l) an n fn sm = F := funext hF
  rw [this] at h
  exact h
end Go.Ev
