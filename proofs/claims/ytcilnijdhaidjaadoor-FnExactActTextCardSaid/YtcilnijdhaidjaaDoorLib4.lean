/- A plain evaluator for Go's loaded code, and that it is sound; part 4. Conditions: none. -/
import Derived.Test.YtcilnijdhaidjaaDoorLib3
import Derived.Shelf.Strconv.Itoa3
import Derived.Lib.LaidU8
import Derived.Lib.ItoaLen
import Derived.Handed
import Derived.LaidMore
import Derived.LaidLaws
import Derived.MakeChecks
import Derived.Stop.Joined
namespace Go.Ev
open Go.Proofs Go.Shelf
set_option linter.unusedVariables false
set_option linter.unusedSimpArgs false
open Go.ChangeShapes Go.RowKit

/-- strconv.Itoa, at whole numbers of 64 bits. -/
def itoaN (x : Int) : Option (List UInt8) := bif decide (-9223372036854775808 ≤ x) && decide (x ≤ 9223372036854775807) then some (Go.Lib.itoa x) else none
def itoaSm : Sm := ⟨[.val false [.int .i64]], [(false, [(.str, 0)])]⟩
/-- What strconv.Itoa looks at. -/
def tabItoa : List (String × Array Value) := [("internal/strconv.uint64pow10", (Go.Lib.pow10Tab.map fun z => Value.int .u64 z).toArray)]

theorem fn_none {P : Program} {T : List (String × Array Value)} {f : FuncId} {sm : Sm} : FnOk P T f ⟨sm, fun _ => none⟩ := by
  intro args w fz vss bk om x z hg hin hx hz
  cases hz

theorem itoa_ok {P : Program} {ρ : Ren} (L : LaysM.n171 P ρ) : FnOk P tabItoa (ρ.f 171) ⟨itoaSm, fun x => itoaN x⟩ := by
  intro args w fz vss bk om x z hg hin hx hz
  have hz : itoaN x = some z := hz
  obtain ⟨u, rfl⟩ : ∃ u, args = [u] := by
    match args, hin.len with
    | [u], _ => exact ⟨u, rfl⟩
  obtain ⟨vs, rfl⟩ : ∃ vs, vss = [vs] := by
    match vss, hin.len2 with
    | [vs], _ => exact ⟨vs, rfl⟩
  obtain ⟨r1, r2, r3⟩ := hin.each 0 (.val false [.int .i64]) u vs rfl rfl rfl
  obtain ⟨lv, rfl⟩ : ∃ lv, vs = [lv] := by
    match vs, congrArg List.length r1 with
    | [lv], _ => exact ⟨lv, rfl⟩
  obtain ⟨y, hy, hr⟩ := r3 0 (.int .i64, 0) lv rfl rfl
  have hyu : u = y := by simpa [partG] using hy
  subst hyu
  have hup := unpack_pack _ _ _ hx
  have hup : ([⟨.int .i64, x⟩] : List Lv) = [lv] := by
    have h2 : unpack itoaSm.ins x = [lv] := by simpa using hup
    exact h2
  injection hup with hup _
  subst hup
  have hu : u = .int .i64 x := hr.1
  subst hu
  unfold itoaN at hz
  cases hb : (decide (-9223372036854775808 ≤ (show Int from x)) && decide ((show Int from x) ≤ 9223372036854775807)) with
  | false => rw [show (decide (-9223372036854775808 ≤ (show Int from x)) && decide ((show Int from x) ≤ 9223372036854775807)) = false from hb] at hz; cases hz
  | true =>
    rw [show (decide (-9223372036854775808 ≤ (show Int from x)) && decide ((show Int from x) ≤ 9223372036854775807)) = true from hb] at hz
    simp only [Bool.and_eq_true, decide_eq_true_eq] at hb
    injection hz with hz
    obtain ⟨htab, _⟩ := hg _ (List.mem_singleton.2 rfl)
    have hcall := Any.strconv_Itoa L x hb.1 hb.2 w htab
    refine hcall.mono ?_
    rintro e w' ⟨rfl, k, os, rfl⟩
    refine ⟨_, fz, om, [.string ⟨(Go.Lib.itoa x).toArray⟩], [[⟨.str, z⟩]], [[]], rfl, ?_⟩
    have hheap : ∀ b, b < w.heap.size → (Go.Sort.grow (w.drewN k) os).heap[b]? = w.heap[b]? := by
      intro b hb
      show (w.heap ++ os)[b]? = _
      rw [Array.getElem?_append_left hb]
    have hsize : w.heap.size ≤ (Go.Sort.grow (w.drewN k) os).heap.size := by
      show w.heap.size ≤ (w.heap ++ os).size
      simp
    exact {
      outs := rfl
      res := rfl
      resOk := by
        refine ⟨⟨rfl, rfl, fun j p lv hj hv => ?_⟩, trivial⟩
        cases j with
        | zero =>
          simp at hj hv
          subst hj; subst hv
          refine ⟨_, rfl, ?_, ?_⟩
          · rw [← hz]
          · show om (.fl (0 + 0)) = []
            exact hin.fl _
        | succ j => simp at hj
      len := rfl
      each := fun i pm u vs h1 h2 h3 => by
        cases i with
        | zero => simp [itoaSm] at h1 h3; subst h1; subst h3; rfl
        | succ i => simp [itoaSm] at h1
      blk := fun _ => rfl
      nodup := hin.nodup
      disj := hin.disj
      own := fun k b hb => by
        obtain ⟨a1, a2⟩ := hin.own k b hb
        exact ⟨a1, by omega, .inr ⟨k, hb⟩⟩
      fz := fun b hb => ⟨by have := hin.fz b hb; omega, .inl hb⟩
      frame := fun b hb _ => hheap b hb
      size := hsize
      rest := ⟨rfl, rfl, rfl⟩ }
/-- What is laid tells what is looked at. -/
theorem gnd_none {P : Program} {T : List (String × Array Value)} {W : World} (h : ∀ x ∈ T, W.var? P x.1 = some x.2) : Gnd P T W (fun b => ∃ k : Key, b ∈ (fun _ => [] : Key → List Nat) k) := by
  intro x hx
  have h1 := h x hx
  refine ⟨h1, ?_⟩
  unfold World.var? at h1
  cases hg : P.globalNamed x.1 with
  | none => rw [hg] at h1; cases h1
  | some g =>
    refine ⟨g, rfl, ?_, ?_⟩
    · rintro ⟨k, hb⟩; cases hb
    · rw [hg] at h1
      have h1 : (match W.heap[g]? with | some (.cells cs _ _) => some cs | _ => none) = some x.2 := h1
      cases ho : W.heap[g]? with
      | none => rw [ho] at h1; cases h1
      | some o => exact (Array.getElem?_eq_some_iff.1 ho).1
/-- The table of tens is an array of numbers: a closed fact. -/
def itoaB (P : Program) : Bool := match P.globalNamed "internal/strconv.uint64pow10" with
  | some g => match (P.globals[g]?).map (·.type) with
    | some t => match P.underlying t with
      | some (.array n e) => (match P.underlying e with
        | some (.int .u64) => true
        | _ => false) && P.cellsOf e == 1 && P.cellsOf t == n
      | _ => false
    | none => false
  | none => false
theorem itoa_laid {P : Program} {laid : List (String × DataW Unit)} (hb : itoaB P = true) (hm : ("internal/strconv.uint64pow10", Go.Lib.tabData .u64 Go.Lib.pow10Tab) ∈ laid) (hp : (laid.all fun x => x.2.handleName?.isNone) = true) (W : World) (h : laidMetH P laid W) : ∀ x ∈ tabItoa, W.var? P x.1 = some x.2 := by
  rw [MakeChecks.laidMetH_plain _ _ _ hp] at h
  unfold itoaB at hb
  split at hb
  · rename_i g hg
    split at hb
    · rename_i t hty
      split at hb
      · rename_i n e ht
        simp only [Bool.and_eq_true, beq_iff_eq] at hb
        obtain ⟨⟨h1, hce⟩, hct⟩ := hb
        split at h1
        · rename_i he
          obtain ⟨g', t', cs, fuel, p, hg', ht', hvar, hd⟩ := Go.Lib.laidMet.reads h hm
          obtain rfl := Option.some.inj (hg.symm.trans hg')
          obtain rfl := Option.some.inj (hty.symm.trans ht')
          intro x hx
          rw [List.mem_singleton.1 hx]
          show W.var? P "internal/strconv.uint64pow10" = some (Go.Lib.pow10Tab.map fun z => Value.int .u64 z).toArray
          rw [hvar, ← Go.Lib.cells_of_tab ht he hce hct hd]
        · cases h1
      · cases hb
    · cases hb
  · cases hb
/-- A LAW over listed variables: its function's summary, its plain statement: its row. -/
theorem row_ok_laid {H : Type} {enc : TypeId × Value → H} {C : Checked} {os : Os} {f : FuncId} {fn : Func} {s : ChangeSpec} {conds : List PathCond} {laid : List (String × DataW Unit)} {T : List (String × Array Value)}
    (own : ownKnob C.prog.godebug = none) (started : os.Started) (noInit : C.prog.inits.idxOf? f = none) (hfn : C.prog.funcs[f]? = some fn)
    (witness : ∃ (w : World) (tape : Tape) (i : Input), w.os = os ∧ (w.forCall tape i).Shaped C.prog ∧ i.vars = [] ∧ Input.okWide C.prog (w.forCall tape i) .any w.heap.size f i ∧
      ((s.pre enc C.prog fn conds false (w.forCall tape i).memory i.args ∧ laidMetH C.prog laid (w.forCall tape i).memory) ∧ sizedMet enc C.prog fn (OpenSpec.ofChange s) false (w.forCall tape i).memory i.args) ∧ ({} : Assume).holds C.prog (lone (Frame.enter C.prog f i.args .normal) [] (w.forCall tape i)))
    (hT : ∀ W, laidMetH C.prog laid W → ∀ x ∈ T, W.var? C.prog x.1 = some x.2)
    {sm : Sm} {F : Nat → sm.ins.D → Option sm.outs.D} (hok : ∀ n, FnOk C.prog T f ⟨sm, F n⟩) (hps : valsOf C.prog fn.params.toList = some sm.ps) (hrs : sm.rs = [(false, [(.bool, 0)])])
    {tb : TypeId} (hres : fn.resultTypes = #[tb]) (htb : C.prog.underlying tb = some .bool) (hvars : s.vars = []) (hreads : readsB C.prog fn.params.toList = true) (hlaid : laidOutB C.prog = true)
    (hspec : ∀ (ds : List (DataW H)), ds.length = fn.params.toList.length → s.fn H ds = { results := [.lit (.bool true)], args := ds })
    (pure : ∀ x : sm.ins.D, sm.ins.fit x → ∃ n z, F n x = some z ∧ unpack sm.outs z = [⟨.bool, (show Bool from true)⟩]) :
    ReturnsInHanded {} C os f .any (fun w args => (s.pre enc C.prog fn conds false w args ∧ laidMetH C.prog laid w) ∧ sizedMet enc C.prog fn (OpenSpec.ofChange s) false w args) (s.post enc C.prog fn false true false false) := by
  refine returnsInHanded_of_change_and (X := fun w _ => laidMetH C.prog laid w) (fun _ _ _ hh h => h.of_heap hh) own started noInit hfn witness ?_
  intro W base args ds gs before hval hW _ _ hL _
  have hW' := hW
  obtain ⟨p, q, hA, hV, rfl, hfz, hnd⟩ := hW
  rw [hvars] at hV
  obtain ⟨rfl, rfl⟩ := trodVars_none hV
  obtain ⟨a1, a2, vss, a3, a4, a5, a6⟩ := args_of hA (fun j t v ht hv => hval j t v (by simpa using ht) (by simpa using hv)) hps
  have hkin : vss.flatten.map (·.l) = sm.ins.kinds := by rw [a4]; exact (mkLs_kinds _).symm
  obtain ⟨x, hx, hfit⟩ := pack_of sm.ins vss.flatten hkin
  obtain ⟨n, z, hz, hzu⟩ := pure x (hfit a5)
  have hin : ArgsIn sm.ps W (Old W) args.toList vss (fun _ => 0) (fun _ => []) := {
    len := a1
    len2 := a3
    each := fun i pm u xs h1 h2 h3 => (a6 i pm u xs h1 h2 h3).1
    blk := fun i => by
      cases hq : sm.ps[i]? with
      | none => rfl
      | some pm =>
        have hlt := (List.getElem?_eq_some_iff.1 hq).1
        obtain ⟨_, g, ls, rfl⟩ := a6 i pm _ _ hq (List.getElem?_eq_getElem (by omega)) (List.getElem?_eq_getElem (by omega))
        rfl
    none := fun i _ _ j => rfl
    box := fun i ls _ j _ => rfl
    row := fun i g ls _ j _ => rfl
    fl := fun k => rfl
    nodup := fun k => List.nodup_nil
    disj := fun k k' _ b hb => by cases hb
    own := fun k b hb => by cases hb
    fz := fun b hb => hb }
  have hcall := hok n args.toList W (Old W) vss _ _ x z (gnd_none (hT W hL)) hin hx hz
  rw [Array.toArray_toList] at hcall
  refine hcall.mono ?_
  rintro en W' ⟨r, fz', om', rv, vsR, vsP, rfl, co⟩
  have hout := co.outs
  have hres1 := co.resOk
  rw [hrs] at hres1
  obtain ⟨u, vs, rfl, rfl, b1, _, b2⟩ := rout_one hres1
  have hvl : vs.length = 1 := by have := congrArg List.length b1; simpa using this
  obtain ⟨lv, rfl⟩ : ∃ lv, vs = [lv] := by
    match vs, hvl with
    | [x], _ => exact ⟨x, rfl⟩
  obtain ⟨l0, x0⟩ := lv
  have hl0 : l0 = .bool := by simpa using b1
  subst hl0
  obtain ⟨y, hy, hr⟩ := b2 0 (.bool, 0) ⟨.bool, x0⟩ rfl rfl
  have hyu : u = y := by simpa [partG] using hy
  subst hyu
  have hzu : unpack sm.outs z = [⟨.bool, (show Bool from true)⟩] := hzu
  have hout : unpack sm.outs z = _ := hout
  rw [hzu] at hout
  simp only [List.flatten_cons, List.flatten_nil, List.append_nil, List.cons_append, List.nil_append, List.cons.injEq] at hout
  have hx0 : x0 = (show Bool from true) := by
    have := hout.1
    injection this with _ h2
    exact h2.symm
  subst hx0
  have hu : u = .bool true := hr.1
  subst hu
  have hrr : r = .bool true := co.res
  subst hrr
  have hbelow : Below W.heap.size W W' := ⟨co.rest.1, co.rest.2.1, co.rest.2.2, co.size, fun k hk => co.frame k hk fun _ hb => by cases hb⟩
  have hlt : ∀ y ∈ p, y.block < W.heap.size := fun y hy => hW'.lt y (by simpa using hy)
  refine ⟨_, rfl, ds, [], _, [], p, [], hW', ?_, ?_, ?_, hbelow.frame _, fun h => by cases h⟩
  · rw [List.append_nil, hspec ds a2, hres]
    exact trodAll_mk1 (shut_bool htb _)
  · rw [List.append_nil, hspec ds a2]
    exact trodAll_below hlaid hbelow hreads hA hlt
  · rw [List.append_nil, hspec ds a2, hvars]
    rfl
end Go.Ev
