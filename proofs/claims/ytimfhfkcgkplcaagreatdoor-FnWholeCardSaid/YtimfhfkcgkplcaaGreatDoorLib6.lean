/- Evaluator. Conditions: none. -/
import Derived.Test.YtimfhfkcgkplcaaGreatDoorLib5
import Derived.Shelf.GgSortMore.Stable
import Derived.Shelf.GgSortFunc.SW
import Derived.Deep.RegionHeld3
import Derived.Deep.QuietTactic
import Derived.Shelf.Lay
set_option linter.all false
namespace Go.EvSort
open Go Go.Proofs Go.Shelf Go.RowKit Go.Lib Go.Sort
open Go.Ev(AAQ AAb AAq J OF)
variable {P:Program}{ρ:Ren}{α:Type}[Inhabited α]{enc:α->Value}{lt:α->α->Bool}{blk off:Nat}{w W:World}{d dk:Array α}
def Lq(P:Program)(g:Nat)(lb:Array Value)(enc:α->Value)(lt:α->α->Bool)(blk off size:Nat)(w:World):Prop:=
 ∀(dk:Array α)(W:World),SW enc w blk off dk W->dk.size=size->∀i j:Nat,i<size->j<size->
  Calls P g (#[.int .i64 i,.int .i64 j]++lb) W λe w'=>e=.returned (.bool (lt dk[i]! dk[j]!))/\∃q os,w'=grow (W.drewN q) os
theorem SW.more(h:SW enc w blk off dk W)(q:Nat)(os:Array Obj):SW enc w blk off dk (grow (W.drewN q) os):=by
 obtain⟨n,vP,h⟩:=h.drewN q;exact⟨n,vP++os,by rw[h];unfold sortWorld;rw[grow_grow]⟩
theorem SW.through(h:SW enc w blk off d W)(uj:blk<w.heap.size){W':World}(h':SW enc W blk off dk W')(hs:dk.size=d.size):SW enc w blk off dk W':=by obtain⟨m,os,rfl⟩:=h';exact h.on uj m dk os hs
theorem SW.cell(h:SW enc w blk off dk W)(b k:Nat)(hb:b<w.heap.size)(uV:b≠blk):W.cell? ⟨b,k,none⟩=w.cell? ⟨b,k,none⟩:=by obtain⟨n,os,rfl⟩:=h;unfold sortWorld;rw[cell?_grow _ _ _ (by rw[Go.Proofs.size_putRow];exact hb),cell?_putRow_other _ _ blk off dk _ (Or.inl uV)];rfl
set_option maxHeartbeats 2000000 in
set_option maxRecDepth 100000 in
theorem LK(L:LaysGg.n26 P ρ)(g:Nat)(lb:Array Value)(sf:Nat)(sb:Array Value)(a b:Nat)
  (eg:∀args w,(callFunc g args).run P w=.ok (.enter g args) w) (vO:Lq P g lb enc lt blk off d.size w) (vz:SwapSwaps P sf sb enc blk off d.size)
  (hH:Holds enc w blk off d) (uj:blk<w.heap.size) (hab:a<=b) (hb:b<=d.size) (uh:d.size<4611686018427387904):
  Calls P (ρ.f 26) #[.agg #[.func (.func g) #[] lb,.func (.func sf) #[] sb],.int .i64 a,.int .i64 b] w λe w'=>
   e=.returned (.tuple #[])/\SW enc w blk off (Sort.insertionSort lt d a b) w':=by
 have mixed:=L.mixed;have t0:=L.t0;have a0:=L.a0;have z0:=L.z0;have v0:=L.v0;have t3:=L.t3;have a3:=L.a3;have z3:=L.z3;have v3:=L.v3;have t4:=L.t4;have a4:=L.a4;have z4:=L.z4;have v4:=L.v4;have t26:=L.t26;have a26:=L.a26;have z26:=L.z26;have v26:=L.v26;have t37:=L.t37;have a37:=L.a37;have z37:=L.z37;have v37:=L.v37;have t44:=L.t44;have a44:=L.a44;have z44:=L.z44;have v44:=L.v44;have u44:=run_underlying L.t44;have zW:SW enc w blk off d (w.alloc (.cells #[.func (.func g) #[] lb,.func (.func sf) #[] sb] (ρ.t 44))):=(SW.start hH).alloc _;have wH:blk<(w.alloc (.cells #[.func (.func g) #[] lb,.func (.func sf) #[] sb] (ρ.t 44))).heap.size:=zW.lt uj;have hH1:=zW.holds uj hH rfl;have w8:w.heap.size<(w.alloc (.cells #[.func (.func g) #[] lb,.func (.func sf) #[] sb] (ρ.t 44))).heap.size:=by simp
 go_enter L.f26,BodyGg.n26_ntmps ρ
 go_wp2
 go_loopw [6] (λvi wr=>∃(i:Nat) (dk:Array α),vi=.int .i64 i/\a<i/\i<=b+1/\dk.size=d.size/\SW enc (w.alloc (.cells #[.func (.func g) #[] lb,.func (.func sf) #[] sb] (ρ.t 44))) blk off dk wr/\
   insOuter lt a b i dk=insOuter lt a b (a+1) d) (λvi _=>b+1-(Go.Proofs.intOf vi).toNat)
 case atStart=>exact⟨a+1,d,by go_num,by omega,by omega,rfl,SW.start hH1,rfl⟩
 case round=>
  obtain⟨i,dk,rfl,hai,hib,hsk,hwr,hO⟩:=hrel;have HO:Hid (insOuter lt a b i dk=insOuter lt a b (a+1) d):=hO;clear hO
  go_wp2
  ·go_loopw [7] (λvj wr2=>∃(j:Nat) (dj:Array α),vj=.int .i64 j/\a<=j/\j<=i/\dj.size=d.size/\SW enc (w.alloc (.cells #[.func (.func g) #[] lb,.func (.func sf) #[] sb] (ρ.t 44))) blk off dj wr2/\
     insInner lt a j dj=insInner lt a i dk) (λvj _=>(Go.Proofs.intOf vj).toNat)
   case atStart=>exact⟨i,dk,rfl,by omega,AAb _,hsk,hwr,rfl⟩
   case round=>
    obtain⟨j,dj,rfl,haj,hji,hsj,hw2,hI⟩:=hrel;have uR:i<b:=by assumption
    have cc:∀k v,((w.alloc (.cells #[.func (.func g) #[] lb,.func (.func sf) #[] sb] (ρ.t 44)))).cell? ⟨w.heap.size,k,none⟩=some v->wr.cell? ⟨w.heap.size,k,none⟩=some v/\∀q os,(grow (wr.drewN q) os).cell? ⟨w.heap.size,k,none⟩=some v:=λk v h=>
     ⟨by rw[SW.cell hw2 _ _ w8 (by omega)];exact h,λq os=>by rw[SW.cell (SW.more hw2 q os) _ _ w8 (by omega)];exact h⟩
    obtain⟨c0',c0⟩:=cc 0 (.func (.func g) #[] lb) (by simp);obtain⟨c1',c1⟩:=cc 1 (.func (.func sf) #[] sb) (by simp);have HW:Hid (SW enc (w.alloc (.cells #[.func (.func g) #[] lb,.func (.func sf) #[] sb] (ρ.t 44))) blk off dj wr):=hw2;have HW1:Hid (SW enc w blk off d (w.alloc (.cells #[.func (.func g) #[] lb,.func (.func sf) #[] sb] (ρ.t 44)))):=zW;have HI:Hid (insInner lt a j dj=insInner lt a i dk):=hI;have HH:Hid (Holds enc (w.alloc (.cells #[.func (.func g) #[] lb,.func (.func sf) #[] sb] (ρ.t 44))) blk off d):=hH1;clear hw2 hI hH hH1 cc zW hwr
    have out:(j<=a\/lt dj[j]! dj[j-1]! = false)->∀W',SW enc (w.alloc (.cells #[.func (.func g) #[] lb,.func (.func sf) #[] sb] (ρ.t 44))) blk off dj W'->∃i' dk',Value.int .i64 ((i:Int)+1)=.int .i64 (i':Nat)/\a<i'/\i'<=b+1/\dk'.size=d.size/\
      SW enc (w.alloc (.cells #[.func (.func g) #[] lb,.func (.func sf) #[] sb] (ρ.t 44))) blk off dk' W'/\insOuter lt a b i' dk'=insOuter lt a b (a+1) d:=λhs W' vf=>
     ⟨i+1,dj,by go_num,by omega,by omega,hsj,vf,by rw[<-HO.out,insOuter_go _ _ _ _ _ uR,<-HI.out,insInner_stop _ _ _ _ hs]⟩
    have OUT:Hid _:=out;clear out;by_cases hja:a<j
    ·have hl:=vO dj wr (SW.through HW1.out uj HW.out hsj) hsj j (j-1) (by omega) (by omega);rw[show(((j-1:Nat):Int))=(j:Int)-1 by omega]at hl;cases vk:lt dj[j]! dj[j-1]! with
     |true=>
      rw[vk]at hl
      go_wp2_with (go_at_fn g;refine hl.mono ?_;rintro e w' ⟨rfl,q,os,rfl⟩)
      have hs:=vz (grow (wr.drewN q) os) dj (SW.holds (SW.more HW.out q os) wH HH.out hsj) hsj j (j-1) (by omega) (by omega);rw[show(((j-1:Nat):Int))=(j:Int)-1 by omega]at hs;rw[hs,Oper.upon_value]
      go_wp2
      go_roundw
      case rel=>
       (repeat apply Exists.intro)
       refine⟨⟨j-1,swp dj j (j-1),by congr 1<;>omega,by omega,by omega,by rw[size_swp];exact hsj,?_,?_⟩,by rw[decide_eq_true uR,show((j-1:Nat):Int)=(j:Int)-1 by omega]⟩
       ·exact SW.swap (SW.more HW.out q os) wH j (j-1) (by omega) (by omega)
       ·rw[<-HI.out,insInner_go lt a j dj hja vk]
      case measure=>simp[Go.Proofs.intOf];omega
     |false=>
      rw[vk]at hl
      go_wp2_with (go_at_fn g;refine hl.mono ?_;rintro e w' ⟨rfl,q,os,rfl⟩)
      go_roundw
      case rel=>exact OUT.out (Or.inr vk) _ (SW.more HW.out q os)
      case measure=>simp[Go.Proofs.intOf];omega
    ·go_wp2
     go_roundw
     case rel=>exact OUT.out (Or.inl (by omega)) _ HW.out
     case measure=>simp[Go.Proofs.intOf];omega
  ·have vW:¬i<b:=by assumption
   go_end0
   exact⟨rfl,by
    unfold Sort.insertionSort;rw[<-HO.out,insOuter_stop _ _ _ _ _ vW];exact SW.through zW uj hwr hsk⟩
theorem Hf(lt:α->α->Bool)(a:Nat):∀(j:Nat)(d:Array α),(insInner lt a j d).size=d.size
 |0,d=>rfl
 |j+1,d=>by
  unfold insInner;split
  ·rw[Hf lt a j,size_swp]
  ·rfl
theorem Ho(lt:α->α->Bool)(a b:Nat):∀(n i:Nat)(d:Array α),b-i<=n->(insOuter lt a b i d).size=d.size
 |0,i,d,h=>by rw[insOuter,AAQ J]
 |n+1,i,d,h=>by
  rw[insOuter];split
  ·rw[Ho lt a b n (i+1) _ J,Hf]
  ·rfl
theorem GA(lt:α->α->Bool)(d:Array α)(a b:Nat):(Sort.insertionSort lt d a b).size=d.size:=Ho lt a b _ _ d (AAb _)
section
variable (L:LaysGt.n15 P ρ)(g:Nat)(lb:Array Value)(sf:Nat)(sb:Array Value)
  (eg:∀args w,(callFunc g args).run P w=.ok (.enter g args) w) (vO:Lq P g lb enc lt blk off d.size W) (vz:SwapSwaps P sf sb enc blk off d.size)
  (hH:Holds enc W blk off d) (uj:blk<W.heap.size)
include L eg vO vz hH uj
set_option maxHeartbeats 1600000 in
set_option maxRecDepth 100000 in
theorem Fo(b:Nat)(hb:b<=d.size)(uh:d.size<=20):Calls P (ρ.f 29) #[.agg #[.func (.func g) #[] lb,.func (.func sf) #[] sb],.int .i64 (0:Nat),.int .i64 b] (W.alloc (.cells #[.func (.func g) #[] lb,.func (.func sf) #[] sb] (ρ.t 42))) λe w'=>e=.returned (.tuple #[])/\SW enc (W.alloc (.cells #[.func (.func g) #[] lb,.func (.func sf) #[] sb] (ρ.t 42))) blk off (Sort.insertionSort lt d 0 b) w':=by
 have LI:LaysGg.n26 P ρ.viaGt:=({ L with }:LaysGt.n29 P ρ).elder;have hS:SW enc W blk off d (W.alloc (.cells #[.func (.func g) #[] lb,.func (.func sf) #[] sb] (ρ.t 42))):=(SW.start hH).alloc _
 have h:=LK (enc:=enc) (lt:=lt) (blk:=blk) (off:=off) (d:=d) (w:=W.alloc (.cells #[.func (.func g) #[] lb,.func (.func sf) #[] sb] (ρ.t 42))) LI g lb sf sb 0 b eg
  (λdk W' vf hs i j hi hj=>vO dk W' (SW.through hS uj vf hs) hs i j hi hj) vz (hS.holds uj hH rfl) (hS.lt uj) (Nat.zero_le _) hb J
 exact h
set_option maxHeartbeats 1600000 in
set_option maxRecDepth 100000 in
theorem H6(ym:d.size<20):
  Calls P (ρ.f 15) #[.agg #[.func (.func g) #[] lb,.func (.func sf) #[] sb],.int .i64 d.size] W λe w'=>e=.returned (.tuple #[])/\SW enc W blk off (Sort.insertionSort lt d 0 d.size) w':=by
 have mixed:=L.mixed;have t0:=L.t0;have a0:=L.a0;have z0:=L.z0;have v0:=L.v0;have t3:=L.t3;have a3:=L.a3;have z3:=L.z3;have v3:=L.v3;have t4:=L.t4;have a4:=L.a4;have z4:=L.z4;have v4:=L.v4;have t26:=L.t26;have a26:=L.a26;have z26:=L.z26;have v26:=L.v26;have t38:=L.t38;have a38:=L.a38;have z38:=L.z38;have v38:=L.v38;have t42:=L.t42;have a42:=L.a42;have z42:=L.z42;have v42:=L.v42;have t47:=L.t47;have a47:=L.a47;have z47:=L.z47;have v47:=L.v47;have u42:=run_underlying L.t42;have e29:∀args w,(callFunc (ρ.f 29) args).run P w=.ok (.enter (ρ.f 29) args) w:=enters_of L.f29 (by kernel_rfl) rfl;have hc:=Fo L g lb sf sb eg vO vz hH uj d.size (AAb _) J;have hS:SW enc W blk off d (W.alloc (.cells #[.func (.func g) #[] lb,.func (.func sf) #[] sb] (ρ.t 42))):=(SW.start hH).alloc _;clear vO vz hH
 go_enter L.f15,BodyGt.n15_ntmps ρ
 go_wp2
 refine wp_loop_rounds 1 ?_;rw[rounds_succ]
 go_wp2_with (go_at_fn (ρ.f 29);refine hc.mono ?_;rintro e w1 ⟨rfl,hw1⟩)
 refine wp_loop_rounds 1 ?_;rw[rounds_succ]
 go_wp2
 all_goals first|(exfalso;omega)|(go_end0;exact⟨rfl,SW.through hS uj hw1 (GA lt d 0 d.size)⟩)
set_option maxHeartbeats 1600000 in
set_option maxRecDepth 100000 in
theorem J6(ym:d.size=20):
  Calls P (ρ.f 15) #[.agg #[.func (.func g) #[] lb,.func (.func sf) #[] sb],.int .i64 d.size] W λe w'=>e=.returned (.tuple #[])/\SW enc W blk off (Sort.insertionSort lt d 0 d.size) w':=by
 have mixed:=L.mixed;have t0:=L.t0;have a0:=L.a0;have z0:=L.z0;have v0:=L.v0;have t3:=L.t3;have a3:=L.a3;have z3:=L.z3;have v3:=L.v3;have t4:=L.t4;have a4:=L.a4;have z4:=L.z4;have v4:=L.v4;have t26:=L.t26;have a26:=L.a26;have z26:=L.z26;have v26:=L.v26;have t38:=L.t38;have a38:=L.a38;have z38:=L.z38;have v38:=L.v38;have t42:=L.t42;have a42:=L.a42;have z42:=L.z42;have v42:=L.v42;have t47:=L.t47;have a47:=L.a47;have z47:=L.z47;have v47:=L.v47;have u42:=run_underlying L.t42;have e29:∀args w,(callFunc (ρ.f 29) args).run P w=.ok (.enter (ρ.f 29) args) w:=enters_of L.f29 (by kernel_rfl) rfl;have LI:LaysGg.n26 P ρ.viaGt:=({ L with }:LaysGt.n29 P ρ).elder;have hc:=Fo L g lb sf sb eg vO vz hH uj d.size (AAb _) J;have hS:SW enc W blk off d (W.alloc (.cells #[.func (.func g) #[] lb,.func (.func sf) #[] sb] (ρ.t 42))):=(SW.start hH).alloc _
 have hn:∀w1,Calls P (ρ.f 29) #[.agg #[.func (.func g) #[] lb,.func (.func sf) #[] sb],.int .i64 (20:Nat),.int .i64 (20:Nat)] w1 λe w'=>e=.returned (.tuple #[])/\w'=w1.alloc (.cells #[.func (.func g) #[] lb,.func (.func sf) #[] sb] (ρ.t 42)):=λw1=>
  Any.insertionSort_func_none LI (.func g) #[] lb sf sb 20 20 J J w1
 have uh:W.heap.size<(W.alloc (.cells #[.func (.func g) #[] lb,.func (.func sf) #[] sb] (ρ.t 42))).heap.size:=OF
 have bx:∀(k:Nat)(v:Value),(W.alloc (.cells #[.func (.func g) #[] lb,.func (.func sf) #[] sb] (ρ.t 42))).cell? ⟨W.heap.size,k,none⟩=some v->∀(X:Array α) w',SW enc (W.alloc (.cells #[.func (.func g) #[] lb,.func (.func sf) #[] sb] (ρ.t 42))) blk off X w'->w'.cell? ⟨W.heap.size,k,none⟩=some v:=λk v h X w' hw=>by rw[SW.cell hw _ _ uh J];exact h
 have bx0:=bx 0 (.func (.func g) #[] lb) OF;have bx1:=bx 1 (.func (.func sf) #[] sb) OF;have hsS:=GA lt d 0 d.size;rw[ym]at hc ⊢;clear vO vz hH bx
 go_enter L.f15,BodyGt.n15_ntmps ρ
 go_wp2
 refine wp_loop_rounds 2 ?_;rw[rounds_succ]
 go_wp2_with (go_at_fn_of (ρ.f 29) (Value.int .i64 0);refine hc.mono ?_;rintro e w1 ⟨rfl,hw1⟩;have y0:=bx0 _ _ hw1;have y1:=bx1 _ _ hw1)
 rw[rounds_succ]
 go_wp2_with (go_at_fn (ρ.f 29);refine(hn _).mono ?_;rintro e w2 ⟨rfl,rfl⟩)
 refine wp_loop_rounds 1 ?_;rw[rounds_succ]
 go_wp2
 go_end0
 exact⟨rfl,(SW.through hS uj hw1 (by rw[ym]at hsS;rw[hsS,ym])).alloc _⟩
theorem JK(ym:d.size<=20):
  Calls P (ρ.f 15) #[.agg #[.func (.func g) #[] lb,.func (.func sf) #[] sb],.int .i64 d.size] W λe w'=>e=.returned (.tuple #[])/\SW enc W blk off (Sort.insertionSort lt d 0 d.size) w':=by
 rcases AAq d.size 20 with h|h
 ·exact H6 L g lb sf sb eg vO vz hH uj h
 ·exact J6 L g lb sf sb eg vO vz hH uj J
end
theorem J4(L:LaysGt.n8 P ρ)(t e:TypeId)(i ie:TypeInfo)(hi:P.info? t=some i)(hd:i.desc=.slice e)(we:P.packed t=false)(hie:P.info? e=some ie)(ke:Nat)(hke:∀w,(Extern.Rtype.kind e).run P w=.ok ke w)
  (w8:ie.size=1) (wS:∀w,(isAgg e).run P w=.ok false w) (h1:∀x,(enc x).oneCell'=true) (g:Nat) (lb:Array Value)
  (eg:∀args w,(callFunc g args).run P w=.ok (.enter g args) w) (c:Nat) (h2:2<=d.size) (ym:d.size<=20)
  (f : Nat) (hf : P.funcs.findIdx? (·.name == "internal/reflectlite" ++ ".Swapper$" ++ toString (swapperK d.size ie ke)) = some f)
  (gS:Bool) (hx:∀args W,(callFunc f args).run P W=((Extern.ReflectliteSwapper.swap gS args).run P W).andThen λv w'=>.ok (.value v) w')
  (vO:Lq P g lb enc lt blk off d.size w) (hH:Holds enc w blk off d) (uj:blk<w.heap.size):
  Calls P (ρ.f 8) #[.iface t (.slice (some ⟨blk,off,none⟩) d.size c),.func (.func g) #[] lb] w λe w'=>
   e=.returned (.tuple #[])/\∃n os,w'=grow (putRow enc (Sort.ahead w n) blk off (Sort.insertionSort lt d 0 d.size)) os:=by
 refine Any.sort_SliceStable_of_stable L t e i ie hi hd we hie ke hke _ d.size c J f hf (.func g) #[] lb w _ ?_
 have hB:sliceBound P e ie ke (some ⟨blk,off,none⟩) d.size c = #[.slice (some ⟨blk,off,none⟩) d.size c,typeHandle P e]:=by unfold sliceBound;rw[AAQ (swapperK_gt _ _ _ h2)]
 have hS:SW enc w blk off d (stableWorld P ρ t (some ⟨blk,off,none⟩) d.size c w):=((SW.start hH).alloc _).alloc _;rw[hB]
 refine(JK (P:=P) (ρ:=ρ) (enc:=enc) (lt:=lt) (blk:=blk) (off:=off) (d:=d) (W:=stableWorld P ρ t (some ⟨blk,off,none⟩) d.size c w) { L with } g lb f _ eg
  (λdk W' vf hs i j hi hj=>vO dk W' (SW.through hS uj vf hs) hs i j hi hj)
  (swapSwaps_of_literal gS f hx e ie hie w8 wS enc h1 blk off d.size c) (hS.holds uj hH rfl) (hS.lt uj) ym).mono ?_
 rintro e w' ⟨rfl,hw⟩
 obtain⟨n,os,rfl⟩:=SW.through hS uj hw (GA lt d 0 d.size);exact⟨rfl,n,os,rfl⟩
end Go.EvSort
namespace Go.Ev
open Go Go.Proofs Go.Shelf Go.RowKit Go.Lib Go.Sort Go.EvSort
variable {P:Program}{ρ:Ren}
theorem Oq(L:LaysGt.n8 P ρ)(t e:TypeId)(i ie:TypeInfo)(hi:P.info? t=some i)(hd:i.desc=.slice e)(we:P.packed t=false)(hie:P.info? e=some ie)(hke:∀w,(Extern.Rtype.kind e).run P w=.ok 2 w)
  (w8:ie.size=1) (wS:∀w,(isAgg e).run P w=.ok false w) (hnp:ie.hasPointers=false) (zc:ie.bytes=8)
  (f1 f2 f5 : Nat) (h1 : P.funcs.findIdx? (·.name == "internal/reflectlite" ++ ".Swapper$" ++ toString 1) = some f1) (h2 : P.funcs.findIdx? (·.name == "internal/reflectlite" ++ ".Swapper$" ++ toString 2) = some f2)
  (h5 : P.funcs.findIdx? (·.name == "internal/reflectlite" ++ ".Swapper$" ++ toString 5) = some f5)
  (gS:Bool) (hx:∀args W,(callFunc f5 args).run P W=((Extern.ReflectliteSwapper.swap gS args).run P W).andThen λv w'=>.ok (.value v) w') (hb:Kg P (ρ.f 8)):
  Lo P (ρ.f 8) t where
 many α _ enc vu lt g lb eg blk off c d w5 ym w vO hH uj:=by
  have hk:swapperK d.size ie 2=5:=by
   have c1:(d.size==0)=false:=by rw[beq_eq_false_iff_ne];omega
   have c2:(d.size==1)=false:=by rw[beq_eq_false_iff_ne];omega
   simp[swapperK,hnp,zc,c1,c2]
  refine J4 L t e i ie hi hd we hie 2 hke w8 wS vu g lb eg c w5 ym f5 (by rw[hk];exact h5) gS hx ?_ hH uj
  rintro dk W ⟨m,os,rfl⟩ hs i j hi hj
  exact vO m os dk hs i j hi hj
 NP p n c hn lf la lb w:=by
  have:n=0\/n=1:=J
  rcases this with rfl|rfl
  ·exact Any.sort_SliceStable_tiny L t e i ie hi hd we hie 2 hke p 0 c J f1 h1 lf la lb w
  ·exact Any.sort_SliceStable_tiny L t e i ie hi hd we hie 2 hke p 1 c J f2 h2 lf la lb w
 body:=hb
def Oz(P:Program)(t:TypeId):Bool:=match P.info? t with
 |some i=>i.size==1&&match i.zero with
  |some z=>match z.cells.toList with
   | [c]=>c.oneCell'
   |_=>false
  |none=>false
 |none=>false
theorem Nq{P:Program}{t:TypeId}(h:Oz P t=true):ON P t:=by
 unfold Oz at h;split at h
 ·rename_i i hi;rw[AAJ]at h;obtain⟨h1,h2⟩:=h;split at h2
  ·rename_i z hz;split at h2
   ·rename_i c hc;exact⟨i,z,c,hi,ADh,hz,by rw[<-hc],h2⟩
   ·cases h2
  ·cases h2
 ·cases h
theorem NU{P:Program}{T:List (String×Array Value)}{l:List (FuncId×Ln)}{f g:FuncId}{σ:OC}{ts:List TypeId}(h:IJ P T (find l))(hs:Lp P f g σ)(ht:ts.all (Oz P)=true):JN P T (NK l f g σ ts) where
 fns:=h
 Oc f' g' σ' h0:=by
  have h':(if f'==f&&g'==g then some σ else none)=some σ':=h0;split at h'
  ·rename_i hc;rw[AAJ]at hc;have e1:f'=f:=by simpa using hc.1
   have e2:g'=g:=by simpa using hc.2
   injection h' with h'
   subst e1;subst e2;subst h';exact hs
  ·cases h'
 Nr t h':=Nq (AAW.1 ht t ((Av _ _).1 h'))
theorem Ot(W:World)(o o':Obj):∃q os,((W.alloc o).alloc o').drew=grow (W.drewN q) os:=
 ⟨1, #[o,o'],by rw[alloc_eq_grow,alloc_eq_grow,grow_grow];rfl⟩
theorem PE(x:Int):IntKind.i64.wrap x=wrap64 x:=by rw[IntKind.wrap_i64];unfold wrap64;rfl
def OU(m:Nat)(v:Int):Int:=if v<0 then IntKind.i64.wrap ((m:Int)+1)else v
theorem O4{P:Program}{f:FuncId}{args:Array Value}{w:World}{q n:Nat}{v:Value}(h:Calls P f args (w.drewN (q+n)) λe w'=>e=.returned v/\w'=w.drewN (q+n)):
  Calls P f args (w.drewN (q+n)) λe w''=>e=.returned v/\∃m,w''=w.drewN (q+m):=h.mono λ_ _ ⟨he,hm⟩=>⟨he,n,hm⟩
def M6(r ki kj vi vj:Int):Bool:=bif ki != kj then decide (ki<kj)else bif(vi==r) != (vj==r)then vj==r else decide (vi<vj)
theorem Oa{t:TypeId}{e:Ls}{w:World}{fz:Nat->Prop}{v:Value}{xs:List e.D}{o:Is}(h:(L.sl t e).rd 0 w fz v xs o)(uV:0<xs.length)(hn:0<e.n):
  ∃B off c,v=.slice (some ⟨B,off,none⟩) xs.length c/\∀i x,xs[i]?=some x->∃os,e.rd 0 w fz (λj=>w.cell? ⟨B,off+i*e.n+j,none⟩) x os:=by
 obtain⟨A,c,hv,hc,h⟩:=L.Hu.1 h;have hl:0<List.length (α:=e.D) xs:=uV;cases A with
 |none=>exact absurd h.1 J
 |some a=>
  rcases h with⟨_,h,_⟩|⟨g,os,⟨h1,arr,T,fr,h2,h3,h4,h5⟩,h6,h7⟩
  ·omega
  ·obtain⟨B,off,sp⟩:=a;cases h1;refine⟨B,off,c,hv,λi x hx=>⟨os i,?_⟩⟩;obtain⟨hi,rfl⟩:=AAK.1 hx;have:=h6 i hi
   have e2:(λj=>g (i*e.n+j))=λj=>w.cell? ⟨B,off+i*e.n+j,none⟩:=by funext j;rw[h5,World.cell?];rw[show w.heap[(⟨B,off+i*e.n+j,none⟩:Addr).block]?=_ from h2];simp[Nat.add_assoc]
   rw[e2]at this;exact this
theorem OP{w:World}{fz:Nat->Prop}{ls:List L}{u:Value}{vs:List Lv}(h:GF w fz ls u vs):∃b,u=.pointer (some ⟨b,0,none⟩)/\vs.map (·.l)=ls/\∀(j:Nat)(lv:Lv),vs[j]?=some lv->∃y,w.cell? ⟨b,j,none⟩=some y/\lv.l.rd 0 w fz y lv.x []:=by
 obtain⟨b,arr,T,fr,rfl,h1,h2,h3,h4,h5⟩:=h;refine⟨b,rfl,h4,λj lv hj=>?_⟩;obtain⟨y,hy,hr⟩:=h5 j lv hj;exact⟨y,by rw[World.cell?];rw[show w.heap[(⟨b,j,none⟩:Addr).block]?=_ from h2];simpa using hy,hr⟩
theorem cell_of{w:World}{b:Nat}{arr:Array Value}{T:TypeId}{fr:Nat×Nat}(h:w.heap[b]?=some (.cells arr T fr))(j:Nat):w.cell? ⟨b,j,none⟩=arr[j]?:=by rw[World.cell?];rw[show w.heap[(⟨b,j,none⟩:Addr).block]?=_ from h];simp
theorem M1{α:Type}{xs:List α}{n:Int}{x:α}(h:Iy xs n=some x):∃k:Nat,n=k/\k<xs.length/\xs[k]?=some x:=by
 unfold Iy at h;split at h
 ·obtain⟨hk,e⟩:=AAK.1 h;exact⟨n.toNat,J,hk,h⟩
 ·cases h
abbrev PA:Ls:=.cons (.int .i64) (.cons (.int .i64) (.cons (.int .i64) (.cons .bool (.one (.int .i64)))))
theorem On{w:World}{fz:Nat->Prop}{B o:Nat}{x:PA.D}{os:Is}(h:PA.rd 0 w fz (λj=>w.cell? ⟨B,o+j,none⟩) x os):
  w.cell? ⟨B,o,none⟩=some (.int .i64 x.1)/\w.cell? ⟨B,o+1,none⟩=some (.int .i64 x.2.1)/\w.cell? ⟨B,o+2,none⟩=some (.int .i64 x.2.2.1)/\w.cell? ⟨B,o+3,none⟩=some (.bool x.2.2.2.1)/\w.cell? ⟨B,o+4,none⟩=some (.int .i64 x.2.2.2.2):=by
 obtain⟨v0,_,_,a0,⟨rfl,_⟩,⟨v1,_,_,a1,⟨rfl,_⟩,⟨v2,_,_,a2,⟨rfl,_⟩,⟨v3,_,_,a3,⟨rfl,_⟩,⟨v4,a4,⟨rfl,_⟩⟩,_⟩,_⟩,_⟩,_⟩:=h;exact⟨a0,a1,a2,a3,a4⟩
theorem Oj{w:World}{fz:Nat->Prop}{B o:Nat}{x:Int}{os:Is}(h:(Ls.one (.int .i64)).rd 0 w fz (λj=>w.cell? ⟨B,o+j,none⟩) x os):w.cell? ⟨B,o,none⟩=some (.int .i64 x):=by obtain⟨v,a,rfl,_⟩:=h;exact a
def Om(c:List (Int×Int×Int×Bool×Int))(a b:Int):Option Bool:=(Iy c a).bind λp=>(Iy c b).bind λq=>some (decide (p.2.2.2.2>q.2.2.2.2)||(decide (p.2.2.2.2=q.2.2.2.2)&&decide (p.1<q.1)))
def M4(cells yS:By)(c:Int):Option Int:=(Iy yS c).bind λv=>some (bif decide (v<0)then IntKind.wrap .i64 ((cells.length:Int)+1)else v)
def OL(yS:By)(cells:By)(r:Int)(a b:Int):Option Bool:=(M4 cells yS a).bind λk=>(M4 cells yS b).bind λl=>some (M6 r k l a b)
theorem OK{cells yS:By}{c k:Int}(h:M4 cells yS c=some k):∃(n:Nat) (v:Int),c=n/\n<yS.length/\yS[n]?=some v/\OU cells.length v=k:=by
 unfold M4 at h;obtain⟨v,hv,h⟩:=ABB.1 h;injection h with h
 obtain⟨n,hc,hn,e⟩:=M1 hv;refine⟨n,v,hc,hn,e,?_⟩;rw[<-h];unfold OU;by_cases xp:v<0<;>simp[xp]
end Go.Ev
