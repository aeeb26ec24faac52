/- Sorting. Conditions: none. -/
import Derived.Test.YthlchdmdanagkaaGreatLib5
import Derived.Test.YthlchdmdanagkaaGreatFnRunsNat
import Derived.Test.YthlchdmdanagkaaGreatProg
import Derived.Ground.GgtProg
import Derived.Shelf.Lay
import Derived.KernelRfl
set_option linter.all false
namespace Go.Proofs
open Go.Shelf
shelf_lay LaysGt.n8 Ggt 8 at Tryz as Tryz.laysSl8
end Go.Proofs
namespace Go.Proofs.YthlchdmdanagkaaGreat.Ev
open Go Go.Ev Go.Proofs Go.Shelf Go.RowKit Go.Lib Go.Sort
noncomputable def zw:TypeInfo:=(Tryz.prog.info? 24).get (by kernel_rfl)
noncomputable def zv:TypeInfo:=(Tryz.prog.info? 3).get (by kernel_rfl)
theorem pS:Go.Ev.Lf Tryz.prog 168 24:=
 OS Tryz.laysSl8 24 3 zw zv (by kernel_rfl) (by kernel_rfl) (by kernel_rfl) (by kernel_rfl) (λ_=>by kernel_rfl) (by kernel_rfl) (λ_=>by kernel_rfl) (by kernel_rfl) (by kernel_rfl)
  195 196 199 (by kernel_rfl) (by kernel_rfl) (by kernel_rfl) true
  (λargs W=>run_callFunc_extern Tryz.func199 (by kernel_rfl) (by kernel_rfl) (by kernel_rfl) (e:=Extern.ReflectliteSwapper.swap true) (by kernel_rfl) args W) ⟨_,_,Tryz.func168,rfl,by kernel_rfl⟩
set_option maxHeartbeats 4000000 in
theorem sO(b1 b2 blk off n c cb co cn cc:Nat)(W:World)(gi gj:Nat)(i j:Nat)(hi:i<n)(hj:j<n)(hn:n<=20)(hgi:gi<cn)(hgj:gj<cn)(xi xj ti tj ui uj pi pj:Int)(li lj:Bool)
  (h1:W.cell? ⟨b1,0,none⟩=some (.slice (some ⟨cb,co,none⟩) cn cc))
  (h2:W.cell? ⟨b2,0,none⟩=some (.slice (some ⟨blk,off,none⟩) n c))
  (ci:W.cell? ⟨blk,off+i,none⟩=some (.int .i64 gi))
  (cj:W.cell? ⟨blk,off+j,none⟩=some (.int .i64 gj))
  (ei0:W.cell? ⟨cb,co+gi*5,none⟩=some (.int .i64 xi))
  (ei1:W.cell? ⟨cb,co+gi*5+1,none⟩=some (.int .i64 pi))
  (ei2:W.cell? ⟨cb,co+gi*5+2,none⟩=some (.int .i64 ti))
  (ei3:W.cell? ⟨cb,co+gi*5+3,none⟩=some (.bool li))
  (ei4:W.cell? ⟨cb,co+gi*5+4,none⟩=some (.int .i64 ui))
  (ej0:W.cell? ⟨cb,co+gj*5,none⟩=some (.int .i64 xj))
  (ej1:W.cell? ⟨cb,co+gj*5+1,none⟩=some (.int .i64 pj))
  (ej2:W.cell? ⟨cb,co+gj*5+2,none⟩=some (.int .i64 tj))
  (ej3:W.cell? ⟨cb,co+gj*5+3,none⟩=some (.bool lj))
  (ej4:W.cell? ⟨cb,co+gj*5+4,none⟩=some (.int .i64 uj)):
  Calls Tryz.prog 169 (#[.int .i64 i,.int .i64 j] ++ #[.pointer (some ⟨b1,0,none⟩),.pointer (some ⟨b2,0,none⟩)]) W λe w'=>e=.returned (.bool (decide (ui>uj)||(decide (ui=uj)&&decide (xi<xj))))/\∃q os,w'=grow (W.drewN q) os:=by
 have n_h1:=World.new_ne W _ h1;have n_h2:=World.new_ne W _ h2;have n_ci:=World.new_ne W _ ci;have n_cj:=World.new_ne W _ cj;have n_ei0:=World.new_ne W _ ei0;have n_ei1:=World.new_ne W _ ei1;have n_ei2:=World.new_ne W _ ei2;have n_ei3:=World.new_ne W _ ei3;have n_ei4:=World.new_ne W _ ei4;have n_ej0:=World.new_ne W _ ej0;have n_ej1:=World.new_ne W _ ej1;have n_ej2:=World.new_ne W _ ej2;have n_ej3:=World.new_ne W _ ej3;have n_ej4:=World.new_ne W _ ej4
 go_enter Tryz.func169,Tryz.ntmps169
 go_wp2
 go_region_held3 (λw'=>w'.cell? ⟨b1,0,none⟩=some (.slice (some ⟨cb,co,none⟩) cn cc)/\w'.cell? ⟨b2,0,none⟩=some (.slice (some ⟨blk,off,none⟩) n c)/\w'.cell? ⟨blk,off+i,none⟩=some (.int .i64 gi)/\w'.cell? ⟨blk,off+j,none⟩=some (.int .i64 gj)/\w'.cell? ⟨cb,co+gi*5,none⟩=some (.int .i64 xi)/\w'.cell? ⟨cb,co+gi*5+1,none⟩=some (.int .i64 pi)/\w'.cell? ⟨cb,co+gi*5+2,none⟩=some (.int .i64 ti)/\w'.cell? ⟨cb,co+gi*5+3,none⟩=some (.bool li)/\w'.cell? ⟨cb,co+gi*5+4,none⟩=some (.int .i64 ui)/\w'.cell? ⟨cb,co+gj*5,none⟩=some (.int .i64 xj)/\w'.cell? ⟨cb,co+gj*5+1,none⟩=some (.int .i64 pj)/\w'.cell? ⟨cb,co+gj*5+2,none⟩=some (.int .i64 tj)/\w'.cell? ⟨cb,co+gj*5+3,none⟩=some (.bool lj)/\w'.cell? ⟨cb,co+gj*5+4,none⟩=some (.int .i64 uj)) (go_keep) (fail)
 all_goals go_wp2
 all_goals (try go_ret)
 all_goals refine⟨?_,OT W _ _⟩
 all_goals show Ending.returned (Value.bool _)=_
 all_goals congr 2
 all_goals (rw[Bool.eq_iff_iff];simp only[Bool.or_eq_true,Bool.and_eq_true,decide_eq_true_eq,gt_iff_lt];omega)
set_option maxHeartbeats 4000000 in
theorem sN(b6 b2 fb fo fn fc m k:Nat)(p:Option Addr)(x:Nat)(v:Int)(hx:x<fn)(W:World)
  (h1:W.cell? ⟨b6,0,none⟩=some (.slice (some ⟨fb,fo,none⟩) fn fc)) (h2:W.cell? ⟨b2,2,none⟩=some (.slice p m k)) (h3:W.cell? ⟨fb,fo+x,none⟩=some (.int .i64 v)):
  Calls Tryz.prog 189 #[.int .i64 x,.pointer (some ⟨b6,0,none⟩),.pointer (some ⟨b2,0,none⟩)] W λe w'=>e=.returned (.int .i64 (N9 m v))/\w'=W:=by
 unfold N9
 go_enter Tryz.func189,Tryz.ntmps189
 go_wp2
 all_goals go_ret
 ·exact⟨by rw[Oq];rfl,rfl⟩
 ·exact⟨rfl,rfl⟩
set_option maxHeartbeats 4000000 in
theorem sP(b6 b2 fb fo fn fc m k bo bk br blk off n c:Nat)(p:Option Addr)(vi vj:Nat)(r xi xj:Int)(i j:Nat)(hi:i<n)(hj:j<n)(hn:n<=20)(hvi:vi<fn)(hvj:vj<fn)(W:World)
  (h1:W.cell? ⟨b6,0,none⟩=some (.slice (some ⟨fb,fo,none⟩) fn fc)) (h2:W.cell? ⟨b2,2,none⟩=some (.slice p m k)) (h3:W.cell? ⟨fb,fo+vi,none⟩=some (.int .i64 xi)) (h4:W.cell? ⟨fb,fo+vj,none⟩=some (.int .i64 xj))
  (h5:W.cell? ⟨bo,0,none⟩=some (.slice (some ⟨blk,off,none⟩) n c)) (h6:W.cell? ⟨blk,off+i,none⟩=some (.int .i64 vi)) (h7:W.cell? ⟨blk,off+j,none⟩=some (.int .i64 vj))
  (h8:W.cell? ⟨bk,0,none⟩=some (.func (.func 189) #[] #[.pointer (some ⟨b6,0,none⟩),.pointer (some ⟨b2,0,none⟩)])) (h9:W.cell? ⟨br,1,none⟩=some (.int .i64 r)):
  Calls Tryz.prog 190 (#[.int .i64 i,.int .i64 j] ++ #[.pointer (some ⟨bo,0,none⟩),.pointer (some ⟨bk,0,none⟩),.pointer (some ⟨br,0,none⟩)]) W λe w'=>e=.returned (.bool (Mv r (N9 m xi) (N9 m xj) vi vj))/\∃q os,w'=grow (W.drewN q) os:=by
 have e189:∀args w,(callFunc 189 args).run Tryz.prog w=.ok (.enter 189 args) w:=enters_of Tryz.func189 (by kernel_rfl) rfl;have ki:=λn=>sN b6 b2 fb fo fn fc m k p vi xi hvi (W.drewN n) h1 h2 h3;have kj:=λn=>sN b6 b2 fb fo fn fc m k p vj xj hvj (W.drewN n) h1 h2 h4;generalize N9 m xi=ki' at *;generalize N9 m xj=kj' at *;have hk:Hid (Mv r ki' kj' vi vj=Mv r ki' kj' vi vj):=rfl;generalize hb:Mv r ki' kj' vi vj=bb;have HB:Hid (Mv r ki' kj' vi vj=bb):=hb;clear hb hk;have fin:∀(b:Bool) q,b=Mv r ki' kj' vi vj->Ending.returned (Value.bool b)=Ending.returned (Value.bool bb)/\∃q' os,W.drewN q=grow (W.drewN q') os:=λb q h=>⟨by rw[h,HB.out],q, #[],by rw[grow_empty]⟩
 go_enter Tryz.func190,Tryz.ntmps190
 go_wp2
 go_quiet (fail)
 go_wp2
 go_quiet (first|(go_at_fn_of 189 (Value.int .i64 (vi:Int));refine Od (ki _))|(go_at_fn_of 189 (Value.int .i64 (vj:Int));refine Od (kj _)))
 go_wp2
 all_goals (try (go_quiet (first|(go_at_fn_of 189 (Value.int .i64 (vi:Int));refine Od (ki _))|(go_at_fn_of 189 (Value.int .i64 (vj:Int));refine Od (kj _)));go_wp2))
 all_goals go_ret
 all_goals (simp only[World.drewN_drewN];change Ending.returned (Value.bool _)=_/\_;refine fin _ _ ?_)
 ·have h:(ki' != kj')=true:=ADm
  unfold Mv;rw[h];rfl
 ·rename_i h1 h2;unfold Mv;rw[h1,show(((vi:Int)==r) != ((vj:Int)==r))=true from h2];rfl
 ·rename_i h1 h2;unfold Mv;rw[h1,show(((vi:Int)==r) != ((vj:Int)==r))=false from h2];simp
theorem nO:NQ Tryz.prog 169 ⟨24,[.box [.sl 43 Ol],.row],λy=>OP y⟩:=by
 intro w fz us vs y blk off n c G hc hy hcell hn i j hi hj b hlt
 match us,hc with
 | [u1,u2],⟨x1,r1,e1,hb,x2,r2,e2,⟨e3,b2,T2,fr2,hu2,_,hh2⟩,e4⟩=>
  subst e4;subst e3;subst e2;subst e1;obtain⟨b1,rfl,hk,hcl⟩:=N4 hb
  match x1,hk,hcl,hy with
  | [⟨l,xs⟩],hk,hcl,hy=>
   have hk:l=.sl 43 Ol:=by simpa using hk
   subst hk
   obtain rfl:xs=y:=by have:L.cast (.sl 43 Ol) xs=some y:=hy;obtain⟨_,e⟩:=L.AH this;exact e
   obtain⟨v,hv,hr⟩:=hcl 0 _ rfl
   replace hr:(L.sl 43 Ol).rd 0 w fz v xs []:=hr
   have hlt:OP xs (G i) (G j)=some b:=hlt;unfold OP at hlt;obtain⟨p,hp,hlt⟩:=Option.bind_eq_some_iff.1 hlt;obtain⟨q,hq,hlt⟩:=Option.bind_eq_some_iff.1 hlt;injection hlt with hlt
   obtain⟨gi,hgi,li,hpi⟩:=Mr hp;obtain⟨gj,hgj,lj,hqj⟩:=Mr hq;obtain⟨cb,co,cc,rfl,hcells⟩:=OH hr (Nat.lt_of_le_of_lt (Nat.zero_le _) li) ADd;obtain⟨_,hi'⟩:=hcells gi p hpi;obtain⟨_,hj'⟩:=hcells gj q hqj;obtain⟨i0,i1,i2,i3,i4⟩:=OQ hi';obtain⟨j0,j1,j2,j3,j4⟩:=OQ hj';have hci:=hcell i hi;have hcj:=hcell j hj;rw[hgi]at hci;rw[hgj]at hcj;subst hu2;rw[<-hlt];exact sO b1 b2 blk off n c cb co xs.length cc w gi gj i j hi hj hn li lj p.1 q.1 p.2.2.1 q.2.2.1 p.2.2.2.2 q.2.2.2.2 p.2.1 q.2.1 p.2.2.2.1 q.2.2.2.1 hv (by rw[cell_of hh2];rfl) hci hcj i0 i1 i2 i3 i4 j0 j1 j2 j3 j4
theorem kM:NQ Tryz.prog 190 ⟨24,[.row,.D1 189 [[(.sl 3 (.one (.int .i64)):L)],[.int .i64,.int .i64,(.sl 3 (.one (.int .i64)):L)]],.box [.int .i64,.int .i64,.int .i64,.bool,.int .i64]],λy=>N1 y.1 y.2.2.2.1 y.2.2.2.2.2.1⟩:=by
 intro w fz us vs y blk off n c G hc hy hcell hn i j hi hj b hlt
 match us,hc with
 | [u1,u2,u3],⟨x1,r1,e1,⟨e0,bo,T1,fr1,hu1,_,hh1⟩,x2,r2,e2,⟨bk,T2,fr2,lb,hu2,_,hh2,hbs⟩,x3,r3,e3,hb3,e4⟩=>
  subst e4;subst e3;subst e2;subst e0;subst e1;obtain⟨br,rfl,hk3,hcl3⟩:=N4 hb3
  match hl:lb.toList,hbs with
  | [v1,v2],⟨y1,s1,f1,g1,y2,s2,f2,g2,f3⟩=>
   subst f3;subst f2;subst f1;obtain⟨b6,rfl,hk1,hcl1⟩:=N4 g1;obtain⟨b2,rfl,hk2,hcl2⟩:=N4 g2
   match y1,hk1,hcl1,y2,hk2,hcl2,x3,hk3,hcl3,hy with
   | [⟨l1,far⟩],hk1,hcl1,[⟨l2,fw⟩,⟨l3,fh⟩,⟨l4,cells⟩],hk2,hcl2,[⟨m1,z1⟩,⟨m2,z2⟩,⟨m3,z3⟩,⟨m4,z4⟩,⟨m5,z5⟩],hk3,hcl3,hy=>
    have hk1:l1=(.sl 3 (.one (.int .i64)):L):=by simpa using hk1
    subst hk1;have hk2:l2=.int .i64/\l3=.int .i64/\l4=(.sl 3 (.one (.int .i64)):L):=by simpa using hk2
    obtain⟨rfl,rfl,rfl⟩:=hk2;have hk3:m1=.int .i64/\m2=.int .i64/\m3=.int .i64/\m4=.bool/\m5=.int .i64:=by simpa using hk3
    obtain⟨rfl,rfl,rfl,rfl,rfl⟩:=hk3;have hun:=A7 _ _ _ hy;obtain⟨y1,y2,y3,y4,y5,y6,y7,y8,y9⟩:=y;simp[unpack,Ei,J6.kinds]at hun;obtain⟨rfl,rfl,rfl,rfl,rfl,rfl,rfl,rfl,rfl⟩:=hun;obtain⟨vf,hvf,hrf⟩:=hcl1 0 _ rfl
    replace hrf:(.sl 3 (.one (.int .i64)):L).rd 0 w fz vf y1 []:=hrf
    obtain⟨vc,hvc,hrc⟩:=hcl2 2 _ rfl
    replace hrc:(.sl 3 (.one (.int .i64)):L).rd 0 w fz vc y4 []:=hrc
    obtain⟨vr,hvr,⟨rfl,_⟩⟩:=hcl3 1 _ rfl;have hlt:N1 y1 y4 y6 (G i) (G j)=some b:=hlt;unfold N1 at hlt;obtain⟨k1,hk1,hlt⟩:=Option.bind_eq_some_iff.1 hlt;obtain⟨k2,hk2,hlt⟩:=Option.bind_eq_some_iff.1 hlt;injection hlt with hlt
    obtain⟨vi,xi,hgi,li,hxi,hki⟩:=N0 hk1;obtain⟨vj,xj,hgj,lj,hxj,hkj⟩:=N0 hk2;obtain⟨fb,fo,fc,rfl,hcells⟩:=OH hrf (Nat.lt_of_le_of_lt (Nat.zero_le _) li) ADd;obtain⟨_,hi'⟩:=hcells vi xi hxi;obtain⟨_,hj'⟩:=hcells vj xj hxj;obtain⟨A,cc,rfl,_,_⟩:=L.Ig.1 hrc;have hci:=hcell i hi;have hcj:=hcell j hj;rw[hgi]at hci;rw[hgj]at hcj;subst hu1;subst hu2;rw[<-hlt,<-hki,<-hkj,hgi,hgj];have hlb:lb = #[.pointer (some ⟨b6,0,none⟩),.pointer (some ⟨b2,0,none⟩)]:=by rw[<-hl]
    rw[hlb]at hh2;have ci:=OO hi';have cj:=OO hj';rw[show vi*(Ls.one (.int .i64)).n=vi from Nat.mul_one vi]at ci;rw[show vj*(Ls.one (.int .i64)).n=vj from Nat.mul_one vj]at cj;exact sP b6 b2 fb fo y1.length fc y4.length cc bo bk br blk off n c A vi vj y6 xi xj i j hi hj hn li lj w hvf hvc ci cj (by rw[cell_of hh1];rfl) hci hcj (by rw[cell_of hh2];rfl) hvr
def kh:Nv:=⟨24,[.box [.sl 43 Ol],.row],λy=>OP y⟩
theorem pT:Lg Tryz.prog 168 169 kh:=⟨pS,nO,enters_of Tryz.func169 (by kernel_rfl) rfl⟩
def fg:Nv:=⟨24,[.row,.D1 189 [[(.sl 3 (.one (.int .i64)):L)],[.int .i64,.int .i64,(.sl 3 (.one (.int .i64)):L)]],.box [.int .i64,.int .i64,.int .i64,.bool,.int .i64]],λy=>N1 y.1 y.2.2.2.1 y.2.2.2.2.2.1⟩
theorem mE:Lg Tryz.prog 168 190 fg:=⟨pS,kM,enters_of Tryz.func190 (by kernel_rfl) rfl⟩
end Go.Proofs.YthlchdmdanagkaaGreat.Ev
