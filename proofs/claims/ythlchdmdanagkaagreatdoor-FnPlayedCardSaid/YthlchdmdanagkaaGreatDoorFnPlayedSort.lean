/- Sorting. Conditions: none. -/
import Derived.Test.YthlchdmdanagkaaGreatDoorLib6
import Derived.Test.YthlchdmdanagkaaGreatDoorFnPlayedNat
import Derived.Test.YthlchdmdanagkaaGreatDoorProg
import Derived.Ground.GgtProg
import Derived.Shelf.Lay
import Derived.KernelRfl
set_option linter.all false
namespace Go.Proofs
open Go.Shelf
shelf_lay LaysGt.n8 Ggt 8 at Tryz as Tryz.laysSl8
end Go.Proofs
namespace Go.Proofs.YthlchdmdanagkaaGreatDoor.Ev
open Go Go.Ev Go.Proofs Go.Shelf Go.RowKit Go.Lib Go.Sort
noncomputable def xh:TypeInfo:=(Tryz.prog.info? 24).get (by kernel_rfl)
noncomputable def xg:TypeInfo:=(Tryz.prog.info? 3).get (by kernel_rfl)
theorem pQ:Go.Ev.Lk Tryz.prog 208 24:=
 Oa Tryz.laysSl8 24 3 xh xg (by kernel_rfl) (by kernel_rfl) (by kernel_rfl) (by kernel_rfl) (λ_=>by kernel_rfl) (by kernel_rfl) (λ_=>by kernel_rfl) (by kernel_rfl) (by kernel_rfl)
  225 226 229 (by kernel_rfl) (by kernel_rfl) (by kernel_rfl) true
  (λargs W=>run_callFunc_extern Tryz.func229 (by kernel_rfl) (by kernel_rfl) (by kernel_rfl) (e:=Extern.ReflectliteSwapper.swap true) (by kernel_rfl) args W) ⟨_,_,Tryz.func208,rfl,by kernel_rfl⟩
set_option maxHeartbeats 4000000 in
theorem r6(b1 b2 blk off n c cb co cn cc:Nat)(W:World)(gi gj:Nat)(i j:Nat)(hi:i<n)(hj:j<n)(hn:n<=20)(hgi:gi<cn)(hgj:gj<cn)(xi xj ti tj ui uj pi pj:Int)(li lj:Bool)
  (h1:W.cell? ⟨b1,0,none⟩=some (.slice (some ⟨cb,co,none⟩) cn cc))
  (h2:W.cell? ⟨b2,0,none⟩=some (.slice (some ⟨blk,off,none⟩) n c))
  (ci:W.cell? ⟨blk,off+i,none⟩=some (.int .i64 gi))
  (cj:W.cell? ⟨blk,off+j,none⟩=some (.int .i64 gj))
  (ei0:W.cell? ⟨cb,co+gi*5,none⟩=some (.int .i64 xi))
  (ei1:W.cell? ⟨cb,co+gi*5+1,none⟩=some (.int .i64 pi))
  (ei2:W.cell? ⟨cb,co+gi*5+2,none⟩=some (.int .i64 ti))
  (ei3:W.cell? ⟨cb,co+gi*5+3,none⟩=some (.bool li))
  (ei4:W.cell? ⟨cb,co+gi*5+4,none⟩=some (.int .i64 ui))
  (ej0:W.cell? ⟨cb,co+gj*5,none⟩=some (.int .i64 xj))
  (ej1:W.cell? ⟨cb,co+gj*5+1,none⟩=some (.int .i64 pj))
  (ej2:W.cell? ⟨cb,co+gj*5+2,none⟩=some (.int .i64 tj))
  (ej3:W.cell? ⟨cb,co+gj*5+3,none⟩=some (.bool lj))
  (ej4:W.cell? ⟨cb,co+gj*5+4,none⟩=some (.int .i64 uj)):
  Calls Tryz.prog 209 (#[.int .i64 i,.int .i64 j] ++ #[.pointer (some ⟨b1,0,none⟩),.pointer (some ⟨b2,0,none⟩)]) W λe w'=>e=.returned (.bool (decide (ui>uj)||(decide (ui=uj)&&decide (xi<xj))))/\∃q os,w'=grow (W.drewN q) os:=by
 have n_h1:=World.new_ne W _ h1;have n_h2:=World.new_ne W _ h2;have n_ci:=World.new_ne W _ ci;have n_cj:=World.new_ne W _ cj;have n_ei0:=World.new_ne W _ ei0;have n_ei1:=World.new_ne W _ ei1;have n_ei2:=World.new_ne W _ ei2;have n_ei3:=World.new_ne W _ ei3;have n_ei4:=World.new_ne W _ ei4;have n_ej0:=World.new_ne W _ ej0;have n_ej1:=World.new_ne W _ ej1;have n_ej2:=World.new_ne W _ ej2;have n_ej3:=World.new_ne W _ ej3;have n_ej4:=World.new_ne W _ ej4
 go_enter Tryz.func209,Tryz.ntmps209
 go_wp2
 go_region_held3 (λw'=>w'.cell? ⟨b1,0,none⟩=some (.slice (some ⟨cb,co,none⟩) cn cc)/\w'.cell? ⟨b2,0,none⟩=some (.slice (some ⟨blk,off,none⟩) n c)/\w'.cell? ⟨blk,off+i,none⟩=some (.int .i64 gi)/\w'.cell? ⟨blk,off+j,none⟩=some (.int .i64 gj)/\w'.cell? ⟨cb,co+gi*5,none⟩=some (.int .i64 xi)/\w'.cell? ⟨cb,co+gi*5+1,none⟩=some (.int .i64 pi)/\w'.cell? ⟨cb,co+gi*5+2,none⟩=some (.int .i64 ti)/\w'.cell? ⟨cb,co+gi*5+3,none⟩=some (.bool li)/\w'.cell? ⟨cb,co+gi*5+4,none⟩=some (.int .i64 ui)/\w'.cell? ⟨cb,co+gj*5,none⟩=some (.int .i64 xj)/\w'.cell? ⟨cb,co+gj*5+1,none⟩=some (.int .i64 pj)/\w'.cell? ⟨cb,co+gj*5+2,none⟩=some (.int .i64 tj)/\w'.cell? ⟨cb,co+gj*5+3,none⟩=some (.bool lj)/\w'.cell? ⟨cb,co+gj*5+4,none⟩=some (.int .i64 uj)) (go_keep) (fail)
 all_goals go_wp2
 all_goals (try go_ret)
 all_goals refine⟨?_,Ob W _ _⟩
 all_goals show Ending.returned (Value.bool _)=_
 all_goals congr 2
 all_goals (rw[Bool.eq_iff_iff];simp only[Bool.or_eq_true,Bool.and_eq_true,decide_eq_true_eq,gt_iff_lt];omega)
set_option maxHeartbeats 4000000 in
theorem rz(b6 b2 fb fo fn fc m k:Nat)(p:Option Addr)(x:Nat)(v:Int)(hx:x<fn)(W:World)
  (h1:W.cell? ⟨b6,0,none⟩=some (.slice (some ⟨fb,fo,none⟩) fn fc)) (h2:W.cell? ⟨b2,2,none⟩=some (.slice p m k)) (h3:W.cell? ⟨fb,fo+x,none⟩=some (.int .i64 v)):
  Calls Tryz.prog 221 #[.int .i64 x,.pointer (some ⟨b6,0,none⟩),.pointer (some ⟨b2,0,none⟩)] W λe w'=>e=.returned (.int .i64 (OI m v))/\w'=W:=by
 unfold OI
 go_enter Tryz.func221,Tryz.ntmps221
 go_wp2
 all_goals go_ret
 ·exact⟨by rw[O0];rfl,rfl⟩
 ·exact⟨rfl,rfl⟩
set_option maxHeartbeats 4000000 in
theorem r7(b6 b2 fb fo fn fc m k bo bk br blk off n c:Nat)(p:Option Addr)(vi vj:Nat)(r xi xj:Int)(i j:Nat)(hi:i<n)(hj:j<n)(hn:n<=20)(hvi:vi<fn)(hvj:vj<fn)(W:World)
  (h1:W.cell? ⟨b6,0,none⟩=some (.slice (some ⟨fb,fo,none⟩) fn fc)) (h2:W.cell? ⟨b2,2,none⟩=some (.slice p m k)) (h3:W.cell? ⟨fb,fo+vi,none⟩=some (.int .i64 xi)) (h4:W.cell? ⟨fb,fo+vj,none⟩=some (.int .i64 xj))
  (h5:W.cell? ⟨bo,0,none⟩=some (.slice (some ⟨blk,off,none⟩) n c)) (h6:W.cell? ⟨blk,off+i,none⟩=some (.int .i64 vi)) (h7:W.cell? ⟨blk,off+j,none⟩=some (.int .i64 vj))
  (h8:W.cell? ⟨bk,0,none⟩=some (.func (.func 221) #[] #[.pointer (some ⟨b6,0,none⟩),.pointer (some ⟨b2,0,none⟩)])) (h9:W.cell? ⟨br,1,none⟩=some (.int .i64 r)):
  Calls Tryz.prog 222 (#[.int .i64 i,.int .i64 j] ++ #[.pointer (some ⟨bo,0,none⟩),.pointer (some ⟨bk,0,none⟩),.pointer (some ⟨br,0,none⟩)]) W λe w'=>e=.returned (.bool (Mz r (OI m xi) (OI m xj) vi vj))/\∃q os,w'=grow (W.drewN q) os:=by
 have e221:∀args w,(callFunc 221 args).run Tryz.prog w=.ok (.enter 221 args) w:=enters_of Tryz.func221 (by kernel_rfl) rfl;have ki:=λn=>rz b6 b2 fb fo fn fc m k p vi xi hvi (W.drewN n) h1 h2 h3;have kj:=λn=>rz b6 b2 fb fo fn fc m k p vj xj hvj (W.drewN n) h1 h2 h4;generalize OI m xi=ki' at *;generalize OI m xj=kj' at *;have hk:Hid (Mz r ki' kj' vi vj=Mz r ki' kj' vi vj):=rfl;generalize hb:Mz r ki' kj' vi vj=bb;have HB:Hid (Mz r ki' kj' vi vj=bb):=hb;clear hb hk;have fin:∀(b:Bool) q,b=Mz r ki' kj' vi vj->Ending.returned (Value.bool b)=Ending.returned (Value.bool bb)/\∃q' os,W.drewN q=grow (W.drewN q') os:=λb q h=>⟨by rw[h,HB.out],q, #[],by rw[grow_empty]⟩
 go_enter Tryz.func222,Tryz.ntmps222
 go_wp2
 go_quiet (fail)
 go_wp2
 go_quiet (first|(go_at_fn_of 221 (Value.int .i64 (vi:Int));refine On (ki _))|(go_at_fn_of 221 (Value.int .i64 (vj:Int));refine On (kj _)))
 go_wp2
 all_goals (try (go_quiet (first|(go_at_fn_of 221 (Value.int .i64 (vi:Int));refine On (ki _))|(go_at_fn_of 221 (Value.int .i64 (vj:Int));refine On (kj _)));go_wp2))
 all_goals go_ret
 all_goals (simp only[World.drewN_drewN];change Ending.returned (Value.bool _)=_/\_;refine fin _ _ ?_)
 ·have h:(ki' != kj')=true:=ADm
  unfold Mz;rw[h];rfl
 ·rename_i h1 h2;unfold Mz;rw[h1,show(((vi:Int)==r) != ((vj:Int)==r))=true from h2];rfl
 ·rename_i h1 h2;unfold Mz;rw[h1,show(((vi:Int)==r) != ((vj:Int)==r))=false from h2];simp
theorem nH:NW Tryz.prog 209 ⟨24,[.box [.sl 74 Ow],.row],λy=>OX y⟩:=by
 intro w fz us vs y blk off n c G hc hy yV hn i j hi hj b xz
 match us,hc with
 | [u1,u2],⟨x1,r1,e1,hb,x2,r2,e2,⟨e3,b2,T2,fr2,hu2,_,hh2⟩,e4⟩=>
  subst e4;subst e3;subst e2;subst e1;obtain⟨b1,rfl,hk,hcl⟩:=OC hb
  match x1,hk,hcl,hy with
  | [⟨l,xs⟩],hk,hcl,hy=>
   have hk:l=.sl 74 Ow:=by simpa using hk
   subst hk
   obtain rfl:xs=y:=by have:L.cast (.sl 74 Ow) xs=some y:=hy;obtain⟨_,e⟩:=L.AH this;exact e
   obtain⟨v,hv,hr⟩:=hcl 0 _ rfl
   replace hr:(L.sl 74 Ow).rd 0 w fz v xs []:=hr
   have xz:OX xs (G i) (G j)=some b:=xz;unfold OX at xz;obtain⟨p,hp,xz⟩:=Option.bind_eq_some_iff.1 xz;obtain⟨q,hq,xz⟩:=Option.bind_eq_some_iff.1 xz;injection xz with xz
   obtain⟨gi,hgi,li,hpi⟩:=Mv hp;obtain⟨gj,hgj,lj,hqj⟩:=Mv hq;obtain⟨cb,co,cc,rfl,yU⟩:=OO hr (Nat.lt_of_le_of_lt (Nat.zero_le _) li) ADd;obtain⟨_,zc⟩:=yU gi p hpi;obtain⟨_,hj'⟩:=yU gj q hqj;obtain⟨i0,i1,i2,i3,i4⟩:=OY zc;obtain⟨j0,j1,j2,j3,j4⟩:=OY hj';have hci:=yV i hi;have hcj:=yV j hj;rw[hgi]at hci;rw[hgj]at hcj;subst hu2;rw[<-xz];exact r6 b1 b2 blk off n c cb co xs.length cc w gi gj i j hi hj hn li lj p.1 q.1 p.2.2.1 q.2.2.1 p.2.2.2.2 q.2.2.2.2 p.2.1 q.2.1 p.2.2.2.1 q.2.2.2.1 hv (by rw[cell_of hh2];rfl) hci hcj i0 i1 i2 i3 i4 j0 j1 j2 j3 j4
theorem jz:NW Tryz.prog 222 ⟨24,[.row,.D4 221 [[(.sl 3 (.one (.int .i64)):L)],[.int .i64,.int .i64,(.sl 3 (.one (.int .i64)):L)]],.box [.int .i64,.int .i64,.int .i64,.bool,.int .i64]],λy=>N8 y.1 y.2.2.2.1 y.2.2.2.2.2.1⟩:=by
 intro w fz us vs y blk off n c G hc hy yV hn i j hi hj b xz
 match us,hc with
 | [u1,u2,u3],⟨x1,r1,e1,⟨e0,bo,T1,fr1,hu1,_,hh1⟩,x2,r2,e2,⟨bk,T2,fr2,lb,hu2,_,hh2,zr⟩,x3,r3,e3,hb3,e4⟩=>
  subst e4;subst e3;subst e2;subst e0;subst e1;obtain⟨br,rfl,hk3,hcl3⟩:=OC hb3
  match hl:lb.toList,zr with
  | [v1,v2],⟨y1,s1,f1,g1,y2,s2,f2,g2,f3⟩=>
   subst f3;subst f2;subst f1;obtain⟨b6,rfl,hk1,hcl1⟩:=OC g1;obtain⟨b2,rfl,hk2,hcl2⟩:=OC g2
   match y1,hk1,hcl1,y2,hk2,hcl2,x3,hk3,hcl3,hy with
   | [⟨l1,far⟩],hk1,hcl1,[⟨l2,fw⟩,⟨l3,fh⟩,⟨l4,cells⟩],hk2,hcl2,[⟨m1,z1⟩,⟨m2,z2⟩,⟨m3,z3⟩,⟨m4,z4⟩,⟨m5,z5⟩],hk3,hcl3,hy=>
    have hk1:l1=(.sl 3 (.one (.int .i64)):L):=by simpa using hk1
    subst hk1;have hk2:l2=.int .i64/\l3=.int .i64/\l4=(.sl 3 (.one (.int .i64)):L):=by simpa using hk2
    obtain⟨rfl,rfl,rfl⟩:=hk2;have hk3:m1=.int .i64/\m2=.int .i64/\m3=.int .i64/\m4=.bool/\m5=.int .i64:=by simpa using hk3
    obtain⟨rfl,rfl,rfl,rfl,rfl⟩:=hk3;have hun:=Ay _ _ _ hy;obtain⟨y1,y2,y3,y4,y5,y6,y7,y8,y9⟩:=y;simp[unpack,Ek,KB.kinds]at hun;obtain⟨rfl,rfl,rfl,rfl,rfl,rfl,rfl,rfl,rfl⟩:=hun;obtain⟨vf,hvf,hrf⟩:=hcl1 0 _ rfl
    replace hrf:(.sl 3 (.one (.int .i64)):L).rd 0 w fz vf y1 []:=hrf
    obtain⟨vc,hvc,hrc⟩:=hcl2 2 _ rfl
    replace hrc:(.sl 3 (.one (.int .i64)):L).rd 0 w fz vc y4 []:=hrc
    obtain⟨vr,hvr,⟨rfl,_⟩⟩:=hcl3 1 _ rfl;have xz:N8 y1 y4 y6 (G i) (G j)=some b:=xz;unfold N8 at xz;obtain⟨k1,hk1,xz⟩:=Option.bind_eq_some_iff.1 xz;obtain⟨k2,hk2,xz⟩:=Option.bind_eq_some_iff.1 xz;injection xz with xz
    obtain⟨vi,xi,hgi,li,hxi,hki⟩:=N7 hk1;obtain⟨vj,xj,hgj,lj,hxj,hkj⟩:=N7 hk2;obtain⟨fb,fo,fc,rfl,yU⟩:=OO hrf (Nat.lt_of_le_of_lt (Nat.zero_le _) li) ADd;obtain⟨_,zc⟩:=yU vi xi hxi;obtain⟨_,hj'⟩:=yU vj xj hxj;obtain⟨A,cc,rfl,_,_⟩:=L.Ij.1 hrc;have hci:=yV i hi;have hcj:=yV j hj;rw[hgi]at hci;rw[hgj]at hcj;subst hu1;subst hu2;rw[<-xz,<-hki,<-hkj,hgi,hgj];have hlb:lb = #[.pointer (some ⟨b6,0,none⟩),.pointer (some ⟨b2,0,none⟩)]:=by rw[<-hl]
    rw[hlb]at hh2;have ci:=OV zc;have cj:=OV hj';rw[show vi*(Ls.one (.int .i64)).n=vi from Nat.mul_one vi]at ci;rw[show vj*(Ls.one (.int .i64)).n=vj from Nat.mul_one vj]at cj;exact r7 b6 b2 fb fo y1.length fc y4.length cc bo bk br blk off n c A vi vj y6 xi xj i j hi hj hn li lj w hvf hvc ci cj (by rw[cell_of hh1];rfl) hci hcj (by rw[cell_of hh2];rfl) hvr
def kJ:N1:=⟨24,[.box [.sl 74 Ow],.row],λy=>OX y⟩
theorem pR:Ll Tryz.prog 208 209 kJ:=⟨pQ,nH,enters_of Tryz.func209 (by kernel_rfl) rfl⟩
def fP:N1:=⟨24,[.row,.D4 221 [[(.sl 3 (.one (.int .i64)):L)],[.int .i64,.int .i64,(.sl 3 (.one (.int .i64)):L)]],.box [.int .i64,.int .i64,.int .i64,.bool,.int .i64]],λy=>N8 y.1 y.2.2.2.1 y.2.2.2.2.2.1⟩
theorem ly:Ll Tryz.prog 208 222 fP:=⟨pQ,jz,enters_of Tryz.func222 (by kernel_rfl) rfl⟩
end Go.Proofs.YthlchdmdanagkaaGreatDoor.Ev
