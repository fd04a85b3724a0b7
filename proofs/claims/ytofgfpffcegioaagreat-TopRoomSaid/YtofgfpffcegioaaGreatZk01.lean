/- A part of the proof. -/
import Derived.Test.YtofgfpffcegioaaGreatZk00
import Derived.Test.YtofgfpffcegioaaGreatZf48
import Derived.Deep.CutRange
set_option maxRecDepth 100000
set_option maxHeartbeats 8000000
namespace Go.Proofs.YtofgfpffcegioaaGreat
open Go.RowKit Go.Shelf Go.Sort iT jH fq Go.Proofs.Tryz
open Go.IntKind renaming i64 → dC
open Go.IntWalk renaming i64_in → dz
open Int renaming toNat_of_nonneg → ds
open Nat renaming le_trans → dt,zero_le → dB
section
variable {w:World}
theorem topRoom_any(f:Bool)(ws:LL)(u:Value)(r:qC)(rs:LL)(U:List Bool)(O:List Int)(vr va vp:Value)(pk:List Int)(vk:Value)(cn:Int)(w:World)(hS:jj f ws u w)(hr:eD rs vr w)(ha:iZ U va w)(hp:eQ O vp w)(aT:0≤r.seed)(aj:0≤r.kind)(T:eQ pk vk w) :
  Calls prog 7 #[u,.agg (xG r vr va vp),vk,iV cn] w (eB w (eC (.bool true))):=by
 have am:=hS;obtain⟨sl,rfl,hP⟩:=hS;obtain⟨A0,c0,rfl,-⟩:=eD.form (id hP);obtain⟨A1,c1,rfl,-⟩:=eD.form (id hr);obtain⟨A2,c2,rfl,-⟩:=iZ.form (id ha);obtain⟨A3,c3,rfl,-⟩:=eQ.form (id hp);have aG:=(Box.new w 24 #[.bool f,.slice A0 ws.length c0]).alloc (.cells (xG r (.slice A1 rs.length c1) (.slice A2 U.length c2) (.slice A3 O.length c3)) 33);have ak:=Box.new (w.alloc (.cells #[.bool f,.slice A0 ws.length c0] 24)) 33 (xG r (.slice A1 rs.length c1) (.slice A2 U.length c2) (.slice A3 O.length c3));rw[World.size_alloc]at ak;have HE:=hide ((ek w (.cells #[.bool f,.slice A0 ws.length c0] 24)).tr (ek (w.alloc (.cells #[.bool f,.slice A0 ws.length c0] 24)) (.cells (xG r (.slice A1 rs.length c1) (.slice A2 U.length c2) (.slice A3 O.length c3)) 33)));have HB2:=hide aG;have HB3:=hide ak;have HS:=hide (λW (hE:Ext w W)=>Kg f ws _ r rs U O (.slice A1 rs.length c1) (.slice A2 U.length c2) (.slice A3 O.length c3) W (VP.st _ _ _ _ am hE) (VP.st _ _ _ _ hr hE) (VP.st _ _ _ _ ha hE) (VP.st _ _ _ _ hp hE));have HW:=hide (λ(hz:RS f ws r rs U.length O.length=true)=>by
  have T:=Nl hz;obtain⟨o1,o2,o3⟩:=Pd rs U O T.run aj;have h5:=xM (qt T.run).1;exact(show∃cf:Cf,(tE r rs U O).cf=cf∧pV cf∧r.cf.ring=(cf.ring:Int)∧r.cf.queue=(cf.queue:Int)∧r.cf.out=(cf.out:Int)∧xR (l6 f ws) (QF f ws)∧rs.flatten.length≤100 from⟨_,rfl,o1,(ds zO).symm,(ds zO).symm,(ds zO).symm,zh T.right,T.flat⟩))
 have dg:=hide (λW (hE:Ext w W) (hz:RS f ws r rs U.length O.length=true)=>by
  have T:=Nl hz;obtain⟨o1,o2,o3⟩:=Pd rs U O T.run aj;have h:=da f ws _ (tE r rs U O) (.slice A1 rs.length c1) (.slice A2 U.length c2) (.slice A3 O.length c3) W (VP.st _ _ _ _ am hE) T.right o1 (VP.st _ _ _ _ hr hE) (VP.st _ _ _ _ ha hE) (dt T.n zD) (λb hb=>dt (T.each b hb) zD) (dt T.an zD) ⟨_,_,_,rfl⟩;rw[←Pb rs U O T.run aT aj]at h;exact h)
 obtain⟨A4,c4,rfl,bo,bn,aS⟩:=eQ.form (id T);have HK:=hide (λW (hE:Ext w W)=>VP.st _ _ _ _ T hE);clear T aS;clear ak aG am hP hr ha hp;generalize RS f ws r rs U.length O.length=z at*;generalize rs.length=n1 at*;generalize U.length=n2 at*;generalize O.length=n3 at*;generalize ws.length=n0 at*;unfold xG at*;go_enter func7,ntmps7;go_wp2_with fail;refine(HS.out _ HE.out).mono ?_;rintro _ w3 ⟨_,rfl,ae,rfl⟩;have mS:=hide (HE.out.tr ae);have DK:=hide (HB2.out.ext ae);have mX:=hide (HB3.out.ext ae);clear HS HE HB2 HB3 ae;cases z;case false=>
  have HL:=hide (dU w3);go_wp2_with fail;refine HL.out.mono ?_;rintro _ w4 ⟨_,rfl,Y,rfl⟩;have GJ:=hide (mS.out.tr Y);clear HL mS DK mX Y HW dg HK;go_wp2;go_ret;exact eB.mk GJ.out rfl
 have q0:=DK.out.at_ 0 rfl;have q1:=DK.out.at_ 1 rfl;by_cases bl:300<pk.length
 ·have HL:=hide (dU w3);clear DK mX dg HW HK q0 q1;go_wp2_with fail;refine HL.out.mono ?_;rintro _ w4 ⟨_,rfl,Y,rfl⟩;have GJ:=hide (mS.out.tr Y);clear HL mS Y;go_wp2;go_ret;exact eB.mk GJ.out rfl
 have k0:=mX.out.at_ 0 rfl;have k1:=mX.out.at_ 1 rfl;have k2:=mX.out.at_ 2 rfl;have k3:=mX.out.at_ 3 rfl;have k4:=mX.out.at_ 4 rfl;have k5:=mX.out.at_ 5 rfl;have k6:=mX.out.at_ 6 rfl;have k7:=mX.out.at_ 7 rfl;have k8:=mX.out.at_ 8 rfl;have k9:=mX.out.at_ 9 rfl;have aQ:=mX.out.at_ 10 rfl;have aP:=mX.out.at_ 11 rfl;have aO:=mX.out.at_ 12 rfl;have aN:=mX.out.at_ 13 rfl;have aM:=mX.out.at_ 14 rfl;have aL:=mX.out.at_ 15 rfl;have dq:=hide (dg.out w3 mS.out rfl);have dr:=hide (HW.out rfl);clear dg HW;obtain⟨cf,aE,aD,e1,e2,e3,aB,aA⟩:=dr.out;rw[aE]at dq;have de:=hide (And.intro aD (And.intro aB aA));have HEq:=hide (And.intro e1 (And.intro e2 e3));clear dr aE aD aB aA e1 e2 e3;go_wp2_with fail;refine dq.out.mono ?_;rintro _ w4 ⟨D,t4,rfl,⟨a1,a2,a3,a4,-,-,a7⟩,ap,Y⟩;have Kv:=hide (mS.out.tr ap);have HB:=hide (mX.out.ext ap);have a6:D.broken=r.broken:=a4;have ad:iE D (QF f ws) rs.flatten 0 (St.start cf rs):=by
  obtain⟨b1,b2,b3⟩:=de.out;refine⟨?_,?_,DV.start _ _ _,dB _,?_,dt b3 zD⟩
  ·rw[a1,a2];exact Good.start b2 b1.r1 _ _
  ·rw[a2];exact b2
  ·rw[a1];exact b1
 rw[←a1]at HEq;have aK:=hide a7;have aJ:=hide ad;have HL:=hide (λW=>dU W);generalize rs.flatten=tx at*;clear mX DK ap Y a1 a2 a3 a4 a6 a7 ad q0 q1 k0 k1 k2 k3 k4 k5 k6 k7 k8 k9 aQ aP aO aN aM aL;unfold eF;go_wp2_with fail
 go_loopw [11,12,13] (λi _ _ wr=>∃k:Nat,k≤pk.length∧i=iV k∧∃s t,Hid (ep D s wr t)∧Hid (iE D (QF f ws) tx k s)) (λi _ _ _=>pk.length-(intOf i).toNat)
 case atStart=>exact⟨0,dB _,rfl,_,_,aK,aJ⟩
 case round=>
  clear aK aJ;obtain⟨k,T,rfl,s,t,HP,HR⟩:=hrel;by_cases aW:k<pk.length
  ·go_upto_if 40 with(fail)
   go_cut []from 32 to 135 (λwq=>∃s2 t2,Hid (ep D s2 wq t2)∧Hid (iE D (QF f ws) tx k s2))
   case first=>
    by_cases hc:(k:Int)=cn
    ·subst hc;have df:=hide (xu HP.out (show D.c.workers≤8 from HR.out.conf.w2));have a8:=hide HR.out.cancel;clear HR;go_wp2_with fail;refine df.out.mono ?_;rintro _ w5 ⟨rfl,t5,aw,-⟩;have bb:=hide aw;clear df HP aw;go_wp2_with fail;go_meet;case rel=>exact⟨_,_,bb,a8⟩
    ·go_wp2_with fail;go_meet;case rel=>exact⟨_,_,HP,HR⟩
   case rest=>
    clear HP HR;obtain⟨s,t,HP,HR⟩:=hcut;have hX:=HP.out.ext;have av:=HK.out wc (Kv.out.tr hX);obtain⟨A5,c5,e5,-,-,ar⟩:=eQ.form av;cases e5;obtain⟨b,bg,rfl,a5,aF⟩:=ar zO;have aY:=aF k aW;have aZ:=HB.out.ext hX;have bh:=de.out.1.w2;clear hX av ar aF;have du:=hide ((HR.out).pick zO pk[k]);have df:=hide (b5 (HP.out) (HR.out) pk[k]);go_wp2_with fail;refine df.out.mono ?_;rintro _ w6 ⟨⟨r6,rfl⟩,t6,ah,-⟩;have d:=du.out;have dh:=hide ah;have dv:=hide (MX ah d.next.1 d.conf.w2 (dt d.good.room.p.qlen d.conf.q2));clear ah df HP HR;go_wp2_with fail;refine dv.out.mono ?_;rintro _ w7 ⟨_,rfl,ao,be,bd,bc,bf,rfl,af,au,⟨Aq,cq,rfl⟩,⟨Ap,np,cp,rfl⟩⟩;obtain⟨Ar,cr,rfl⟩:=eI af;obtain⟨Al,cl,rfl⟩:=eI au;have di:=hide (jv.ints af);have az:(List.map (λn:Nat=>(n:Int)) (s.pick D.c D.M D.ans pk[k]).buf.live).length=(s.pick D.c D.M D.ans pk[k]).buf.live.length:=List.length_map ..;rw[az];have g1:=d.good.room.b.db;have g2:=d.good.room.p.qlen;have g3:=Ju (s.pick D.c D.M D.ans pk[k]).rg D.c.ring;have g4:=d.good.room.p.H9;have g5:=d.good.room.n.ahead;have g6:=d.good.room.n.le;have aH:=dh.out.ext.tr ao;have HM:=hide (λx (h:x∈ig (s.pick D.c D.M D.ans pk[k]).rg D.c.ring)=>ch h);clear af au az dv;generalize aU:s.pick D.c D.M D.ans pk[k]=E at*;obtain⟨nr,ai⟩:∃n,(ig E.rg D.c.ring).length=n:=⟨_,rfl⟩
    rw[ai]at di g3;rw[ai];have dw:=hide ai;have H:=Box.new w7 60 (DZ D E (.slice Ap np cp) (.slice Aq E.q.items.length cq) (.slice Ar nr cr) (.slice Al E.buf.live.length cl));have al:=aH.tr (ek w7 (.cells (DZ D E (.slice Ap np cp) (.slice Aq E.q.items.length cq) (.slice Ar nr cr) (.slice Al E.buf.live.length cl)) 60));have ag:=(dh.out.extend ao).extend (ek w7 (.cells (DZ D E (.slice Ap np cp) (.slice Aq E.q.items.length cq) (.slice Ar nr cr) (.slice Al E.buf.live.length cl)) 60));have J:=HB.out.ext al;have ab:=VP.st _ _ _ _ di.out (ek w7 (.cells (DZ D E (.slice Ap np cp) (.slice Aq E.q.items.length cq) (.slice Ar nr cr) (.slice Al E.buf.live.length cl)) 60));obtain⟨w8,aa⟩:∃W,w7.alloc (.cells (DZ D E (.slice Ap np cp) (.slice Aq E.q.items.length cq) (.slice Ar nr cr) (.slice Al E.buf.live.length cl)) 60)=W:=⟨_,rfl⟩
    rw[aa]at H al ag J ab;have dx:=hide ag;have OV:=hide H;have dy:=hide ab;have dj:=hide J;have dk:=hide aa;have b2:=J.at_ 2 rfl;have b3:=J.at_ 3 rfl;have b4:=J.at_ 4 rfl;rw[HEq.out.1]at b2;rw[HEq.out.2.1]at b3;rw[HEq.out.2.2]at b4;have v1:=H.at_ 1 rfl;have v2:=H.at_ 2 rfl;have v3:=H.at_ 3 rfl;have v4:=H.at_ 4 rfl;have v5:=H.at_ 5 rfl;have v6:=H.at_ 6 rfl;have v7:=H.at_ 7 rfl;have bk:=d.conf.r2;have bj:=d.conf.q2;have bi:=d.conf.o2;have bp:=d.next;clear H al ag J ab aa di dh aH ao d aY a5 aZ aU;unfold DZ at dk OV ⊢;generalize E.buf.live.length=nl at*;generalize E.buf.free.length=nf at*;generalize E.q.items.length=nq at*;generalize E.out.items.length=no at*;generalize E.rg.next=nx at*;generalize E.pl.number=nn at*;have i1:¬((D.c.ring:Int)<(nl:Int)):=zO;have i2:dC.wrap ((nl:Int)+(nf:Int))=(D.c.ring:Int):=by rw[←Int.natCast_add,g1];exact dz _ zO
    have i3:¬((D.c.queue:Int)<(nq:Int)):=zO;have i4:¬((D.c.ring:Int)<(nr:Int)):=zO;have i5:¬((D.c.out:Int)<(no:Int)):=zO;have i6:dC.wrap ((nn:Int)-(nx:Int))=(nn:Int)-(nx:Int):=dz _ zO;have i7:¬((D.c.ring:Int)<(nn:Int)-(nx:Int)):=zO;go_upto_region 13 with(fail)
    rw[dk.out];go_wp2_with fail;clear b2 b3 b4 v1 v2 v3 v4 v5 v6 v7 i1 i2 i3 i4 i5 i6 i7 dk
    go_loopw [13] (λj wq=>∃q:Nat,q≤nr∧j=iV q∧Hid (Ext w8 wq)) (λj _=>nr-(intOf j).toNat)
    case atStart=>exact⟨0,dB _,rfl,hide (Ext.rf _)⟩
    case round=>
     obtain⟨q,hq,rfl,HQ⟩:=hrel;have v1:=(OV.out.ext HQ.out).at_ 1 rfl;have v4:=(OV.out.ext HQ.out).at_ 4 rfl;have b2:=(dj.out.ext HQ.out).at_ 2 rfl;rw[HEq.out.1]at b2;by_cases aX:q<nr
     ·obtain⟨A6,c6,e6,-,-,aq⟩:=eQ.form (VP.st _ _ _ _ dy.out HQ.out);cases e6;have ay:q<(ig E.rg D.c.ring).length:=by rw[dw.out];exact aX
      obtain⟨bq,oq,rfl,-,aC⟩:=aq zO;have aR:=aC q ay;have aV:=HM.out _ (List.getElem_mem ay);clear aq aC;generalize(ig E.rg D.c.ring)[q]=x at*;obtain⟨m1,m2⟩:=aV;have j1:dC.wrap (x-(nx:Int))=x-(nx:Int):=dz _ zO;have j2:¬((D.c.ring:Int)≤x-(nx:Int)):=zO;have j3:¬(x<(nx:Int)):=zO;go_upto_region 18 with(fail)
      go_region
      have a9:=hide (HQ.out.tr (eh _));clear aR v1 v4 b2 m1 m2 HQ j1 j2 j3;go_wp2
      go_roundw
      case rel=>exact⟨q+1,by omega,by go_num,a9⟩
      case measure=>simp[intOf];omega
     ·have ba:=hide (dx.out.extend HQ.out);go_wp2_with fail
      go_roundw
      case rel=>exact⟨k+1,by omega,by go_num,_,_,ba,du⟩
      case measure=>simp[intOf];omega
  ·obtain rfl:k=pk.length:=zO;have Xa:=hide (Kv.out.tr HP.out.ext);clear HP HR HK de HEq HB Kv;go_wp2_with fail;refine(HL.out _).mono ?_;rintro _ w9 ⟨_,rfl,aI,rfl⟩;have dm:=hide (Xa.out.tr aI);clear Xa aI HL;go_wp2;go_ret;exact eB.mk dm.out rfl
end
end Go.Proofs.YtofgfpffcegioaaGreat
