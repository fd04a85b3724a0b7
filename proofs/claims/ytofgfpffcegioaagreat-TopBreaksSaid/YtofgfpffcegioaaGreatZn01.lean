/- A part of the proof. -/
import Derived.Test.YtofgfpffcegioaaGreatZn00
import Derived.Test.YtofgfpffcegioaaGreatZf48
import Derived.Deep.CutRange
set_option maxRecDepth 100000
set_option maxHeartbeats 8000000
namespace Go.Proofs.YtofgfpffcegioaaGreat
open Go.RowKit Go.Shelf Go.Sort iT jH fq Go.Proofs.Tryz
open Bool renaming true → dt
open Nat renaming le_trans → ds
section
variable {w:World}
theorem topBreaks_any(f:Bool)(ws:LL)(u:Value)(r:qC)(rs:LL)(an:List Bool)(ps:List Int)(vr va vp:Value)(ah:Int)(pk:List Int)(vk:Value)(w:World)(hS:jj f ws u w)(hr:eD rs vr w)(ha:iZ an va w)(hp:eQ ps vp w)(bB:0≤r.seed)(aC:0≤r.kind)(U:eQ pk vk w) :
  Calls prog 8 #[u,.agg (xG r vr va vp),iV ah,vk] w (eB w (eC (.bool dt))):=by
 have aE:=hS;obtain⟨sl,rfl,hP⟩:=hS;obtain⟨A0,c0,rfl,-⟩:=eD.form (id hP);obtain⟨A1,c1,rfl,-⟩:=eD.form (id hr);obtain⟨A2,c2,rfl,-⟩:=iZ.form (id ha);obtain⟨A3,c3,rfl,-⟩:=eQ.form (id hp);have be:=(Box.new w 24 #[.bool f,.slice A0 ws.length c0]).alloc (.cells (xG r (.slice A1 rs.length c1) (.slice A2 an.length c2) (.slice A3 ps.length c3)) 33);have aD:=Box.new (w.alloc (.cells #[.bool f,.slice A0 ws.length c0] 24)) 33 (xG r (.slice A1 rs.length c1) (.slice A2 an.length c2) (.slice A3 ps.length c3));rw[World.size_alloc]at aD;have HE:=hide ((ek w (.cells #[.bool f,.slice A0 ws.length c0] 24)).tr (ek (w.alloc (.cells #[.bool f,.slice A0 ws.length c0] 24)) (.cells (xG r (.slice A1 rs.length c1) (.slice A2 an.length c2) (.slice A3 ps.length c3)) 33)));have HB2:=hide be;have HB3:=hide aD;have HS:=hide (λW (H:Ext w W)=>Kg f ws _ r rs an ps (.slice A1 rs.length c1) (.slice A2 an.length c2) (.slice A3 ps.length c3) W (VP.st _ _ _ _ aE H) (VP.st _ _ _ _ hr H) (VP.st _ _ _ _ ha H) (VP.st _ _ _ _ hp H));have HW:=hide (λ(hz:RS f ws r rs an.length ps.length=dt)=>by
  have U:=Nl hz;obtain⟨o1,o2,o3⟩:=Pd rs an ps U.run aC;have h5:=xM (qt U.run).1;exact(show∃cf:Cf,(tE r rs an ps).cf=cf∧pV cf∧iA r.cf=dt∧r.cf.ring=(cf.ring:Int)∧2*r.cf.workers+r.cf.queue+4=((2*cf.workers+cf.queue+4:Nat):Int)∧xR (l6 f ws) (QF f ws)∧rs.flatten.length≤100 from⟨_,rfl,o1,(qt U.run).1,(Int.toNat_of_nonneg zO).symm,by show _=((2*r.cf.workers.toNat+r.cf.queue.toNat+4:Nat):Int);omega,zh U.right,U.flat⟩))
 have dg:=hide (λW (H:Ext w W) (hz:RS f ws r rs an.length ps.length=dt)=>by
  have U:=Nl hz;obtain⟨o1,o2,o3⟩:=Pd rs an ps U.run aC;have h:=da f ws _ (tE r rs an ps) (.slice A1 rs.length c1) (.slice A2 an.length c2) (.slice A3 ps.length c3) W (VP.st _ _ _ _ aE H) U.right o1 (VP.st _ _ _ _ hr H) (VP.st _ _ _ _ ha H) (ds U.n zD) (λb hb=>ds (U.each b hb) zD) (ds U.an zD) ⟨_,_,_,rfl⟩;rw[←Pb rs an ps U.run bB aC]at h;exact h)
 obtain⟨A4,c4,rfl,bQ,bP,bA⟩:=eQ.form (id U);have HK:=hide (λW (H:Ext w W)=>VP.st _ _ _ _ U H);clear U bA;clear aD be aE hP hr ha hp;generalize RS f ws r rs an.length ps.length=z at*;generalize rs.length=n1 at*;generalize an.length=n2 at*;generalize ps.length=n3 at*;generalize ws.length=n0 at*;unfold xG at*;go_enter func8,ntmps8;go_wp2_with fail;refine(HS.out _ HE.out).mono ?_;rintro _ w3 ⟨_,rfl,ay,rfl⟩;have mS:=hide (HE.out.tr ay);have DK:=hide (HB2.out.ext ay);have mX:=hide (HB3.out.ext ay);clear HS HE HB2 HB3 ay;cases z;case false=>
  have HL:=hide (dU w3);go_wp2_with fail;refine HL.out.mono ?_;rintro _ w4 ⟨_,rfl,d,rfl⟩;have GJ:=hide (mS.out.tr d);clear HL mS DK mX d HW dg HK;go_wp2;go_ret;exact eB.mk GJ.out rfl
 have q0:=DK.out.at_ 0 rfl;have q1:=DK.out.at_ 1 rfl;by_cases bS:ah<0
 ·have HL:=hide (dU w3);clear DK mX dg HW HK q0 q1;go_wp2_with fail;refine HL.out.mono ?_;rintro _ w4 ⟨_,rfl,d,rfl⟩;have GJ:=hide (mS.out.tr d);clear HL mS d;go_wp2;go_ret;exact eB.mk GJ.out rfl
 by_cases bR:400<ah
 ·have HL:=hide (dU w3);clear DK mX dg HW HK q0 q1;go_wp2_with fail;refine HL.out.mono ?_;rintro _ w4 ⟨_,rfl,d,rfl⟩;have GJ:=hide (mS.out.tr d);clear HL mS d;go_wp2;go_ret;exact eB.mk GJ.out rfl
 by_cases bO:60<pk.length
 ·have HL:=hide (dU w3);clear DK mX dg HW HK q0 q1;go_wp2_with fail;refine HL.out.mono ?_;rintro _ w4 ⟨_,rfl,d,rfl⟩;have GJ:=hide (mS.out.tr d);clear HL mS d;go_wp2;go_ret;exact eB.mk GJ.out rfl
 have k0:=mX.out.at_ 0 rfl;have k1:=mX.out.at_ 1 rfl;have k2:=mX.out.at_ 2 rfl;have k3:=mX.out.at_ 3 rfl;have k4:=mX.out.at_ 4 rfl;have k5:=mX.out.at_ 5 rfl;have k6:=mX.out.at_ 6 rfl;have k7:=mX.out.at_ 7 rfl;have k8:=mX.out.at_ 8 rfl;have k9:=mX.out.at_ 9 rfl;have bz:=mX.out.at_ 10 rfl;have bx:=mX.out.at_ 11 rfl;have bw:=mX.out.at_ 12 rfl;have bv:=mX.out.at_ 13 rfl;have bu:=mX.out.at_ 14 rfl;have bt:=mX.out.at_ 15 rfl;have dq:=hide (dg.out w3 mS.out rfl);have dr:=hide (HW.out rfl);clear dg HW;obtain⟨cf,bc,bb,bd,e1,e2,ba,a8⟩:=dr.out;rw[bc]at dq;have de:=hide (And.intro bb (And.intro ba a8));have HEq:=hide (And.intro e1 (And.intro e2 bd));clear dr bc bb bd ba a8 e1 e2;go_wp2_with fail;refine dq.out.mono ?_;rintro _ w4 ⟨D,t4,rfl,⟨a1,a2,a3,a4,a5,a6,a7⟩,aH,d⟩;have Kv:=hide (mS.out.tr aH);have HB:=hide (mX.out.ext aH);have aj:iE D (QF f ws) rs.flatten 0 (St.start cf rs):=by
  obtain⟨b1,b2,b3⟩:=de.out;refine⟨?_,?_,DV.start _ _ _,Nat.zero_le _,?_,ds b3 zD⟩
  ·rw[a1,a2];exact Good.start b2 b1.r1 _ _
  ·rw[a2];exact b2
  ·rw[a1];exact b1
 rw[←a1]at HEq;have bl:=hide a7;have bj:=hide aj;have HL:=hide (λW=>dU W);generalize rs.flatten=tx at*;clear mX DK aH d a1 a2 a3 a4 a5 a6 a7 aj q0 q1 k0 k1 k2 k3 k4 k5 k6 k7 k8 k9 bz bx bw bv bu bt;unfold eF;go_wp2_with fail
 go_loopw [11,12] (λi _ wr=>∃k:Nat,(k:Int)≤ah∧i=iV k∧∃s t,s.pl.cancelled=false∧Hid (ep D s wr t)∧Hid (iE D (QF f ws) tx k s)) (λi _ _=>ah.toNat-(intOf i).toNat)
 case atStart=>exact⟨0,by omega,rfl,_,_,rfl,bl,bj⟩
 case round=>
  clear bl bj;obtain⟨k,U,rfl,s,t,Y,HP,HR⟩:=hrel;by_cases bD:(k:Int)<ah
  ·go_upto_if 56 with(fail)
   go_cut [12]from 48 to 66 (λv wq=>∃m:Int,v=iV m∧Ext wr wq)
   case first=>
    by_cases hz:pk.length=0
    ·go_wp2_with fail;go_meet;case rel=>exact⟨_,rfl,Ext.rf _⟩
    ·have aQ:=HK.out wr (Kv.out.tr HP.out.ext);obtain⟨A5,c5,e5,-,-,T⟩:=eQ.form aQ;cases e5;obtain⟨b,br,rfl,bF,ao⟩:=T zO;have bC:k%pk.length<pk.length:=Nat.mod_lt _ zO;have bE:=ao _ bC;have bL:Int.tmod (k:Int) (pk.length:Int)=((k%pk.length:Nat):Int):=by rw[Int.ofNat_tmod]
     clear T ao aQ;go_wp2_with fail;go_meet;case rel=>exact⟨_,rfl,Ext.rf _⟩
   case rest=>
    obtain⟨m,rfl,aq⟩:=hcut;have bI:=hide ((HR.out).pick zO m);have df:=hide (b5 (HP.out.extend aq) (HR.out) m);have fv:=hide ((dK (c:=D.c) (M:=D.M) (ans:=D.ans) (s:=s) m).trans Y);clear HP HR Y;go_wp2_with fail;refine df.out.mono ?_;rintro _ w6 ⟨⟨r6,rfl⟩,t6,O,-⟩;have dh:=hide O;clear df O;go_wp2_with fail
    go_roundw
    case rel=>exact⟨k+1,by omega,by go_num,_,_,fv.out,dh,bI⟩
    case measure=>simp[intOf];omega
  ·obtain rfl:(k:Int)=ah:=zO;have E:D.c.workers≤8:=HR.out.conf.w2;have hO:=xt HP.out E;by_cases al:s.over=dt
   ·have hC:=λW (H:Ext wr W)=>xu (HP.out.extend H) E;rw[al]at hO;rw[al,Y]at hC;have HO:=hide hO;have HC:=hide hC;clear HP HR hO hC Y al E HEq de HB HK;go_wp2_with fail;refine HO.out.mono ?_;rintro _ w5 ⟨_,rfl,av,rfl⟩;have e6:=hide (HC.out _ av);clear HO HC av;go_wp2_with fail;refine e6.out.mono ?_;rintro _ w6 ⟨rfl,t6,O,-⟩;have JP:=hide (Kv.out.tr O.ext);clear e6 O Kv;go_wp2_with fail;refine(HL.out _).mono ?_;rintro _ w9 ⟨_,rfl,ar,rfl⟩;have dm:=hide (JP.out.tr ar);clear JP ar HL;go_wp2;go_ret;exact eB.mk dm.out rfl
   ·have ak:s.over=false:=by simpa using al
    rw[ak]at hO;have HO:=hide hO;have hn:s.pl.took.length≤100000000:=ds HR.out.good.Gn (ds HR.out.lim.offers (ds HR.out.hn zD));clear hO al;have ea:=hide ak;clear ak;go_wp2_with fail;refine HO.out.mono ?_;rintro _ w5 ⟨_,rfl,av,rfl⟩;have ei:=hide (HP.out.extend av);have dQ:=hide (MU ei.out hn);clear HO HP av;go_wp2_with fail;refine dQ.out.mono ?_;rintro _ w6 ⟨vh,rfl,bi,az⟩;obtain⟨t6,O,aZ⟩:=dN ei.out bi az;obtain⟨Ah,ch,rfl⟩:=eI az;have dh:=hide O;have e7:=hide aZ;have dR:=hide (dB O.iG);clear dQ ei bi az O aZ hn;go_wp2_with fail;refine dR.out.mono ?_;rintro _ w7 ⟨_,rfl,au,rfl⟩;have e8:=hide (dh.out.extend au);have Vy:=hide ((eO.keeps _ _ _ _ _ _).ext e7.out au);have hC:=xu e8.out E;rw[Y,ea.out]at hC;have HC:=hide hC;have VB:=HR.out.cancel;obtain⟨P,p0,pS,pC,pO⟩:=dG (M:=D.M) (ans:=D.ans) HR.out.good.room Y ea.out VB.good.room (dP pk);have z1:=(dC Y ea.out).1;rw[←p0]at VB HC z1;have ej:=hide VB;have Hz:=hide z1;have e9:=hide pS;have en:=hide pC;clear dR dh e7 au hC Y ea HR VB z1 p0 pS pC;obtain⟨af,ap⟩:∃a:Nat,a=2*D.c.workers+D.c.queue+4:=⟨_,rfl⟩
    rw[←ap]at pO;have eo:=hide pO;have bT:af≤40:=by have h1:=de.out.1.w2;have h2:=ej.out.conf.q2;omega
    have eb:=hide (λW=>(dI r.cf HEq.out.2.2 W).mono (R':=λe w'=>e=.returned (.tuple #[iV (2*r.cf.workers+r.cf.queue+4),iV 0])∧Ext W w') (by
     rintro e w' ⟨v,rfl,H,vs,rfl,hl,hF⟩;obtain⟨a,ha,rfl⟩:=hF 0 _ rfl;obtain⟨b,hb,rfl⟩:=hF 1 _ rfl
     match vs,hl,ha,hb with
     |[x,y],_,h1,h2=>cases h1;cases h2;exact⟨rfl,H⟩))
    rw[HEq.out.2.1,←ap]at eb;clear pO ap;unfold jb at eb;go_wp2_with fail;refine HC.out.mono ?_;rintro _ w8 ⟨rfl,t8,J,bh⟩;have Vz:=hide ((eO.keeps _ _ _ _ _ _).moves Vy.out bh zD);have hC:=xu J E;rw[Hz.out,dF Hz.out]at hC;have HC2:=hide hC;clear HC e8 Vy bh J hC Hz;go_wp2_with fail;refine HC2.out.mono ?_;rintro _ w9 ⟨rfl,t9,aB,bg⟩;have fa:=hide ((eO.keeps _ _ _ _ _ _).moves Vz.out bg zD);have fb:=hide aB;have aa:=HB.out.ext aB.ext;have k0:=aa.at_ 0 rfl;have k1:=aa.at_ 1 rfl;have k2:=aa.at_ 2 rfl;have k3:=aa.at_ 3 rfl;have k4:=aa.at_ 4 rfl;have k5:=aa.at_ 5 rfl;have k6:=aa.at_ 6 rfl;clear HC2 Vz bg aB aa;go_wp2_with fail;refine(eb.out _).mono ?_;rintro _ bM ⟨rfl,aG⟩;have bk:=hide (fb.out.extend aG);have bn:=hide ((eO.keeps _ _ _ _ _ _).ext fa.out aG);clear fb fa aG eb k0 k1 k2 k3 k4 k5 k6;go_wp2_with fail
    go_loopw [17,18,19,20] (λi _ _ _ wr=>∃n:Nat,n≤af∧i=iV n∧Hid (iE D (QF f ws) tx (k+n) (P n))∧Hid (∀i,i<n→(P i).over=false)∧∃t,Hid (ep D (P n) wr t)∧Hid (eO 200 50 2 (.slice Ah s.pl.took.length ch) s.pl.took.length (fz s.pl.took) wr t)) (λi _ _ _ _=>af-(intOf i).toNat)
    case atStart=>exact⟨0,Nat.zero_le _,rfl,ej,hide (λi hi=>absurd hi (Nat.not_lt_zero i)),_,bk,bn⟩
    case round=>
     clear ej bk bn;obtain⟨n,hn,rfl,HRn,ae,tn,dS,ef⟩:=hrel;by_cases hv:(P n).over=dt
     ·have hO:=xt dS.out E;rw[hv]at hO;have HO:=hide hO;obtain⟨q1,q2,q3,-⟩:=en.out n ae.out;have aA:=HRn.out.good.room;obtain⟨o1,o2,o3,-,o5,o6,o7⟩:=dD aA HRn.out.conf.w1 hv;have o4:=dJ aA HRn.out.conf.w1 hv;have aT:sV D (P n)=(3,0):=by unfold sV;rw[if_pos hv,if_pos q1]
      have am:=HRn.out.next.1;have aU:(P n).q.items.length≤16:=by rw[o3];decide
      have aW:(P n).pl.took.length≤100000000:=ds HRn.out.good.Gn (ds HRn.out.lim.offers (ds HRn.out.hn zD));have Hv:=hide hv;have Hq:=hide (And.intro q1 (And.intro q2 q3));have Ho:=hide (And.intro o1 (And.intro o2 (And.intro o3 (And.intro o4 (And.intro o5 (And.intro o6 o7))))));clear hv hO en eo e9 ae aA o1 o2 o3 o4 o5 o6 o7 q1 q2 q3 HRn HK;go_wp2_with fail;refine HO.out.mono ?_;rintro _ wB ⟨_,rfl,ad,rfl⟩;have dO:=hide (dS.out.extend ad);have dT:=hide ((eO.keeps _ _ _ _ _ _).ext ef.out ad);have dv:=hide (MX dO.out am E aU);clear HO dS ef ad am aU;go_wp2_with fail;refine dv.out.mono ?_;rintro _ w7 ⟨_,rfl,au,bN,bp,bo,bq,rfl,aN,aP,aO,⟨Ap,np,cp,rfl⟩⟩;obtain⟨Aq,cq,rfl⟩:∃A c,bp=.slice A 0 c:=by obtain⟨A,c,h⟩:=aO;rw[Ho.out.2.2.1]at h;exact⟨A,c,h⟩
      obtain⟨Ar,cr,rfl⟩:∃A c,bo=.slice A 0 c:=by obtain⟨A,c,h⟩:=eI aN;rw[Ho.out.2.2.2.1]at h;exact⟨A,c,h⟩
      obtain⟨Al,cl,rfl⟩:∃A c,bq=.slice A 0 c:=by obtain⟨A,c,h⟩:=eI aP;rw[Ho.out.2.1]at h;exact⟨A,c,h⟩
      clear aN aP aO dv;obtain⟨nx,am⟩:∃x:Int,((P n).rg.next:Int)=x:=⟨_,rfl⟩
      obtain⟨nn,aX⟩:∃x:Int,((P n).pl.number:Int)=x:=⟨_,rfl⟩
      obtain⟨nd,aY⟩:∃x:Int,((P n).pl.read:Int)=x:=⟨_,rfl⟩
      have aR:DZ D (P n) (.slice Ap np cp) (.slice Aq 0 cq) (.slice Ar 0 cr) (.slice Al 0 cl)=#[.slice Ap np cp,iV nx,iV nn,.slice Aq 0 cq,.slice Ar 0 cr,iV 0,.slice Al 0 cl,iV (D.c.ring:Int),.bool dt,.bool dt,.bool dt,iV nd]:=by
       unfold DZ;rw[Ho.out.1,Ho.out.2.2.2.2.1,Ho.out.2.2.2.2.2.1,Ho.out.2.2.2.2.2.2,Hq.out.1,am,aX,aY];rfl
      rw[aR];clear aR am aX aY;have aI:=Box.new w7 60 #[.slice Ap np cp,iV nx,iV nn,.slice Aq 0 cq,.slice Ar 0 cr,iV 0,.slice Al 0 cl,iV (D.c.ring:Int),.bool dt,.bool dt,.bool dt,iV nd];have aw:=au.tr (ek w7 (.cells #[.slice Ap np cp,iV nx,iV nn,.slice Aq 0 cq,.slice Ar 0 cr,iV 0,.slice Al 0 cl,iV (D.c.ring:Int),.bool dt,.bool dt,.bool dt,iV nd] 60));obtain⟨w8,ag⟩:∃W,w7.alloc (.cells #[.slice Ap np cp,iV nx,iV nn,.slice Aq 0 cq,.slice Ar 0 cr,iV 0,.slice Al 0 cl,iV (D.c.ring:Int),.bool dt,.bool dt,.bool dt,iV nd] 60)=W:=⟨_,rfl⟩
      rw[ag]at aI aw;have J:=dO.out.extend aw;have OV:=hide aI;have Bs:=hide (λW (H:Ext w8 W)=>xt (J.extend H) E);have TG:=hide (λW (H:Ext w8 W)=>FT (J.extend H) E);have dQ:=hide (λW (H:Ext w8 W)=>MU (J.extend H) aW);have dR:=hide (λW (H:Ext w8 W)=>dB (J.extend H).iG);rw[Hv.out]at Bs;rw[aT]at TG;rw[Hq.out.2.1]at dQ;rw[Hq.out.2.2]at dR;have fg:=hide (eO.pairs ((eO.keeps _ _ _ _ _ _).ext dT.out aw));have er:=hide J.ext;have dk:=hide ag;clear aI aw J ag aT aW Hv dO dT E Hq Ho;unfold DB at TG;go_upto_region 29 with(fail)
      rw[dk.out];clear dk;go_wp2_with fail;refine(Bs.out _ (Ext.rf _)).mono ?_;rintro _ x1 ⟨_,rfl,aM,rfl⟩;have et:=hide aM;clear Bs aM;go_wp2_with fail;refine(TG.out _ et.out).mono ?_;rintro _ x2 ⟨_,rfl,aL,rfl⟩;have ev:=hide (et.out.tr aL);clear TG aL et;go_wp2_with fail;refine(dQ.out _ ev.out).mono ?_;rintro _ x3 ⟨v3,rfl,aK,aS⟩;have e0:=hide (ev.out.tr aK);have VC:=hide (F4 _ _ _ _ x3 (mT.pairs aS) (VP.st _ _ _ _ fg.out e0.out));rw[decide_eq_true rfl]at VC;clear dQ aK ev aS fg;go_wp2_with fail;refine VC.out.mono ?_;rintro _ x4 ⟨_,rfl,aJ,rfl⟩;have e4:=hide (e0.out.tr aJ);clear VC aJ e0;go_wp2_with fail;refine(dR.out _ e4.out).mono ?_;rintro _ x5 ⟨_,rfl,T,rfl⟩;have eg:=hide (e4.out.tr T);have ab:=OV.out.ext eg.out;have v3:=ab.at_ 3 rfl;have v4:=ab.at_ 4 rfl;have v5:=ab.at_ 5 rfl;have v6:=ab.at_ 6 rfl;have v7:=ab.at_ 7 rfl;have v8:=ab.at_ 8 rfl;have v9:=ab.at_ 9 rfl;have b2:=(HB.out.ext (er.out.tr eg.out)).at_ 2 rfl;rw[HEq.out.1]at b2;have Sk:=hide (Kv.out.tr (er.out.tr eg.out));clear dR T e4 ab OV HB er Kv eg;go_wp2_with fail;refine(HL.out _).mono ?_;rintro _ w9 ⟨_,rfl,ar,rfl⟩;have dm:=hide (Sk.out.tr ar);clear Sk ar HL v3 v4 v5 v6 v7 v8 v9 b2;go_wp2;go_ret;exact eB.mk dm.out rfl
     ·have ai:(P n).over=false:=by simpa using hv
      have bD:n<af:=by
       rcases Nat.lt_or_ge n af with h|h
       ·exact h
       ·obtain rfl:n=af:=zO;have:=eo.out ae.out;rw[ai]at this;cases this
      have hO:=xt dS.out E;rw[ai]at hO;have HO:=hide hO;have a9:=(en.out n ae.out).2.2.2 ai;have Xn:=hide a9;have bG:=hide (show∀i,i<n+1→(P i).over=false from λi hi=>by
       rcases Nat.lt_or_ge i n with h|h
       ·exact ae.out i h
       ·obtain rfl:i=n:=zO;exact ai)
      clear hv ai hO ae a9 eo;go_wp2_with fail;refine HO.out.mono ?_;rintro _ wB ⟨_,rfl,ad,rfl⟩;have dO:=hide (dS.out.extend ad);have dT:=hide ((eO.keeps _ _ _ _ _ _).ext ef.out ad);clear HO dS ef ad
      go_upto_if 104 with(fail)
      go_cut [18]from 92 to 118 (λv wq=>v=iV (dP pk n)∧Ext wB wq)
      case first=>
       by_cases hl:n<pk.length
       ·obtain⟨A5,c5,e5,-,-,T⟩:=eQ.form (HK.out wB (Kv.out.tr dO.out.ext));cases e5;obtain⟨b,br,rfl,bF,ao⟩:=T zO;have bE:=ao _ hl;clear T ao;go_wp2_with fail;go_meet;case rel=>exact⟨by rw[dP,dif_pos hl],Ext.rf _⟩
       ·go_wp2_with fail;go_meet;case rel=>exact⟨by rw[dP,dif_neg hl],Ext.rf _⟩
      case rest=>
       obtain⟨rfl,aq⟩:=hcut;have hp:=b5 (dO.out.extend aq) HRn.out (dP pk n);have fl:=hide ((eO.keeps _ _ _ _ _ _).ext dT.out aq);have aF:=HRn.out.pick zO (dP pk n);rw[←e9.out n]at hp aF;rw[Xn.out]at hp;have fs:=hide hp;have bH:=hide aF;clear hp aF aq dO dT HRn Xn;go_wp2_with fail;refine fs.out.mono ?_;rintro _ wC ⟨⟨rC,rfl⟩,tC,aV,bf⟩;have bJ:=hide aV;have bK:=hide ((eO.keeps _ _ _ _ _ _).moves fl.out bf zD);clear fs aV bf fl;go_wp2_with fail
       go_roundw
       case rel=>exact⟨n+1,by omega,by go_num,bH,bG,_,bJ,bK⟩
       case measure=>simp[intOf];omega
end
end Go.Proofs.YtofgfpffcegioaaGreat
