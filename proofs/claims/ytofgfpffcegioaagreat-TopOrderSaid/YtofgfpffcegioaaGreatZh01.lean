/- A part of the proof. -/
import Derived.Test.YtofgfpffcegioaaGreatZh00
import Derived.Test.YtofgfpffcegioaaGreatZf47
set_option maxRecDepth 100000
set_option maxHeartbeats 8000000
namespace Go.Proofs.YtofgfpffcegioaaGreat
open Go.RowKit Go.Shelf Go.Sort iT jH fq uT Go.Proofs.Tryz
open Bool renaming false → a6
open _root_.Go renaming Value → c3,World → b1
open Go.RowKit.Below renaming setCell → a8
open Nat renaming le_refl → c0
open Option renaming none → a7
section
def jG:L8:=[117,115,104,101,114,115]
def DS(vr:c3):AV:=#[iV 2,iV 3,iV 2,iV 1,iV 1,iV 2,iV 0,.bool a6,vr,nS,nS,.int .u8 3,.int .u32 0,iV (-1),iV (-1),iV 300]
theorem P8:pV Sd.cf:=by constructor<;>decide
def Vw:VP:=⟨λv w=>∃U T O J H E s:Int,∃d,v=.agg #[.int .u8 U,iV T,d,iV 30,iV O,iV J,iV H,iV E,iV s]∧eP xN d w,
 λ_ _ _ ⟨U,T,O,J,H,E,s,d,h1,h2⟩ Y=>⟨U,T,O,J,H,E,s,d,h1,VP.wk _ _ _ _ h2 Y⟩⟩
def G8(w0:b1):VP:=⟨λv w=>∃s d,v=gP s∧qU a6 il s d∧Ext w0 d∧qY d w,λ_ _ _ ⟨s,d,U,T,O,E⟩ J=>⟨s,d,U,T,O,⟨Nat.le_trans E.size J.size,λ_ H=>.inl ((J.same (Nat.lt_of_lt_of_le H E.size)).trans (E.same H))⟩⟩⟩
theorem G8.at_{w0:b1}{v:c3}{w:b1}(h:G8 w0 v w)(s:Ext w0 w):∃d,v=gP d∧qU a6 il d w:=by
 obtain⟨d,U,T,O,E,H⟩:=h;exact⟨d,T,O.ext ⟨s.os.trans E.os.symm,s.tape.trans E.tape.symm,s.output.trans E.output.symm,H.size,λk J=>H.same J⟩⟩
def Bp:VP:=⟨λv _=>∃A n c,v=.slice A n c,λ_ _ _ h _=>h⟩
theorem uK(w:b1):jY [] nS w:=⟨a7,0,rfl,c0 _,by decide,λh=>absurd h zD⟩
section
variable {w:b1}
theorem xL(v:c3)(w:b1)(hv:eD il v w):Calls prog 31 #[.bool a6,v] w (eY w λu s=>∃d,u=.tuple #[gP d,iV 0]∧qU a6 il d s):=
 (sX a6 a6 il il v w hv zD zD Ow wO).mono (by
  rintro _ E ⟨_,rfl,H,d,rfl,-,h⟩;grind[eY.mk])
theorem Ko(vr:c3)(w:b1):Calls prog 62 #[.agg (DS vr)] w (eB w (eC (iV 0))):=
 xE (r:=Sd) (vr:=vr) (va:=nS) (vp:=nS) P8 zD zD w
theorem G9(O:Nat)(vr:c3)(w:b1)(s:qU a6 il O w)(U:eD [jG] vr w):Calls prog 32 #[gP O,.agg (DS vr)] w (eB w (eR [Vw,eC (iV 0)])):=by
 obtain⟨gm,Y,s⟩:=s;refine(DI (r:=Sd) (vr:=vr) (va:=nS) (vp:=nS) s.1 (zh wO) Y P8 zD zD U (uK w) (uK w) zD zD zD zD zD).mono ?_;rintro _ w2 ⟨_,rfl,hE,T,rfl,E⟩;have d:=QH;generalize Sd.report (l6 a6 il)=o at*;obtain⟨k,a,hs,ts,r1,r2,r3,r4,r5⟩:=o;obtain⟨J,H⟩:=d;simp only at J H E;subst J H;exact eB.mk hE (eR.two ⟨_,_,_,_,_,_,_,T,rfl,E.pairs⟩ rfl)
theorem O2(vr:c3)(w:b1)(d:eD [jG] vr w):Calls prog 109 #[vr] w (eB w (eu jG)):=
 (Na [jG] vr w d zD).mono (by
  rintro _ s ⟨v,rfl,H,E⟩;grind[eB.mk,OwnB.bytes])
theorem O3:∀x∈xN,PH il x:=by
 intro x d;simp only[xN,List.mem_cons,List.not_mem_nil,or_false]at d;rcases d with rfl|rfl|rfl
 ·exact⟨1,rfl,by decide,by decide,by decide,by decide,by decide,by decide⟩
 ·exact⟨0,rfl,by decide,by decide,by decide,by decide,by decide,by decide⟩
 ·exact⟨2,rfl,by decide,by decide,by decide,by decide,by decide,by decide⟩
theorem O4(u hv:c3)(w:b1)(d:jj a6 il u w)(s:eP xN hv w):Calls prog 111 #[u,hv] w (eB w (eR [P6,eC (iV 0)])):=
 pick_any a6 il xN u hv w d wO zD zD zD s zD zD O3
theorem Kq(u v hv:c3)(w:b1)(d:jj a6 il u w)(H:eu jG v w)(s:eP xN hv w):Calls prog 112 #[u,v,iV 0,hv] w (eB w Bp):=
 (Gb a6 il jG 0 xN u v hv w d H s zD zD zD).mono (by
  rintro _ J ⟨v,rfl,E,A,c,rfl,-⟩;exact eB.mk E ⟨_,_,_,rfl⟩)
theorem O5(v hv:c3)(w:b1)(E:eu jG v w)(d:eP xN hv w):Calls prog 113 #[v,iV 0,hv] w (eB w Bp):=
 (Kk jG 0 xN v hv w E d zD zD zD).mono (by
  rintro _ H ⟨v,rfl,s,A,c,rfl,-⟩;exact eB.mk s ⟨_,_,_,rfl⟩)
def TD(d vr:c3):AV:=#[.bool a6,d,iV 2,iV 3,iV 2,iV 1,iV 1,iV 2,iV 0,.bool a6,vr,nS,nS,.int .u8 3,.int .u32 0,iV (-1),iV (-1),iV 300,
 .int .u8 0,iV 0,nS,iV 0,iV 0,iV 0,iV 0,iV 0,iV 0,nS,nS,nS]
def Vx(d vr:c3)(a0 O r0 r1 r2 r3 r4 r5:Int)(s J E H:c3):AV:=#[.bool a6,d,iV 2,iV 3,iV 2,iV 1,iV 1,iV 2,iV 0,.bool a6,vr,nS,nS,.int .u8 3,.int .u32 0,iV (-1),iV (-1),iV 300,
 .int .u8 a0,iV O,s,iV r0,iV r1,iV r2,iV r3,iV r4,iV r5,J,E,H]
attribute [local irreducible] ew ed in
theorem O6(gp:Nat)(vw vr:c3)(w:b1)(d:Box w gp 141 (TD vw vr))(hw:eD il vw w)(hr:eD [jG] vr w) :
    Calls prog 66 #[eF gp] w (λe w'=>e=.returned (.int .i64 0)∧w.grownBy w' (some gp)∧∃a0 a1 r1 r2 r3 r4 r5 Ah nh ch Ab nb cb Ae ne ce A c,Box w' gp 141 (Vx vw vr a0 a1 30 r1 r2 r3 r4 r5 (.slice Ah nh ch) (.slice Ab nb cb) (.slice Ae ne ce) (.slice A 1 c))):=by
  have aM:=d.at_ 0 rfl;have aL:=d.at_ 1 rfl;have O:=d.lt;have HB:=hide d;have HC:=hide (λW (hE:Ext w W)=>xL vw W (VP.st _ _ _ _ hw hE));have HR:=hide hr;clear d hw hr;go_enter func66,ntmps66;go_upto_region 1 with(fail)
  refine vQ 14 (.h 10 ?_) (fl:=[13]);refine ed.call2 31 _ _ _ rfl (enters_of func31 zK rfl) (ee rfl) (od 4 15 5 rfl) (od 9 20 0 rfl) (F:=eR [G8 w,eC (.int .i64 0)]) (λ_ _ W hX h1 h2=>by cases h1;cases h2;exact(HC.out W ((eh _).tr hX)).mono (by rintro _ w2 ⟨_,rfl,J,gs,rfl,hS⟩;exact eB.mk J (eR.two ⟨gs,w2,rfl,hS,((eh _).tr hX).tr J,(Ext.rf _).weak⟩ rfl))) (.h 1 ?_);refine ed.extract _ 0 rfl rfl (ee rfl) (od 11 10 0 rfl) ?_;refine ed.extract _ 1 rfl rfl (ee rfl) (od 11 10 1 rfl) (.g ?_);intro W1 aD;refine ew.any λaH al=>?_;refine ew.any λaG ak=>?_;refine ew.any λaF U=>?_;refine .e ?_;clear al ak;have ah:=(eh w).tr aD;obtain⟨gs,rfl,aC⟩:=G8.at_ U ah;have Nv:=hide ah;have HB1:=hide (HB.out.ext ah);have Wz:=hide aC;have HR1:=hide (VP.st _ _ _ _ HR.out ah);clear ah aD aC HB HC HR U aM aL O;have d:=HB1.out;unfold TD at d;have k2:=d.at_ 2 rfl;have k3:=d.at_ 3 rfl;have k4:=d.at_ 4 rfl;have k5:=d.at_ 5 rfl;have k6:=d.at_ 6 rfl;have k7:=d.at_ 7 rfl;have k8:=d.at_ 8 rfl;have k9:=d.at_ 9 rfl;have ad:=d.at_ 10 rfl;have aA:=d.at_ 11 rfl;have az:=d.at_ 12 rfl;have ay:=d.at_ 13 rfl;have aw:=d.at_ 14 rfl;have av:=d.at_ 15 rfl;have au:=d.at_ 16 rfl;have ar:=d.at_ 17 rfl;have H2:=hide (Ko vr W1);unfold DS at H2;clear d;go_wp2_with fail;refine H2.out.mono ?_;rintro _ w2 ⟨_,rfl,J,rfl⟩;have T5:=hide (Nv.out.tr J);have HB2:=hide (HB1.out.ext J);have HS2:=hide (Wz.out.ext J);have HR2:=hide (VP.st _ _ _ _ HR1.out J);clear k2 k3 k4 k5 k6 k7 k8 k9 ad aA az ay aw av au ar J Nv HB1 Wz HR1 H2;have d:=HB2.out;unfold TD at d;have k2:=d.at_ 2 rfl;have k3:=d.at_ 3 rfl;have k4:=d.at_ 4 rfl;have k5:=d.at_ 5 rfl;have k6:=d.at_ 6 rfl;have k7:=d.at_ 7 rfl;have k8:=d.at_ 8 rfl;have k9:=d.at_ 9 rfl;have ad:=d.at_ 10 rfl;have aA:=d.at_ 11 rfl;have az:=d.at_ 12 rfl;have ay:=d.at_ 13 rfl;have aw:=d.at_ 14 rfl;have av:=d.at_ 15 rfl;have au:=d.at_ 16 rfl;have ar:=d.at_ 17 rfl;have H3:=hide (G9 gs vr w2 HS2.out HR2.out);unfold DS at H3;clear d;go_wp2_with fail;refine H3.out.mono ?_;rintro _ w3 ⟨_,rfl,ai,hv⟩;obtain⟨_,_,rfl,⟨a0,a1,r1,r2,r3,r4,r5,vh,rfl,hH⟩,rfl⟩:=eR.inv2 hv;obtain⟨Ah,ch,rfl,-⟩:=eP.form hH;have Y:=ek w3 (.cells #[.int .u8 a0,.int .i64 a1,.slice Ah xN.length ch,.int .i64 30,.int .i64 r1,.int .i64 r2,.int .i64 r3,.int .i64 r4,.int .i64 r5] 40);have aB:=Box.new w3 40 #[.int .u8 a0,.int .i64 a1,.slice Ah xN.length ch,.int .i64 30,.int .i64 r1,.int .i64 r2,.int .i64 r3,.int .i64 r4,.int .i64 r5];have OZ:=hide ((T5.out.tr ai).tr Y);have HB4:=hide ((HB2.out.ext ai).ext Y);have P4:=hide ((HS2.out.ext ai).ext Y);have HR4:=hide (VP.st _ _ _ _ HR2.out (ai.tr Y));have PW:=hide (VP.st _ _ _ _ hH Y);have HT4:=hide aB;clear k2 k3 k4 k5 k6 k7 k8 k9 ad aA az ay aw av au ar ai T5 HB2 HS2 HR2 H3 hv hH Y aB;have ad:=HB4.out.at_ 10 rfl;have H5:=hide (O2 vr _ HR4.out);go_wp2_with fail;refine H5.out.mono ?_;rintro _ s ⟨tv,rfl,ab,hT⟩;have OX:=hide (OZ.out.tr ab);have RT:=hide (HB4.out.ext ab);have TE:=hide (P4.out.ext ab);have Si:=hide (VP.st _ _ _ _ PW.out ab);have WA:=hide (HT4.out.ext ab);have E:=hT;clear ad ab OZ HB4 P4 HR4 PW HT4 H5 hT;generalize w3.heap.size=g5 at*;have k8:=RT.out.at_ 8 rfl;have TG:=hide (λW (hE:Ext s W)=>Nc a6 il gs W (TE.out.ext hE) zD zD);go_upto_region 11 with(fail)
  have O:=RT.out.lt
  go_region_held3 (λw'=>w'.cell? ⟨gp,8,a7⟩=some (.int .i64 0)) (first|assumption|exact e9 _ _|go_keep) ((go_at_call 110;refine(TG.out _ (by first|exact eh _|exact(eh _).tr (ek _ _))).mono ?_;rintro _ T ⟨_,rfl,aa,sl,rfl,ap⟩;have e8:T.cell? ⟨gp,8,a7⟩=some (.int .i64 0):=(by first|exact(aa.cell (p:=⟨gp,8,a7⟩) O).trans k8|exact(aa.cell (p:=⟨gp,8,a7⟩) (Nat.lt_of_lt_of_le O (ek _ _).size)).trans (by assumption));obtain⟨A6,c6,rfl⟩:=ap.form;have e9:=(λv1 v2=>((a8 (p:=⟨s.heap.size,1,a7⟩) (a8 (p:=⟨s.heap.size,0,a7⟩) (Below.refl (gp+1) T) (Nat.succ_le_of_lt O) v1) (Nat.succ_le_of_lt O) v2).cell (p:=⟨gp,8,a7⟩) (Nat.lt_succ_self gp)).trans e8);try(have af:Box T s.heap.size 24 #[.bool a6,.slice a7 0 0]:=(Box.new s.drew 24 #[.bool a6,.slice a7 0 0]).ext aa;have n0:=af.at_ 0 rfl;have n1:=af.at_ 1 rfl;have f0:=af.frozen 0;have f1:=af.frozen 1)))
  all_goals first
    | (show Exit.then _ _ _ _ (World.alloc T _)
       have RZ:=hide (((eh s).tr aa).tr (ek T (.cells #[.bool a6,.slice A6 il.length c6] 24)));have OY:=hide (Box.new T 24 #[.bool a6,.slice A6 il.length c6]);have OM:=hide (VP.st _ _ _ _ (show jj a6 il (.agg #[.bool a6,.slice A6 il.length c6]) T from⟨_,rfl,ap.parts⟩) (ek T (.cells #[.bool a6,.slice A6 il.length c6] 24)));generalize T.alloc (.cells #[.bool a6,.slice A6 il.length c6] 24)=w7 at*;generalize T.heap.size=g7 at*)
    | (have RZ:Hid (Ext s ((T.setCell ⟨s.heap.size,0,a7⟩ (.bool a6)).setCell ⟨s.heap.size,1,a7⟩ (.slice A6 il.length c6))):=hide (a8 (p:=⟨s.heap.size,1,a7⟩) (a8 (p:=⟨s.heap.size,0,a7⟩) (((eh s).tr (ek s.drew (.cells #[.bool a6,.slice a7 0 0] 24))).tr aa) (c0 _) _) (c0 _) _)
       have OY:Hid (Box ((T.setCell ⟨s.heap.size,0,a7⟩ (.bool a6)).setCell ⟨s.heap.size,1,a7⟩ (.slice A6 il.length c6)) s.heap.size 24 #[.bool a6,.slice A6 il.length c6]):=hide ((af.eL 0 (.bool a6)).eL 1 (.slice A6 il.length c6));have OM:Hid (jj a6 il (.agg #[.bool a6,.slice A6 il.length c6]) ((T.setCell ⟨s.heap.size,0,a7⟩ (.bool a6)).setCell ⟨s.heap.size,1,a7⟩ (.slice A6 il.length c6))):=hide ⟨_,rfl,((ap.set ⟨s.heap.size,0,a7⟩ zS _).set ⟨s.heap.size,1,a7⟩ zS _).parts⟩;generalize(T.setCell ⟨s.heap.size,0,a7⟩ (.bool a6)).setCell ⟨s.heap.size,1,a7⟩ (.slice A6 il.length c6)=w7 at*;generalize s.heap.size=g7 at*)
  all_goals
    have Tz:=hide (OX.out.tr RZ.out);have OV:=hide (RT.out.ext RZ.out);have Vy:=hide (VP.st _ _ _ _ Si.out RZ.out);have Bt:=hide (WA.out.ext RZ.out);have aq:=VP.st _ _ _ _ E RZ.out;have HP:=hide (O4 _ _ w7 OM.out Vy.out);have s0:=OY.out.at_ 0 rfl;have s1:=OY.out.at_ 1 rfl;have t2:=Bt.out.at_ 2 rfl;clear e8 e9 aa ap RZ OX RT Si WA E TG k8 O TE;go_wp2_with fail;refine HP.out.mono ?_;rintro _ w8 ⟨_,rfl,H,hv⟩;obtain⟨_,_,rfl,⟨Ac,cc,rfl⟩,rfl⟩:=eR.inv2 hv;have TH:=hide (Tz.out.tr H);have WB:=hide (OV.out.ext H);have Vz:=hide (VP.st _ _ _ _ Vy.out H);have WC:=hide (VP.st _ _ _ _ OM.out H);have Bu:=hide (Bt.out.ext H);have Pv:=hide (OY.out.ext H);have E:=VP.st _ _ _ _ aq H;clear s0 s1 t2 H hv HP Tz OV Vy OM Bt OY aq;have t2:=Bu.out.at_ 2 rfl;have WD:=hide (λv W (hE:Ext w8 W) (hB:eu jG v W)=>Kq _ v _ W (VP.st _ _ _ _ WC.out hE) hB (VP.st _ _ _ _ Vz.out hE));have WE:=hide (λv W (hE:Ext w8 W) (hB:eu jG v W)=>O5 v _ W hB (VP.st _ _ _ _ Vz.out hE));go_upto_region 15 with(fail)
    refine vQ 14 (.h 1 ?_) (fl:=[0]);refine ed.eU 40 _ rfl (ee rfl) (ik 5 rfl) underlying40 rfl zK Bu.out (eh _) ?_;refine ed.eU 24 _ rfl (ee rfl) (ik 7 rfl) underlying24 rfl zK Pv.out (eh _) ?_;refine ed.move _ rfl (ee rfl) (fU 6 rfl E (eh _) zK) (.h 3 ?_);refine ed.call4 112 _ _ _ _ _ rfl (enters_of func112 zK rfl) (ee rfl) (od 2 77 4 rfl) (od 3 78 3 rfl) (od 4 79 2 rfl) (od 6 81 0 rfl) (F:=Bp) (λ_ v _ _ W hX h1 hv h3 h4=>by cases h1;cases h3;cases h4;exact WD.out v W ((eh _).tr hX) hv) ?_;refine ed.move _ rfl (ee rfl) (fU 6 rfl E (eh _) zK) (.h 3 ?_);refine ed.call3 113 _ _ _ _ rfl (enters_of func113 zK rfl) (ee rfl) (od 8 83 3 rfl) (od 9 84 2 rfl) (od 11 86 0 rfl) (F:=Bp) (λv _ _ W hX hv h3 h4=>by cases h3;cases h4;exact WE.out v W ((eh _).tr hX) hv) (.g ?_);intro aN aj;refine ew.any λaK ao=>?_;refine .e ?_;refine ew.any λaJ an=>?_;refine ew.any λaI am=>?_;refine .e ?_;refine ew.any λaE ae=>?_;refine .e ?_;clear ao am;have E:=VP.st _ _ _ _ E ((eh _).tr aj);obtain⟨Ab,nb,cb,rfl⟩:=an;obtain⟨Ae,ne,ce,rfl⟩:=ae;have ag:=(eh w8).tr aj;have HZ:=hide (TH.out.tr ag);have T4:=hide (WB.out.ext ag);clear TH WB Vz WC Bu Pv E t2 WD WE ag aj;go_wp2_with(refine eW rfl 80 _ _ rfl gp 18 #[.int .u8 a0,.int .i64 a1,.slice Ah xN.length ch,.int .i64 30,.int .i64 r1,.int .i64 r2,.int .i64 r3,.int .i64 r4,.int .i64 r5,.slice Ab nb cb,.slice Ae ne ce,.slice Ac 1 cc] rfl rfl 141 (TD vw vr) T4.out zK (Nat.le_of_eq rfl) zK (Vx vw vr a0 a1 30 r1 r2 r3 r4 r5 (.slice Ah xN.length ch) (.slice Ab nb cb) (.slice Ae ne ce) (.slice Ac 1 cc)) rfl ?_)
    go_ret;exact⟨rfl,((gZ HZ.out).but _).trans (jC _ _ _),a0,a1,r1,r2,r3,r4,r5,Ah,_,ch,Ab,nb,cb,Ae,ne,ce,Ac,cc,T4.out.gR⟩
end
end
end Go.Proofs.YtofgfpffcegioaaGreat
namespace Go.Proofs.YtofgfpffcegioaaGreat
open Go.RowKit Go.Shelf Go.Sort iT jH fq Go.Proofs.Tryz
open _root_.Array renaming replicate_succ → gk,replicate_zero → gl
open Bool renaming false → dt,true → hd
open _root_.Go renaming World → a8,Calls → hh,undef → gq
open Go.Fence renaming wide → ha
open Go.KeepsWalks renaming setCell → hc
open Go.Operand renaming tmp → c3
open Go.Proofs.Tryz renaming underlying43 → e1,prog → hg,underlying5 → gw,underlying235 → gW
open Go.RowKit.Below renaming heap_setCell → hf
open Go.World renaming size_alloc → a7
open List renaming setIfInBounds_toArray → ds,append_toArray → gx
open Nat renaming lt_of_lt_of_le → a6,le_refl → gn
open Option renaming none → hj,some → gu
section
section
attribute [local irreducible] ew ed
attribute [local go_sem] Oper.semAt_some
def Bq:o8:=⟨2,3,2,1,1,2,0⟩
def uL:AV:=#[iV 2,iV 3,iV 2,iV 1,iV 1,iV 2,iV 0,iV 3,iV 6]
theorem Nh(w:a8):hh hg 116 #[iV 2,iV 3] w (λe d=>e=.returned (iV 2)∧d=w):=by
 go_enter func116,ntmps116;go_wp2;go_ret;simp_all
theorem Ni(w:a8):hh hg 116 #[iV 2,iV 5] w (λe d=>e=.returned (iV 3)∧d=w):=by
 go_enter func116,ntmps116;go_wp2;go_ret;simp_all
theorem Nj(w:a8):hh hg 116 #[iV 3,iV 6] w (λe d=>e=.returned (iV 2)∧d=w):=by
 go_enter func116,ntmps116;go_wp2;go_ret;simp_all
section
variable {w:a8}
theorem Nk(w:a8):hh hg 175 #[.agg uL,iV 0] w (eB w (eC (iV 0))):=by
 have s:=ek w (.cells uL 235);have d:=Box.new w 235 uL;have J:=d.at_ 1 rfl;have H:=d.at_ 7 rfl;have E:=hide s;clear s d;unfold uL at*;go_enter func175,ntmps175;go_wp2;go_ret;exact eB.mk E.out rfl
theorem R0(w:a8):hh hg 175 #[.agg uL,iV 1] w (eB w (eC (iV 2))):=by
 have s:=ek w (.cells uL 235);have d:=Box.new w 235 uL;have J:=d.at_ 1 rfl;have H:=d.at_ 7 rfl;have E:=hide s;clear s d;unfold uL at*;go_enter func175,ntmps175;go_wp2;go_ret;exact eB.mk E.out rfl
theorem Gi(w:a8):hh hg 114 #[.agg uL] w (eB w (eC (.bool hd))):=by
 have E:=ek w (.cells uL 235);have d:=Box.new w 235 uL;have hR:=hide (λW=>nF Bq W);have h1:=hide (λW=>vB 3 W);have h2:=hide (λW=>pE 6 W);have H:=hide E;clear E;unfold uL at*;have k0:=d.at_ 0 rfl;have k1:=d.at_ 1 rfl;have k2:=d.at_ 2 rfl;have Y:=d.at_ 3 rfl;have U:=d.at_ 4 rfl;have T:=d.at_ 5 rfl;have O:=d.at_ 6 rfl;go_enter func114,ntmps114;go_wp2_with fail;refine(hR.out _).mono ?_;rintro _ w2 ⟨_,rfl,s,rfl⟩;have HE:=hide (H.out.tr s);have k7:=(d.ext s).at_ 7 rfl;have k8:=(d.ext s).at_ 8 rfl;clear k0 k1 k2 Y U T O s d H;rw[show iA Bq=hd by decide];go_wp2_with fail;refine(h1.out _).mono ?_;rintro _ J ⟨rfl,rfl⟩;rw[show nI 3 1 32=hd by decide];go_wp2_with fail;refine(h2.out _).mono ?_;rintro _ J ⟨rfl,rfl⟩;rw[show nI 6 0 2147483647=hd by decide];go_wp2;go_ret;exact eB.mk HE.out rfl
theorem O7(w:a8):hh hg 115 #[.agg uL] w λe d=>e=.returned (.func (.func 174) #[] #[gP w.heap.size])∧d=w.alloc (.cells uL 235):=by
 unfold uL;go_enter func115,ntmps115;go_wp2;go_ret;simp_all
theorem O8(v:Value)(w:a8)(hv:eQ [6] v w):hh hg 69 #[iV 3,v] w (eB w (eC (iV 2))):=by
 have U:=hide (λW=>Nj W);obtain⟨A,c,rfl,d,T,E⟩:=hv;obtain⟨b,J,rfl,hb,H⟩:=E zD;obtain⟨v,O,rfl⟩:=H 0 _ rfl;rw[show([6].map λn:Int=>eC (iV n)).length=1 from rfl]at d ⊢;rw[Nat.add_zero]at O;clear E H;go_enter func69,ntmps69;go_wp2_with fail
 go_loopw [5,12] (λs i wr=>wr=w∧((s=iV 0∧i=iV 0)∨(s=iV 2∧i=iV 1))) (λ_ i _=>1-(intOf i).toNat)
 case atStart=>grind
 case round=>
  obtain⟨rfl,⟨rfl,rfl⟩|⟨rfl,rfl⟩⟩:=hrel
  ·go_wp2_with fail;refine(U.out _).mono ?_;rintro _ Y ⟨rfl,rfl⟩;go_wp2;simp_all[intOf]
  ·go_wp2;go_ret;exact eB.mk (Ext.rf _) rfl
end
def bS:Nat→Int
 |0=>0
 |1=>2
 |_=>5
def bD(i:Nat):Int:=if i=0 then 3 else 5
def bE(i:Nat):AV:=#[iV (bD i),iV 1]
structure yj(N gr gm bx:Nat)(w0:a8)(i:Nat)(W:a8):Prop where
 low:N≤w0.heap.size
 below:Below N w0 W
 rk:Box W gr 235 uL
 many:Box W gm 3 #[iV (bS i)]
 cl:Box W bx 235 uL
section
variable {N gr gm bx i:Nat} {w0 W W':a8}
theorem yj.ext(h:yj N gr gm bx w0 i W)(d:Ext W W'):yj N gr gm bx w0 i W':=⟨h.low,h.below.trans (d.mono (Nat.le_trans h.low h.below.size)),h.rk.ext d,h.many.ext d,h.cl.ext d⟩
theorem yj.put(h:yj N gr gm bx w0 i W)(k:Nat)(o:Obj)(d:N≤k)(h1:gr≠k)(E:gm≠k)(s:bx≠k):yj N gr gm bx w0 i (W.putObj k o):=⟨h.low,fx h.below d o,lr h.rk h1,lr h.many E,lr h.cl s⟩
theorem yj.set(h:yj N gr gm bx w0 i W)(j:Nat)(d:N≤gm)(h1:gr≠gm)(s:bx≠gm):yj N gr gm bx w0 j (W.setCell ⟨gm,0,hj⟩ (iV (bS j))):=
 ⟨h.low,Below.setCell (p:=⟨gm,0,hj⟩) h.below d _,(hf _ _ _ _ h1).trans h.rk,h.many.eL 0 _,(hf _ _ _ _ s).trans h.cl⟩
end
def bA(N gr d s:Nat)(w0:a8):Option Nat→a8→Prop
 |none,W=>yj N gr d s w0 0 W
 |some i,W=>i<2∧yj N gr d s w0 (i+1) W
def bM(N gr d s:Nat)(w0:a8)(i:Nat)(W:a8):Prop:=i<2∧yj N gr d s w0 i W
theorem Gj(N gr gm bx n:Nat)(hn:1≤n)(w0 ai:a8)(A:Nat):ve ha n hg 174 #[gP bx] bE (bA N gr gm bx w0) (bM N gr gm bx w0) (yj N gr gm bx w0 2) A ai:=by
 intro R W hE hN ae hY hA hR;have XJ:=hide (show∀J,yj N gr gm bx w0 0 J→R J→YieldAt ha (n-1) hg (A+1) #[iV 3,iV 1] J λe W'=>e=.returned (.bool hd)∧yj N gr gm bx w0 1 W'∧R W'∧J.heap.size≤W'.heap.size from λJ h r=>by
  obtain⟨fn,s,a,b,H,E⟩:=hY 0 J ⟨by omega,h⟩ r;exact⟨fn,s,a,b,H,E.mono (λe W' ⟨q1,q2,q3⟩=>⟨q1,q2.2,q3⟩)⟩)
 have XK:=hide (show∀J,yj N gr gm bx w0 1 J→R J→YieldAt ha (n-1) hg (A+1) #[iV 5,iV 1] J λe W'=>e=.returned (.bool hd)∧yj N gr gm bx w0 2 W'∧R W'∧J.heap.size≤W'.heap.size from λJ h r=>by
  obtain⟨fn,s,a,b,H,E⟩:=hY 1 J ⟨by omega,h⟩ r;exact⟨fn,s,a,b,H,E.mono (λe W' ⟨q1,q2,q3⟩=>⟨q1,q2.2,q3⟩)⟩)
 have HRs:=hide ae;have O:=hide (show yj N gr gm bx w0 0 W from hA);have HR:=hide hR;have HN:=hide hN;clear hY hE ae hA hR hN;refine callsIn_of_wp func174 rfl trivial ?_ rfl;simp only[ntmps174,List.size_toArray,List.length_cons,List.length_nil,Nat.reduceAdd,Nat.reduceSub,gk,gl,List.push_toArray,gx,List.nil_append,List.cons_append];have c1:=O.out.cl.at_ 1 rfl;have c8:=O.out.cl.at_ 8 rfl
 gi_upto_region 0 with(fail)
 refine fR fe (λh=>by obtain⟨_,_,h⟩:=h;obtain⟨⟨_,h⟩,-⟩:=h;cases h) zK 13 zK zK (.g ?_);refine ed.iu (c3 7) (c3 10) wA oA oA (λρ w hE H E=>by simp[execOp,H,E,go_sem];rfl) (.g ?_);refine ed.iu (c3 13) (c3 16) wA oA oA (λρ w hE H E=>by simp[execOp,H,E,go_sem];rfl) (.g ?_);intro W0 ag;have hX:=(eh W).tr ag;have HA2:=hide (O.out.ext hX);have HR2:=hide (HRs.out _ _ HR.out (Two.ext hX HN.out));have IB:=hide (a6 HN.out hX.size);clear O HR HN hX ag c1 c8;go_wp2_with fail;gi_wp2
 gi_loopw [5] (λv wr=>∃i:Nat,i≤1∧v=iV i∧Hid (yj N gr gm bx w0 i wr)∧Hid (R wr)∧Hid (A+1<wr.heap.size)) (λv _=>1-(intOf v).toNat)
 case atStart=>exact⟨0,by omega,rfl,HA2,HR2,IB⟩
 case round=>
  clear HA2 HR2 IB;obtain⟨i,hi,rfl,O,HR,HN⟩:=hrel;have c1:=O.out.cl.at_ 1 rfl;have c7:=O.out.cl.at_ 7 rfl;rcases(by omega:i=0∨i=1)with rfl|rfl
  ·gi_upto_region 2 with(fail)
   refine fR fe (λh=>by obtain⟨_,_,h⟩:=h;obtain⟨⟨_,h⟩,-⟩:=h;cases h) zK 12 zK zK (.g ?_);refine ed.qw _ _ _ _ rfl wA oA oA zD (.g ?_);refine ed.eU 235 _ rfl (wtt 3 21 0) oA gW rfl zK O.out.cl (eh _) (.g ?_);refine ed.call2 175 _ _ _ rfl (enters_of func175 zK rfl) (wtt 3 21 2) oA oA (F:=eC (iV 0)) (λ_ _ W hX H E=>by cases H;cases E;exact Nk W) (.g ?_);refine ed.kC _ _ _ _ rfl (wtt 3 21 5) oA (eE _) zO ?_;refine ed.qw _ _ _ _ rfl (wtt 3 21 6) oA oA zD (.g ?_);intro W2 U;have d:=(eh wr).tr U;have HA2:=hide (O.out.ext d);have HR2:=hide (HRs.out _ _ HR.out (Two.ext d HN.out));have IB:=hide (a6 HN.out d.size);clear O HR HN d U c1 c7;have c1:=HA2.out.cl.at_ 1 rfl;have c7:=HA2.out.cl.at_ 7 rfl;refine wpList_nil ?_
   gi_upto_region 4 with(fail)
   refine ml fe zK 8 zK zK (.g ?_);refine ed.eU 235 _ rfl wA oA gW rfl zK HA2.out.cl (eh _) (.g ?_);refine ed.call2 175 _ _ _ rfl (enters_of func175 zK rfl) wA oA oA (F:=eC (iV 0)) (λ_ _ W hX H E=>by cases H;cases E;exact Nk W) (.g ?_);refine ed.ko _ _ _ _ rfl wA oA oA zO (.g ?_);refine .n0 ⟨rfl,λW4 af=>?_⟩;iterate 8 refine iC.eq ?_
   refine iC.nil ?_;simp only[Act.put,ds,List.set_cons_zero,List.set_cons_succ];have ab:=(eh W2).tr af;have WG:=hide (HA2.out.ext ab);have HR4:=hide (HRs.out _ _ HR2.out (Two.ext ab IB.out));obtain⟨fn,s,ad,ah,hy,hR⟩:=XJ.out W4 WG.out HR4.out;have WH:=hide (a6 IB.out ab.size);clear HA2 HR2 IB ab af c1 c7;gi_wp2;refine hR.mono ?_;rintro e W5 ⟨rfl,Y,T,aa⟩;have VA:=hide Y;have PX:=hide T;have aj:=hide (a6 WH.out aa);clear Y T aa hy hR WG HR4 WH;gi_wp2
   go_roundw
   case rel=>exact⟨1,by omega,rfl,VA,PX,aj⟩
   case measure=>simp[intOf]
  ·gi_upto_region 2 with(fail)
   refine fR fe (λh=>by obtain⟨_,_,h⟩:=h;obtain⟨⟨_,h⟩,-⟩:=h;cases h) zK 12 zK zK (.g ?_);refine ed.qw _ _ _ _ rfl wA oA oA zD (.g ?_);refine ed.eU 235 _ rfl (wtt 3 21 0) oA gW rfl zK O.out.cl (eh _) (.g ?_);refine ed.call2 175 _ _ _ rfl (enters_of func175 zK rfl) (wtt 3 21 2) oA oA (F:=eC (iV 2)) (λ_ _ W hX H E=>by cases H;cases E;exact R0 W) (.g ?_);refine ed.kC _ _ _ _ rfl (wtt 3 21 5) oA (eE _) zO ?_;refine ed.xT _ _ _ _ rfl (wtt 3 21 6) oA oA zD (.g ?_);intro W2 U;have d:=(eh wr).tr U;have HA2:=hide (O.out.ext d);have HR2:=hide (HRs.out _ _ HR.out (Two.ext d HN.out));have IB:=hide (a6 HN.out d.size);clear O HR HN d U c1 c7;have c1:=HA2.out.cl.at_ 1 rfl;have c7:=HA2.out.cl.at_ 7 rfl;refine wpList_nil ?_;obtain⟨fn,s,ad,ah,hy,hR⟩:=XK.out W2 HA2.out HR2.out;gi_wp2;refine hR.mono ?_;rintro e W5 ⟨rfl,Y,T,aa⟩;have VA:=hide Y;have PX:=hide T;clear Y T aa hy hR HA2 HR2 IB c1 c7;gi_wp2
   go_end0
   exact⟨⟨_,rfl⟩,VA.out,PX.out⟩
theorem O9(w:a8):hh hg 67 #[.agg (jb Bq),iV 3,iV 6] w (eB w (eR [eC (iV 5),eC (iV 0)])):=by
 rw[show jb Bq=#[iV 2,iV 3,iV 2,iV 1,iV 1,iV 2,iV 0]from rfl];have E:=Box.new w 26 #[iV 2,iV 3,iV 2,iV 1,iV 1,iV 2,iV 0];have d:=Box.new (w.alloc (.cells #[iV 2,iV 3,iV 2,iV 1,iV 1,iV 2,iV 0] 26)) 235 uL;rw[a7]at d;have HX:=hide ((ek w (.cells #[iV 2,iV 3,iV 2,iV 1,iV 1,iV 2,iV 0] 26)).tr (ek (w.alloc (.cells #[iV 2,iV 3,iV 2,iV 1,iV 1,iV 2,iV 0] 26)) (.cells uL 235)));have WI:=hide d;have HR:=hide (Gi ((w.alloc (.cells #[iV 2,iV 3,iV 2,iV 1,iV 1,iV 2,iV 0] 26)).alloc (.cells uL 235)));refine(callsIn_wide (n:=9)).1 ?_;have h1:1≤9:=zO;refine callsIn_of_wp_marks func67 rfl trivial ?_ rfl;simp only[ntmps67,List.size_toArray,List.length_cons,List.length_nil,Nat.reduceAdd,Nat.reduceSub,gk,gl,List.push_toArray,gx,List.nil_append,List.cons_append];have k0:=E.at_ 0 rfl;have k1:=E.at_ 1 rfl;have k2:=E.at_ 2 rfl;have k3:=E.at_ 3 rfl;have k4:=E.at_ 4 rfl;have k5:=E.at_ 5 rfl;have k6:=E.at_ 6 rfl;unfold uL at d;have r0:=d.at_ 0 rfl;have r1:=d.at_ 1 rfl;have r2:=d.at_ 2 rfl;have r3:=d.at_ 3 rfl;have r4:=d.at_ 4 rfl;have r5:=d.at_ 5 rfl;have r6:=d.at_ 6 rfl;have r7:=d.at_ 7 rfl;have r8:=d.at_ 8 rfl
 gi_upto_region 4 with(fail)
 refine⟨trivial,?_⟩;refine(callsIn_wide.2 HR.out).mono ?_;rintro _ O ⟨_,rfl,aa,rfl⟩;have N3:=hide (HX.out.tr aa);have HB3:=hide (WI.out.ext aa);clear aa d E k0 k1 k2 k3 k4 k5 k6 r0 r1 r2 r3 r4 r5 r6 r7 r8 HR HX WI;have s:=HB3.out.ext (ek O (.cells #[iV 0] 3));have HB4:=hide s;unfold uL at s;have r0:=s.at_ 0 rfl;have r1:=s.at_ 1 rfl;have r2:=s.at_ 2 rfl;have r3:=s.at_ 3 rfl;have r4:=s.at_ 4 rfl;have r5:=s.at_ 5 rfl;have r6:=s.at_ 6 rfl;have r7:=s.at_ 7 rfl;have r8:=s.at_ 8 rfl;gi_wp2_with fail;refine⟨trivial,?_⟩;refine(callsIn_wide.2 (O7 _)).mono ?_;rintro _ w5 ⟨rfl,ab⟩;have HA:Hid (yj w.heap.size (w.heap.size+1) O.heap.size (O.heap.size+1) w 0 w5):=by
  have e2:=Box.new (O.alloc (.cells #[iV 0] 3)) 235 uL;rw[a7]at e2;have e3:=ek (O.alloc (.cells #[iV 0] 3)) (.cells uL 235);rw[ab];exact⟨gn _,(N3.out.tr (ek _ _)).tr e3,HB4.out.ext e3,(Box.new O _ _).ext e3,e2⟩
 have H:O.heap.size+2=w5.heap.size:=by simp_all
 have XL:=hide H;have ad:=hide (a6 (Nat.lt_succ_self _) HB3.out.lt);clear s r0 r1 r2 r3 r4 r5 r6 r7 r8 HB4 HB3 N3 ab H;gi_wp2;have H:=XL.out;have af:=ad.out;refine nD (α:=Nat) (F:=ha) w5.heap.size rfl rfl h1 (gf:=174) (lb:=#[gP (O.heap.size+1)]) rfl trivial (enters_of func174 zR rfl) (Gj w.heap.size (w.heap.size+1) O.heap.size (O.heap.size+1) 8 zO w w5 w5.heap.size)
  (λW h k=>yj.ext h k) (λi W o h _=>⟨h.1,h.2.put _ o zO zO zO zO⟩) (λi W o h _=>⟨h.1,h.2.put _ o zO zO zO zO⟩) (λW o h _=>h.put _ o zO zO zO zO) (λ_=>rfl) HA.out (λi W W' h k=>⟨h.1,h.2.ext k⟩)
  (λi W a W'=>W'=W∧a={ tmps:=#[.agg #[iV 2,iV 3,iV 2,iV 1,iV 1,iV 2,iV 0],iV 3,iV 6,gP w.heap.size,gq,gq,iV 0,iV 0,gP (w.heap.size+1),gP O.heap.size,iV (bD i),iV 1,.agg #[iV 2,iV 3,iV 2,iV 1,iV 1,iV 2,iV 0],iV 3,iV 6,.agg #[iV 2,iV 3,iV 2,iV 1,iV 1,iV 2,iV 0,iV 3,iV 6],.agg #[iV 2,iV 3,iV 2,iV 1,iV 1,iV 2,iV 0,iV 3,iV 6],.bool hd,.bool dt,.agg #[iV 2,iV 3,iV 2,iV 1,iV 1,iV 2,iV 0,iV 3,iV 6],.func (.func 174) #[] #[gP (O.heap.size+1)],iV (bD i),iV 1,gq,gq,gq,gq,gq,gq,gq,gq,gq,gq],defers:=[] }) (λi W a W' h=>by grind[Ext.rf]) ?assign ?body ?done
 case assign=>
  intro l i W K hK;unfold bE;gi_wp2;all_goals exact hK _ _ ⟨rfl,rfl⟩
 case body=>
  rintro i W W' _ o ⟨ae,rfl⟩ hN ⟨hi,hA⟩;subst ae;have HN:=hide (show w5.heap.size+1<(W'.putObj (w5.heap.size+1) o).heap.size by simp_all);generalize W'.putObj (w5.heap.size+1) o=V at*;have c0:=hA.many.at_ 0 rfl;have c5:=hA.rk.at_ 5 rfl;have HA:=hide hA;have Hs:=hide H;have U:=hide (λW=>(Nh W).mono (R':=eB W (eC (iV 2))) (by rintro _ _ ⟨rfl,rfl⟩;exact eB.mk (Ext.rf _) rfl));have T:=hide (λW=>(Ni W).mono (R':=eB W (eC (iV 3))) (by rintro _ _ ⟨rfl,rfl⟩;exact eB.mk (Ext.rf _) rfl));clear hA hN H
  gi_upto_region 8 with(fail)
  rcases(by omega:i=0∨i=1)with rfl|rfl
  ·rw[show bD 0=3 from rfl];rw[show bS 0=0 from rfl]at c0;refine sh (gJ _) (λ⟨_,_,h⟩=>h.elim) zR 9 [] zR zK (λ_ _ _ _ _ h=>h) (.g ?_);refine ed.call2 116 _ _ _ rfl (enters_of func116 zR rfl) wA oA oA (F:=eC (iV 2)) (λ_ _ W hX h1 h2=>by cases h1;cases h2;exact U.out W) ?_;refine ed.tN _ _ _ _ rfl wA oA oA zO ?_;refine ed.ko _ _ _ _ rfl wA oA oA zO (.g ?_);intro W8 Y;have J:=(eh V).tr Y;have R2:=hide (HA.out.ext J);have HT:=hide (Two.ext (N:=w5.heap.size) J HN.out);have d0:=R2.out.many.at_ 0 rfl;have f0:=R2.out.many.frozen 0;clear c0 c5 J Y HA HN U T;go_wp2;have H:=Hs.out;exact⟨HT.out.tr ⟨(hc _ _ _).size,λq hq=>hf _ _ _ q (λe=>by grind)⟩,by omega,R2.out.set 1 zO zO zO⟩
  ·rw[show bD 1=5 from rfl];rw[show bS 1=2 from rfl]at c0;refine sh (gJ _) (λ⟨_,_,h⟩=>h.elim) zR 9 [] zR zK (λ_ _ _ _ _ h=>h) (.g ?_);refine ed.call2 116 _ _ _ rfl (enters_of func116 zR rfl) wA oA oA (F:=eC (iV 3)) (λ_ _ W hX h1 h2=>by cases h1;cases h2;exact T.out W) ?_;refine ed.tN _ _ _ _ rfl wA oA oA zO ?_;refine ed.ko _ _ _ _ rfl wA oA oA zO (.g ?_);intro W8 Y;have J:=(eh V).tr Y;have R2:=hide (HA.out.ext J);have HT:=hide (Two.ext (N:=w5.heap.size) J HN.out);have d0:=R2.out.many.at_ 0 rfl;have f0:=R2.out.many.frozen 0;clear c0 c5 J Y HA HN U T;go_wp2;have H:=Hs.out;exact⟨HT.out.tr ⟨(hc _ _ _).size,λq hq=>hf _ _ _ q (λe=>by grind)⟩,by omega,R2.out.set 2 zO zO zO⟩
 case done=>
  rintro W hZ hK;have c0:=hZ.many.at_ 0 rfl;rw[show bS 2=5 from rfl]at c0;gi_wp2;refine⟨by simp,.inl ⟨_,_,rfl,run_takeDeferred hK,?_⟩⟩;refine⟨.tuple #[iV 5,iV 0],by simp[results,results67],?_⟩;exact eB.mk (fx hZ.below zO _) (eR.two rfl rfl)
theorem R3(w:a8):hh hg 34 #[.agg (jb Bq),iV 3,iV 6,iV 1,iV 3] w (eB w (eR [eC (iV 31),eC (iV 0)])):=by
 have T:=ek w (.cells (jb Bq) 26);have d:=Box.new w 26 (jb Bq);have HS:=hide (O9 (w.alloc (.cells (jb Bq) 26)));have HX:=hide T;have HB:=hide d;clear T;rw[show jb Bq=#[iV 2,iV 3,iV 2,iV 1,iV 1,iV 2,iV 0]from rfl]at*;have k0:=d.at_ 0 rfl;have k1:=d.at_ 1 rfl;have k2:=d.at_ 2 rfl;have k3:=d.at_ 3 rfl;have k4:=d.at_ 4 rfl;have k5:=d.at_ 5 rfl;have k6:=d.at_ 6 rfl;clear d;go_enter func34,ntmps34;go_wp2_with fail;refine HS.out.mono ?_;rintro _ w2 ⟨_,rfl,E,O⟩;obtain⟨_,_,rfl,rfl,rfl⟩:=eR.inv2 O;have T5:=hide (HX.out.tr E);have HB2:=hide (HB.out.ext E);clear HS HX HB E k0 k1 k2 k3 k4 k5 k6 O;have k0:=HB2.out.at_ 0 rfl;have k1:=HB2.out.at_ 1 rfl;have J:=hide (λW=>pE 1 W);have H:=hide (λW=>pE 3 W);go_wp2_with fail;refine(J.out _).mono ?_;rintro _ w3 ⟨rfl,rfl⟩;rw[show nI 1 0 2147483647=hd by decide];go_wp2_with fail;refine(H.out _).mono ?_;rintro _ w3 ⟨rfl,rfl⟩;rw[show nI 3 0 2147483647=hd by decide];clear J H;go_wp2_with fail;go_upto_region 4 with(fail)
 refine vQ 17 (.g ?_);refine ed.lit (Fs:=[_]) [c3 35] 28 3 1 _ rfl rfl zD zD rfl underlying28 zR zR ⟨kQ rfl,trivial⟩ wA ⟨oA,trivial⟩ ?_;refine ed.call2 69 _ _ _ rfl (enters_of func69 zR rfl) wA oA oA (F:=eC (iV 2)) (λ_ v W T h1 O=>by cases h1;exact O8 v W O) ?_;refine ed.tN _ _ _ _ rfl wA (eE _) oA zO (.g ?_);refine ed.ko _ _ _ _ rfl wA oA oA zO (.g ?_);refine ed.ko _ _ _ _ rfl wA oA oA zO (.g ?_);refine ed.ko _ _ _ _ rfl wA oA oA zO (.g ?_);refine ed.tN _ _ _ _ rfl wA (eE _) oA zO ?_;refine ed.ko _ _ _ _ rfl wA oA oA zO ?_;refine ed.ko _ _ _ _ rfl wA oA (eE _) zO (.g ?_);intro W4 U;refine .any λY s=>?_;refine .e ?_;clear s;go_wp2_with fail;exact bodyPost_ret (results_tmp2 results34 _ _ _) rfl (eB.mk (T5.out.tr ((eh _).tr U)) (eR.two rfl rfl))
end
end
section
section
variable {w:a8}
def TI:VP:=⟨λv _=>∃a0 a1 O J H E s d:Int,∃Ah T ch Ab Y cb Ae U ce A c,v=.agg #[.int .u8 a0,iV a1,.slice Ah T ch,iV O,iV J,iV H,iV E,iV s,iV d,.slice Ab Y cb,.slice Ae U ce,.slice A 1 c],λ_ _ _ h _=>h⟩
attribute [local irreducible] ew ed in
theorem Pa(vw vr:Value)(w:a8)(hw:eD il vw w)(hr:eD [jG] vr w) :
  hh hg 33 #[.agg #[.bool dt,vw,iV 2,iV 3,iV 2,iV 1,iV 1,iV 2,iV 0,.bool dt,vr,nS,nS,.int .u8 3,.int .u32 0,iV (-1),iV (-1),iV 300]] w (eB w (eR [TI,eC (iV 0)])):=by
 obtain⟨Aw,cw,rfl,-⟩:=eD.form (id hw);obtain⟨Ar,cr,rfl,-⟩:=eD.form (id hr);have U:=(Box.new w 84 #[.bool dt,.slice Aw il.length cw,iV 2,iV 3,iV 2,iV 1,iV 1,iV 2,iV 0,.bool dt,.slice Ar [jG].length cr,nS,nS,.int .u8 3,.int .u32 0,iV (-1),iV (-1),iV 300]).alloc (.cells #[.int .u8 0,iV 0,nS,iV 0,iV 0,iV 0,iV 0,iV 0,iV 0,nS,nS,nS] 80);have J:=Box.new (w.alloc (.cells #[.bool dt,.slice Aw il.length cw,iV 2,iV 3,iV 2,iV 1,iV 1,iV 2,iV 0,.bool dt,.slice Ar [jG].length cr,nS,nS,.int .u8 3,.int .u32 0,iV (-1),iV (-1),iV 300] 84)) 80 #[.int .u8 0,iV 0,nS,iV 0,iV 0,iV 0,iV 0,iV 0,iV 0,nS,nS,nS];rw[a7]at J;have E:=(ek w (.cells #[.bool dt,.slice Aw il.length cw,iV 2,iV 3,iV 2,iV 1,iV 1,iV 2,iV 0,.bool dt,.slice Ar [jG].length cr,nS,nS,.int .u8 3,.int .u32 0,iV (-1),iV (-1),iV 300] 84)).tr (ek _ (.cells #[.int .u8 0,iV 0,nS,iV 0,iV 0,iV 0,iV 0,iV 0,iV 0,nS,nS,nS] 80));go_enter func33,ntmps33;go_upto_region 1 with(fail)
 refine KU 4 ?_;refine ed.eU 84 _ rfl wA oA underlying84 rfl zR U (Ext.rf _) ?_;refine ed.FV (vs:=[(0,.agg #[.bool dt,.slice Aw il.length cw,iV 2,iV 3,iV 2,iV 1,iV 1,iV 2,iV 0,.bool dt,.slice Ar [jG].length cr,nS,nS,.int .u8 3,.int .u32 0,iV (-1),iV (-1),iV 300])]) (cells:=TD (.slice Aw il.length cw) (.slice Ar [jG].length cr)) 141 [(0,c3 6)] rfl wA (ku.cons oA ku.nil) rfl zK ?_;refine ed.LM 141 _ rfl wA oA (.g ?_);intro w3 s;refine .any λ_ _=>?_;refine .any λv hv=>?_;obtain⟨gp,rfl,H,T⟩:=hv;refine ew.nil ?_;simp only[Act.put,ds,List.set_cons_zero,List.set_cons_succ];refine wpList_nil ?_;rw[a7,a7]at H;have HG:=hide H;have HP:=hide (O6 gp _ _ _ T (VP.st _ _ _ _ hw (E.tr s)) (VP.st _ _ _ _ hr (E.tr s)));have HX:=hide (E.tr s);have HB2:=hide (J.ext s);clear U J T E s hw hr H;go_wp2_with fail;refine HP.out.mono ?_;rintro _ w5 ⟨rfl,hG,a0,a1,r1,r2,r3,r4,r5,Ah,nh,ch,Ab,nb,cb,Ae,ne,ce,A,c,d⟩;have Y:=HX.out.grown hG HX.out.size (λk e=>by cases e;have:=HG.out;omega);have O:=(hG.block (w.heap.size+1) HB2.out.lt (λe=>by have e:=Option.some.inj e;have:=HG.out;omega)).trans HB2.out;have HE:=hide Y;have WJ:=hide (show Box w5 (w.heap.size+1) 80 #[.int .u8 0,iV 0,nS,iV 0,iV 0,iV 0,iV 0,iV 0,iV 0,nS,nS,nS]from O);clear HP HX HB2 hG Y O HG;unfold Vx at d;have am:=d.at_ 18 rfl;have al:=d.at_ 19 rfl;have ak:=d.at_ 20 rfl;have aj:=d.at_ 21 rfl;have ai:=d.at_ 22 rfl;have ah:=d.at_ 23 rfl;have ag:=d.at_ 24 rfl;have af:=d.at_ 25 rfl;have ae:=d.at_ 26 rfl;have ad:=d.at_ 27 rfl;have ab:=d.at_ 28 rfl;have aa:=d.at_ 29 rfl;clear d;go_wp2_with(refine wpList_store_row rfl 80 _ _ rfl (w.heap.size+1) #[.int .u8 a0,iV a1,.slice Ah nh ch,iV 30,iV r1,iV r2,iV r3,iV r4,iV r5,.slice Ab nb cb,.slice Ae ne ce,.slice A 1 c] rfl rfl 80 _ WJ.out zK rfl (by simp[Value.oneCell']) ?_)
 exact bodyPost_ret (iB results33 _ _ (w.heap.size+1) 80 #[.int .u8 a0,iV a1,.slice Ah nh ch,iV 30,iV r1,iV r2,iV r3,iV r4,iV r5,.slice Ab nb cb,.slice Ae ne ce,.slice A 1 c] _ rfl WJ.out.gR underlying80 rfl zR) rfl (eB.mk (HE.out.grown (jC _ _ _) HE.out.size (λk e=>by grind)) (eR.two ⟨a0,a1,30,r1,r2,r3,r4,r5,Ah,nh,ch,Ab,nb,cb,Ae,ne,ce,A,c,rfl⟩ rfl))
theorem run_mark{P:Program}(w:a8)(t e:TypeId)(bs:L8)(cs:AV)(n:Nat)(s:cs.toList=bs.map ff)(J:n=bs.length)(H:0<bs.length)(hm:bs.length≤maxLen)(ht:P.underlying t=gu (.slice e))(he:P.underlying e=gu (.int .u8)) :
  ∃d,(convert t t (.slice (gu ⟨w.heap.size,0,hj⟩) n n)).run P (w.alloc (.cells cs e))=.ok (.slice (gu ⟨w.heap.size,0,hj⟩) n n) d∧Ext w d∧eu bs (.slice (gu ⟨w.heap.size,0,hj⟩) n n) d∧d.heap.size=w.heap.size+1:=by
 subst J;have T:=World.alloc_heap_new w (.cells cs e);obtain⟨f1,f2,f3,f4,Y,U⟩:=BR (w.alloc (.cells cs e)) w.heap.size cs e (0,0) T (.inl rfl);have E:(w.alloc (.cells cs e)).shape? w.heap.size=gu (e,cs.size):=by grind[World.shape?]
 refine⟨(w.alloc (.cells cs e)).freeze ⟨w.heap.size,cs.size,hj⟩ 1,by simp_all[convert,run_underlying,markStringish,Result.andThen],⟨f4,Y,U,by grind,λk O=>(f2 k zO).trans ((ek w _).block k O)⟩,Qn.bytes (B:=0) ⟨_,_,_,_,rfl,Nat.zero_le _,f1,.inr rfl,s,H,hm⟩,by rw[f3];simp⟩
theorem R4{b:L8}{u:Value}{w:a8}(h:eu b u w)(t:TypeId):eD [b] (.slice (gu ⟨w.heap.size,0,hj⟩) 1 1) (w.alloc (.cells #[u] t)):=by
 have s:=Box.new w t #[u];refine⟨_,_,rfl,gn _,by decide,λ_=>⟨_,0,rfl,s.lt,λj F d=>?_⟩⟩
 match j,d with
 |0,d=>cases d;exact⟨u,s.at_ 0 rfl,VP.st _ _ _ _ h (ek _ _)⟩
theorem R5{b c d:L8}{u v x:Value}{w:a8}(h1:eu b u w)(J:eu c v w)(H:eu d x w)(t:TypeId):eD [b,c,d] (.slice (gu ⟨w.heap.size,0,hj⟩) 3 3) (w.alloc (.cells #[u,v,x] t)):=by
 have E:=Box.new w t #[u,v,x];refine⟨_,_,rfl,gn _,by decide,λ_=>⟨_,0,rfl,E.lt,λj F s=>?_⟩⟩
 match j,s with
 |0,s=>cases s;exact⟨u,E.at_ 0 rfl,VP.st _ _ _ _ h1 (ek _ _)⟩
 |1,s=>cases s;exact⟨v,E.at_ 1 rfl,VP.st _ _ _ _ J (ek _ _)⟩
 |2,s=>cases s;exact⟨x,E.at_ 2 rfl,VP.st _ _ _ _ H (ek _ _)⟩
theorem R6(w:a8):eP xN (.slice (gu ⟨w.heap.size,0,hj⟩) 3 3) (w.alloc (.cells #[iV 4,iV 1,iV 4,iV 0,iV 5,iV 2] 50)):=by
 have d:=Box.new w 50 #[iV 4,iV 1,iV 4,iV 0,iV 5,iV 2];refine⟨_,_,rfl,gn _,by decide,λ_=>⟨_,0,rfl,d.lt,λj s=>?_⟩⟩
 match j,s with
 |0,_=>exact⟨d.at_ 0 rfl,d.at_ 1 rfl⟩
 |1,_=>exact⟨d.at_ 2 rfl,d.at_ 3 rfl⟩
 |2,_=>exact⟨d.at_ 4 rfl,d.at_ 5 rfl⟩
theorem dU(w:a8):hh hg 10 #[] w (eB w (eC (.bool hd))):=by
 obtain⟨w1,aG,ay,ap,aC⟩:=run_mark (P:=hg) w 43 5 [104,101] #[.int .u8 104,.int .u8 101] 2 rfl rfl zD zD e1 gw;obtain⟨w2,aF,ak,ao,aB⟩:=run_mark (P:=hg) w1 43 5 [115,104,101] #[.int .u8 115,.int .u8 104,.int .u8 101] 3 rfl rfl zD zD e1 gw;obtain⟨w3,aE,U,an,aA⟩:=run_mark (P:=hg) w2 43 5 [104,101,114] #[.int .u8 104,.int .u8 101,.int .u8 114] 3 rfl rfl zD zD e1 gw;have hP:=R5 (VP.st _ _ _ _ ap (ak.tr U)) (VP.st _ _ _ _ ao U) an 43;have HP:=hide hP;have OZ:=hide (((ay.tr ak).tr U).tr (ek w3 (.cells #[.slice (gu ⟨w.heap.size,0,hj⟩) 2 2,.slice (gu ⟨w1.heap.size,0,hj⟩) 3 3,.slice (gu ⟨w2.heap.size,0,hj⟩) 3 3] 43)));have HC:=hide (xL _ _ hP);clear hP ay ak U ap ao an aC aB aA;go_enter func10,ntmps10;go_wp2_with fail;refine HC.out.mono ?_;rintro _ w5 ⟨_,rfl,aj,gs,rfl,ar⟩;have OX:=hide (OZ.out.tr aj);have OQ:=hide (VP.st _ _ _ _ HP.out aj);have TE:=hide ar;clear HC HP OZ aG aF aE aj ar;obtain⟨w6,aD,aw,am,az⟩:=run_mark (P:=hg) w5 43 5 [117,115,104,101,114,115] #[.int .u8 117,.int .u8 115,.int .u8 104,.int .u8 101,.int .u8 114,.int .u8 115] 6 rfl rfl zD zD e1 gw;have au:=R4 am 43;have aq:=aw.tr (ek w6 (.cells #[.slice (gu ⟨w5.heap.size,0,hj⟩) 6 6] 43));have T:=aq.tr (ek (w6.alloc (.cells #[.slice (gu ⟨w5.heap.size,0,hj⟩) 6 6] 43)) (.cells #[iV 2,iV 3,iV 2,iV 1,iV 1,iV 2,iV 0,.bool dt,.slice (gu ⟨w6.heap.size,0,hj⟩) 1 1,nS,nS,.int .u8 3,.int .u32 0,iV (-1),iV (-1),iV 300] 33));have d:=Box.new (w6.alloc (.cells #[.slice (gu ⟨w5.heap.size,0,hj⟩) 6 6] 43)) 33 #[iV 2,iV 3,iV 2,iV 1,iV 1,iV 2,iV 0,.bool dt,.slice (gu ⟨w6.heap.size,0,hj⟩) 1 1,nS,nS,.int .u8 3,.int .u32 0,iV (-1),iV (-1),iV 300];rw[a7]at d;have TH:=hide (OX.out.tr T);have WK:=hide (VP.st _ _ _ _ OQ.out T);have VB:=hide (VP.st _ _ _ _ au (ek _ (.cells #[iV 2,iV 3,iV 2,iV 1,iV 1,iV 2,iV 0,.bool dt,.slice (gu ⟨w6.heap.size,0,hj⟩) 1 1,nS,nS,.int .u8 3,.int .u32 0,iV (-1),iV (-1),iV 300] 33)));have Pv:=hide (TE.out.ext T);have OV:=hide d;have HSc:=hide (G9 gs _ _ Pv.out VB.out);unfold DS at HSc;clear az am au aw aq T OX OQ TE;have k0:=d.at_ 0 rfl;have k1:=d.at_ 1 rfl;have k2:=d.at_ 2 rfl;have k3:=d.at_ 3 rfl;have k4:=d.at_ 4 rfl;have k5:=d.at_ 5 rfl;have k6:=d.at_ 6 rfl;have k7:=d.at_ 7 rfl;have k8:=d.at_ 8 rfl;have k9:=d.at_ 9 rfl;have ai:=d.at_ 10 rfl;have ah:=d.at_ 11 rfl;have ag:=d.at_ 12 rfl;have af:=d.at_ 13 rfl;have ae:=d.at_ 14 rfl;have ad:=d.at_ 15 rfl;clear d;go_wp2_with fail;refine HSc.out.mono ?_;rintro _ w9 ⟨_,rfl,av,Y⟩;obtain⟨_,_,rfl,⟨a0,a1,r1,r2,r3,r4,r5,vh,rfl,hH⟩,rfl⟩:=eR.inv2 Y;obtain⟨Ah,ch,rfl,-⟩:=eP.form hH;have H:=av.tr (ek w9 (.cells #[.int .u8 a0,iV a1,.slice Ah xN.length ch,iV 30,iV r1,iV r2,iV r3,iV r4,iV r5] 40));have TJ:=hide (VP.st _ _ _ _ hH (ek w9 (.cells #[.int .u8 a0,iV a1,.slice Ah xN.length ch,iV 30,iV r1,iV r2,iV r3,iV r4,iV r5] 40)));have qx:=hide (Box.new w9 40 #[.int .u8 a0,iV a1,.slice Ah xN.length ch,iV 30,iV r1,iV r2,iV r3,iV r4,iV r5]);have TK:=hide (TH.out.tr H);have pq:=hide (OV.out.ext H);have WL:=hide (Pa _ _ _ (VP.st _ _ _ _ WK.out H) (VP.st _ _ _ _ VB.out H));clear aD HSc TH WK VB Pv OV av Y hH H k0 k1 k2 k3 k4 k5 k6 k7 k8 k9 ai ah ag af ae ad;have k0:=pq.out.at_ 0 rfl;have k1:=pq.out.at_ 1 rfl;have k2:=pq.out.at_ 2 rfl;have k3:=pq.out.at_ 3 rfl;have k4:=pq.out.at_ 4 rfl;have k5:=pq.out.at_ 5 rfl;have k6:=pq.out.at_ 6 rfl;have k7:=pq.out.at_ 7 rfl;have k8:=pq.out.at_ 8 rfl;have k9:=pq.out.at_ 9 rfl;have ai:=pq.out.at_ 10 rfl;have ah:=pq.out.at_ 11 rfl;have ag:=pq.out.at_ 12 rfl;have af:=pq.out.at_ 13 rfl;have ae:=pq.out.at_ 14 rfl;have ad:=pq.out.at_ 15 rfl;go_wp2_with fail;refine WL.out.mono ?_;rintro _ ab ⟨_,rfl,aa,Y⟩;obtain⟨_,_,rfl,⟨b0,b1,s0,s1,s2,s3,s4,s5,Bh,bn,bc,Cb,cn,cc,De,dn,dc,Ec,ec,rfl⟩,rfl⟩:=eR.inv2 Y;have E:=aa.tr (ek ab (.cells #[.int .u8 b0,iV b1,.slice Bh bn bc,iV s0,iV s1,iV s2,iV s3,iV s4,iV s5,.slice Cb cn cc,.slice De dn dc,.slice Ec 1 ec] 80));have TL:=hide (Box.new ab 80 #[.int .u8 b0,iV b1,.slice Bh bn bc,iV s0,iV s1,iV s2,iV s3,iV s4,iV s5,.slice Cb cn cc,.slice De dn dc,.slice Ec 1 ec]);have TM:=hide (TK.out.tr E);have DT:=hide (pq.out.ext E);have R7:=hide (qx.out.ext E);have TN:=hide (VP.st _ _ _ _ TJ.out E);have TG:=hide (R3 (ab.alloc (.cells #[.int .u8 b0,iV b1,.slice Bh bn bc,iV s0,iV s1,iV s2,iV s3,iV s4,iV s5,.slice Cb cn cc,.slice De dn dc,.slice Ec 1 ec] 80)));clear WL TK pq qx TJ aa Y E k0 k1 k2 k3 k4 k5 k6 k7 k8 k9 ai ah ag af ae ad;have k0:=DT.out.at_ 0 rfl;have k1:=DT.out.at_ 1 rfl;have k2:=DT.out.at_ 2 rfl;have k3:=DT.out.at_ 3 rfl;have k4:=DT.out.at_ 4 rfl;have k5:=DT.out.at_ 5 rfl;have k6:=DT.out.at_ 6 rfl;go_wp2_with fail;refine TG.out.mono ?_;rintro _ al ⟨_,rfl,s,Y⟩;obtain⟨_,_,rfl,rfl,rfl⟩:=eR.inv2 Y;have TO:=hide (TM.out.tr s);have t2:=(R7.out.ext s).at_ 2 rfl;have t3:=(R7.out.ext s).at_ 3 rfl;have J:=ek al (.cells #[iV 4,iV 1,iV 4,iV 0,iV 5,iV 2] 50);have VC:=hide (F4 xN xN _ _ _ (VP.st _ _ _ _ TN.out (s.tr J)) (R6 al));rw[show decide (xN=xN)=hd from decide_eq_true rfl]at VC;have TP:=hide (TO.out.tr J);have TQ:=hide (TL.out.ext (s.tr J));clear TG TM DT R7 TN TL TO s Y J k0 k1 k2 k3 k4 k5 k6;go_wp2_with fail;refine VC.out.mono ?_;rintro _ aH ⟨_,rfl,O,rfl⟩;have VD:=hide (TP.out.tr O);have aI:=(TQ.out.ext O).at_ 11 rfl;clear VC TP TQ O t2 t3;go_wp2;go_ret;exact eB.mk VD.out rfl
end
end
def tE(r:qC)(rs:LL)(s:List Bool)(d:List Int):Rn:=⟨⟨r.cf.workers.toNat,r.cf.block.toNat,r.cf.ring.toNat,r.cf.queue.toNat,r.cf.out.toNat,r.cf.slice.toNat,r.cf.kX.toNat⟩,r.broken,rs,s,d,⟨r.kind.toNat,r.seed.toNat,r.last⟩,r.cancel,r.most.toNat⟩
theorem xM{c:o8}(h:iA c=hd):1≤c.workers∧c.workers≤8∧1≤c.block∧c.block≤256∧1≤c.ring∧c.ring≤16∧1≤c.queue∧c.queue≤16∧1≤c.out∧c.out≤16∧1≤c.slice∧c.slice≤256∧0≤c.kX∧c.kX≤4611686018427387904:=by
 simp_all[iA,nI,Bool.and_eq_true,decide_eq_true_eq]
theorem qt{r:qC}(h:yi r=0):iA r.cf=hd∧0≤r.most∧r.most≤100000∧r.kind<5:=by
 grind[yi]
theorem Pb{r:qC}(rs:LL)(E:List Bool)(d:List Int)(h:yi r=0)(hs:0≤r.seed)(H:0≤r.kind)(vr va vp:Value):xG r vr va vp=xP (tE r rs E d) vr va vp:=by
 obtain⟨s,U,T,O⟩:=qt h;have J:=xM s;grind[xG,xP,tE,Int.toNat_of_nonneg]
theorem Pd{r:qC}(rs:LL)(s:List Bool)(d:List Int)(h:yi r=0)(_:0≤r.kind):pV (tE r rs s d).cf∧(tE r rs s d).plan.kind<5∧(tE r rs s d).most≤100000:=by
 obtain⟨E,U,T,O⟩:=qt h;have J:=xM E;unfold tE;refine⟨?_,by grind,by grind⟩;constructor<;>simp only<;>omega
theorem Ha:∀(d:LL),gS d≤100→d.flatten.length≤100∧∀b∈d,b.length≤100
 |[],_=>⟨by simp,λb E=>by cases E⟩
 |x::d,h=>by
  unfold gS at h;simp only[List.map_cons,List.sum_cons]at h;obtain⟨H,T⟩:=Ha d (by grind[gS]);have s:x.length≤100:=zO;have O:x.length+d.flatten.length≤100:=by
   have:d.flatten.length≤(d.map λx=>min x.length 200).sum:=by
    clear h H s
    induction d with
    |nil=>simp
    |cons y l J=>
     grind
   omega
  grind
structure VE(f:Bool)(ws:LL)(r:qC)(rs:LL)(na np:Nat):Prop where
 right:eS f ws=hd
 run:yi r=0
 n:rs.length≤40
 flat:rs.flatten.length≤100
 each:∀b∈rs,b.length≤100
 an:na≤20
 np:np≤400
 most:r.most≤1500
theorem Nl{f:Bool}{ws:LL}{r:qC}{rs:LL}{E s:Nat}(h:RS f ws r rs E s=hd):VE f ws r rs E s:=by
 unfold RS at h;simp only[Bool.and_eq_true,Bool.not_eq_true',decide_eq_true_eq]at h;obtain⟨⟨⟨-,O⟩,d⟩,H⟩:=h;unfold F5 at d;have d:=of_decide_eq_false d;simp only[not_or,Nat.not_lt]at d;obtain⟨a1,J,a3,Y,a5⟩:=d;obtain⟨b1,b2,b3,b4⟩:=qt H;rw[List.take_of_length_le zO]at J;obtain⟨U,T⟩:=Ha rs J;exact⟨O,H,a1,U,T,a3,Y,by omega⟩
end Go.Proofs.YtofgfpffcegioaaGreat
