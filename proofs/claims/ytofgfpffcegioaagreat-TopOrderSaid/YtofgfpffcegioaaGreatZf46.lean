/- A part of the proof. -/
import Derived.Test.YtofgfpffcegioaaGreatZf45
set_option maxRecDepth 100000
set_option maxHeartbeats 8000000
namespace Go.Proofs.YtofgfpffcegioaaGreat
open Go.RowKit Go.Shelf Go.Sort iT jH fq Go.Proofs.Tryz
open _root_.Array renaming getElem?_eq_some_iff → ev,replicate_succ → gq,replicate_zero → gu
open Bool renaming false → gn,true → gW
open _root_.Go renaming undef → hJ,wpAnyH_take → ea,World → ef,wpAnyH_ready → en,Value → e8,wpList_nil → fa,execOp → fb,callsIn_wide → fv,Calls → gp,Oper → gx
open Go.Act renaming put → ej
open Go.AllReadyH renaming cons → eb,nil → eg
open Go.Oper renaming semAt_some → gl
open Go.Operand renaming tmp → hF
open Go.Proofs.Tryz renaming ntmps60 → fl,prog → fs,underlying38 → hI,underlying50 → fW,func60 → gd
open Go.Value renaming bool → er,int → hG
open Go.World renaming size_alloc → ei
open List renaming setIfInBounds_toArray → bs,set_cons_zero → bm,set_cons_succ → b4,take_succ_eq_append_getElem → e9,append_toArray → gw
open Nat renaming lt_of_lt_of_le → b8,le_trans → fg,le_refl → hd,zero_le → hf
open Option renaming none → hh,some → et
open Or renaming inl → eo
section
attribute [local go_sem] gl
section
variable {X:RX} {S:List UInt8→List Nat} {text:List UInt8}
theorem Bg{s:St}{w d:ef}{t:ez}{v:e8}{c:Cf}(J:Ext w d)(E:jv d w.heap.size v ((s.enabled c).map λk:Nat=>(k:Int))):Held (eT (s.enabled c)) v d (t.up w.heap.size 0):=
 Held.new E.ints J (λk H=>by
  rcases E.2 with⟨rfl,-⟩|⟨g,T,O,rfl,Y,U,-⟩
  ·cases H
  grind[Value.ownBlock,ev]) t
theorem all1_in(s:X.Ok)(n:Nat)(hn:1≤n)(w:ef):ve Fence.wide n fs 106 #[gP X.bb] (λx:Nat×List Nat×Nat×Option Addr×Nat=>#[.agg #[.slice x.2.2.2.1 x.2.1.length x.2.2.2.2,vN x.2.2.1]]) (X.A S text) (X.M S text) (X.Z S text) X.N w:=by
 intro R W T hN aH hY hA hR;have aR:prog.follows .mixedOrders=true:=by rfl
 have HY:=hide hY;have HRs:=hide aH;have HX:=hide s;clear hY T aH s;refine callsIn_of_wp func106 rfl trivial ?_ rfl;simp only[ntmps106,List.size_toArray,List.length_cons,List.length_nil,Nat.reduceAdd,Nat.reduceSub,gq,gu,List.push_toArray,gw,List.nil_append,List.cons_append];gi_wp2
 gi_loopw [] (λwr=>∃(g:fq.Go) (t:ez),Hid (X.At S text g)∧Hid (jU X g.s g.plan g.turns g.live wr t)∧Hid (R wr)∧X.N+1<wr.heap.size)
  (λwr=>match wr.cell? ⟨X.gr,17,hh⟩with|some (.slice _ n _)=>X.r.most-n|_=>0)
 case atStart=>
  obtain⟨g,t,H,-,h2⟩:=hA;exact⟨g,t,H,h2,hR,hN⟩
 case round=>
  clear hA hR hN;obtain⟨g,t,HA,HW,HR,hN⟩:=hrel;obtain⟨A,c,hb,hT⟩:=HW.out.row;have aC:=HW.out.var;have d:=aC.2.at_ 0 rfl;have O:=hb.2.at_ 16 rfl;have J:=hb.2.at_ 17 rfl;have ak:=hb.2.at_ 15 rfl;have UN:=hide J;have aa:=hide (λW (T:Ext wr W)=>xt (HW.out.pool.extend T) HX.out.w8);have aU:g.turns.length≤100000:=fg HA.out.le HX.out.most;clear hT aC hb;cases ho:g.s.over with
  |true=>
   rw[ho]at aa;have HZ:=hide (HA.out.stop (.inl ho))
   gi_upto_region 0 with(fail)
   refine fR fe (λh=>by obtain⟨_,_,h⟩:=h;obtain⟨⟨_,h⟩,-⟩:=h;cases h) zR 19 zR zK ?_;refine ed.gG 223 _ rfl wA oA (λ_=>by rfl) d (eh _) ?_;refine .rc 0 6 0 ?_;refine .rd 1 7 0 ?_;refine ed.gG 53 _ rfl wA oA (λ_=>by rfl) O (eh _) ?_;refine ed.gz 22 _ _ rfl (enters_of func22 zR rfl) wA oA (F:=eC (.bool gW)) (λ_ W s H=>by cases H;exact aa.out W ((eh _).tr s)) ?_;refine ed.Su rfl ?_;refine ed.BN _ _ rfl wA oA rfl ?_;refine .rm 5 11 0 ?_;refine ed.skip wA ?_;refine ed.skip wA ?_;refine ed.skip wA ?_;refine ed.skip wA ?_;refine ed.skip wA ?_;refine ed.skip wA ?_;refine ed.skip wA ?_;refine ed.skip wA ?_;refine ed.skip wA ?_;refine ed.skip wA ?_;refine ed.skip wA ?_;refine ed.Gq _ _ _ rfl wA oA (eE _) ?_;refine⟨rfl,λW0 Y=>?_⟩;iterate 19 refine ew.eq ?_
   refine ew.nil ?_;simp only[ej,bs,bm,b4];have s:=(eh wr).tr Y;have HW2:=hide (HW.out.ext s);have HR2:=hide (HRs.out _ _ HR.out (Two.ext s hN));clear Y s d O J ak;refine fa ?_;gi_wp2_with fail
   go_end0
   exact⟨⟨_,rfl⟩,⟨g,t,HZ.out,HA.out.run,HW2.out⟩,HR2.out⟩
  |false=>
   rw[ho]at aa;by_cases ap:g.turns.length<X.r.most
   ·have af:(g.turns.length:Int)<(X.r.most:Int):=zO
    gi_upto_region 0 with(fail)
    refine fR fe (λh=>by obtain⟨_,_,h⟩:=h;obtain⟨⟨_,h⟩,-⟩:=h;cases h) zR 19 zR zK ?_;refine ed.gG 223 _ rfl wA oA (λ_=>by rfl) d (eh _) ?_;refine .rc 0 6 0 ?_;refine .rd 1 7 0 ?_;refine ed.gG 53 _ rfl wA oA (λ_=>by rfl) O (eh _) ?_;refine ed.gz 22 _ _ rfl (enters_of func22 zR rfl) wA oA (F:=eC (.bool gn)) (λ_ W s H=>by cases H;exact aa.out W ((eh _).tr s)) ?_;refine ed.Po rfl ?_;refine ed.BN _ _ rfl wA oA rfl ?_;refine .rm 5 11 0 ?_;refine ed.gG 223 _ rfl wA oA (λ_=>by rfl) d (eh _) ?_;refine ed.nilCheck _ rfl wA oA ?_;refine ed.gF (hF 14) wA oA (λρ w T H=>by simp[fb,H,go_sem];rfl) ?_;refine ed.gG 130 _ rfl wA oA (λ_=>by rfl) J (eh _) ?_;refine ed.gF (hF 16) wA oA (λρ w T H=>by simp[H,go_sem];rfl) ?_;refine ed.gG 223 _ rfl wA oA (λ_=>by rfl) d (eh _) ?_;refine ed.nilCheck _ rfl wA oA ?_;refine ed.gF (hF 19) wA oA (λρ w T H=>by simp[fb,H,go_sem];rfl) ?_;refine ed.gF (hF 20) wA oA (λρ w T H=>by simp[fb,H,go_sem];rfl) ?_;refine ed.gG 3 _ rfl wA oA (λ_=>by rfl) ak (eh _) ?_;refine ed.qw _ _ _ _ rfl wA oA oA af ?_;refine ed.nj _ _ _ rfl wA oA oA ?_;refine⟨rfl,λW0 Y=>?_⟩;iterate 19 refine ew.eq ?_
    refine ew.nil ?_;simp only[ej,bs,bm,b4];have s:=(eh wr).tr Y;have HW0:=hide (HW.out.ext s);have HR0:=hide (HRs.out _ _ HR.out (Two.ext s hN));have ab:X.N+1<W0.heap.size:=b8 hN s.size;clear Y s d O J ak aa HW HR hN;obtain⟨A,c,hb,-⟩:=HW0.out.row;have d:=HW0.out.var.2.at_ 0 rfl;have an:=hb.2.at_ 14 rfl;have J:=hb.2.at_ 17 rfl;have E:X.r.begun g=if X.r.cancel=(g.turns.length:Int)then g.s.cancel else g.s:=rfl;clear hb;refine fa ?_
    gi_upto_region 1 with(fail)
    by_cases hc:X.r.cancel=(g.turns.length:Int)
    rw[if_pos hc]at E;refine fR fe (λh=>by obtain⟨_,_,h⟩:=h;obtain⟨⟨_,h⟩,-⟩:=h;cases h) zR 11 zR zK ?_;refine ed.gG 223 _ rfl wA oA (λ_=>by rfl) d (eh _) ?_;refine .rc 0 25 0 ?_;refine .rd 1 26 0 ?_;refine .rd 2 27 0 ?_;refine ed.gG 3 _ rfl wA oA (λ_=>by rfl) an (eh _) ?_;refine ed.gG 223 _ rfl wA oA (λ_=>by rfl) d (eh _) ?_;refine .rc 5 30 0 ?_;refine .rd 6 31 0 ?_;refine ed.gG 130 _ rfl wA oA (λ_=>by rfl) J (eh _) ?_;refine .rd 8 33 0 ?_;refine ed.Qi _ _ _ _ rfl wA oA oA hc ?_;refine⟨rfl,λW1 aj=>?_⟩;iterate 11 refine ew.eq ?_
    refine ew.nil ?_;simp only[ej,bs,bm,b4];have s:=(eh W0).tr aj;have HW1:=hide (HW0.out.ext s);have HR1:=hide (HRs.out _ _ HR0.out (Two.ext s ab));have aw:X.N+1<W1.heap.size:=b8 ab s.size;have HC:=hide (xu HW1.out.pool HX.out.w8);clear aj s d an J HW0 HR0 ab;obtain⟨A,c,hb,-⟩:=HW1.out.row;have d:=HW1.out.var.2.at_ 0 rfl;have O:=hb.2.at_ 16 rfl;clear hb;refine fa ?_
    gi_upto_region 3 with(refine⟨trivial,?_⟩;gi_at_call 19;refine(fv.2 HC.out).mono ?_;rintro e w2 ⟨rfl,U⟩;obtain⟨t1,aF,h2⟩:=HW1.out.moves U aw;have HW3:=hide aF;have HR3:=hide (HRs.out _ _ HR1.out h2);have ah:=b8 aw h2.1;clear U aF h2 HC d O HW1 HR1 aw)
    rw[←E]at HW3;have Sh:=hide (show iE X.D S text g.turns.length (X.r.begun g) by rw[E];exact HA.out.run.cancel);clear E hc;rotate_left;rw[if_neg hc]at E;refine fR fe (λh=>by obtain⟨_,_,h⟩:=h;obtain⟨⟨_,h⟩,-⟩:=h;cases h) zR 11 zR zK ?_;refine ed.gG 223 _ rfl wA oA (λ_=>by rfl) d (eh _) ?_;refine .rc 0 25 0 ?_;refine .rd 1 26 0 ?_;refine .rd 2 27 0 ?_;refine ed.gG 3 _ rfl wA oA (λ_=>by rfl) an (eh _) ?_;refine ed.gG 223 _ rfl wA oA (λ_=>by rfl) d (eh _) ?_;refine .rc 5 30 0 ?_;refine .rd 6 31 0 ?_;refine ed.gG 130 _ rfl wA oA (λ_=>by rfl) J (eh _) ?_;refine .rd 8 33 0 ?_;refine ed.zQ _ _ _ _ rfl wA oA oA hc ?_;refine⟨rfl,λW1 aj=>?_⟩;iterate 11 refine ew.eq ?_
    refine ew.nil ?_;simp only[ej,bs,bm,b4];have s:=(eh W0).tr aj;have HW3:=hide (HW0.out.ext s);have HR3:=hide (HRs.out _ _ HR0.out (Two.ext s ab));have ah:X.N+1<W1.heap.size:=b8 ab s.size;clear aj s d an J HW0 HR0 ab;refine fa ?_
    gi_upto_region 3 with(fail)
    rw[←E]at HW3;have Sh:=hide (show iE X.D S text g.turns.length (X.r.begun g) by rw[E];exact HA.out.run);clear E hc;generalize W1=w2 at*;generalize t=t1 at*;all_goals
     obtain⟨A,c,hb,-⟩:=HW3.out.row;have d:=HW3.out.var.2.at_ 0 rfl;have O:=hb.2.at_ 16 rfl;have aK:=hide (Dy HW3.out.pool Sh.out);clear hb
     gi_upto_region 4 with(refine⟨trivial,?_⟩;gi_at_call 42;refine(fv.2 aK.out).mono ?_;rintro e w4 ⟨v,rfl,ai,az⟩)
     have PW:=hide (Bg (t:=t1) ai az);have To:=hide (HW3.out.ext' (t':=t1.up w2.heap.size 0) ai (λk hk=>ez.fB hk) ⟨(ez.fB zO).trans HW3.out.two.1,(ez.fB ah).trans HW3.out.two.2⟩);have HR4:=hide (HRs.out _ _ HR3.out (Two.ext ai ah));have av:X.N+1<w4.heap.size:=b8 ah ai.size;have aJ:(St.enabled X.D.c (X.r.begun g)).length≤1000000:=by
      have H:(St.enabled X.D.c (X.r.begun g)).length≤X.D.c.workers+3:=by
       unfold St.enabled;exact fg (List.length_filter_le _ _) zS
      have:=HX.out.w8;omega
     generalize t1.up w2.heap.size 0=t4 at*;clear ai az d O aK HW3 HR3 ah;obtain⟨L,hL⟩:∃L,St.enabled X.D.c (X.r.begun g)=L:=⟨_,rfl⟩
     have HL:=hide hL;rw[hL]at PW aJ;clear hL;obtain⟨A4,c4,ar,aG⟩:=To.out.row;have d:=To.out.var.2.at_ 0 rfl;obtain⟨Av,cv,rfl,-⟩:=eT.form PW.out.1;have al:=hide (J1 ar.2 L _ PW.out.1 aJ (VP.st _ _ _ _ HX.out.picks To.out.pool.ext) HX.out.Xr zO);have HT4:=hide (And.intro aG ar.1);have Kc:=hide (J2 X.r X.D.M g);have F1:=hide (J3 X.r X.D.M g);have M5:=hide (Bc X.r g.turns.length g.plan L);rw[←HX.out.cf,HL.out]at Kc F1;rw[←HX.out.ans]at F1;clear aG ar;obtain⟨ch,aB⟩:∃ch,gE X.r g.turns.length g.plan L=ch:=⟨_,rfl⟩
     rw[aB]at al Kc F1 M5;clear aB;obtain⟨⟨m,ok⟩,q⟩:=ch;dsimp only at al Kc F1 M5
     gi_upto_region 5 with(refine⟨trivial,?_⟩;gi_at_call 107;refine(fv.2 al.out).mono ?_;rintro e w5 ⟨rfl,ag,aq⟩)
     obtain⟨aE,au⟩:=To.out.pick HX.out HT4.out.1 ag aq av;have OQ:=hide aE;have PX:=hide (HRs.out _ _ HR4.out au);have am:X.N+1<w5.heap.size:=b8 av au.1;have Si:=hide ((Held.keeps (j6 _) 1 _).turn zO zO PW.out (Turn.grown (j:=100) aq (λk e=>by cases e;exact HT4.out.2)));clear aE au ag aq al d To HR4 av PW HT4;cases ok with
     |false=>
      obtain rfl:=M5.out rfl;have HZ:=hide (HA.out.last ho ap (Kc.out rfl));have HF:=hide (λV (T:Ext w5 V)=>(And.intro (OQ.out.ext T) (HRs.out _ _ PX.out (Two.ext T am))));clear Kc F1 M5 PX am Si;gi_wp2_with (first|(refine⟨trivial,?_⟩)|(refine⟨λ_ h=>(by first|(cases h;done)|(cases h;trivial)),?_⟩))
      obtain⟨f1,f2⟩:=HF.out _ (Ext.rf w5);exact bodyPost_ret (results_none results106 _ _ _) rfl ⟨⟨_,rfl⟩,⟨_,t4,HZ.out,Sh.out,f1⟩,f2⟩
     |true=>
      obtain⟨ad,ae⟩:=F1.out rfl;rw[←HL.out]at ae;obtain⟨aA,ao⟩:=tG.1 ae;have HS:=hide (λW (T:Ext w5 W)=>AZ (OQ.out.pool.extend T) Sh.out aA ao);have HM:=hide (λ(V w6:ef) (T:Ext w5 V) (U:eV X.D (St.step X.D.c X.D.M X.D.ans (X.r.begun g) m) V t4 w6)=>by
       obtain⟨t6,aL,aI⟩:=U;obtain⟨h7,h8⟩:=(OQ.out.ext T).MT aL aI (b8 am T.size);have aP:=HRs.out _ _ (HRs.out _ _ PX.out (Two.ext T am)) h8;have aQ:=(Held.keeps (j6 _) 100 _).moves ((Held.keeps (j6 _) 100 _).ext Si.out T) aI zO;exact HY.out (g.turns.length,L,m,Av,cv) w6 ⟨g,_,t6,HA.out,rfl,ho,ap,ad,rfl,rfl,Sh.out.step zO ao,aQ,h7⟩ aP)
      have d:=OQ.out.var.2.at_ 0 rfl;obtain⟨A5,c5,ag,-⟩:=OQ.out.row;have O:=ag.2.at_ 16 rfl;clear ag ae aA ao ad Kc F1 M5 OQ PX Si Sh;gi_wp2_with (first|(refine⟨trivial,?_⟩;gi_at_call 43;refine(fv.2 (HS.out _ (Ext.rf w5))).mono ?_;rintro e w6 ⟨rfl,U⟩;obtain⟨fn,tm,aW,aV,hy,hR⟩:=HM.out _ w6 (Ext.rf w5) U;dsimp only[vN]at hy;have aT:=(show w5.heap.size≤w6.heap.size by obtain⟨_,_,hM⟩:=U;exact hM.size);clear U)|(refine hR.mono ?_;rintro e w7 ⟨rfl,ay,aO,aS⟩))
      obtain⟨g7,t7,ay,aM,aD⟩:=ay;obtain⟨A7,c7,aN,-⟩:=aD.row;refine⟨⟨g7,t7,ay,aD,aO,by omega⟩,?_⟩;rw[aN.2.at_ 17 rfl,UN.out];grind
   ·have af:¬(g.turns.length:Int)<(X.r.most:Int):=zO;have HZ:=hide (HA.out.stop (.inr ap))
    gi_upto_region 0 with(fail)
    refine fR fe (λh=>by obtain⟨_,_,h⟩:=h;obtain⟨⟨_,h⟩,-⟩:=h;cases h) zR 19 zR zK ?_;refine ed.gG 223 _ rfl wA oA (λ_=>by rfl) d (eh _) ?_;refine .rc 0 6 0 ?_;refine .rd 1 7 0 ?_;refine ed.gG 53 _ rfl wA oA (λ_=>by rfl) O (eh _) ?_;refine ed.gz 22 _ _ rfl (enters_of func22 zR rfl) wA oA (F:=eC (.bool gn)) (λ_ W s H=>by cases H;exact aa.out W ((eh _).tr s)) ?_;refine ed.Po rfl ?_;refine ed.BN _ _ rfl wA oA rfl ?_;refine .rm 5 11 0 ?_;refine ed.gG 223 _ rfl wA oA (λ_=>by rfl) d (eh _) ?_;refine ed.nilCheck _ rfl wA oA ?_;refine ed.gF (hF 14) wA oA (λρ w T H=>by simp[fb,H,go_sem];rfl) ?_;refine ed.gG 130 _ rfl wA oA (λ_=>by rfl) J (eh _) ?_;refine ed.gF (hF 16) wA oA (λρ w T H=>by simp[H,go_sem];rfl) ?_;refine ed.gG 223 _ rfl wA oA (λ_=>by rfl) d (eh _) ?_;refine ed.nilCheck _ rfl wA oA ?_;refine ed.gF (hF 19) wA oA (λρ w T H=>by simp[fb,H,go_sem];rfl) ?_;refine ed.gF (hF 20) wA oA (λρ w T H=>by simp[fb,H,go_sem];rfl) ?_;refine ed.gG 3 _ rfl wA oA (λ_=>by rfl) ak (eh _) ?_;refine ed.xT _ _ _ _ rfl wA oA oA af ?_;refine ed.nj _ _ _ rfl wA oA oA ?_;refine⟨rfl,λW0 Y=>?_⟩;iterate 19 refine ew.eq ?_
    refine ew.nil ?_;simp only[ej,bs,bm,b4];have s:=(eh wr).tr Y;have HW2:=hide (HW.out.ext s);have HR2:=hide (HRs.out _ _ HR.out (Two.ext s hN));clear Y s d O J ak;refine fa ?_;gi_wp2_with fail
    go_end0
    exact⟨⟨_,rfl⟩,⟨g,t,HZ.out,HA.out.run,HW2.out⟩,HR2.out⟩
end
end
def xP(r:Rn)(vr va vp:e8):AV:=
 #[iV (r.cf.workers:Int),iV (r.cf.block:Int),iV (r.cf.ring:Int),iV (r.cf.queue:Int),iV (r.cf.out:Int),iV (r.cf.slice:Int),iV (r.cf.kX:Int),.bool r.broken,vr,va,vp,.int .u8 (r.plan.kind:Int),.int .u32 (r.plan.seed:Int),iV r.plan.last,iV r.cancel,iV (r.most:Int)]
section
variable {r:Rn} {vr va vp:e8} {w:ef}
theorem xE(O:pV r.cf)(hm:r.most≤100000)(hk:r.plan.kind<5)(w:ef):gp fs 62 #[.agg (xP r vr va vp)] w (eB w (eC (iV 0))):=by
 have T:=ek w (.cells (xP r vr va vp) 33);have d:=Box.new w 33 (xP r vr va vp);have H:=hide (nF (xz r.cf) (w.alloc (.cells (xP r vr va vp) 33)));rw[DE O]at H;have k0:=d.at_ 0 rfl;have k1:=d.at_ 1 rfl;have k2:=d.at_ 2 rfl;have k3:=d.at_ 3 rfl;have k4:=d.at_ 4 rfl;have Y:=d.at_ 5 rfl;have U:=d.at_ 6 rfl;have J:=hide (And.intro T d);have ae:¬(r.most:Int)<0:=zO;have ad:¬(r.most:Int)>100000:=zO;clear T d O;unfold xP jb xz at*;go_enter func62,ntmps62;go_wp2_with fail;refine H.out.mono ?_;rintro _ w2 ⟨_,rfl,E,rfl⟩;have s:=J.out.2.ext E;have aa:=s.at_ 15 rfl;have ab:=s.at_ 11 rfl;have HE:=hide (J.out.1.tr E);clear k0 k1 k2 k3 k4 Y U s E J H;go_wp2;go_ret;exact eB.mk HE.out rfl
theorem M6(gr:Nat)(w:ef):gp fs 63 #[eF gr] w λe d=>e=.returned (.func (.func 106) #[] #[gP w.heap.size])∧d=w.alloc (.cells #[eF gr] 223):=by
 go_enter func63,ntmps63;go_wp2;go_ret;simp_all
end
section
variable {X:RX} {s s':St} {p p':Pn} {ts:List (List Nat×Nat)} {live:Nat} {W W':ef} {t t':ez} {S:List UInt8→List Nat} {text:List UInt8}
theorem jU.OR(h:jU X s p ts live W t)(o:Obj):Turn 200 W t (W.putObj (X.N+1) o) t:=Turn.grown (grownBy_putObj' W (X.N+1) o) (λk e=>by cases e;exact h.two.2)
theorem RX.Tp(d:X.Ok){x:Option (Nat×List Nat×Nat×Option Addr×Nat)}(h:X.A S text x W)(o:Obj):X.A S text x (W.putObj (X.N+1) o):=by
 obtain⟨g,t,J,H,E⟩:=h;exact⟨g,t,J,H,E.put d o⟩
theorem RX.Tr(d:X.Ok)(h:X.Z S text W)(o:Obj):X.Z S text (W.putObj (X.N+1) o):=by
 obtain⟨g,t,J,H,E⟩:=h;exact⟨g,t,J,H,E.put d o⟩
theorem RX.Ts(E:X.Ok){x:Nat×List Nat×Nat×Option Addr×Nat}(h:X.M S text x W)(o:Obj):X.M S text x (W.putObj (X.N+1) o):=by
 obtain⟨g,g',t,h1,h2,h3,Y,U,T,O,J,H,d⟩:=h;exact⟨g,g',t,h1,h2,h3,Y,U,T,O,J,(Held.keeps (j6 _) 1 _).turn zO zO H (d.OR o),d.put E o⟩
theorem RX.Tt{x:Option (Nat×List Nat×Nat×Option Addr×Nat)}(h:X.A S text x W)(d:Ext W W'):X.A S text x W':=by
 obtain⟨g,t,J,H,E⟩:=h;exact⟨g,t,J,H,E.ext d⟩
theorem RX.Tu{x:Nat×List Nat×Nat×Option Addr×Nat}(h:X.M S text x W)(E:Ext W W'):X.M S text x W':=by
 obtain⟨g,g',t,h1,h2,h3,Y,U,T,O,J,H,d⟩:=h;exact⟨g,g',t,h1,h2,h3,Y,U,T,O,J,(Held.keeps (j6 _) 1 _).ext H E,d.ext E⟩
theorem jU.push(h:jU X s p ts live W t)(hX:X.Ok){A A':Option Addr}{c c':Nat}{O:List e8}(hb:eG 100 X.gr 132 (yd X.r X.vr X.va X.vp X.D.g p (.slice A ts.length c) live) W t)
  (U:O.length=ts.length)(hO:eO 101 137 2 (.slice A ts.length c) ts.length (iO ts O) W t)(hH:∀k,k<ts.length→Held (eT (ts.getD k ([],0)).1) (O.getD k hJ) W t)
  {x:List Nat×Nat}{u:e8}(hu:Held (eT x.1) u W t)(hown:eO 101 137 2 (.slice A' (ts.length+1) c') (ts.length+1) (iO ts O++[u,vN x.2]) W' t')(H:∀k,k<W.heap.size→t' k=t k)
  (T:W.grownBy W' (Value.slice A ts.length c).ownBlock)(hN:X.N+1<W.heap.size) :
  jU X s p (ts++[x]) live (W'.setCell ⟨X.gr,17,hh⟩ (.slice A' (ts.length+1) c')) t'∧Two X.N W (W'.setCell ⟨X.gr,17,hh⟩ (.slice A' (ts.length+1) c')):=by
 have d:Turn 101 W t W' t':=⟨T.os,T.tape,T.output,T.size,λk hk J=>⟨T.block k hk (λe=>J (hO.at_ e.symm).1),H k hk⟩⟩
 have ae:=(eG.keeps _ _ _ _).turn zO zO hb d;have E:Turn 100 W' t' (W'.setCell ⟨X.gr,17,hh⟩ (.slice A' (ts.length+1) c')) t':=Turn.set ae.1 17 _;have ad:=(eG.keeps _ _ _ _).turn zO zO h.var d;have aa:=(eG.keeps _ _ _ _).turn zO zO h.ptr d;have ab:X.pv≠X.gr:=h.ptr.2.AG hb.2 zD;have J:X.bb≠X.gr:=h.var.2.AG hb.2 zD;have hl:(ts++[x]).length=ts.length+1:=by simp
 have n1:t' X.N=200:=(H _ zO).trans h.two.1;have n2:t' (X.N+1)=200:=(H _ hN).trans h.two.2;refine⟨⟨(h.pool.far d zO hX.w8).far E zO hX.w8,⟨A',c',?_,?_⟩,⟨ad.1,ad.2.far (p:=⟨X.gr,17,hh⟩) J _⟩,⟨aa.1,aa.2.far (p:=⟨X.gr,17,hh⟩) ab _⟩,n1,n2⟩,?_⟩
 ·rw[hl];exact ae.gU 17 _ _ rfl
 ·refine⟨O++[u],by simp[U],?_,λk hk=>?_⟩
  ·rw[hl,pY ts O x u U];exact(eO.keeps _ _ _ _ _ _).turn zO zO hown E
  ·have ag:∀{F:List Nat} {v:e8},Held (eT F) v W t→Held (eT F) v (W'.setCell ⟨X.gr,17,hh⟩ (.slice A' (ts.length+1) c')) t':=λhv=>(Held.keeps (j6 _) 1 _).turn zO zO ((Held.keeps (j6 _) 1 _).turn zO zO hv d) E;grind
 ·refine⟨fg T.size (by simp_all),λq hq=>?_⟩;have ah:t q=200:=zG;have Y:q<W.heap.size:=zO;have af:=d.block q Y zO;exact(E.block q (b8 Y d.size) zO).1.trans af.1
theorem jU.OS(h:jU X s p ts live W t)(Y:X.Ok)(d:Nat)(hN:X.N+1<W.heap.size):jU X s p ts d (W.setCell ⟨X.gr,18,hh⟩ (iV d)) t∧Two X.N W (W.setCell ⟨X.gr,18,hh⟩ (iV d)):=by
 obtain⟨A,c,H,hA⟩:=h.row;have E:Turn 100 W t (W.setCell ⟨X.gr,18,hh⟩ (iV d)) t:=Turn.set H.1 18 _;have O:X.bb≠X.gr:=h.var.2.AG H.2 zD;refine⟨⟨h.pool.far E zO Y.w8,⟨A,c,H.gU 18 _ _ rfl,(jt.keeps _ _ _).turn zO zO hA E⟩,⟨h.var.1,h.var.2.far (p:=⟨X.gr,18,hh⟩) O _⟩,⟨h.ptr.1,h.ptr.2.far (p:=⟨X.gr,18,hh⟩) (h.ptr.2.AG H.2 zD) _⟩,h.two⟩,by simp_all,λq U=>?_⟩;have T:t q=200:=by rcases U with rfl|rfl;exact h.two.1;exact h.two.2
 have J:q<W.heap.size:=zO;exact(E.block q J zO).1
end
section
attribute [local go_sem] gl
def D0(o:Rp)(d:e8):AV:=#[.int .u8 (o.kind:Int),iV (o.at_:Int),d,iV (o.turns:Int),iV (o.refused:Int),iV (o.blocks:Int),iV (o.read:Int),iV (o.live:Int),iV (o.window:Int)]
def PY:AV:=#[.int .u8 0,iV 0,nS,iV 0,iV 0,iV 0,iV 0,iV 0,iV 0]
def ez.only(t:ez)(l:List Nat):ez:=λk=>if t k∈l then t k else 0
theorem ez.DH(t:ez)(l:List Nat)(k:Nat):t.only l k=0∨t.only l k∈l:=by
 grind[ez.only]
theorem ez.uI{t:ez}{l:List Nat}{k:Nat}(h:t k∈l∨t k=0):t.only l k=t k:=by
 grind[ez.only]
theorem fh.only{i:Nat}{p:ef→ez→Prop}(h:fh i p){w:ef}{t:ez}(d:p w t){l:List Nat}(hi:i∈l):p w (t.only l):=h w t w (t.only l) d (hd _) λk _ s=>⟨rfl,ez.uI zG⟩
theorem Turn.Tv{i:Nat}{w d:ef}{t t':ez}(h:Turn i w t d t')(E:∀k,k<w.heap.size→t k≠i):Ext w d:=⟨h.os,h.tape,h.output,h.size,λk s=>(h.block k s (E k s)).1⟩
theorem fh.weak{i:Nat}{p:ef→ez→Prop}(h:fh i p){w d:ef}{t:ez}(E:p w t)(s:qY w d):p d t:=h w t d t E s.size λ_ H _=>⟨s.same H,rfl⟩
def oZ(c:Cf)(M:Mc)(ans:List Bool)(d:Bool)(s:LL)(w0:ef)(E:Nat)(D:PS)(w:ef)(t:ez):Prop:=
 D.c=c∧D.M=M∧D.ans=ans∧D.broken=d∧D.w0=w0∧D.jL=E∧ep D (St.start c s) w t
theorem oZ.at_{c:Cf}{M:Mc}{ans:List Bool}{d:Bool}{s:LL}{w0:ef}{Y:Nat}{D:PS}{w H:ef}{t:ez}(h:oZ c M ans d s w0 Y D w t)(O:qY w H)(J:Ext w0 H):oZ c M ans d s w0 Y D H t:=by
 obtain⟨h1,h2,h3,h4,U,h6,T⟩:=h;have E:=T.ext;rw[U]at E;exact⟨h1,h2,h3,h4,U,h6,T.extend ⟨J.os.trans E.os.symm,J.tape.trans E.tape.symm,J.output.trans E.output.symm,O.size,λk hk=>O.same hk⟩⟩
section
variable {P:Program} {Q:Exit→Act→ef→Prop} {ops:Array gx} {M m:Nat} {a0:Act} {w0:ef} {K:List gx→List VP→Prop} {o:gx} {rest:List gx} {env:List VP}
theorem ed.Rm{z:e8}(t:TypeId)(J:o.op=.alloc t)(E:Want ops M a0 w0 env o gW)(d:(P.info? t).bind (·.zero)=et z)
  (H:ed P Q ops M a0 w0 K m rest (VN w0.heap.size t z.cells::env)):ed P Q ops M a0 w0 K (m+1) (o::rest) env:=
 .new E (λa w O _ _=>by
  cases s:P.info? t with
  |none=>grind
  |some i=>
   simp only[s,Option.bind_some]at d;refine⟨_,w.alloc (.cells z.cells t),?_,ek _ _,w.heap.size,rfl,O.size,Box.new _ _ _⟩;unfold fb;simp[J,Instr.alloc,zeroValue,typeInfo,s,d,Go.newVar,Go.newRow,Sem.run_bind,Sem.run_pure]) H
end
def UO:AV:=#[iV 0,iV 0,iV 0,iV 0,iV 0,iV 0,iV 0,.bool gn,nS,nS,nS,.int .u8 0,.int .u32 0,iV 0,iV 0,iV 0,.pointer hh,nS,iV 0]
theorem Kd(r:Rn)(vr va vp:e8)(d:Nat):prog.built 132 [(0,.agg (xP r vr va vp)),(1,gP d)]=et (yd r vr va vp d r.plan nS 0):=by kernel_rfl
theorem M7{r:Rn}{vr va vp:e8}{H:Nat}{p:Pn}{d:Nat}{A:Option Addr}{n c:Nat}(h1:∃A n c,vr=.slice A n c)(E:∃A n c,va=.slice A n c)(s:∃A n c,vp=.slice A n c):(yd r vr va vp H p (.slice A n c) d).toList.all (λx=>x.oneCell')=true:=by
 obtain⟨_,_,_,rfl⟩:=h1;obtain⟨_,_,_,rfl⟩:=E;obtain⟨_,_,_,rfl⟩:=s;rfl
theorem Tryz.Ro:(prog.info? 137).map (λi=>(i.zero,i.size,i.bytes))=et (et (.agg #[nS,iV 0]),2,32):=by rfl
def Bi(D:PS)(s:St):VP:=⟨λv w=>∃J H E O,v=.agg (DZ D s J H E O)∧eT s.buf.live O w∧(∃A n c,J=.slice A n c)∧(∃A n c,H=.slice A n c)∧(∃A n c,E=.slice A n c),λv w w' h T=>by
 obtain⟨a,b,c,d,h1,Y,U⟩:=h;exact⟨a,b,c,d,h1,VP.wk _ _ _ _ Y T,U⟩⟩
theorem PZ{D:PS}{s:St}{w:ef}{t:ez}{S:L8→List Nat}{text:L8}{n:Nat}(h:ep D s w t)(d:iE D S text n s):gp fs 21 #[gP D.g] w (eB w (Bi D s)):=by
 refine(MX h d.next.1 d.conf.w2 (fg d.good.room.p.qlen d.conf.q2)).mono ?_;rintro e w' ⟨v,rfl,T,J,H,E,O,rfl,h1,h2,⟨A,c,h3⟩,Y⟩;obtain⟨A1,c1,U⟩:=eI h1;exact⟨_,rfl,T,J,H,E,O,rfl,h2.ints,Y,⟨A,_,c,h3⟩,⟨A1,_,c1,U⟩⟩
section
variable {Q:Exit→Act→ef→Prop} {ops:Array gx} {M m:Nat} {a0:Act} {w0:ef} {K:List gx→List VP→Prop} {o:gx} {rest:List gx} {env:List VP}
theorem ed.Rq{D:PS}{s:St}(x:Operand)(ho:o.op=.field 60 x 6)(H:Want ops M a0 w0 env o gW)(hx:fu ops M a0 w0 env o x (Bi D s))
  (O:ed fs Q ops M a0 w0 K m rest (eT s.buf.live::env)):ed fs Q ops M a0 w0 K (m+1) (o::rest) env:=
 .TR x H hx (λU w hE d=>by
  obtain⟨vp,vq,Y,E,d,T,-⟩:=d;have hu:=run_underlying (P:=fs) underlying60;have J:=run_underlying (P:=fs) underlying28;refine⟨E,w,?_,Ext.rf _,T⟩;simp_all[fb,DZ,Instr.field,asAgg,part,isAgg]) O
theorem ed.max2{P:Program}{a b:Nat}(x y:Operand){O:Array TypeId}(s:o.op=.call { callee:=.builtin .max,args:=#[x,y],argTypes:=O })(U:Want ops M a0 w0 env o gW)(hx:fu ops M a0 w0 env o x (eC (iV a)))(T:fu ops M a0 w0 env o y (eC (iV b)))
  (Y:ed P Q ops M a0 w0 K m rest (eC (iV ((max a b:Nat):Int))::env)):ed P Q ops M a0 w0 K (m+1) (o::rest) env:=
 .iu x y U hx T (λρ w _ J H=>by
  unfold fb;by_cases E:(a:Int)<(b:Int)
  ·have e:((max a b:Nat):Int)=(b:Int):=zO;have d:a<b:=zO;rw[e];simp[s,J,H,resolve,builtin,Builtin.max_,Builtin.max2,E,go_sem]
  ·have e:((max a b:Nat):Int)=(a:Int):=zO;have d:¬a<b:=zO;rw[e];simp[s,J,H,resolve,builtin,Builtin.max_,Builtin.max2,E,go_sem]) Y
end
def Xs(o:Rp)(B:Nat)(hs:Hits):VP:=⟨λv w=>∃d,v=.agg (D0 o d)∧mT w B d hs,λv w J h s=>by
 obtain⟨d,H,E⟩:=h;exact⟨d,H,(Dl B hs).wk _ _ _ E s⟩⟩
theorem M8(o:Rp)(A:Option Addr)(n c:Nat):prog.built 40 [(0,DB o.kind o.at_),(1,.slice A n c),(2,iV (o.turns:Int)),(3,iV (o.refused:Int)),(4,iV (o.blocks:Int)),(5,iV (o.read:Int)),(6,iV (o.live:Int)),(7,iV (o.window:Int))]=et (D0 o (.slice A n c)):=by kernel_rfl
section
variable {Q:Exit→Act→ef→Prop} {ops:Array gx} {M m:Nat} {a0:Act} {w0:ef} {K:List gx→List VP→Prop} {o:gx} {rest:List gx} {env:List VP}
theorem ed.OT{B:Nat}{hs:Hits}(p:Rp)(x0 x1 x2 Y U T O J:Operand)(ho:o.op=.build 40 #[(0,x0),(1,x1),(2,x2),(3,Y),(4,U),(5,T),(6,O),(7,J)])
  (hw:Want ops M a0 w0 env o gW)(h0:fu ops M a0 w0 env o x0 (eC (DB p.kind p.at_)))(h1:fu ops M a0 w0 env o x1 (Dl B hs))(h2:fu ops M a0 w0 env o x2 (eC (iV (p.turns:Int))))(h3:fu ops M a0 w0 env o Y (eC (iV (p.refused:Int))))(h4:fu ops M a0 w0 env o U (eC (iV (p.blocks:Int))))(h5:fu ops M a0 w0 env o T (eC (iV (p.read:Int))))
  (h6:fu ops M a0 w0 env o O (eC (iV (p.live:Int))))(h7:fu ops M a0 w0 env o J (eC (iV (p.window:Int))))
  (hr:ed fs Q ops M a0 w0 K m rest (Xs p B hs::env)):ed fs Q ops M a0 w0 K (m+1) (o::rest) env:=
 .new hw (λd w s H E=>by
  have e0:d.eval x0=_:=h0 d w s H E;have e1:=h1 d w s H E;have e2:d.eval x2=_:=h2 d w s H E;have e3:d.eval Y=_:=h3 d w s H E;have e4:d.eval U=_:=h4 d w s H E;have e5:d.eval T=_:=h5 d w s H E;have e6:d.eval O=_:=h6 d w s H E;have e7:d.eval J=_:=h7 d w s H E;obtain⟨A,c,f1⟩:=eI (show mT w B _ hs from e1);refine⟨.agg (D0 p (d.eval x1)),w,?_,Ext.rf _,_,rfl,e1⟩;rw[f1];have hr:=run_build (P:=fs) w 40 #[(0,DB p.kind p.at_),(1,.slice A hs.length c),(2,iV (p.turns:Int)),(3,iV (p.refused:Int)),(4,iV (p.blocks:Int)),(5,iV (p.read:Int)),(6,iV (p.live:Int)),(7,iV (p.window:Int))] _ (M8 p A hs.length c);unfold fb;simp_all) hr
end
theorem F2(r:Rn)(M:Mc)(g:fq.Go)(h:∀x∈g.turns,x.1.Nodup):∀x∈(r.turn M g).2.turns,x.1.Nodup:=by
 unfold Rn.turn;dsimp only;split
 ·exact h
 ·intro x hx;rcases List.mem_append.1 hx with hx|hx
  ·grind
  ·obtain rfl:=List.mem_singleton.1 hx;exact List.Nodup.sublist List.filter_sublist List.nodup_range
theorem zC(r:Rn)(M:Mc):∀(f:Nat) (g:fq.Go),(∀x∈g.turns,x.1.Nodup)→∀x∈(r.run M f g).turns,x.1.Nodup
 |0,g,h=>h
 |f+1,g,h=>by
  unfold Rn.run;split
  ·exact h
  ·split
   ·have d:=F2 r M g h;split
    ·rename_i E s;rw[s]at d;exact zC r M f E d
    grind
   ·exact h
theorem zE(r:Rn)(M:Mc):∀(f:Nat) (g:fq.Go),(r.run M f g).turns.length≤g.turns.length+f
 |0,g=>hd _
 |f+1,g=>by
  unfold Rn.run;split
  ·omega
  ·split
   ·split
    ·rename_i s E;have J:s.turns.length≤g.turns.length+1:=by
      have d:(r.turn M g).2.turns.length≤g.turns.length+1:=by
       unfold Rn.turn;dsimp only;split
       ·show g.turns.length≤_;omega
       ·simp
      rw[E]at d;exact d
     have:=zE r M f s;omega
    ·rename_i s E;have d:(r.turn M g).2.turns.length≤g.turns.length+1:=by
      unfold Rn.turn;dsimp only;split
      ·show g.turns.length≤_;omega
      ·simp
     rw[E]at d;have H:s.turns.length≤g.turns.length+1:=d;omega
   ·omega
end
section
attribute [local go_sem] gl
section
variable {r:Rn} {vr va vp:e8} {w:ef} {M:Mc} {S:List UInt8→List Nat} {gs gm:Nat}
attribute [local irreducible] ew ed in
theorem DI(hM:iM M gm w)(hS:xR M S)(hb:Box w gs 129 #[eF gm])(hc:pV r.cf)(aG:r.most≤100000)(b1:r.plan.kind<5)(aq:eD r.reads vr w)(aV:iZ r.answers va w)(bZ:eQ r.picks vp w)(cm:r.reads.length≤100000)(cn:r.reads.flatten.length≤1000000)(co:∀b∈r.reads,b.length≤1000000)(cK:r.answers.length≤1000000)(cp:r.picks.length≤1000000) :
  gp fs 32 #[gP gs,.agg (xP r vr va vp)] w (eY w λv w'=>∃vh,v=.tuple #[.agg (D0 (r.report M) vh),iV 0]∧mT w' w.heap.size vh (r.report M).hits):=by
 have Rr:=hide (And.intro (show∃A n c,vr=.slice A n c by obtain⟨A,c,rfl,_⟩:=aq;grind) (And.intro (show∃A n c,va=.slice A n c by obtain⟨A,c,rfl,_⟩:=aV;grind) (show∃A n c,vp=.slice A n c by obtain⟨A,c,rfl,_⟩:=bZ;grind)));have HS:=hide (And.intro hM (And.intro hS (And.intro hb (And.intro aq (And.intro aV bZ)))));have HC:=hide hc;have HL:=hide (And.intro cm (And.intro cn (And.intro co (And.intro cK cp))));clear hM hS hb aq aV bZ hc cm cn co cK cp;have cS:=hide (λW=>xE (vr:=vr) (va:=va) (vp:=vp) HC.out aG b1 W);refine ui func32 rfl ?_;simp only[ntmps32,List.size_toArray,List.length_cons,List.length_nil,Nat.reduceAdd,Nat.reduceSub,gq,gu,List.push_toArray,gw,List.nil_append,List.cons_append];go_upto_region 0 with(fail)
 refine KU 2 ?_;refine ed.LM 33 _ rfl wA oA ?_;refine ed.Rm (z:=.agg PY) 40 rfl wA zR (.g ?_);intro W0 cX;refine .any λdy bX=>?_;refine .any λcf bW=>?_;refine .e ?_;obtain⟨U,rfl,dI,E⟩:=bX;obtain⟨g4,rfl,dm,O⟩:=bW;have O:Box W0 g4 40 PY:=O;have Kv:=hide cX;clear cX;go_upto_region 3 with(fail)
 refine KU 2 ?_;refine ed.eU 33 _ rfl wA oA underlying33 rfl zR E (Ext.rf _) ?_;refine ed.gz 62 _ _ rfl (enters_of func62 zR rfl) wA oA (F:=eC (iV 0)) (λ_ W hX h1=>by cases h1;exact cS.out W) (.g ?_);intro W3 bG;have E:=E.ext bG;have O:=O.ext bG;have mS:=hide (Kv.out.tr bG);have Xt:=hide mS.out;have UP:=hide (O);clear bG Kv cS;go_upto_region 6 with(fail)
 have k9:=E.at_ 9 rfl;have H:=hide (MH 3 (λ_=>0) r.answers va (VP.st _ _ _ _ HS.out.2.2.2.2.1 mS.out) HL.out.2.2.2.1);go_upto_region 7 with(refine H.out.mono ?_;rintro e w4 ⟨gk,t4,rfl,aO,bL,aC,ck⟩)
 have cj:∀k,k<W3.heap.size→t4 k=0:=ck;have E:=E.ext aC;have O:=O.ext aC;have cH:=(HS.out.2.2.1.ext mS.out).ext aC;have cD:=cH.at_ 0 rfl;have cC:=E.at_ 7 rfl;have cB:=E.at_ 8 rfl;have ab:=E.lt;have bO:=cH.lt;have aY:=hide (show∀k,(t4.only [3]) k=0∨(t4.only [3]) k=3 from λk=>by
  grind[ez.DH,List.mem_singleton])
 have cP:=hide (show∀k,k<W3.heap.size→(t4.only [3]) k=0 from λk hk=>by
  grind[ez.uI])
 have bQ:=hide (gB.keeps.only bL (l:=[3]) zD);generalize t4.only [3]=tk at*;clear ck cj bL H k9;have cR:=hide (λ(W:ef) (hE:Ext w4 W)=>show gp fs 40 #[.bool r.broken,vr] W λe w'=>∃g t,e=.returned (gP g)∧Ext W w'∧gD 2 g r.broken ⟨r.reads,0⟩ w' t∧gB 3 gk r.answers ⟨[],0⟩ w' t∧(∀k,t k=0∨t k=2∨t k=3∨t k=100)∧(∀k,k<W3.heap.size→t k=0)∧(∀k,w4.heap.size≤k→k<W.heap.size→t k=100)∧(∀k,w'.heap.size≤k→t k=100) by
  have b0:∀k,k<W.heap.size→(tk.up w4.heap.size 100) k≠2:=λk hk e=>by
   by_cases bz:k<w4.heap.size
   ·rw[ez.fB bz]at e;rcases aY.out k with h|h<;>omega
   grind[ez.fJ]
  refine(MG (w:=W) 2 zD (tk.up w4.heap.size 100) b0 r.broken r.reads vr (VP.st _ _ _ _ HS.out.2.2.2.1 ((mS.out.tr aC).tr hE)) HL.out.1 HL.out.2.2.1).mono ?_;rintro e w' ⟨g,t',rfl,-,hs,hT⟩;have bH:=hT.Tv b0;have dk:gB 3 gk r.answers ⟨[],0⟩ W (tk.up w4.heap.size 100):=gB.keeps.ext' bQ.out hE (λk hk=>ez.fB hk);have dj:=gB.keeps.turn zD zD dk hT;have cq:∀k,k<W.heap.size→t' k=(tk.up w4.heap.size 100) k:=λk hk=>(hT.block k hk (b0 k hk)).2;have dh:gD 2 g r.broken ⟨r.reads,0⟩ w' (((t'.only [2,3,100])).up w'.heap.size 100):=gD.keeps.ext' (gD.keeps.only hs (l:=[2,3,100]) zD) (Ext.rf w') (λk hk=>ez.fB hk);have di:gB 3 gk r.answers ⟨[],0⟩ w' (((t'.only [2,3,100])).up w'.heap.size 100):=gB.keeps.ext' (gB.keeps.only dj (l:=[2,3,100]) zD) (Ext.rf w') (λk hk=>ez.fB hk);refine⟨g,((t'.only [2,3,100])).up w'.heap.size 100,rfl,bH,dh,di,λk=>?_,λk hk=>?_,λk h4 hk=>?_,λk hk=>ez.fJ hk⟩
  ·by_cases hk:k<w'.heap.size
   ·rw[ez.fB hk];rcases ez.DH t' [2,3,100] k with h|h
    ·omega
    grind
   grind[ez.fJ]
  ·have bz:k<w4.heap.size:=b8 hk aC.size;have cz:k<W.heap.size:=b8 bz hE.size;have h1:=cq k cz;rw[ez.fB bz,cP.out k hk]at h1;rw[ez.fB (b8 cz bH.size),ez.uI (.inr h1)];exact h1
  grind[ez.fJ,ez.fB,b8,ez.uI])
 have b6:=hide (λ(W:ef) (g:Nat) (t:ez) (hE:Ext w4 W) (h2:gD 2 g r.broken ⟨r.reads,0⟩ W t) (h3:gB 3 gk r.answers ⟨[],0⟩ W t) (h4:∀k,t k=0∨t k=2∨t k=3∨t k=100) (h5:∀k,k<W3.heap.size→t k=0)=>show gp fs 39 #[gP gm,.agg (jb (xz r.cf)),gP g,gP gk] W λe w'=>∃D t',e=.returned (.tuple #[gP D.g,iV 0])∧Ext W w'∧oZ r.cf M r.answers r.broken r.reads W3 gk D w' t'∧(∀k,k<W.heap.size→t' k=t k)∧(∀k,w'.heap.size≤k→t' k=100) by
  refine(DG HC.out (HS.out.1.ext mS.out) (aC.tr hE) h5 h2 h3 (λk _=>by grind)).mono ?_;rintro e w' ⟨D,t',rfl,a1,a2,a3,a4,a5,a6,a7,a8,a9⟩;exact⟨D,t'.up w'.heap.size 100,rfl,a8,⟨a1,a2,a3,a4,a5,a6,a7.qp (Ext.rf w') (λk hk=>ez.fB hk)⟩,λk hk=>(ez.fB (b8 hk a8.size)).trans (a9 k hk),λk hk=>ez.fJ hk⟩)
 clear aY cP bQ;have sY:=hide (λ(V:ef) (hE:Ext w4 V)=>show V.cell? ⟨gs,0,hh⟩=et (gP gm)∧V.cell? ⟨U,0,hh⟩=et (iV (r.cf.workers:Int))∧V.cell? ⟨U,1,hh⟩=et (iV (r.cf.block:Int))∧V.cell? ⟨U,2,hh⟩=et (iV (r.cf.ring:Int))∧V.cell? ⟨U,3,hh⟩=et (iV (r.cf.queue:Int))∧V.cell? ⟨U,4,hh⟩=et (iV (r.cf.out:Int))∧V.cell? ⟨U,5,hh⟩=et (iV (r.cf.slice:Int))∧V.cell? ⟨U,6,hh⟩=et (iV (r.cf.kX:Int))∧V.cell? ⟨U,7,hh⟩=et (.bool r.broken)∧V.cell? ⟨U,8,hh⟩=et vr from⟨(hE.cell (p:=⟨gs,0,hh⟩) bO).trans cD,(hE.cell (p:=⟨U,0,hh⟩) ab).trans (E.at_ 0 rfl),(hE.cell (p:=⟨U,1,hh⟩) ab).trans (E.at_ 1 rfl),(hE.cell (p:=⟨U,2,hh⟩) ab).trans (E.at_ 2 rfl),(hE.cell (p:=⟨U,3,hh⟩) ab).trans (E.at_ 3 rfl),(hE.cell (p:=⟨U,4,hh⟩) ab).trans (E.at_ 4 rfl),(hE.cell (p:=⟨U,5,hh⟩) ab).trans (E.at_ 5 rfl),(hE.cell (p:=⟨U,6,hh⟩) ab).trans (E.at_ 6 rfl),(hE.cell (p:=⟨U,7,hh⟩) ab).trans cC,(hE.cell (p:=⟨U,8,hh⟩) ab).trans cB⟩);have HFin:=hide (λ(V0:ef) (J:Nat) (D:PS) (t5:ez) (hE:Ext w4 V0) (hb:Box V0 J 53 #[.pointer hh]) (am:oZ r.cf M r.answers r.broken r.reads W3 gk D V0 t5) (ht:t5 J=100) (hn:∀k,V0.heap.size≤k→t5 k=100) (hg:w4.heap.size≤J)=>show(λV=>Ext w4 V∧Box V J 53 #[gP D.g]∧oZ r.cf M r.answers r.broken r.reads W3 gk D V t5∧(∀k,V.heap.size≤k→t5 k=100)∧t5 J=100) (V0.setCell ⟨J,0,hh⟩ (gP D.g)) by
  obtain⟨a1,a2,a3,a4,a5,a6,a7⟩:=am;refine⟨Ext.fS hE hg 0 _,hb.eL 0 _,⟨a1,a2,a3,a4,a5,a6,a7.far (Turn.set ht 0 _) zO (by rw[a1];exact HC.out.w2)⟩,λk hk=>hn k (by simp_all),ht⟩)
 clear cD cC cB ab bO;go_upto_region 7 with(fail)
 refine wp_mono (Q:=λe a V=>e=.normal∧∃(J:Nat) (D:PS) (t5:ez) (bV bU bT:e8),a={ tmps:=#[gP gs,.agg (xP r vr va vp),hJ,gP U,gP g4,iV 0,iV 0,gP gk,gP J,iV 0,hJ,hJ,hJ,gP gs,.bool gn,hJ,.agg (xP r vr va vp),iV 0,iV 0,.bool gn,hJ,hJ,.pointer (et ⟨U,9,hh⟩),va,gP gk,bV,gP gs,gP gs,gP gs,gP gm,gP U,.agg (jb (xz r.cf)),.pointer (et ⟨U,7,hh⟩),.bool r.broken,.pointer (et ⟨U,8,hh⟩),vr,bU,gP gk,bT,gP D.g,iV 0,hJ,hJ,hJ,hJ,hJ,hJ,hJ,hJ,hJ,hJ,hJ,hJ,hJ,hJ,hJ,hJ,hJ,hJ,hJ,hJ,hJ,hJ,hJ,hJ,hJ,hJ,hJ,hJ,hJ,hJ,hJ,hJ,hJ,hJ,hJ,hJ,hJ,hJ,hJ,hJ,hJ,hJ,hJ,hJ],defers:=[] }∧Ext w4 V∧Box V J 53 #[gP D.g]∧oZ r.cf M r.answers r.broken r.reads W3 gk D V t5∧(∀k,V.heap.size≤k→t5 k=100)∧t5 J=100) ?reg ?post;case reg=>
  refine wp_region_held_drew (S:=λV=>V.cell? ⟨gs,0,hh⟩=et (gP gm)∧V.cell? ⟨U,0,hh⟩=et (iV (r.cf.workers:Int))∧V.cell? ⟨U,1,hh⟩=et (iV (r.cf.block:Int))∧V.cell? ⟨U,2,hh⟩=et (iV (r.cf.ring:Int))∧V.cell? ⟨U,3,hh⟩=et (iV (r.cf.queue:Int))∧V.cell? ⟨U,4,hh⟩=et (iV (r.cf.out:Int))∧V.cell? ⟨U,5,hh⟩=et (iV (r.cf.slice:Int))∧V.cell? ⟨U,6,hh⟩=et (iV (r.cf.kX:Int))∧V.cell? ⟨U,7,hh⟩=et (.bool r.broken)∧V.cell? ⟨U,8,hh⟩=et vr) zR (sY.out _ (eh w4)) (λhS=>?_);have cd:=eh w4;refine ea (i:=0) (v:=?cf) rfl zK zK zK (λ_ _ _ h=>by cases h.1) (eo ⟨by rfl,?UQ⟩) hS ?UR;case UQ=>intro V hV;go_simp;first|done|with_reducible rfl|rfl
  case UR=>
  simp only[ej,bs];refine ea (i:=1) (v:=?Xu) rfl zK zK zK (λ_ _ _ h=>by cases h.1) (eo ⟨by rfl,?US⟩) hS ?UT;case US=>intro V hV;go_simp;first|done|with_reducible rfl|rfl
  case UT=>
  simp only[ej];refine ea (i:=2) (v:=?Xv) rfl zK zK zK (λ_ _ _ h=>by cases h.1) (eo ⟨by rfl,?UU⟩) hS ?UW;case UU=>intro V hV;go_simp;first|done|with_reducible rfl|rfl
  case UW=>
  simp only[ej];refine ea (i:=3) (v:=?Xw) rfl zK zK zK (λ_ _ _ h=>by cases h.1) (eo ⟨by rfl,?UX⟩) hS ?UY;case UX=>intro V hV;obtain⟨s0,s1,s2,s3,s4,s5,s6,s7,s8,s9⟩:=hV;go_simp;first|done|with_reducible rfl|rfl
  case UY=>
  simp only[ej];refine ea (i:=4) (v:=?Xx) rfl zK zK zK (λ_ _ _ h=>by cases h.1) (eo ⟨by rfl,?UZ⟩) hS ?U0;case UZ=>intro V hV;go_simp;first|done|with_reducible rfl|rfl
  case U0=>
  simp only[ej];refine ea (i:=5) (v:=?Xy) rfl zK zK zK (λ_ _ _ h=>by cases h.1) (eo ⟨by rfl,?U1⟩) hS ?U2;case U1=>intro V hV;obtain⟨s0,s1,s2,s3,s4,s5,s6,s7,s8,s9⟩:=hV;go_simp;first|done|with_reducible rfl|rfl
  case U2=>
  simp only[ej];refine ea (i:=6) (v:=?Xz) rfl zK zK zK (λ_ _ _ h=>by cases h.1) (eo ⟨by rfl,?U3⟩) hS ?U5;case U3=>intro V hV;go_simp;first|done|with_reducible rfl|rfl
  case U5=>
  simp only[ej];refine ea (i:=7) (v:=?XA) rfl zK zK zK (λ_ _ _ h=>by cases h.1) (eo ⟨by rfl,?U6⟩) hS ?U7;case U6=>intro V hV;obtain⟨s0,s1,s2,s3,s4,s5,s6,s7,s8,s9⟩:=hV;go_simp;first|done|with_reducible rfl|rfl
  case U7=>
  simp only[ej];refine ea (i:=8) (v:=?XB) rfl zK zK zK (λ_ _ _ h=>by cases h.1) (eo ⟨by rfl,?U8⟩) hS ?U9;case U8=>intro V hV;go_simp;first|done|with_reducible rfl|rfl
  case U9=>
  simp only[ej];refine ea (i:=9) (v:=?Wh) rfl zK zK zK (λ_ _ _ h=>by cases h.1) (eo ⟨by rfl,?Tw⟩) hS ?Tx;case Tw=>intro V hV;obtain⟨s0,s1,s2,s3,s4,s5,s6,s7,s8,s9⟩:=hV;go_simp;first|done|with_reducible rfl|rfl
  case Tx=>
  simp only[ej];refine ea (i:=11) (v:=?Va) rfl zK zK zK (λ_ _ _ h=>by cases h.1) (eo ⟨by rfl,?Rs⟩) hS ?Rt;case Rs=>intro V hV;go_simp;first|done|with_reducible rfl|rfl
  case Rt=>
  simp only[ej];refine en (rs:=[10,16]) zK zS ?_;refine eb rfl (λK H=>?_) (eb rfl (λK H=>?_) eg)
  ·go_simp
   refine(cR.out w4.drew (cd)).mono ?_;rintro _ wa ⟨bJ,ta,rfl,bd,bt,bx,bA,bw,cx,cu⟩;have ad:=(cd).tr bd;refine H.out _ _ (sY.out _ ad) (λd=>?_);clear H K d;refine en (rs:=[12,16]) zK zS ?_;refine eb rfl (λK H=>?_) (eb rfl (λK H=>?_) eg)
   ·go_simp
    refine(b6.out wa bJ ta (ad) (gD.keeps.ext bt (Ext.rf wa)) (gB.keeps.ext bx (Ext.rf wa)) bA bw).mono ?_;rintro _ wb ⟨D,tb,rfl,aK,am,aH,ar⟩;have s:=(ad).tr aK;refine H.out _ _ (sY.out _ s) (λd=>?_);clear H K d;refine ea (i:=13) (v:=?Vb) rfl zK zK zK (λ_ _ _ h=>by cases h.1) (eo ⟨by rfl,?Ru⟩) (sY.out _ (s)) ?Rv;case Ru=>intro V hV;go_simp;first|done|with_reducible rfl|rfl
    case Rv=>
    simp only[ej,bs];refine ea (i:=14) (v:=?Vc) rfl zK zK zK (λ_ _ _ h=>by cases h.1) (eo ⟨by rfl,?Rw⟩) (sY.out _ (s)) ?Rx;case Rw=>intro V hV;go_simp;first|done|with_reducible rfl|rfl
    case Rx=>
    simp only[ej];refine ea (i:=15) (v:=?Vd) rfl zK zK zK (λ_ _ _ h=>by cases h.1) (eo ⟨by rfl,?Ry⟩) (sY.out _ (s)) ?Rz;case Ry=>intro V hV;go_simp;first|done|with_reducible rfl|rfl
    case Rz=>
    simp only[ej];refine en (rs:=[16]) zK zS ?_;refine eb rfl (λK H=>?_) eg
    go_simp
    obtain⟨wc,aF⟩:∃V,wb.alloc (.cells #[.pointer hh] 53)=V:=⟨_,rfl⟩
    try rw[aF]
    obtain⟨J,aI⟩:∃g,wb.heap.size=g:=⟨_,rfl⟩
    try rw[aI]
    have aE:Ext wb wc:=by grind[ek]
    have aU:Box wc J 53 #[.pointer hh]:=by grind[Box.new]
    have bK:wc.heap.size=J+1:=by grind[ei]
    have Y:=(s).tr aE;refine H.out _ _ (sY.out _ Y) (λd=>?_);clear H K d;obtain⟨az,aA⟩:∃t,tb=t:=⟨_,rfl⟩
    rw[aA]at am aH ar;have an:w4.heap.size≤J:=by have:=s.size;omega
    have aj:Box wc J 53 #[.pointer hh]:=aU;have d7:=aj.at_ 0 rfl;have f7:=aj.frozen 0;have HF:=hide (HFin.out wc J D az (Y) aj (am.at_ aE.weak (aC.tr Y)) (ar J zO) (λk hk=>ar k zO) an);refine en (rs:=[17]) zK zS ?_;refine eb rfl (λK H=>?_) eg
    go_simp
    refine H.out _ _ (sY.out _ HF.out.1) (λd=>?_);clear H K d;refine en (rs:=[18]) zK zS ?_;refine eb rfl (λK H=>?_) eg
    go_simp
    refine H.out _ _ (sY.out _ HF.out.1) (λd=>?_);clear H K d;refine wpAnyH_done zR ?_ _;exact⟨rfl,J,D,az,_,_,_,rfl,HF.out⟩
   ·go_simp
    obtain⟨wc,aF⟩:∃V,wa.alloc (.cells #[.pointer hh] 53)=V:=⟨_,rfl⟩
    try rw[aF]
    obtain⟨J,aI⟩:∃g,wa.heap.size=g:=⟨_,rfl⟩
    try rw[aI]
    have aE:Ext wa wc:=by grind[ek]
    have aU:Box wc J 53 #[.pointer hh]:=by grind[Box.new]
    have bK:wc.heap.size=J+1:=by grind[ei]
    have Y:=(ad).tr aE;refine H.out _ _ (sY.out _ Y) (λd=>?_);clear H K d;refine en (rs:=[12]) zK zS ?_;refine eb rfl (λK H=>?_) eg
    go_simp
    refine(b6.out wc bJ ta (Y) (gD.keeps.ext bt (aE)) (gB.keeps.ext bx (aE)) bA bw).mono ?_;rintro _ wb ⟨D,tb,rfl,aK,am,aH,ar⟩;have s:=(Y).tr aK;refine H.out _ _ (sY.out _ s) (λd=>?_);clear H K d;obtain⟨az,aA⟩:∃t,tb=t:=⟨_,rfl⟩
    rw[aA]at am aH ar;have an:w4.heap.size≤J:=by have:=ad.size;omega
    refine ea (i:=13) (v:=?Ve) rfl zK zK zK (λ_ _ _ h=>by cases h.1) (eo ⟨by rfl,?RA⟩) (sY.out _ (s)) ?RB;case RA=>intro V hV;go_simp;first|done|with_reducible rfl|rfl
    case RB=>
    simp only[ej,bs];refine ea (i:=14) (v:=?Vg) rfl zK zK zK (λ_ _ _ h=>by cases h.1) (eo ⟨by rfl,?RC⟩) (sY.out _ (s)) ?RD;case RC=>intro V hV;go_simp;first|done|with_reducible rfl|rfl
    case RD=>
    simp only[ej];refine ea (i:=15) (v:=?Vh) rfl zK zK zK (λ_ _ _ h=>by cases h.1) (eo ⟨by rfl,?RE⟩) (sY.out _ (s)) ?RF;case RE=>intro V hV;go_simp;first|done|with_reducible rfl|rfl
    case RF=>
    simp only[ej];have aj:Box wb J 53 #[.pointer hh]:=aU.ext aK;have d7:=aj.at_ 0 rfl;have f7:=aj.frozen 0;have HF:=hide (HFin.out wb J D az (s) aj (am) ((aH J zO).trans (cu J zO)) (ar) an);refine en (rs:=[17]) zK zS ?_;refine eb rfl (λK H=>?_) eg
    go_simp
    refine H.out _ _ (sY.out _ HF.out.1) (λd=>?_);clear H K d;refine en (rs:=[18]) zK zS ?_;refine eb rfl (λK H=>?_) eg
    go_simp
    refine H.out _ _ (sY.out _ HF.out.1) (λd=>?_);clear H K d;refine wpAnyH_done zR ?_ _;exact⟨rfl,J,D,az,_,_,_,rfl,HF.out⟩
  ·go_simp
   rw[show(w4.alloc (.cells #[.pointer hh] 53)).drew=w4.drew.alloc (.cells #[.pointer hh] 53)from rfl];obtain⟨wc,aF⟩:∃V,w4.drew.alloc (.cells #[.pointer hh] 53)=V:=⟨_,rfl⟩
   try rw[aF]
   obtain⟨J,aI⟩:∃g,w4.heap.size=g:=⟨_,rfl⟩
   try rw[aI]
   have aE:Ext w4.drew wc:=by grind[ek]
   have aU:Box wc J 53 #[.pointer hh]:=by rw[←aF,←aI];exact Box.new w4.drew _ _
   have bK:wc.heap.size=J+1:=by rw[←aF,ei,←aI];rfl
   have Y:=(cd).tr aE;refine H.out _ _ (sY.out _ Y) (λd=>?_);clear H K d;refine en (rs:=[10]) zK zS ?_;refine eb rfl (λK H=>?_) eg
   go_simp
   refine(cR.out wc (Y)).mono ?_;rintro _ wa ⟨bJ,ta,rfl,bd,bt,bx,bA,bw,cx,cu⟩;have ad:=(Y).tr bd;refine H.out _ _ (sY.out _ ad) (λd=>?_);clear H K d;refine en (rs:=[12]) zK zS ?_;refine eb rfl (λK H=>?_) eg
   go_simp
   refine(b6.out wa bJ ta (ad) (gD.keeps.ext bt (Ext.rf wa)) (gB.keeps.ext bx (Ext.rf wa)) bA bw).mono ?_;rintro _ wb ⟨D,tb,rfl,aK,am,aH,ar⟩;have s:=(ad).tr aK;refine H.out _ _ (sY.out _ s) (λd=>?_);clear H K d;obtain⟨az,aA⟩:∃t,tb=t:=⟨_,rfl⟩
   rw[aA]at am aH ar;have an:w4.heap.size≤J:=zO;refine ea (i:=13) (v:=?Vi) rfl zK zK zK (λ_ _ _ h=>by cases h.1) (eo ⟨by rfl,?RG⟩) (sY.out _ (s)) ?RH;case RG=>intro V hV;go_simp;first|done|with_reducible rfl|rfl
   case RH=>
   simp only[ej,bs];refine ea (i:=14) (v:=?Vj) rfl zK zK zK (λ_ _ _ h=>by cases h.1) (eo ⟨by rfl,?RI⟩) (sY.out _ (s)) ?RJ;case RI=>intro V hV;go_simp;first|done|with_reducible rfl|rfl
   case RJ=>
   simp only[ej];refine ea (i:=15) (v:=?Vk) rfl zK zK zK (λ_ _ _ h=>by cases h.1) (eo ⟨by rfl,?RL⟩) (sY.out _ (s)) ?RM;case RL=>intro V hV;go_simp;first|done|with_reducible rfl|rfl
   case RM=>
   simp only[ej];have aj:Box wb J 53 #[.pointer hh]:=(aU.ext bd).ext aK;have d7:=aj.at_ 0 rfl;have f7:=aj.frozen 0;have HF:=hide (HFin.out wb J D az (s) aj (am) ((aH J (by have:=bd.size;omega)).trans (cx J an zO)) (ar) an);refine en (rs:=[17]) zK zS ?_;refine eb rfl (λK H=>?_) eg
   go_simp
   refine H.out _ _ (sY.out _ HF.out.1) (λd=>?_);clear H K d;refine en (rs:=[18]) zK zS ?_;refine eb rfl (λK H=>?_) eg
   go_simp
   refine H.out _ _ (sY.out _ HF.out.1) (λd=>?_);clear H K d;refine wpAnyH_done zR ?_ _;exact⟨rfl,J,D,az,_,_,_,rfl,HF.out⟩
 case post=>
 rintro e a V ⟨rfl,J,D,t5,bV,bU,bT,rfl,bF,ay,cT,dg,dz⟩;have dA:=ay.lt;have E:=E.ext bF;have O:=O.ext bF;have d7:=ay.at_ 0 rfl;go_upto_region 10 with(fail)
 refine KU 4 ?_;refine ed.eU 33 _ rfl wA oA underlying33 rfl zR E (Ext.rf _) (.g ?_);refine ed.AE 132 _ _ rfl wA oA oA (Kd _ _ _ _ _) ?_;refine ed.alloc (z:=.agg UO) 132 rfl wA zR zR (.g ?_);intro dS ae;refine .any λda bq=>?_;refine .e ?_;obtain⟨aa,rfl,hg,hb,-⟩:=bq;refine eK rfl _ _ _ rfl rfl aa _ rfl rfl _ _ hb zR rfl (M7 Rr.out.1 Rr.out.2.1 Rr.out.2.2) ?_;intro RN aD _ hX;have ae:=hX _ ae hg;have cW:=hg;clear hX hb hg;have E:=E.ext ae;have O:=O.ext ae;have ay:=ay.ext ae;go_wp2_with fail;refine(M6 _ _).mono ?_;rintro _ aL ⟨rfl,cg⟩;have bg:Ext w4 RN:=bF.tr ae;have ak:Ext RN aL:=by grind[ek]
 obtain⟨bb,cJ⟩:∃b,RN.heap.size=b:=⟨_,rfl⟩
 obtain⟨N,hN⟩:∃N,aL.heap.size=N:=⟨_,rfl⟩
 have dK:bb+1=N:=by simp_all
 have cI:Box aL bb 223 #[eF aa]:=by grind[Box.new]
 have dn:V.heap.size≤aa:=cW;have dp:aa<bb:=by rw[←cJ];exact aD.lt
 have dJ:V.heap.size≤RN.heap.size:=ae.size;have bf:Ext w4 aL:=bg.tr ak;have E:=E.ext ak;have O:=O.ext ak;have ay:=ay.ext ak;have aD:=aD.ext ak;obtain⟨a1,a2,a3,a4,a5,a6,a7⟩:=cT;have ao:RX.Ok ⟨r,D,aa,bb,N,J,vr,va,vp⟩:=⟨a1,a3,by show(eQ r.picks).p vp D.w0;rw[a5];exact VP.st _ _ _ _ HS.out.2.2.2.2.2 mS.out,HL.out.2.2.2.2,aG,by show D.c.workers≤8;rw[a1];exact HC.out.w2⟩
 have b3:r.reads.flatten.length≤1000000:=HL.out.2.1;have ba:iE D S r.reads.flatten 0 (St.start r.cf r.reads):=by
  refine⟨?_,?_,DV.start r.cf r.reads 0,hf _,?_,b3⟩
  ·rw[a1,a2,a3];exact Good.start HS.out.2.1 (by have:=HC.out.r1;omega) _ _
  ·rw[a2];exact HS.out.2.1
  ·rw[a1];exact HC.out
 have dw:RX.A ⟨r,D,aa,bb,N,J,vr,va,vp⟩ S r.reads.flatten hh aL:=by
  refine⟨r.start,(λk=>if k<N then t5 k else 200),⟨ba,rfl,hf _⟩,λx hx=>(by cases hx),⟨a7.qp (ae.tr ak) (λk hk=>if_pos zO),⟨hh,0,⟨?_,aD⟩,jt.nil _ _ _⟩,⟨?_,cI⟩,⟨?_,ay⟩,if_neg zG,if_neg zG⟩⟩
  ·grind
  ·grind
  grind
 have HF:=hide (And.intro E (And.intro O (And.intro ay (And.intro bf (And.intro a2 (And.intro a6 (And.intro a4 (show w4.heap.size≤N by have:=bf.size;omega))))))));have Wi:=hide a5;clear cg E O ay aD bf ak ae bg ba a1 a2 a3 a4 a5 a6 a7 dg bF aC cI d7;rw[cJ];go_wp2_with fail;refine(wpIn_wide (n:=9)).1 ?_;refine nD (F:=Fence.wide) (A:=RX.A ⟨r,D,aa,bb,N,J,vr,va,vp⟩ S r.reads.flatten) (M:=RX.M ⟨r,D,aa,bb,N,J,vr,va,vp⟩ S r.reads.flatten) (Z:=RX.Z ⟨r,D,aa,bb,N,J,vr,va,vp⟩ S r.reads.flatten) N hN rfl zO (gf:=106) (lb:=#[gP bb]) rfl trivial (enters_of func106 zR rfl) (all1_in (X:=⟨r,D,aa,bb,N,J,vr,va,vp⟩) (S:=S) (text:=r.reads.flatten) ao 8 zO aL)
  (λW h hE=>RX.Tt h hE) (λx W o h _=>RX.Ts ao h o) (λx W o h _=>RX.Tp ao h o) (λW o h _=>RX.Tr ao h o) (λ_=>rfl) dw (λx W W' h hE=>RX.Tu h hE)
  (λx W a W'=>W'=W.alloc (.cells #[.slice x.2.2.2.1 x.2.1.length x.2.2.2.2,iV (x.2.2.1:Int)] 137)∧a={ tmps:=#[gP gs,.agg (xP r vr va vp),hJ,gP U,gP g4,iV 0,iV 0,gP gk,gP J,iV 0,gP aa,gP W.heap.size,hJ,gP gs,.bool gn,hJ,.agg (xP r vr va vp),iV 0,iV 0,.bool gn,hJ,hJ,.pointer (et ⟨U,9,hh⟩),va,gP gk,bV,gP gs,gP gs,gP gs,gP gm,gP U,.agg (jb (xz r.cf)),.pointer (et ⟨U,7,hh⟩),.bool r.broken,.pointer (et ⟨U,8,hh⟩),vr,bU,gP gk,bT,gP D.g,iV 0,iV 0,.bool gn,hJ,hJ,.agg (xP r vr va vp),gP D.g,.agg (yd r vr va vp D.g r.plan nS 0),.func (.func 106) #[] #[gP bb],.agg #[.slice x.2.2.2.1 x.2.1.length x.2.2.2.2,iV (x.2.2.1:Int)],hJ,hJ,hJ,hJ,hJ,hJ,hJ,hJ,hJ,hJ,hJ,hJ,hJ,hJ,hJ,hJ,hJ,hJ,hJ,hJ,hJ,hJ,hJ,hJ,hJ,hJ,hJ,hJ,hJ,hJ,hJ,hJ,hJ,hJ,hJ],defers:=[] }) (λx W a W' h=>by grind[ek]) ?assign ?body ?done
 case assign=>
  intro l x W K H;dsimp only[vN];gi_wp2;all_goals exact H _ _ ⟨rfl,rfl⟩
 case body=>
  rintro x W W' a' o ⟨rfl,rfl⟩ b7 ds;obtain⟨g,g',t,bi,aO,aT,aN,ag,aM,ai,T,hH,hW⟩:=ds;obtain⟨k0,L,m,Av,cv⟩:=x;dsimp only at aO aM hH hW ⊢;obtain⟨i0,dl,dd,dc,db⟩:=info_parts Tryz.Ro;have bB:Box ((W.alloc (.cells #[.slice Av L.length cv,iV m] 137)).putObj (N+1) o) W.heap.size 137 #[.slice Av L.length cv,iV m]:=(World.putObj_heap_other zO).trans (Box.new W _ _);have bc:N+1<((W.alloc (.cells #[.slice Av L.length cv,iV m] 137)).putObj (N+1) o).heap.size:=by rw[World.putObj_size,ei];omega
  obtain⟨V0,cO⟩:∃V0,(W.alloc (.cells #[.slice Av L.length cv,iV m] 137)).putObj (N+1) o=V0:=⟨_,rfl⟩
  rw[cO]at hH hW bB bc ⊢;obtain⟨gt,cA⟩:∃q,W.heap.size=q:=⟨_,rfl⟩
  rw[cA]at bB ⊢;clear cO cA b7;obtain⟨A,c,hb,us,ci,hO,cV⟩:=hW.row;have bj:=hb.2.at_ 17 rfl;have dH:g.turns.length≤100000:=fg (Nat.le_of_lt aN) aG
  gi_upto_region 13 with(fail)
  refine qc (gJ _) (λ⟨_,_,h⟩=>False.elim h) zR 3 zK (.g ?_);refine ed.eU 137 _ rfl wA oA underlying137 rfl zR bB (Ext.rf _) (.g ?_);intro TS bS;have af:=bS.tr (ek TS (.cells #[.slice Av L.length cv,iV m] 137));have cU:=b8 bc af.size;have aP:=(eG.keeps _ _ _ _).ext hb af;have bD:=(eO.keeps _ _ _ _ _ _).ext hO af;have HP:=hide (λ(A':Option Addr) (c':Nat) (w':ef) (t':ez) hown br hg=>(hW.ext af).push ao (x:=(L,m)) (u:=.slice Av L.length cv) aP ci bD (λk hk=>(Held.keeps (j6 _) 1 _).ext (cV k hk) af) ((Held.keeps (j6 _) 1 _).ext hH af) (A':=A') (c':=c') (W':=w') (t':=t') hown br hg cU);have HO:=hide bD;have cw:=aP.lt;have bN:et aa≠(Value.slice A g.turns.length c).ownBlock:=λe=>by
   have h9:=(bD.at_ e.symm).1;have dM:t aa=100:=aP.1;omega
  have cZ:=aP.2.frozen 17;have bj:=aP.2.at_ 17 rfl;have HT0:=hide (Two.ext af bc);have Vl:=hide (And.intro bi (And.intro aT (And.intro aN (And.intro ag (And.intro aM (And.intro ai (And.intro T aO)))))));clear bi aT aN ag aM ai T aO hb hO cV aP bD hH hW bS af bB ci;go_wp2_with(at_builtin;apply fi rfl _ _ 130 rfl 101 t 137 i0 (.agg #[nS,iV 0]) 2 32 underlying130 dl dd dc db rfl zO (.slice A g.turns.length c) (.slice (et ⟨TS.heap.size,0,hh⟩) 1 1) g.turns.length 1 (iO g.turns us) [.slice Av L.length cv,iV m])
  all_goals try rfl
  case hown=>exact HO.out
  case hx=>exact Src.new _ _ _ _
  case h1=>first|exact⟨rfl,rfl⟩|(intro z hz;simp at hz;rcases hz with rfl|rfl<;>rfl)
  case hlen=>omega
  case h=>
   intro v' w2 t2 hown br au dq;obtain⟨A2,c2,rfl⟩:=hown.form;have cZ:=(au.frozen_far ⟨aa,17,hh⟩ cw bN).trans cZ;have bj:=(au.cell_far ⟨aa,17,hh⟩ cw bN).trans bj;have HW3:=hide (HP.out A2 c2 w2 t2 hown (λk hk=>br k (by grind[ei])) au);clear hown br au dq HP HO;go_wp2_with fail
   gi_upto_region 14 with(fail)
   obtain⟨aw,aQ⟩:=HW3.out;generalize w2.setCell ⟨aa,17,hh⟩ (.slice A2 (g.turns.length+1) c2)=w3 at*;obtain⟨A4,c4,bP,-⟩:=aw.row;have ce:=bP.2.at_ 18 rfl;have d8:=aw.ptr.2.at_ 0 rfl;have b9:N+1<w3.heap.size:=b8 cU aQ.1;have aX:=hide (λW (hE:Ext w3 W)=>PZ (aw.pool.extend hE) Vl.out.2.2.2.2.2.2.1);have HW3:=hide (And.intro aw aQ);clear aw aQ bP;refine fR (gJ _) (λ⟨_,_,h⟩=>False.elim h) zR 8 zR zK (.g ?_);refine ed.gz 21 _ _ rfl (enters_of func21 zR rfl) wA oA (F:=Bi D g'.s) (λ_ W hX h1=>by cases h1;exact aX.out W ((eh _).tr hX)) ?_;refine ed.Rq _ rfl wA oA ?_;refine ed.Sv 28 3 _ rfl underlying28 wA oA ?_;refine ed.max2 _ _ rfl wA oA oA (.g ?_);intro dR bR;refine .any λc8 bp=>?_;refine .any λc7 bo=>?_;refine .e ?_;clear bp bo;have aB:=(eh w3).tr bR;obtain⟨aw,aQ⟩:=HW3.out;obtain⟨bi,aT,aN,ag,aM,ai,T,aO⟩:=Vl.out;simp only[List.length_map];rw[←ai];obtain⟨A5,c5,aJ,-⟩:=(aw.ext aB).row;have ce:=aJ.2.at_ 18 rfl;have dN:=aJ.2.frozen 18;have dr:=b8 b9 aB.size;have HL:=hide ((aw.ext aB).OS ao g'.live dr);have HT:=hide ((HT0.out.tr aQ).tr (Two.ext aB b9));have HA:=hide (bi.next aT aN ag zG T);have Hlen:=hide (show g'.turns.length=k0+1 by grind);have Kt:=hide aM;clear aB aw aQ bR HW3 Vl aJ b9 HT0 aX d8 bi aT aN ag aM ai T aO;go_wp2_with fail;obtain⟨av,bC⟩:=HL.out;rw[←Kt.out]at av;exact⟨HT.out.tr bC,g',t2,HA.out,λx hx=>(by cases hx;exact Hlen.out),av⟩
 case done=>
  rintro W hZ cc;obtain⟨g,t,hg,T,hW⟩:=hZ;obtain⟨cG,cF,cE,dt,dv,cY,du,dL⟩:=HF.out;have dB:g.turns.length≤r.most:=by
   grind[zE,Rn.start]
  have ct:∀x∈g.turns,x.1.Nodup:=by
   have:=zC r D.M r.most r.start (λx hx=>by cases hx);grind
  have df:=T.good.Gn;have bY:=T.good.same;have cr:=T.lim.offers;have ah:r.report M=⟨(sV D g.s).1,(sV D g.s).2,g.s.pl.took,g.turns.length,g.s.iG.offers-g.s.iG.took.length,g.s.pl.number,g.s.pl.read,g.live,window g.turns⟩:=by
   grind[Rn.report,sV]
  have cN:Ext w W:=((Xt.out).tr (by have h9:=hW.pool.ext;rw[show D.w0=W3 from Wi.out]at h9;exact h9))
  have Hb4:Box W g4 40 PY:=by
   have h9:=hW.pool.ext;rw[show D.w0=W3 from Wi.out]at h9;exact UP.out.ext h9
  have d8:=hW.ptr.2.at_ 0 rfl;have aX:=hide (λV (hE:Ext W V)=>PZ (hW.pool.extend hE) T);have b7:N<W.heap.size:=(ev.1 cc).1;go_upto_region 15 with(fail)
  refine KU 3 ?_;refine ed.gz 21 _ _ rfl (enters_of func21 zR rfl) wA oA (F:=Bi D g.s) (λ_ W hX h1=>by cases h1;exact aX.out W hX) ?_;refine ed.alloc (z:=.agg kN) 60 rfl wA zR zR (.g ?_);intro dQ al;refine .any λc6 bn=>?_;refine .any λc3 bl=>?_;refine .e ?_;obtain⟨dF,dE,dD,dG,rfl,cy,⟨_,_,_,rfl⟩,⟨_,_,_,rfl⟩,⟨_,_,_,rfl⟩⟩:=bn;obtain⟨dT,dO,rfl,-⟩:=eT.form cy;obtain⟨dx,rfl,hg,hb,-⟩:=bl;refine eK rfl _ _ _ rfl rfl dx _ rfl rfl _ _ hb zR rfl rfl ?_;intro RO bh _ hX;have al:=hX _ al hg;clear hX hb hg;have av:=hW.ext al;have ap:Ext w RO:=cN.tr al;obtain⟨A5,c5,aJ,bC⟩:=av.row;have bj:=aJ.2.at_ 17 rfl;have ce:=aJ.2.at_ 18 rfl;have d8:=av.ptr.2.at_ 0 rfl;have v2:=bh.at_ 2 rfl;have c9:=bh.at_ 11 rfl;have de:D.c.workers≤8:=T.conf.w2;have cQ:=hide (λV (hE:Ext RO V)=>FT (av.pool.extend hE) de);have aY:=hide (λV (hE:Ext RO V)=>(MU (av.pool.extend hE) zO).mono (R':=eB V (Dl w.heap.size g.s.pl.took)) (by
   rintro e w' ⟨v,rfl,bH,ho⟩;exact⟨_,rfl,bH,iY ho (by have:=ap.size;have:=hE.size;omega)⟩))
  have b5:=hide (λV (hE:Ext RO V)=>(AI (av.pool.extend hE).iG zO zG).mono (R':=eB V (eC (iV ((g.s.iG.offers-g.s.iG.took.length:Nat):Int)))) (by
   grind))
  have cM:=hide (λV (hE:Ext RO V)=>CK g.turns (.slice A5 g.turns.length c5) V (VP.st _ _ _ _ bC.turns hE) ct zO);rw[cY]at b5;have Of:=hide (And.intro ap (And.intro ah (al.block N b7 |>.trans cc)));have O:=Hb4.ext al;clear hW cN aX al av aJ bC ct T cc cy bh cG cF cE dt hg bY df cr ah ap Hb4 dv cY du;go_upto_region 16 with(fail)
  refine vQ 19 (.g ?_);refine ed.gz 26 _ _ rfl (enters_of func26 zR rfl) wA oA (F:=eC (DB (sV D g.s).1 (sV D g.s).2)) (λ_ W hX h1=>by cases h1;exact cQ.out W ((eh _).tr hX)) (.g ?_);refine ed.gz 23 _ _ rfl (enters_of func23 zR rfl) wA oA (F:=Dl w.heap.size g.s.pl.took) (λ_ W hX h1=>by cases h1;exact aY.out W ((eh _).tr hX)) (.g ?_);refine ed.gz 64 _ _ rfl (enters_of func64 zR rfl) wA oA (F:=eC (iV ((g.s.iG.offers-g.s.iG.took.length:Nat):Int))) (λ_ W hX h1=>by cases h1;exact b5.out W ((eh _).tr hX)) (.g ?_);refine ed.gz 65 _ _ rfl (enters_of func65 zR rfl) wA oA (F:=eC (iV ((window g.turns:Nat):Int))) (λ_ W hX h1=>by cases h1;exact cM.out W ((eh _).tr hX)) ?_;refine ed.OT (B:=w.heap.size) (hs:=g.s.pl.took) ⟨(sV D g.s).1,(sV D g.s).2,g.s.pl.took,g.turns.length,g.s.iG.offers-g.s.iG.took.length,g.s.pl.number,g.s.pl.read,g.live,window g.turns⟩ _ _ _ _ _ _ _ _ rfl wA oA oA oA oA oA oA oA oA (.g ?_);intro dP be;refine .any λc1 bk=>?_;refine .e ?_;refine .any λc0 aR=>?_;refine .e ?_;clear bk;obtain⟨vh,rfl,bu⟩:=aR;have O:=O.drew.ext be;obtain⟨ap,ah,cb⟩:=Of.out;have aW:=(eh RO).tr be;obtain⟨Ah,ch,rfl⟩:=eI bu;have dC:g4<N:=by have:=HF.out.2.1.lt;omega
  have bc:N<RO.heap.size:=(ev.1 cb).1;obtain⟨rp,aS⟩:∃rp,r.report M=rp:=⟨_,rfl⟩
  rw[aS]at ah;rw[←ah];have bM:(D0 rp (.slice Ah g.s.pl.took.length ch)).toList.all (λx=>x.oneCell')=true:=rfl;refine eK rfl _ _ _ rfl rfl g4 (D0 rp (.slice Ah g.s.pl.took.length ch)) rfl rfl _ _ O zR rfl bM ?_;intro Vf bI aZ cL;have bE:=cL w (ap.tr aW) dm;have ca:=(aZ N zO).trans ((aW.block N bc).trans cb);have bv:mT Vf w.heap.size (.slice Ah g.s.pl.took.length ch) g.s.pl.took:=j8 bu λj hj=>aZ j (λe=>eN bu O zD zG);have b2:rp.hits=g.s.pl.took:=by rw[ah]
  have HZ:=hide (And.intro bE (And.intro bI (And.intro bv (And.intro ca (And.intro b2 aS)))));clear bE bI aZ cL ca bv O be aW bu cQ aY b5 cM Of ap cb d8 bj ce v2 c9 b2 aS ah bM;go_wp2_with fail;obtain⟨bE,bI,bv,ca,b2,aS⟩:=HZ.out;exact oY (base:=N) (λV=>Ext w V∧Box V g4 40 (D0 rp (.slice Ah g.s.pl.took.length ch))∧mT V w.heap.size (.slice Ah g.s.pl.took.length ch) g.s.pl.took)
   (λV V' D ⟨h1,h2,h3⟩ hg hb ho=>⟨h1.grown hg h1.size (λk hk=>by grind),(hg.block g4 h2.lt (λe=>by grind)).trans h2,rE h3 hg (λr e=>by grind)⟩)
   (λV ⟨h1,h2,h3⟩=>⟨.tuple #[.agg (D0 rp (.slice Ah g.s.pl.took.length ch)),iV 0],iB results32 _ _ g4 40 _ _ rfl h2 underlying40 rfl zR,eY.mk h1 ⟨.slice Ah g.s.pl.took.length ch,by rw[aS],by grind⟩⟩) [N] Vf zS (λD hD=>by grind) ⟨bE,bI,bv⟩
end
end
section
section
variable {Q:Exit→Act→ef→Prop} {ops:Array gx} {M m:Nat} {a0:Act} {w0:ef} {K:List gx→List VP→Prop} {o:gx} {rest:List gx} {env:List VP}
theorem ed.P0{p q:Int×Int}{d:TypeId}(x y:Operand)(Y:o.op=.binOp .neq 50 x y d)(T:Want ops M a0 w0 env o gW)(hx:fu ops M a0 w0 env o x (eC (.agg #[iV p.1,iV p.2])))(O:fu ops M a0 w0 env o y (eC (.agg #[iV q.1,iV q.2])))
  (U:ed fs Q ops M a0 w0 K m rest (eC (.bool (decide (p≠q)))::env)):ed fs Q ops M a0 w0 K (m+1) (o::rest) env:=
 .iu x y T hx O (λρ w _ h1 h2=>by
  obtain⟨J,H⟩:=p;obtain⟨E,s⟩:=q;unfold fb;by_cases e1:J=E<;>by_cases e2:H=s<;>simp[Y,h1,h2,e1,e2,go_sem]) U
end
section
variable {w:ef}
theorem uk{hs:Hits}{b d:Nat}{w W:ef}(E:b<w.heap.size)(s:∀j (h:j<hs.length),w.cell? ⟨b,d+j*2,hh⟩=et (iV hs[j].1)∧w.cell? ⟨b,d+j*2+1,hh⟩=et (iV hs[j].2))(O:Ext w W){q:Nat}(J:q<hs.length):∀j v,(#[iV hs[q].1,iV hs[q].2]:AV)[j]?=et v→W.cell? ⟨b,d+q*2+j,hh⟩=et v:=λj v H=>by
 match j with
 |0=>cases H;exact(O.cell (p:=⟨b,d+q*2,hh⟩) E).trans (s q J).1
 |1=>cases H;exact(O.cell (p:=⟨b,d+q*2+1,hh⟩) E).trans (s q J).2
 |j+2=>simp at H
attribute [local irreducible] ew ed in
theorem F4(hs d:Hits)(u v:e8)(w:ef)(hA:eP hs u w)(hB:eP d v w):gp fs 14 #[u,v] w (eB w (eC (.bool (decide (hs=d))))):=by
 obtain⟨A1,c1,rfl,p1,p2,hx⟩:=eP.form hA;obtain⟨A2,c2,rfl,p3,p4,hy⟩:=eP.form hB;unfold maxLen at p2 p4;clear hA hB;by_cases hl:hs.length=d.length
 ·have Hx:=hide hx;have Hy:=hide hy;clear hx hy;have af:¬(hs.length:Int)≠(d.length:Int):=zO;go_enter func14,ntmps14;go_upto_region 4 with(fail)
  go_loopw [5] (λi wr=>∃k:Nat,k≤hs.length∧i=iV k∧Hid (Ext w wr)∧Hid (hs.take k=d.take k)) (λi _=>hs.length-(intOf i).toNat)
  case atStart=>exact⟨0,hf _,rfl,Ext.rf _,rfl⟩
  case round=>
   obtain⟨k,hk,rfl,HE,HA⟩:=hrel;by_cases T:k<hs.length
   ·have s:k<d.length:=zO;obtain⟨b,ah,rfl,ab,J⟩:=Hx.out zO;obtain⟨b2,ag,rfl,aa,E⟩:=Hy.out zO;have Y:=uk ab J HE.out T;have U:=uk aa E HE.out s;have ae:b<wr.heap.size:=b8 ab HE.out.size;have ad:b2<wr.heap.size:=b8 aa HE.out.size;have HT:=hide (λ(e:hs[k]=d[k])=>show hs.take (k+1)=d.take (k+1) by rw[e9 T,e9 s,HA.out,e]);have HF:=hide (λ(e:hs[k]≠d[k])=>show decide (hs=d)=gn from decide_eq_false λh=>e zG);clear J E;generalize hs[k]=x at*;generalize d[k]=y at*;go_upto_region 6 with(fail)
    by_cases H:x=y
    ·skip;refine vQ 9 (.g ?_);refine ed.gT (i:=k) 2 38 50 _ _ rfl hI zR T wA oA oA ?_;refine ed.loadAt 50 _ rfl wA oA fW rfl zR ae Y (eh _) (.g ?_);refine ed.gT (i:=k) 2 38 50 _ _ rfl hI zR s wA oA oA ?_;refine ed.loadAt 50 _ rfl wA oA fW rfl zR ad U (eh _) ?_;refine ed.P0 (p:=x) (q:=y) _ _ rfl wA oA oA (.g ?_);intro W6 O;have hX:=(eh wr).tr O;have JP:=hide (HE.out.tr hX);have hz:decide (x≠y)=false:=by simp[H]
     have ai:=hide (HT.out H);clear hX O Y U HT HF H;refine fa ?_;rw[hz];go_wp2_with(fail)
     grind[intOf]
    ·skip;refine vQ 9 (.g ?_);refine ed.gT (i:=k) 2 38 50 _ _ rfl hI zR T wA oA oA ?_;refine ed.loadAt 50 _ rfl wA oA fW rfl zR ae Y (eh _) (.g ?_);refine ed.gT (i:=k) 2 38 50 _ _ rfl hI zR s wA oA oA ?_;refine ed.loadAt 50 _ rfl wA oA fW rfl zR ad U (eh _) ?_;refine ed.P0 (p:=x) (q:=y) _ _ rfl wA oA oA (.g ?_);intro W6 O;have hX:=(eh wr).tr O;have JP:=hide (HE.out.tr hX);have hz:decide (x≠y)=true:=by simp[H]
     have HF2:=hide (HF.out H);clear hX O Y U HT HF H;refine fa ?_;rw[hz];go_wp2_with(fail)
     go_ret;exact eB.mk JP.out (by rw[HF2.out];rfl)
   ·have e:=hide (show decide (hs=d)=gW from decide_eq_true (by
     have h9:=HA.out;grind))
    clear HA;go_wp2_with(fail)
    go_ret;exact eB.mk HE.out (by rw[e.out];rfl)
 ·have af:(hs.length:Int)≠(d.length:Int):=zO;have e:=hide (show decide (hs=d)=gn from decide_eq_false λh=>hl (by rw[h]));rw[e.out];clear hx hy e;generalize hs.length=n at*;generalize d.length=m at*;go_enter func14,ntmps14;go_wp2_with(fail)
  go_ret;exact eB.mk (Ext.rf _) rfl
end
end
structure qC where
 cf:o8
 broken:Bool
 kind:Int
 seed:Int
 last:Int
 cancel:Int
 most:Int
def xG(r:qC)(vr va vp:e8):AV:=
 #[iV r.cf.workers,iV r.cf.block,iV r.cf.ring,iV r.cf.queue,iV r.cf.out,iV r.cf.slice,iV r.cf.kX,.bool r.broken,vr,va,vp,.int .u8 r.kind,.int .u32 r.seed,iV r.last,iV r.cancel,iV r.most]
def lo2(x y:Int):Int:=if y<x then y else x
def RP(c:o8):Int:=lo2 (lo2 (lo2 (lo2 (lo2 c.workers c.block) c.ring) c.queue) c.out) c.slice
theorem xH(x y:Int):1≤lo2 x y↔1≤x∧1≤y:=by grind[lo2]
theorem RQ(c:o8):RP c≥1↔1≤c.workers∧1≤c.block∧1≤c.ring∧1≤c.queue∧1≤c.out∧1≤c.slice:=by
 simp_all[RP,xH,and_assoc]
theorem Kf(c:o8):iA c=gW↔RP c≥1∧c.workers≤8∧c.block≤256∧c.ring≤16∧c.queue≤16∧c.out≤16∧c.slice≤256∧c.kX≥0∧c.kX≤4611686018427387904:=by
 rw[RQ];unfold iA nI;grind
theorem j9{P:Program}{w:ef}(d:Array TypeId)(t:TypeId)(c:o8) :
  (Builtin.min_ d t #[iV c.workers,iV c.block,iV c.ring,iV c.queue,iV c.out,iV c.slice]).run P w=.ok (iV (RP c)) w:=by
 rfl
section
variable {w:ef}
theorem Bj(c:o8)(w:ef):gp fs 60 #[.agg (jb c)] w (eB w (eC (.bool (iA c)))):=by
 unfold jb;have H:=ek w (.cells #[iV c.workers,iV c.block,iV c.ring,iV c.queue,iV c.out,iV c.slice,iV c.kX] 26);obtain⟨z,E⟩:∃z,iA c=z:=⟨_,rfl⟩
 have d:Hid (z=gW↔RP c≥1∧c.workers≤8∧c.block≤256∧c.ring≤16∧c.queue≤16∧c.out≤16∧c.slice≤256∧c.kX≥0∧c.kX≤4611686018427387904):=hide (E▸Kf c);rw[E];clear E;have s:=hide H;clear H;by_cases h0:RP c≥1;case neg=>
  obtain rfl:z=false:=by cases z;rfl;exact absurd (d.out.1 rfl).1 h0
  clear d;go_enter gd,fl;go_wp2_with fail;rw[j9 _ _ c];go_wp2;go_ret;exact eB.mk s.out zR
 by_cases h1:c.workers≤8;case neg=>
  obtain rfl:z=false:=by cases z;rfl;exact absurd (d.out.1 rfl).2.1 h1
  clear d;go_enter gd,fl;go_wp2_with fail;rw[j9 _ _ c];go_wp2;go_ret;exact eB.mk s.out zR
 by_cases h2:c.block≤256;case neg=>
  obtain rfl:z=false:=by cases z;rfl;exact absurd (d.out.1 rfl).2.2.1 h2
  clear d;go_enter gd,fl;go_wp2_with fail;rw[j9 _ _ c];go_wp2;go_ret;exact eB.mk s.out zR
 by_cases h3:c.ring≤16;case neg=>
  obtain rfl:z=false:=by cases z;rfl;exact absurd (d.out.1 rfl).2.2.2.1 h3
  clear d;go_enter gd,fl;go_wp2_with fail;rw[j9 _ _ c];go_wp2;go_ret;exact eB.mk s.out zR
 by_cases Y:c.queue≤16;case neg=>
  obtain rfl:z=false:=by cases z;rfl;exact absurd (d.out.1 rfl).2.2.2.2.1 Y
  clear d;go_enter gd,fl;go_wp2_with fail;rw[j9 _ _ c];go_wp2;go_ret;exact eB.mk s.out zR
 by_cases U:c.out≤16;case neg=>
  obtain rfl:z=false:=by cases z;rfl;exact absurd (d.out.1 rfl).2.2.2.2.2.1 U
  clear d;go_enter gd,fl;go_wp2_with fail;rw[j9 _ _ c];go_wp2;go_ret;exact eB.mk s.out zR
 by_cases T:c.slice≤256;case neg=>
  obtain rfl:z=false:=by cases z;rfl;exact absurd (d.out.1 rfl).2.2.2.2.2.2.1 T
  clear d;go_enter gd,fl;go_wp2_with fail;rw[j9 _ _ c];go_wp2;go_ret;exact eB.mk s.out zR
 by_cases O:c.kX≥0;case neg=>
  obtain rfl:z=false:=by cases z;rfl;exact absurd (d.out.1 rfl).2.2.2.2.2.2.2.1 O
  clear d;go_enter gd,fl;go_wp2_with fail;rw[j9 _ _ c];go_wp2;go_ret;exact eB.mk s.out zR
 by_cases J:c.kX≤4611686018427387904;case neg=>
  obtain rfl:z=false:=by cases z;rfl;exact absurd (d.out.1 rfl).2.2.2.2.2.2.2.2 J
  clear d;go_enter gd,fl;go_wp2_with fail;rw[j9 _ _ c];go_wp2;go_ret;exact eB.mk s.out (by first|rfl|exact congrArg er (decide_eq_false zO)|exact congrArg er (decide_eq_true zO))
 obtain rfl:z=true:=d.out.2 ⟨h0,h1,h2,h3,Y,U,T,O,J⟩;clear d;go_enter gd,fl;go_wp2_with fail;rw[j9 _ _ c];go_wp2;go_ret;exact eB.mk s.out zR
def yi(r:qC):Int:=if iA r.cf=gW then(if r.most<0 then 290 else if r.most>100000 then 290 else if r.kind≥5 then 290 else 0)else 270
theorem Bk(r:qC)(vr va vp:e8)(w:ef):gp fs 30 #[.agg (xG r vr va vp)] w (eB w (eC (iV (yi r)))):=by
 have hX:=ek w (.cells (xG r vr va vp) 33);have d:=Box.new w 33 (xG r vr va vp);have T:=hide (Bj r.cf (w.alloc (.cells (xG r vr va vp) 33)));have k0:=d.at_ 0 rfl;have k1:=d.at_ 1 rfl;have k2:=d.at_ 2 rfl;have k3:=d.at_ 3 rfl;have k4:=d.at_ 4 rfl;have k5:=d.at_ 5 rfl;have k6:=d.at_ 6 rfl;have Y:=hide (And.intro hX d);obtain⟨z,hz⟩:∃z,iA r.cf=z:=⟨_,rfl⟩
 rw[hz]at T;have O:Hid (yi r=if z=gW then(if r.most<0 then 290 else if r.most>100000 then 290 else if r.kind≥5 then 290 else 0)else 270):=hide (by grind[yi]);clear hX d hz;unfold xG jb at*;go_enter func30,ntmps30;go_wp2_with fail;refine T.out.mono ?_;rintro _ w2 ⟨_,rfl,E,rfl⟩;have s:=Y.out.2.ext E;have aa:=s.at_ 15 rfl;have ab:=s.at_ 11 rfl;have H:=hide (Y.out.1.tr E);clear k0 k1 k2 k3 k4 k5 k6 s E Y T;cases z
 ·have e:=hide (O.out.trans (if_neg zD));clear O;go_wp2;go_ret;exact eB.mk H.out (congrArg (hG .i64) e.out.symm)
 have e:=hide (O.out.trans (if_pos rfl));clear O;by_cases J:r.most<0
 ·have e:=hide (e.out.trans (if_pos J));go_wp2;go_ret;exact eB.mk H.out (congrArg (hG .i64) e.out.symm)
 by_cases U:r.most>100000
 ·have e:=hide (e.out.trans ((if_neg J).trans (if_pos U)));go_wp2;go_ret;exact eB.mk H.out (congrArg (hG .i64) e.out.symm)
 by_cases h3:r.kind≥5
 ·have e:=hide (e.out.trans ((if_neg J).trans ((if_neg U).trans (if_pos h3))));go_wp2;go_ret;exact eB.mk H.out (congrArg (hG .i64) e.out.symm)
 ·have e:=hide (e.out.trans ((if_neg J).trans ((if_neg U).trans (if_neg h3))));go_wp2;go_ret;exact eB.mk H.out (congrArg (hG .i64) e.out.symm)
end
def gS(rs:LL):Nat:=(rs.map λx=>min x.length 200).sum
def F5(r:qC)(rs:LL)(s d:Nat):Bool:=decide (rs.length>40∨gS (rs.take 41)>100∨s>20∨d>400∨(r.most>1500∧r.most≤100000))
theorem OU(rs:LL)(k:Nat)(h:k<rs.length):gS (rs.take (k+1))=gS (rs.take k)+min rs[k].length 200:=by
 grind[gS,List.take_add_one,List.getElem?_eq_getElem]
section
variable {w:ef}
theorem Bl(r:qC)(rs:LL)(s:List Bool)(Y:List Int)(vr va vp:e8)(w:ef)(hr:eD rs vr w)(ha:iZ s va w)(hp:eQ Y vp w) :
  gp fs 29 #[.agg (xG r vr va vp)] w (eB w (eC (.bool (F5 r rs s.length Y.length)))):=by
 obtain⟨A,c,rfl,aw,am,hx⟩:=eD.form hr;obtain⟨A2,c2,rfl,ay,ap,-⟩:=iZ.form ha;obtain⟨A3,c3,rfl,au,ak,-⟩:=eQ.form hp;unfold maxLen at am ap ak;have HG:Hid (F5 r rs s.length Y.length=decide (rs.length>40∨gS (rs.take 41)>100∨s.length>20∨Y.length>400∨(r.most>1500∧r.most≤100000))):=hide rfl;have HX:=hide hx;clear hr ha hp hx;generalize s.length=J at*;generalize Y.length=H at*;have hX:=ek w (.cells (xG r (.slice A rs.length c) (.slice A2 J c2) (.slice A3 H c3)) 33);have U:=Box.new w 33 (xG r (.slice A rs.length c) (.slice A2 J c2) (.slice A3 H c3));have k8:=U.at_ 8 rfl;have k9:=U.at_ 9 rfl;have aj:=U.at_ 10 rfl;have ai:=U.at_ 15 rfl;have HE:=hide hX;have HB:=hide U;clear hX U;unfold xG at*;go_enter func29,ntmps29;go_wp2_with fail
 go_loopw [3,4] (λn i wr=>∃k m:Nat,k≤rs.length∧k≤41∧m≤200*k∧n=iV m∧i=iV k∧Hid (m=gS (rs.take k))∧Hid (Ext (w.alloc (.cells (xG r (.slice A rs.length c) (.slice A2 J c2) (.slice A3 H c3)) 33)) wr)) (λ_ i _=>41-(intOf i).toNat)
 case atStart=>exact⟨0,0,by omega,by omega,by omega,rfl,rfl,hide rfl,hide (Ext.rf _)⟩
 case round=>
  obtain⟨k,m,av,al,hm,rfl,rfl,HM,T⟩:=hrel;have d:=HB.out.ext T.out;have k8:=d.at_ 8 rfl;by_cases ab:k<rs.length
  ·by_cases az:k≤40
   ·obtain⟨b,aq,rfl,ah,ag⟩:=HX.out zO;obtain⟨x,af,aa⟩:=ag k ab;obtain⟨Ab,cb,rfl,ao,an,-⟩:=eu.form aa;unfold maxLen at an;have ae:=((HE.out.tr T.out).cell ah).trans af;have hs:=OU rs k ab;obtain⟨L,hL⟩:∃L,rs[k].length=L:=⟨_,rfl⟩
    rw[hL]at hs ao ae;have Hs:=hide hs;clear ag af aa hL ah d hs;go_wp2;exact⟨⟨k+1,m+min L 200,by omega,by omega,by omega,congrArg (hG .i64) zO,congrArg (hG .i64) zO,hide (by rw[Hs.out,←HM.out]),T⟩,by grind[intOf]⟩
   ·have ad:k=41:=zO;have ar:¬(k:Int)≤40:=zO;have E:Hid (F5 r rs J H=decide (rs.length>40∨m>100∨J>20∨H>400∨(r.most>1500∧r.most≤100000))):=hide (HG.out.trans zG);have O:Hid (Ext w wr):=hide (HE.out.tr T.out);clear HG HM HX HE HB T d ad;have c1:rs.length>40:=zO;go_wp2;go_ret;exact eB.mk O.out (congrArg er (E.out.trans (decide_eq_true zO)).symm)
  ·obtain rfl:k=rs.length:=zO;have E:Hid (F5 r rs J H=decide (rs.length>40∨m>100∨J>20∨H>400∨(r.most>1500∧r.most≤100000))):=hide (HG.out.trans (by rw[HM.out,List.take_length,List.take_of_length_le al]));have O:Hid (Ext w wr):=hide (HE.out.tr T.out);have k9:=d.at_ 9 rfl;have aj:=d.at_ 10 rfl;have ai:=d.at_ 15 rfl;clear HG HM HX HE HB T d;by_cases c1:rs.length>40
   ·go_wp2;go_ret;exact eB.mk O.out (congrArg er (E.out.trans (decide_eq_true zO)).symm)
   by_cases c2:m>100
   ·go_wp2;go_ret;exact eB.mk O.out (congrArg er (E.out.trans (decide_eq_true zO)).symm)
   by_cases c3:J>20
   ·go_wp2;go_ret;exact eB.mk O.out (congrArg er (E.out.trans (decide_eq_true zO)).symm)
   by_cases c4:H>400
   ·go_wp2;go_ret;exact eB.mk O.out (congrArg er (E.out.trans (decide_eq_true zO)).symm)
   by_cases c5:r.most>1500
   ·by_cases c6:r.most≤100000
    ·go_wp2;go_ret;exact eB.mk O.out (congrArg er (E.out.trans (decide_eq_true zO)).symm)
    ·go_wp2;go_ret;exact eB.mk O.out (congrArg er (by first|exact(E.out.trans (decide_eq_false zO)).symm|(rw[decide_eq_false (show¬(40:Int)<(rs.length:Int) by omega),decide_eq_false (show¬(100:Int)<(m:Int) by omega),decide_eq_false (show¬(20:Int)<(J:Int) by omega),decide_eq_false (show¬(400:Int)<(H:Int) by omega)];exact(E.out.trans (decide_eq_false zO)).symm)))
   go_wp2;go_ret;exact eB.mk O.out (congrArg er (by first|exact(E.out.trans (decide_eq_false zO)).symm|(rw[decide_eq_false (show¬(40:Int)<(rs.length:Int) by omega),decide_eq_false (show¬(100:Int)<(m:Int) by omega),decide_eq_false (show¬(20:Int)<(J:Int) by omega),decide_eq_false (show¬(400:Int)<(H:Int) by omega)];exact(E.out.trans (decide_eq_false zO)).symm)))
end
def qU(f:Bool)(ws:LL)(s:Nat)(w:ef):Prop:=∃d,Box w s 129 #[eF d]∧xD f ws d w
theorem qU.ext{f:Bool}{ws:LL}{E:Nat}{w d:ef}(h:qU f ws E w)(s:Ext w d):qU f ws E d:=by
 obtain⟨O,J,H⟩:=h;exact⟨O,J.ext s,H.ext s⟩
theorem sX(f s:Bool)(ws d:LL)(v:e8)(w:ef)(hv:eD ws v w)(hl:ws.flatten.length≤1000000)(hn:ws.length≤1000000)(hm:iF f ws=(s,d,0))(hr:eS s d=gW) :
  gp fs 31 #[.bool f,v] w (eY w λu w'=>∃gs,u=.tuple #[gP gs,iV 0]∧w.heap.size≤gs∧qU s d gs w'):=by
 have hb:=uB hr;have h1:=hb.flat;have h2:=hb.many;have Y:=hide (N8 (w0:=w) f ws s d 0 hm hl hn (.bool f) v w (Ext.rf _) rfl hv);have ad:=hide (λu W (hS:jj s d u W)=>Bm s d u W hS zO zO hr);obtain⟨A,c,rfl,-⟩:=eD.form hv;clear hv hm hl hn hb h1 h2;generalize ws.length=n at*;go_enter func31,ntmps31;go_wp2_with fail;refine Y.out.mono ?_;rintro _ w1 ⟨u,rfl,ab,hV⟩;obtain⟨a,b,rfl,ha,rfl⟩:=eR.inv2 hV;obtain⟨sv,rfl,E⟩:=ha;obtain⟨A1,c1,rfl,-⟩:=eD.form E;have O:=Box.new w1 24 #[.bool gn,nS];have T:=ek w1 (.cells #[.bool gn,nS] 24);generalize d.length=n1 at*;go_wp2_with(refine eK rfl _ _ _ rfl rfl w1.heap.size #[.bool s,.slice A1 n1 c1] rfl rfl _ _ O zK rfl rfl ?_)
 intro w2 H _ hX;have J:=hX _ T (hd _);have U:jj s d (.agg #[.bool s,.slice A1 n1 c1]) w2:=⟨_,rfl,VP.st _ _ _ _ E J⟩
 have ae:=hide (ad.out _ w2 U);have HE:=hide (ab.tr J);have d0:=H.at_ 0 rfl;have d1:=H.at_ 1 rfl;clear hX T O J U ad E ab H Y;go_wp2_with fail;refine ae.out.mono ?_;rintro _ w3 ⟨_,rfl,aa,gm,rfl,af,hM⟩;have HM:=hide hM;have mS:=hide (HE.out.tr aa);clear hM aa HE ae d0 d1;go_wp2;refine bodyPost_ret (results_tmp2 results31 _ _ _) rfl ?_;refine eY.mk (mS.out.tr (ek _ _)) ⟨w3.heap.size,rfl,mS.out.size,gm,Box.new _ _ _,HM.out.ext (ek _ _)⟩
def RS(f:Bool)(ws:LL)(r:qC)(rs:LL)(s d:Nat):Bool:=!rj ws&&eS f ws&&!F5 r rs s d&&decide (yi r=0)
section
variable {w:ef}
theorem Kg(f:Bool)(ws:LL)(u:e8)(r:qC)(rs:LL)(J:List Bool)(H:List Int)(vr va vp:e8)(w:ef)(hS:jj f ws u w)(hr:eD rs vr w)(ha:iZ J va w)(hp:eQ H vp w) :
  gp fs 9 #[u,.agg (xG r vr va vp)] w (eB w (eC (.bool (RS f ws r rs J.length H.length)))):=by
 have ad:=hS;obtain⟨sl,rfl,hP⟩:=hS;obtain⟨A0,c0,rfl,-⟩:=eD.form hP;obtain⟨A1,c1,rfl,-⟩:=eD.form (id hr);obtain⟨A2,c2,rfl,-⟩:=iZ.form (id ha);obtain⟨A3,c3,rfl,-⟩:=eQ.form (id hp);clear hP;obtain⟨w2,d⟩:∃w2,w2=(w.alloc (.cells #[.bool f,.slice A0 ws.length c0] 24)).alloc (.cells (xG r (.slice A1 rs.length c1) (.slice A2 J.length c2) (.slice A3 H.length c3)) 33):=⟨_,rfl⟩
 have ai:Ext w w2:=by rw[d];exact(ek _ _).tr (ek _ _)
 have s:Box w2 w.heap.size 24 #[.bool f,.slice A0 ws.length c0]:=by rw[d];exact(Box.new _ _ _).alloc _
 have ag:Box w2 (w.heap.size+1) 33 (xG r (.slice A1 rs.length c1) (.slice A2 J.length c2) (.slice A3 H.length c3)):=by grind[Box.new,bool,xG,ei]
 have HG:=hide (λW (hE:Ext w W)=>Ad f ws _ W (VP.st _ _ _ _ ad hE));have HR:=hide (λW (hE:Ext w W)=>Af f ws _ W (VP.st _ _ _ _ ad hE));have HG2:=hide (λW (hE:Ext w W)=>Bl r rs J H _ _ _ W (VP.st _ _ _ _ hr hE) (VP.st _ _ _ _ ha hE) (VP.st _ _ _ _ hp hE));have HR2:=hide (λW=>Bk r (.slice A1 rs.length c1) (.slice A2 J.length c2) (.slice A3 H.length c3) W);unfold RS;unfold Ep at HG;have Kv:=hide ai;have HB2:=hide s;have HB3:=hide ag;generalize rj ws=z1 at*;generalize eS f ws=z2 at*;generalize F5 r rs J.length H.length=z3 at*;generalize yi r=z4 at*;clear ad hr ha hp ai ag;have q0:=s.at_ 0 rfl;have q1:=s.at_ 1 rfl;clear s;generalize rs.length=n1 at*;generalize J.length=n2 at*;generalize H.length=n3 at*;generalize ws.length=n0 at*;unfold xG at*;have Hw2:=hide d.symm;clear d;go_enter func9,ntmps9;go_wp2_with fail;rw[Hw2.out];refine(HG.out w2 Kv.out).mono ?_;rintro _ w3 ⟨_,rfl,E,rfl⟩;have mS:=hide (Kv.out.tr E);have DK:=hide (HB2.out.ext E);have mX:=hide (HB3.out.ext E);clear E q0 q1 HG Kv HB2 HB3 Hw2;cases z1;case true=>
  go_wp2;go_ret;exact eB.mk mS.out rfl
 have q0:=DK.out.at_ 0 rfl;have q1:=DK.out.at_ 1 rfl;go_wp2_with fail;refine(HR.out w3 mS.out).mono ?_;rintro _ w4 ⟨_,rfl,af,rfl⟩;have GJ:=hide (mS.out.tr af);have po:=hide (mX.out.ext af);clear af q0 q1 HR mS DK mX;cases z2;case false=>
  go_wp2;go_ret;exact eB.mk GJ.out rfl
 have k0:=po.out.at_ 0 rfl;have k1:=po.out.at_ 1 rfl;have k2:=po.out.at_ 2 rfl;have k3:=po.out.at_ 3 rfl;have k4:=po.out.at_ 4 rfl;have k5:=po.out.at_ 5 rfl;have k6:=po.out.at_ 6 rfl;have k7:=po.out.at_ 7 rfl;have k8:=po.out.at_ 8 rfl;have k9:=po.out.at_ 9 rfl;have ab:=po.out.at_ 10 rfl;have aa:=po.out.at_ 11 rfl;have Y:=po.out.at_ 12 rfl;have U:=po.out.at_ 13 rfl;have T:=po.out.at_ 14 rfl;have O:=po.out.at_ 15 rfl;go_wp2_with fail;refine(HG2.out w4 GJ.out).mono ?_;rintro _ w5 ⟨_,rfl,ae,rfl⟩;have Sk:=hide (GJ.out.tr ae);have p5:=hide (po.out.ext ae);clear ae HG2 GJ po k0 k1 k2 k3 k4 k5 k6 k7 k8 k9 ab aa Y U T O;cases z3;case true=>
  go_wp2;go_ret;exact eB.mk Sk.out rfl
 have k0:=p5.out.at_ 0 rfl;have k1:=p5.out.at_ 1 rfl;have k2:=p5.out.at_ 2 rfl;have k3:=p5.out.at_ 3 rfl;have k4:=p5.out.at_ 4 rfl;have k5:=p5.out.at_ 5 rfl;have k6:=p5.out.at_ 6 rfl;have k7:=p5.out.at_ 7 rfl;have k8:=p5.out.at_ 8 rfl;have k9:=p5.out.at_ 9 rfl;have ab:=p5.out.at_ 10 rfl;have aa:=p5.out.at_ 11 rfl;have Y:=p5.out.at_ 12 rfl;have U:=p5.out.at_ 13 rfl;have T:=p5.out.at_ 14 rfl;have O:=p5.out.at_ 15 rfl;go_wp2_with fail;refine(HR2.out w5).mono ?_;rintro _ w6 ⟨_,rfl,ah,rfl⟩;have JP:=hide (Sk.out.tr ah);clear ah HR2 Sk p5 k0 k1 k2 k3 k4 k5 k6 k7 k8 k9 ab aa Y U T O;by_cases hz:z4=0
 ·subst hz;go_wp2;go_ret;exact eB.mk JP.out rfl
 ·have e:=hide (show decide (z4=0)=gn from decide_eq_false hz);rw[e.out];go_wp2;go_ret;exact eB.mk JP.out rfl
theorem F6{f:Bool}{ws:LL}(h:eS f ws=gW):iF f ws=(f,ws,0):=by
 simp_all[eS,Bool.and_eq_true,decide_eq_true_eq,iF]
theorem Kh(f:Bool)(ws:LL)(u:e8)(d:Rn)(vr va vp:e8)(w:ef)(hS:jj f ws u w)(H:eS f ws=gW)(hc:pV d.cf)(T:d.most≤100000)(U:d.plan.kind<5)(O:eD d.reads vr w)(Y:iZ d.answers va w)(ab:eQ d.picks vp w)(ai:d.reads.length≤100000)(aj:d.reads.flatten.length≤1000000)(ak:∀b∈d.reads,b.length≤1000000)(am:d.answers.length≤1000000)(al:d.picks.length≤1000000) :
  gp fs 11 #[u,.agg (xP d vr va vp)] w (eY w λv w'=>∃vh,v=.tuple #[.agg (D0 (d.report (l6 f ws)) vh),.bool gW]∧mT w' w.heap.size vh (d.report (l6 f ws)).hits):=by
 obtain⟨sl,rfl,hP⟩:=hS;obtain⟨A0,c0,rfl,-⟩:=eD.form (id hP);obtain⟨A1,c1,rfl,-⟩:=eD.form (id O);obtain⟨A2,c2,rfl,-⟩:=iZ.form (id Y);obtain⟨A3,c3,rfl,-⟩:=eQ.form (id ab);have ah:=uB H;have b0:=ah.flat;have b1:=ah.many;have af:=((Box.new w 24 #[.bool f,.slice A0 ws.length c0]).alloc (.cells (xP d (.slice A1 d.reads.length c1) (.slice A2 d.answers.length c2) (.slice A3 d.picks.length c3)) 33)).alloc (.cells PY 40);have ae:=(Box.new (w.alloc (.cells #[.bool f,.slice A0 ws.length c0] 24)) 33 (xP d (.slice A1 d.reads.length c1) (.slice A2 d.answers.length c2) (.slice A3 d.picks.length c3))).alloc (.cells PY 40);have ad:=Box.new ((w.alloc (.cells #[.bool f,.slice A0 ws.length c0] 24)).alloc (.cells (xP d (.slice A1 d.reads.length c1) (.slice A2 d.answers.length c2) (.slice A3 d.picks.length c3)) 33)) 40 PY;rw[ei]at ae;rw[ei,ei]at ad;have hX:=((ek w (.cells #[.bool f,.slice A0 ws.length c0] 24)).tr (ek (w.alloc (.cells #[.bool f,.slice A0 ws.length c0] 24)) (.cells (xP d (.slice A1 d.reads.length c1) (.slice A2 d.answers.length c2) (.slice A3 d.picks.length c3)) 33))).tr (ek ((w.alloc (.cells #[.bool f,.slice A0 ws.length c0] 24)).alloc (.cells (xP d (.slice A1 d.reads.length c1) (.slice A2 d.answers.length c2) (.slice A3 d.picks.length c3)) 33)) (.cells PY 40));have HC:=hide (sX f f ws ws (.slice A0 ws.length c0) _ (VP.st _ _ _ _ hP hX) zO zO (F6 H) H);have HX:=hide hX;have HB2:=hide ae;have HB3:=hide ad;have HSc:=hide (λgs W (hE:Ext w W) (h:qU f ws gs W)=>by
  obtain⟨gm,q1,q2⟩:=h;exact DI (r:=d) (M:=l6 f ws) (S:=QF f ws) q2.1 (zh H) q1 hc T U (VP.st _ _ _ _ O hE) (VP.st _ _ _ _ Y hE) (VP.st _ _ _ _ ab hE) ai aj ak am al)
 have q0:=af.at_ 0 rfl;have q1:=af.at_ 1 rfl;clear af ae ad hX hP O Y ab ah b0 b1 ai aj ak am al hc T U;generalize d.report (l6 f ws)=E at*;generalize ws.length=n0 at*;generalize d.reads.length=n1 at*;generalize d.answers.length=n2 at*;generalize d.picks.length=n3 at*;unfold xP PY at*;go_enter func11,ntmps11;go_wp2_with fail;refine HC.out.mono ?_;rintro _ w5 ⟨_,rfl,aa,gs,rfl,-,an⟩;have OX:=hide (HX.out.tr aa);have RT:=hide (HB3.out.ext aa);have Ws:=hide (HSc.out gs w5 (HX.out.tr aa) an);have s:=HB2.out.ext aa;have k0:=s.at_ 0 rfl;have k1:=s.at_ 1 rfl;have k2:=s.at_ 2 rfl;have k3:=s.at_ 3 rfl;have k4:=s.at_ 4 rfl;have k5:=s.at_ 5 rfl;have k6:=s.at_ 6 rfl;have k7:=s.at_ 7 rfl;have k8:=s.at_ 8 rfl;have k9:=s.at_ 9 rfl;have aw:=s.at_ 10 rfl;have av:=s.at_ 11 rfl;have au:=s.at_ 12 rfl;have ar:=s.at_ 13 rfl;have aq:=s.at_ 14 rfl;have ap:=s.at_ 15 rfl;clear q0 q1 HC HX HB2 HB3 HSc aa an s;go_wp2_with fail;refine Ws.out.mono ?_;rintro _ w6 ⟨_,rfl,ao,vh,rfl,ho⟩;obtain⟨Ah,ch,rfl⟩:=eI ho;have ag:=ao.tr (ek w6 (.cells (D0 E (.slice Ah E.hits.length ch)) 40));have J:=Box.new w6 40 (D0 E (.slice Ah E.hits.length ch));have Tz:=hide (OX.out.tr ag);have OY:=hide (RT.out.ext ag);have OM:=hide (iY (fy ho (ek w6 (.cells (D0 E (.slice Ah E.hits.length ch)) 40))) OX.out.size);clear Ws OX RT ao ag ho k0 k1 k2 k3 k4 k5 k6 k7 k8 k9 aw av au ar aq ap;unfold D0 at*;have k0:=J.at_ 0 rfl;have k1:=J.at_ 1 rfl;have k2:=J.at_ 2 rfl;have k3:=J.at_ 3 rfl;have k4:=J.at_ 4 rfl;have k5:=J.at_ 5 rfl;have k6:=J.at_ 6 rfl;have k7:=J.at_ 7 rfl;have k8:=J.at_ 8 rfl;clear J;go_wp2_with(refine wpList_store_row rfl 40 _ _ rfl (w.heap.size+1+1) #[.int .u8 (E.kind:Int),iV (E.at_:Int),.slice Ah E.hits.length ch,iV (E.turns:Int),iV (E.refused:Int),iV (E.blocks:Int),iV (E.read:Int),iV (E.live:Int),iV (E.window:Int)] rfl rfl 40 _ OY.out zK rfl (by simp[Value.oneCell']) ?_)
 exact bodyPost_ret (iB results11 _ _ (w.heap.size+1+1) 40 #[.int .u8 (E.kind:Int),iV (E.at_:Int),.slice Ah E.hits.length ch,iV (E.turns:Int),iV (E.refused:Int),iV (E.blocks:Int),iV (E.read:Int),iV (E.live:Int),iV (E.window:Int)] _ rfl OY.out.gR underlying40 rfl zR) rfl (eY.mk (Tz.out.grown (jC _ _ _) Tz.out.size (λk e=>by grind)) ⟨_,rfl,kS OM.out OY.out zD _⟩)
end
end Go.Proofs.YtofgfpffcegioaaGreat
