/- A part of the proof. -/
import Derived.Test.YtofgfpffcegioaaGreatZf42
set_option maxRecDepth 100000
set_option maxHeartbeats 8000000
namespace Go.Proofs.YtofgfpffcegioaaGreat
open Go.RowKit Go.Shelf Go.Sort iT jH fq Go.Proofs.Tryz
open _root_.Array renaming getElem?_eq_some_iff → bl,getElem?_toList → bD
open Bool renaming eq_false_iff → a8,true → bh,false → bo
open _root_.Go renaming Calls → bf,Value → ba,World → bd,bodyPost_ret → bn,Addr → bH
open Go.IntWalk renaming wrap64_in → bJ
open Go.Operand renaming tmp → bm
open Go.Proofs.Tryz renaming prog → bj,underlying38 → bt,func131 → bI
open Go.Value renaming bool → bg,agg → bK
open Go.World.grownBy renaming refl → bG
open List renaming length_append → bq,not_mem_nil → br,range → bu,mem_cons → bx,getElem?_eq_getElem → bz,all_eq_true → bA,mem_range → bF
open Nat renaming le_refl → bk
open Option renaming some → bc,none → bp
open Option.some renaming inj → bC
section
variable {D:PS} {s:St} {w w' w1:bd} {t t' t1:ez} {i:Nat} {x:Wk}
theorem ug(h:kM D s i x w t)(hi:i<D.c.workers)(hw:D.c.workers≤8)(hq:s.q.items=[]) :
  bf bj 138 #[gP (D.jT i)] w λe w'=>(∃v,e=.returned v)∧∃t',kM D s i { x with ph:=4 } w' t'∧Moves w t w' t':=by
 have hA:=hide (Fm (ep.q h) hq);have c0:=h.c hi 0 _ (λ_ _=>rfl);have ab:=ep.p12 h;have H:=hide h;have Y:=hide hi;have iP:=hide (show 11+i≠0∧11+i<100 by omega);clear h hi hw hq;go_enter func138,ntmps138;go_wp2_with fail;refine hA.out.mono ?_;rintro _ w2 ⟨_,rfl,T,hv⟩;obtain⟨_,_,rfl,rfl,rfl⟩:=eR.inv2 hv;have E:=Box.new w2 109 #[iV 0,iV 0,iV 0,nS,iV 0];have J:=ek w2 (.cells #[iV 0,iV 0,iV 0,nS,iV 0] 109);clear hv hA;go_wp2_with(refine eK rfl _ _ _ rfl rfl w2.heap.size #[iV 0,iV 0,iV 0,nS,iV 0] rfl rfl _ _ E zK rfl rfl ?_)
 intro w3 aa _ hX;have d:=T.tr (hX _ J (bk _));clear hX J E T c0;have U:kM D s i x _ t:=ep.extend H.out d;have O:=Moves.ext t d;have c1:=U.c Y.out 1 _ (λ_ _=>rfl);have f1:=U.fr Y.out 1;have h4:=U.set Y.out 1 (.int .u8 4) ({ x with ph:=4 }:Wk) (λ_ _=>rfl) rfl rfl;have hF:=hide (show∃t',kM D s i { x with ph:=4 } _ t'∧Moves w t _ t' from⟨t,h4,O.set (U.tag Y.out) iP.out.1 iP.out.2 1 (.int .u8 4)⟩);clear d U O h4 aa;go_wp2;refine bn (results_none rfl _ _ _) rfl ?_;exact⟨⟨_,rfl⟩,hF.out⟩
theorem uh(h:kM D s i x w t)(hi:i<D.c.workers)(hw:D.c.workers≤8)(y:Pc)(l:List Pc)(hq:s.q.items=y::l) :
  bf bj 138 #[gP (D.jT i)] w λe w'=>(∃v,e=.returned v)∧∃t',kM D { s with q:=s.q.drop1 } i { x with pc:=y,ph:=2 } w' t'∧Moves w t w' t':=by
 have hA:=hide (Fl zD (ep.q h) y l hq);have c0:=h.c hi 0 _ (λ_ _=>rfl);have ao:=ep.p12 h;have H:=hide h;have d:=hide hi;have iP:=hide (show 11+i≠0∧11+i<100 by omega);clear h hi hw hq;go_enter func138,ntmps138;go_wp2_with fail;refine hA.out.mono ?_;rintro _ w2 ⟨cs,rfl,-,t2,hq,hT,v,rfl,O⟩;obtain⟨A,c,rfl,-⟩:=eu.form O.1;have h2:=H.out.MK hT hq;have an:=Moves.turn hT zD zD;clear hA hq hT H;have af:=Box.new w2 109 #[iV 0,iV 0,iV 0,nS,iV 0];have ag:=ek w2 (.cells #[iV 0,iV 0,iV 0,nS,iV 0] 109);have HV:=hide O;clear O;go_wp2_with(refine eK rfl _ _ _ rfl rfl w2.heap.size #[iV (y.blk.num:Int),iV (y.blk.start:Int),iV (y.blk.eZ:Int),.slice A y.blk.data.length c,iV (y.buf:Int)] rfl rfl _ _ af zK rfl rfl ?_)
 intro w3 E _ hX;have J:=hX _ ag (bk _);have O:=HV.out;have k0:=E.at_ 0 rfl;have k1:=E.at_ 1 rfl;have k2:=E.at_ 2 rfl;have k3:=E.at_ 3 rfl;have k4:=E.at_ 4 rfl;clear hX ag af c0 HV;have Y:kM D { s with q:=s.q.drop1 } i x _ t2:=ep.extend h2 J;have am:=an.tr (Moves.ext t2 J);have ae:=(Held.keeps (eX _) 1 _).ext O J;have c6:=Y.c d.out 6 _ (λ_ _=>rfl);have f6:=Y.fr d.out 6;have U:=Y.set d.out 6 (iV (y.blk.num:Int)) ({ x with pc:=⟨⟨y.blk.num,x.pc.blk.start,x.pc.blk.eZ,x.pc.blk.data⟩,x.pc.buf⟩ }:Wk) (λ_ _=>rfl) rfl rfl;have al:=am.set (Y.tag d.out) iP.out.1 iP.out.2 6 (iV (y.blk.num:Int));have ad:=(Held.keeps (eX _) 1 _).turn zO iP.out.1 ae (Turn.set (Y.tag d.out) 6 (iV (y.blk.num:Int)));have c7:=U.c d.out 7 _ (λ_ _=>rfl);have f7:=U.fr d.out 7;have T:=U.set d.out 7 (iV (y.blk.start:Int)) ({ x with pc:=⟨⟨y.blk.num,y.blk.start,x.pc.blk.eZ,x.pc.blk.data⟩,x.pc.buf⟩ }:Wk) (λ_ _=>rfl) rfl rfl;have ak:=al.set (U.tag d.out) iP.out.1 iP.out.2 7 (iV (y.blk.start:Int));have ab:=(Held.keeps (eX _) 1 _).turn zO iP.out.1 ad (Turn.set (U.tag d.out) 7 (iV (y.blk.start:Int)));have c8:=T.c d.out 8 _ (λ_ _=>rfl);have f8:=T.fr d.out 8;have h6:=T.set d.out 8 (iV (y.blk.eZ:Int)) ({ x with pc:=⟨⟨y.blk.num,y.blk.start,y.blk.eZ,x.pc.blk.data⟩,x.pc.buf⟩ }:Wk) (λ_ _=>rfl) rfl rfl;have aj:=ak.set (T.tag d.out) iP.out.1 iP.out.2 8 (iV (y.blk.eZ:Int));have aa:=(Held.keeps (eX _) 1 _).turn zO iP.out.1 ab (Turn.set (T.tag d.out) 8 (iV (y.blk.eZ:Int)));obtain⟨v9,c9,-⟩:=h6.c9 d.out;have f9:=h6.fr d.out 9;have h7:kM D { s with q:=s.q.drop1 } i ({ x with pc:=⟨⟨y.blk.num,y.blk.start,y.blk.eZ,y.blk.data⟩,x.pc.buf⟩ }:Wk) _ t2:=h6.data d.out (.slice A y.blk.data.length c) y.blk.data aa;have ai:=aj.set (h6.tag d.out) iP.out.1 iP.out.2 9 (.slice A y.blk.data.length c);have aq:=h7.c d.out 10 _ (λ_ _=>rfl);have ap:=h7.fr d.out 10;have h8:=h7.set d.out 10 (iV (y.buf:Int)) ({ x with pc:=y }:Wk) (λ_ _=>rfl) rfl rfl;have ah:=ai.set (h7.tag d.out) iP.out.1 iP.out.2 10 (iV (y.buf:Int));have c1:=h8.c d.out 1 _ (λ_ _=>rfl);have f1:=h8.fr d.out 1;have h9:=h8.set d.out 1 (.int .u8 2) ({ x with pc:=y,ph:=2 }:Wk) (λ_ _=>rfl) rfl rfl;have hF:=hide (show∃t',kM D { s with q:=s.q.drop1 } i { x with pc:=y,ph:=2 } _ t'∧Moves w t _ t' from⟨t2,h9,ah.set (h8.tag d.out) iP.out.1 iP.out.2 1 (.int .u8 2)⟩);clear E J h2 an Y am U al T ak h6 aj h7 ai h8 ah h9 O ae ad ab aa;go_wp2
 go_end0
 exact⟨⟨_,rfl⟩,hF.out⟩
theorem AS(h:kM D s i x w t)(hi:i<D.c.workers)(J:D.c.workers≤8)(hl:∀y l,s.q.items=y::l→x.ph=1→y.buf<D.c.ring∧s.buf.used.getD y.buf bo=bh∧s.buf.free.length<16)(hp:x.ph≠1→x.ph≠4∧x.pc.buf<D.c.ring∧s.buf.used.getD x.pc.buf bo=bh∧s.buf.free.length<16) :
  bf bj 142 #[gP (D.jT i)] w λe w'=>(∃v,e=.returned v)∧eV D (s.gQ i x) w t w':=by
 have c1:=h.c hi 1 _ (λ_ _=>rfl);have Hi:=hide hi;have Hw:=hide J;by_cases T:x.ph=1
 ·rw[T]at c1;cases U:s.q.items with
  |nil=>
   have hA:=hide (ug h hi J U);have d:=hide (show s.gQ i x={ s with fm:=s.fm.set i { x with ph:=4 } } by simp_all[St.gQ]);clear h hi J hl hp T U;go_enter func142,ntmps142;go_wp2_with fail;refine hA.out.mono ?_;rintro _ w2 ⟨⟨_,rfl⟩,t2,O,H⟩;have c1:=O.c Hi.out 1 (.int .u8 4) (λ_ _=>rfl);have Y:=hide (show eV D (s.gQ i x) w t w2 by rw[d.out];exact⟨t2,O,H⟩);clear hA O H d;go_wp2
   go_end0
   exact⟨⟨_,rfl⟩,Y.out⟩
  |cons y l=>
   have hA:=hide (uh h hi J y l U);have hL:=hide (hl y l U T);have d:=hide (show s.gQ i x=({ s with q:=s.q.drop1 }:St).ij i { x with pc:=y } by simp_all[St.gQ]);clear h hi J hl hp T U;go_enter func142,ntmps142;go_wp2_with fail;refine hA.out.mono ?_;rintro _ w2 ⟨⟨_,rfl⟩,t2,O,H⟩;have c1:=O.c Hi.out 1 (.int .u8 2) (λ_ _=>rfl);have hB:=hide (uf O Hi.out Hw.out hL.out.1 hL.out.2.1 hL.out.2.2);have HM:=hide H;clear hA O H;go_wp2_with fail;refine hB.out.mono ?_;rintro _ w3 ⟨⟨_,rfl⟩,t3,h3,E⟩;have Y:=hide (show eV D (s.gQ i x) w t w3 by rw[d.out];exact⟨t3,h3,HM.out.tr E⟩);clear hB h3 E HM d;go_wp2
   go_end0
   exact⟨⟨_,rfl⟩,Y.out⟩
 ·obtain⟨e4,hb⟩:=hp T;have hB:=hide (uf h hi J hb.1 hb.2.1 hb.2.2);have d:=hide (show s.gQ i x=s.ij i x by unfold St.gQ;grind);have n1:¬((x.ph:Int)=1):=zO;have n4:¬((x.ph:Int)=4):=zO;clear h hi J hl hp hb;generalize x.ph=p at*;clear T e4;go_enter func142,ntmps142;go_wp2_with fail;refine hB.out.mono ?_;rintro _ w3 ⟨⟨_,rfl⟩,t3,h3,E⟩;have Y:=hide (show eV D (s.gQ i x) w t w3 by rw[d.out];exact⟨t3,h3,E⟩);clear hB h3 E d;go_wp2
  go_end0
  exact⟨⟨_,rfl⟩,Y.out⟩
end
section
def Dl(B:Nat)(hs:Hits):VP:=⟨λv w=>mT w B v hs,λv w w' h O=>by
 obtain⟨J,Y⟩:=h;rcases Y with d|⟨g,E,s,d,U,H,T⟩
 ·exact⟨J,.inl d⟩
 ·exact⟨J,.inr ⟨g,E,s,d,U,(O.same (bl.1 H).1).trans H,T⟩⟩⟩
section
variable {D:PS} {s:St} {w w' w1:bd} {t t' t1:ez} {i:Nat} {x:Wk}
theorem ep.qp(h:ep D s w t)(E:Ext w w')(d:∀k,k<w.heap.size→t' k=t k):ep D s w' t':=by
 have o:=h.others (j:=1) zO (Turn.ext' 1 E d);exact⟨o.ext,o.old,o.ki,(xi.keeps _ _).ext' h.pl E d,o.src zO,o.iG zO,o.buf zO,o.q zO,o.rg zO,o.out zO,o.rd zO,o.mg zO,o.em zO,o.len,λk H=>o.fm k H zO,o.pn,o.pr,o.mem,o.lq⟩
theorem Moves.ext'(h:Ext w w')(E:∀k,k<w.heap.size→t' k=t k):Moves w t w' t':=⟨h.os,h.tape,h.output,h.size,λk d _=>⟨h.block k d,E k d⟩⟩
theorem kM.OJ(h:kM D s i x w t)(hi:i<D.c.workers){E J d:ba}{hs:Hits}(T:Turn (11+i) w t w1 t1)(H:eG (11+i) (D.jT i) 268 (xO D.g (D.jT i) (D.lq i) x E J) w1 t1)(hv:Held (eu x.pc.blk.data) E w1 t1)(O:eO (11+i) 50 2 d hs.length (fz hs) w1 t1) :
  kM D s i { x with hits:=hs } (w1.setCell ⟨D.jT i,13,bp⟩ d) t1:=by
 refine h.new hi (T.gU H.1 13 d) ⟨E,d,H.gU 13 d _ rfl,(Held.keeps (eX _) 1 _).turn zO zO hv (Turn.set H.1 13 d),?_⟩;exact O.grown (row:=bc (D.jT i)) (eM (bG _ _) 13 d) (λq U e=>by
  grind[eH]) (λ_ _=>rfl)
theorem JV{hs:Hits}{A:Option bH}{c:Nat}(h:eP hs (.slice A hs.length c) w):Src w (.slice A hs.length c) hs.length (fz hs):=by
 have E:=Src.pairs h (lo:=0) (m:=hs.length) A c zO (λ_ b d e=>by omega);grind
attribute [local irreducible] ew ed in
theorem FI(h:kM D s i x w t)(hi:i<D.c.workers)(hw:D.c.workers≤8)(hp:x.ph=2)(aE:D.c.kX+1000000≤4611686020574871551)(aU:D.c.slice≤256)(E:Gp D.M D.c.kX 1000000 x.pc.blk)(aC:x.node<D.M.states)(aF:x.done≤x.pc.blk.data.length)(aD:x.hits.length≤100000)(aA:(scan D.M x.pc.blk D.c.slice x.node x.done []).2.2.length≤100000) :
  bf bj 139 #[gP (D.jT i)] w λe w'=>(∃v,e=.returned v)∧eV D (s.jO D.c D.M i x) w t w':=by
 obtain⟨i0,aW,aT,aS,aR⟩:=info_parts Tryz.pN;have ay:=hide (show s.jO D.c D.M i x={ s with fm:=s.fm.set i { x with node:=(scan D.M x.pc.blk D.c.slice x.node x.done []).1,done:=(scan D.M x.pc.blk D.c.slice x.node x.done []).2.1,hits:=x.hits++(scan D.M x.pc.blk D.c.slice x.node x.done []).2.2,ph:=if(scan D.M x.pc.blk D.c.slice x.node x.done []).2.1=x.pc.blk.data.length then 3 else 2 } }from rfl);obtain⟨v9,c9,al⟩:=h.c9 hi;obtain⟨A,c,rfl,-⟩:=eu.form al.1;have hS:=hide (λW (hE:Ext w W)=>JS (ep.QZ (ep.extend h hE)) x.pc.blk A c (VP.st _ _ _ _ al.1 hE) x.node x.done D.c.slice (by have:=E.start;omega) E.eZ E.wst E.own E.Qd aC aF zO);generalize aV:(scan D.M x.pc.blk D.c.slice x.node x.done []).1=nn at*;generalize aY:(scan D.M x.pc.blk D.c.slice x.node x.done []).2.1=dd at*;generalize aX:(scan D.M x.pc.blk D.c.slice x.node x.done []).2.2=U at*;obtain⟨bb,an⟩:∃bb,bb=decide (dd=x.pc.blk.data.length):=⟨_,rfl⟩
 rw[←an]at hS;have Hb:=hide an;have c0:=h.c hi 0 _ (λ_ _=>rfl);have c6:=h.c hi 6 _ (λ_ _=>rfl);have c7:=h.c hi 7 _ (λ_ _=>rfl);have c8:=h.c hi 8 _ (λ_ _=>rfl);have aq:=h.c hi 11 _ (λ_ _=>rfl);have ap:=h.c hi 12 _ (λ_ _=>rfl);have p0:=ep.p0 h;have p6:=ep.p6 h;have am:D.jT i<w.heap.size:=by obtain⟨vd,vh,hb,-⟩:=h.row hi;exact hb.lt
 have aI:∀j v,(#[iV (x.pc.blk.num:Int),iV (x.pc.blk.start:Int),iV (x.pc.blk.eZ:Int),.slice A x.pc.blk.data.length c]:AV)[j]?=bc v→w.cell? ⟨D.jT i,6+j,bp⟩=bc v:=by
  grind
 have aJ:∀j v,(#[iV (x.node:Int),iV (x.done:Int)]:AV)[j]?=bc v→w.cell? ⟨D.jT i,11+j,bp⟩=bc v:=by
  grind
 have H:=hide h;have J:=hide hi;have iP:=hide (show 11+i≠0∧11+i<100 by omega);have Hp:=hide hp;have Hlen:=hide (And.intro aD aA);clear h hi hw al E aC aF aE aU aV aY aX an c6 c7 c8 c9 aq ap hp aD aA;go_enter func139,ntmps139;go_upto_region 0 with(fail)
 refine fK 32 [29,30] zR zK (λ_ _ _ _ _ h=>h) (.g ?_);refine ed.loadAt 107 _ rfl wA oA underlying107 rfl zR am aI (eh _) (.g ?_);refine ed.loadAt 266 _ rfl wA oA underlying266 rfl zR am aJ (eh _) (.g ?_);refine ed.call4 198 _ _ _ _ _ rfl (enters_of func198 zR rfl) wA oA oA oA oA (F:=eR [eC (.agg #[iV nn,iV dd]),Dl w.heap.size U,eC (.bool bb)]) (λ_ _ _ _ W hX h1 h2 h3 h4=>by cases h1;cases h2;cases h3;cases h4;exact(hS.out W ((eh _).tr hX)).mono (by rintro _ w4 ⟨_,rfl,a1,v2,rfl,ho⟩;exact eB.mk a1 (eR.three rfl (pB ho ((eh _).tr hX).size) rfl))) (.g ?_);refine ed.extract _ 0 rfl rfl wA oA ?_;refine ed.extract _ 1 rfl rfl wA oA ?_;refine ed.extract _ 2 rfl rfl wA oA ?_;refine ed.alloc (z:=.agg #[iV 0,iV 0]) 266 rfl wA zR zR (.g ?_);intro W0 aj;refine .any λaP af=>?_;refine .any λaO ae=>?_;refine .e ?_;refine .any λY d=>?_;refine .e ?_;refine .any λaN ad=>?_;refine .e ?_;clear af ae;obtain⟨g0,rfl,hg,hb,-⟩:=ad;refine eK rfl _ _ _ rfl rfl g0 _ rfl rfl _ _ hb zR rfl rfl ?_;intro V0 ao ak hX;have aj:=hX _ aj hg;clear hX hg;have aB:=eN d hb zD;have hE:=(eh w).tr aj;have ar:eP U Y V0:=gg _ _ _ _ d.pairs (λk hk=>ak k (λe=>aB (e▸hk)));have aw:Held (eP U) Y V0 (t.up w.heap.size 0):=Held.new ar hE (λk hk=>by
  rcases d.2 with⟨rfl,-⟩|⟨g,a7,a6,rfl,q1,q2,-⟩
  ·cases hk
  ·cases hk;grind) t
 have h1:kM D s i x V0 (t.up w.heap.size 0):=ep.qp H.out hE (λk hk=>ez.fB hk);have aM:Moves w t V0 (t.up w.heap.size 0):=Moves.ext' hE (λk hk=>ez.fB hk);generalize t.up w.heap.size 0=tt at*;obtain⟨A0,cc,rfl,-⟩:=ar;have k0:=ao.at_ 0 rfl;have k1:=ao.at_ 1 rfl;have aq:=h1.c J.out 11 _ (λ_ _=>rfl);have a3:=h1.fr J.out 11;have h2:=h1.set J.out 11 (iV nn) ({ x with node:=nn }:Wk) (λ_ _=>rfl) rfl rfl;have aL:=aM.set (h1.tag J.out) iP.out.1 iP.out.2 11 (iV nn);have av:=(Held.keeps (gg _) 1 _).turn zO iP.out.1 aw (Turn.set (h1.tag J.out) 11 (iV nn));have ap:=h2.c J.out 12 _ (λ_ _=>rfl);have a2:=h2.fr J.out 12;have h3:=hide (h2.set J.out 12 (iV dd) ({ x with node:=nn,done:=dd }:Wk) (λ_ _=>rfl) rfl rfl);have aK:=hide (aL.set (h2.tag J.out) iP.out.1 iP.out.2 12 (iV dd));have au:=hide ((Held.keeps (gg _) 1 _).turn zO iP.out.1 av (Turn.set (h2.tag J.out) 12 (iV dd)));clear aB hE aj ak hb d aw h1 aM h2 aL av H hS ao am aI aJ;go_upto_region 2 with(fail)
 generalize((V0.setCell ⟨D.jT i,11,bp⟩ (iV nn)).setCell ⟨D.jT i,12,bp⟩ (iV dd))=w3 at*;clear k0 k1 aq a3 ap a2;obtain⟨vd,vh,ah,aG,ag⟩:=h3.out.row J.out;obtain⟨A8,c8,rfl⟩:=ag.form;have aQ:=ah.2.at_ 13 rfl;have OF:=hide (JV au.out.1);go_wp2_with(at_builtin;apply fi rfl _ _ 38 rfl (11+i) tt 50 i0 (.agg #[iV 0,iV 0]) 2 16 bt aW aT aS aR rfl zO (.slice A8 x.hits.length c8) (.slice A0 U.length cc) x.hits.length U.length (fz x.hits) (fz U))
 case hx=>exact OF.out
 case hl=>exact oR U
 case h1=>exact oS U
 case hlen=>have:=Hlen.out;omega
 case h=>
  intro v' w7 t7 az ht T aZ;have ai:Turn (11+i) w3 tt w7 t7:=Turn.lG T (λk hk=>(ag.at_ hk).1) ht;have aa:=ah.grown T (eH ah ag zD) ht;have aH:=(Held.keeps (eX _) 1 _).turn zO iP.out.1 aG ai;have O:eO (11+i) 50 2 v' (x.hits++U).length (fz (x.hits++U)) w7 t7:=by
   grind[bq,j5]
  obtain⟨A7,c7,rfl⟩:=O.form;have a4:=aa.2.at_ 13 rfl;have a5:=aa.2.frozen 13;have h7:=hide (h3.out.OJ J.out ai aa aH O);have ab:=hide (aK.out.and (ai.gU aa.1 13 (.slice A7 (x.hits++U).length c7)) iP.out.1 iP.out.2);rw[bq]at h7 ab;clear aQ az O ht T aZ ai aa aH ag ah aG au h3 aK OF;cases bb with
  |true=>
   have c1:=h7.out.c J.out 1 _ (λ_ _=>rfl);have f1:=h7.out.fr J.out 1;have h9:=h7.out.set J.out 1 (.int .u8 3) ({ x with node:=nn,done:=dd,hits:=x.hits++U,ph:=3 }:Wk) (λ_ _=>rfl) rfl rfl;have hF:=hide (show eV D (s.jO D.c D.M i x) w t _ by
    rw[ay.out,if_pos (of_decide_eq_true Hb.out.symm)];exact⟨t7,h9,ab.out.set (h7.out.tag J.out) iP.out.1 iP.out.2 1 (.int .u8 3)⟩)
   clear h9 h7 ab;go_wp2
   go_end0
   exact⟨⟨_,rfl⟩,hF.out⟩
  |false=>
   have hF:=hide (show eV D (s.jO D.c D.M i x) w t _ by
    rw[ay.out,if_neg (of_decide_eq_false Hb.out.symm),←Hp.out];exact⟨t7,h7.out,ab.out⟩)
   clear h7 ab;go_wp2
   go_end0
   exact⟨⟨_,rfl⟩,hF.out⟩
end
end
section
def Tc(a b c:ba)(F:VP):VP:=⟨λv w=>∃u,v=.agg #[a,b,c,u]∧F u w,λ_ _ _ ⟨u,E,s⟩ d=>⟨u,E,F.wk _ _ _ s d⟩⟩
section
variable {P:Program} {Q:Exit→Act→bd→Prop} {ops:Array Oper} {M m:Nat} {a0:Act} {w0:bd} {K:List Oper→List VP→Prop} {o:Oper} {rest:List Oper} {env:List VP}
theorem ed.Q6{F:VP}{a b c:ba}(t:TypeId)(x y z u:Operand)(ho:o.op=.build t #[(0,x),(1,y),(2,z),(3,u)])(hb:∀A n k,P.built t [(0,a),(1,b),(2,c),(3,.slice A n k)]=bc #[a,b,c,.slice A n k])(hF:∀v w,F v w→∃A n k,v=.slice A n k)
  (Y:Want ops M a0 w0 env o bh)(hx:fu ops M a0 w0 env o x (eC a))(U:fu ops M a0 w0 env o y (eC b))(T:fu ops M a0 w0 env o z (eC c))(hu:fu ops M a0 w0 env o u F)
  (J:ed P Q ops M a0 w0 K m rest (Tc a b c F::env)):ed P Q ops M a0 w0 K (m+1) (o::rest) env:=
 .new Y (λd w s H E=>by
  have h0:d.eval x=a:=hx d w s H E;have h1:d.eval y=b:=U d w s H E;have h2:d.eval z=c:=T d w s H E;have O:=hu d w s H E;obtain⟨A,n,k,h4⟩:=hF _ _ O;refine⟨.agg #[a,b,c,d.eval u],w,?_,Ext.rf _,_,rfl,O⟩;rw[h4];have J:=run_build (P:=P) w t #[(0,a),(1,b),(2,c),(3,.slice A n k)] _ (hb A n k);unfold execOp;simp_all) J
end
theorem FJ(a b c d e:ba):Instr.fill (λi=>bc (i*(#[a,b,c,d,e]:AV).size,(#[a,b,c,d,e]:AV).size)) ((Array.range (1*(#[a,b,c,d,e]:AV).size)).map ((bK #[iV 0,iV 0,iV 0,nS,iV 0]).cells[· %(bK #[iV 0,iV 0,iV 0,nS,iV 0]).cells.size]!)) [(0,.agg #[a,b,c,d,e])]=bc #[a,b,c,d,e]:=by
 have e:∃x y z u v,((Array.range (1*(#[a,b,c,d,e]:AV).size)).map ((bK #[iV 0,iV 0,iV 0,nS,iV 0]).cells[· %(bK #[iV 0,iV 0,iV 0,nS,iV 0]).cells.size]!))=#[x,y,z,u,v]:=⟨iV 0,iV 0,iV 0,nS,iV 0,by kernel_rfl⟩
 obtain⟨x,y,z,u,v,e⟩:=e;rw[e];rfl
section
variable {D:PS} {s:St} {w w' w1:bd} {t t' t1:ez}
theorem Held.Uy{v:ba}{bs:L8}{e:TypeId}(h:OwnB w' w.heap.size e v bs)(E:Ext w w')(t:ez):Held (eu bs) v w' (t.up w.heap.size 0):=
 Held.new h.bytes E (λk d=>by
  rcases h.2 with⟨rfl,-⟩|⟨g,J,H,rfl,T,O,-⟩
  ·cases d
  ·cases d;grind) t
theorem OwnB.far{v:ba}{bs:L8}{e:TypeId}{B g:Nat}(h:OwnB w B e v bs)(hs:∀k,k≠g→w'.heap[k]?=w.heap[k]?)(d:v.ownBlock≠bc g):OwnB w' B e v bs:=by
 obtain⟨Y,J⟩:=h;refine⟨Y,?_⟩;rcases J with J|⟨k,H,E,rfl,U,T,O⟩
 ·grind
 ·exact .inr ⟨k,H,E,rfl,U,(hs k (λe=>d (by rw[e];rfl))).trans T,O⟩
theorem Dm(E st d:Int)(A:Option bH)(n k:Nat):prog.built 107 [(0,iV E),(1,iV st),(2,iV d),(3,.slice A n k)]=bc #[iV E,iV st,iV d,.slice A n k]:=by kernel_rfl
theorem Dn(E st d H:Int)(A:Option bH)(n k:Nat):prog.built 109 [(0,.agg #[iV E,iV st,iV d,.slice A n k]),(1,iV H)]=bc #[iV E,iV st,iV d,.slice A n k,iV H]:=by kernel_rfl
attribute [local irreducible] ew ed in
theorem JW(h:ep D s w t)(hn:s.rd.buf<D.c.ring)(hu:s.buf.used.getD s.rd.buf bo=bh)(hl:(s.buf.data.getD s.rd.buf []).length≤1000)(hc:s.q.closed=bo)(hq:s.q.items.length<D.c.queue)(av:D.c.kX≤4611686018427387904)(aJ:s.rd.ahead≤1000000000)(hnum:s.pl.number≤1000000000) :
  bf bj 134 #[gP D.mr] w λe w'=>(∃v,e=.returned v)∧eV D (s.lR D.c) w t w':=by
 obtain⟨d,ag⟩:∃d,d=s.buf.data.getD s.rd.buf []:=⟨_,rfl⟩
 have ab:=hide (show s.lR D.c={ s with q:=s.q.put ⟨⟨s.pl.number,D.c.kX+s.rd.ahead,s.rd.eZ,d⟩,s.rd.buf⟩,pl:={ s.pl with number:=s.pl.number+1 },rd:={ s.rd with holds:=bo,ph:=if s.rd.ended then 4 else 1 } } by grind[St.lR]);have hD:=hide (λW (E:Ext w W)=>JL (h.extend E).buf s.rd.buf hn hu hl);rw[←ag]at hD;have r0:=h.rc 0 _ (λ_=>rfl);have r7:=h.rc 7 _ (λ_=>rfl);have r8:=h.rc 8 _ (λ_=>rfl);have aF:=h.rc 10 _ (λ_=>rfl);have p7:=h.p7;have aI:=h.p11;have an:=h.p16;have ar:((D.c.kX:Int)+(s.rd.ahead:Int))=((D.c.kX+s.rd.ahead:Nat):Int):=zO;have ao:IntKind.i64.wrap ((D.c.kX:Int)+(s.rd.ahead:Int))=((D.c.kX+s.rd.ahead:Nat):Int):=by
  grind[IntWalk.i64_in]
 have H:=hide h;have Hc:=hide (And.intro hc (And.intro hq hnum));have Hw1:=hide ao;clear h hn hu hl ag hc hq ar ao av aJ hnum;go_enter func134,ntmps134;go_upto_region 1 with(fail)
 refine vQ 29 (.g ?_);refine ed.iu (r:=iV ((D.c.kX+s.rd.ahead:Nat):Int)) (bm 17) (bm 21) wA oA oA (λρ w E h1 h2=>by simp only[execOp,h1,h2];simp[go_sem];rw[Hw1.out];omega) (.g ?_);refine ed.call2 193 _ _ _ rfl (enters_of func193 zR rfl) wA oA oA (F:=Pu w.heap.size 5 d) (λ_ _ W hX h1 h2=>by cases h1;cases h2;exact(hD.out W ((eh _).tr hX)).mono (by rintro _ w4 ⟨_,rfl,aK,ho⟩;exact eB.mk aK (pB ho ((eh _).tr hX).size))) ?_;refine ed.Q6 107 (bm 12) (bm 22) (bm 26) (bm 35) rfl (λA n k=>Dm _ _ _ A n k) (λv w hv=>by obtain⟨A,c,e⟩:=OwnB.form hv;grind) wA (od 3 12 23 rfl) (od 13 22 13 rfl) (od 17 26 9 rfl) (od 26 35 0 rfl) ?_;refine ed.alloc (z:=.agg #[iV 0,iV 0,iV 0,nS]) 107 rfl wA zR zR (.g ?_);intro W1 ae;refine .any λaE aa=>?_;refine .any λaD Y=>?_;refine .e ?_;refine .any λaC U=>?_;refine .e ?_;clear aa;obtain⟨vd,rfl,O⟩:=Y;obtain⟨A,c,rfl⟩:=OwnB.form O;obtain⟨g1,rfl,hg,hb,-⟩:=U;refine eK rfl _ _ _ rfl rfl g1 _ rfl rfl _ _ hb zR rfl rfl ?_;intro V1 aL ah hX;have ae:=hX _ ae hg;clear hX hg;have au:=eN O hb zD;have E:=(eh w).tr ae;have af:OwnB V1 w.heap.size 5 (.slice A d.length c) d:=OwnB.far O ah au;have aq:=hide (Held.Uy af E t);have h1:=hide (H.out.qp E (t':=t.up w.heap.size 0) (λk hk=>ez.fB hk));have az:=hide (show Moves w t V1 (t.up w.heap.size 0)from Moves.ext' E (λk hk=>ez.fB hk));clear au O hb ah E ae af H hD r0 r7 r8 aF p7 aI an Hw1;generalize t.up w.heap.size 0=tt at*;go_upto_region 2 with(fail)
 have aH:=h1.out.p12;have r7:=h1.out.rc 7 _ (λ_=>rfl);refine vQ 11 (.g ?_);refine ed.eU 107 _ rfl wA oA underlying107 rfl zR aL (eh _) (.g ?_);refine ed.AE 109 _ _ rfl wA oA oA (Dn _ _ _ _ A d.length c) ?_;refine ed.OH #[iV (s.pl.number:Int),iV ((D.c.kX+s.rd.ahead:Nat):Int),iV (s.rd.eZ:Int),.slice A d.length c,iV (s.rd.buf:Int)] (.agg #[iV 0,iV 0,iV 0,nS,iV 0]) 113 109 (bm 46) rfl underlying113 zR zG zG (FJ _ _ _ _ _) wA oA (.g ?_);intro W2 aA;refine .any λaB T=>?_;refine .e ?_;obtain⟨gn,rfl,-,aw⟩:=T;have E:=(eh V1).tr aA;have h2:=h1.out.extend E;have ay:=hide (az.out.tr (Moves.ext tt E));have ap:=(Held.keeps (eX _) 1 _).ext aq.out E;have hP:=hide (JC zD h2.q Hc.out.1 Hc.out.2.1 ⟨⟨s.pl.number,D.c.kX+s.rd.ahead,s.rd.eZ,d⟩,s.rd.buf⟩ A c ap gn 1 aw);have H2:=hide h2;clear E aA h1 az aq h2 ap aw aH r7;go_wp2_with fail;refine hP.out.mono ?_;rintro _ w3 ⟨⟨_,rfl⟩,t3,hq,hT⟩;have h3:=H2.out.MK hT hq;have al:=ay.out.and hT zD zD;clear hP hq hT H2 ay;have aN:IntKind.i64.wrap ((s.pl.number:Int)+1)=(s.pl.number:Int)+1:=IntWalk.i64_in _ (by have:=Hc.out.2.2;omega);have an:=h3.p16;have aO:=h3.Uw 16;have h4:=h3.MM 16 (iV ((s.pl.number:Int)+1)) { s.pl with number:=s.pl.number+1 } (λ_ _=>rfl) rfl;have ak:=al.set h3.ML zD zD 16 (iV ((s.pl.number:Int)+1));have r6:=h4.rc 6 _ (λ_=>rfl);have f6:=h4.DY 6;have h5:=h4.lU 6 (.bool bo) { s.rd with holds:=bo } (λ_=>rfl) rfl;have aj:=ak.set h4.oV zD zD 6 (.bool bo);have r1:=h5.rc 1 _ (λ_=>rfl);have f1:=h5.DY 1;have h6:=h5.lU 1 (.int .u8 1) { s.rd with holds:=bo,ph:=1 } (λ_=>rfl) rfl;have ad:=aj.set h5.oV zD zD 1 (.int .u8 1);have am:=h6.rc 12 _ (λ_=>rfl);have aG:=h6.rc 1 _ (λ_=>rfl);have aM:=h6.DY 1;have h7:=h6.lU 1 (.int .u8 4) { s.rd with holds:=bo,ph:=4 } (λ_=>rfl) rfl;have ai:=ad.set h6.oV zD zD 1 (.int .u8 4);cases J:s.rd.ended with
 |false=>
  rw[J]at am;have hF:=hide (show eV D (s.lR D.c) w t _ by rw[ab.out,if_neg zG];exact⟨t3,h6,ad⟩);clear h3 al h4 ak h5 aj h6 ad h7 ai ab aG aM J;go_wp2
  go_end0
  exact⟨⟨_,rfl⟩,hF.out⟩
 |true=>
  rw[J]at am;have hF:=hide (show eV D (s.lR D.c) w t _ by rw[ab.out,if_pos J];exact⟨t3,h7,ai⟩);clear h3 al h4 ak h5 aj h6 ad h7 ai ab J;go_wp2
  go_end0
  exact⟨⟨_,rfl⟩,hF.out⟩
end
end
section
section
variable {D:PS} {s:St} {w w' w1:bd} {t t' t1:ez}
theorem Held.Uz{v:ba}{hs:Hits}(h:mT w' w.heap.size v hs)(E:Ext w w')(t:ez):Held (eP hs) v w' (t.up w.heap.size 0):=
 Held.new h.pairs E (λk d=>by
  rcases h.2 with⟨rfl,-⟩|⟨g,J,H,rfl,T,O,-⟩
  ·cases d
  ·cases d;grind) t
theorem ep.Q7(h:ep D s w t)(O:Turn 1 w t w1 t1){vs H d:ba}{xs:Hits}(E:eG 1 D.g 102 (TX D s.pl vs H) w1 t1)(hv:Held (xh D) vs w1 t1)(J:eO 1 50 2 d xs.length (fz xs) w1 t1) :
  ep D { s with pl:={ s.pl with took:=xs } } (w1.setCell ⟨D.g,18,bp⟩ d) t1:=by
 refine h.PI (O.gU E.1 18 d) ⟨vs,d,E.gU 18 d _ rfl,(Held.keeps (og D) 2 _).turn zO zO hv (Turn.set E.1 18 d),?_⟩;exact J.grown (row:=bc D.g) (eM (bG _ _) 18 d) (λq T e=>by
  grind[eH]) (λ_ _=>rfl)
theorem xq{v:ba}{y:Int×Int}{l:Hits}(hv:eP (y::l) v w):∃b d c,v=.slice (bc ⟨b,d,bp⟩) (l.length+1) c∧b<w.heap.size∧∀j u,(#[iV y.1,iV y.2]:AV)[j]?=bc u→w.cell? ⟨b,d+0*2+j,bp⟩=bc u:=by
 have E:=hv;obtain⟨A,c,rfl,J,H,O⟩:=E;grind
theorem Dp(h:ep D s w t)(T:s.out.items=[]) :
  bf bj 149 #[gP D.xe] w λe w'=>(∃v,e=.returned v)∧eV D { s with em:=2 } w t w':=by
 have J:=hide (zt h.out);rw[T]at J;have c0:=h.ec 0 _ rfl;have U:=h.Nu;have H:=hide h;clear h T;go_enter func149,ntmps149;go_wp2_with fail;refine J.out.mono ?_;rintro _ w2 ⟨v,rfl,d,O⟩;obtain⟨A,c,rfl,-⟩:=mT.pairs O;have E:=H.out.extend d;have c1:=E.ec 1 _ rfl;have f1:=E.V9 1;have Y:=hide (show eV D { s with em:=2 } w t _ from⟨t,E.PQ 2,(Moves.ext t d).set E.Q2 zD zD 1 (.int .u8 2)⟩);clear J H d O E;go_wp2;refine bn (results_none rfl _ _ _) rfl ?_;exact⟨⟨_,rfl⟩,Y.out⟩
attribute [local irreducible] ew ed in
theorem AT(h:ep D s w t)(y:Int×Int)(l:Hits)(hq:s.out.items=y::l)(ho:s.iG.offers≤1000000000)(hk:s.iG.took.length≤1000000000)(hp:s.pl.took.length≤1000000000) :
  bf bj 149 #[gP D.xe] w λe w'=>(∃v,e=.returned v)∧eV D (s.jr D.ans) w t w':=by
 obtain⟨i0,aP,aO,aN,aM⟩:=info_parts Tryz.pN;have hA:=hide (zt h.out);rw[hq]at hA;have av:=hide (show s.jr D.ans=if(Snk.offer D.ans s.iG y).1 then { s with iG:=(Snk.offer D.ans s.iG y).2,out:=s.out.drop1,pl:={ s.pl with took:=s.pl.took++[y] } }else { s with iG:=(Snk.offer D.ans s.iG y).2 } by grind[St.jr]);have hK:=hide (λW tt (hW:ep D s W tt)=>FB zD hW.iG y ho hk);have hG:=hide (λW tt (hW:im 7 D.kU D.c.out s.out W tt)=>Fp zD hW y l hq);obtain⟨bb,aF⟩:∃bb,bb=(Snk.offer D.ans s.iG y).1:=⟨_,rfl⟩
 obtain⟨sk,aA⟩:∃sk,sk=(Snk.offer D.ans s.iG y).2:=⟨_,rfl⟩
 rw[←aF,←aA]at hK av;have c0:=h.ec 0 _ rfl;have ar:=h.Nu;have H:=hide h;have Hp:=hide hp;clear h hq aF aA ho hk hp;go_enter func149,ntmps149;go_wp2_with fail;refine hA.out.mono ?_;rintro _ w2 ⟨v,rfl,ao,hv⟩;have Y:=Held.Uz hv ao t;have h2:=H.out.qp ao (t':=t.up w.heap.size 0) (λk hk=>ez.fB hk);have ak:Moves w t w2 (t.up w.heap.size 0):=Moves.ext' ao (λk hk=>ez.fB hk);clear hv;generalize t.up w.heap.size 0=t2 at*;obtain⟨b,aT,c,rfl,J,ag⟩:=xq Y.1;have aL:=h2.p10;have aD:0<l.length+1:=Nat.succ_pos _;have aU:¬(((l.length+1:Nat):Int)=0):=zO;have hX:=hide (And.intro h2 (And.intro ak Y));clear hA H ao h2 ak Y c0 ar;generalize l.length+1=ln at*;go_upto_region 4 with(fail)
 refine vQ 7 (.g ?_);refine ed.gT (i:=0) 2 38 50 _ _ rfl bt zR aD wA oA (eE _) ?_;refine ed.loadAt 50 _ rfl wA oA underlying50 rfl zR J ag (eh _) (.g ?_);intro W4 aK;have hE:=(eh w2).tr aK;obtain⟨h2,ak,Y⟩:=hX.out;have h3:=h2.extend hE;have aG:=ak.tr (Moves.ext t2 hE);have az:=(Held.keeps (gg _) 1 _).ext Y hE;have aH:=hide (hK.out W4 t2 h3);clear h2 ak Y hX hE aK aL J ag hK;go_wp2_with fail;refine aH.out.mono ?_;rintro _ w5 ⟨rfl,t5,aB,an⟩;have h5:=h3.QY an aB;have T:=aG.and an zD zD;have U:=(Held.keeps (gg _) 1 _).turn zD zD az an;clear aH h3 aG az aB an;cases bb with
 |false=>
  have hF:=hide (show eV D (s.jr D.ans) w t w5 by rw[av.out];exact⟨t5,h5,T⟩);clear h5 T U hG;go_wp2
  go_end0
  exact⟨⟨_,rfl⟩,hF.out⟩
 |true=>
  have aI:=hide (hG.out w5 t5 h5.out);have ar:=h5.Nu;have hX:=hide (And.intro h5 (And.intro T U));clear h5 T U hG;go_wp2_with fail;refine aI.out.mono ?_;rintro _ w6 ⟨cs,rfl,-,t6,aC,am,-⟩;obtain⟨h5,T,U⟩:=hX.out;have h6:=h5.xj am aC;have aj:=T.and am zD zD;have ay:=(Held.keeps (gg _) 1 _).turn zD zD U am;clear aI h5 T U hX aC am ar;go_upto_region 6 with(fail)
  obtain⟨b',aS,c',e,J,ag⟩:=xq ay.1;cases e;obtain⟨vs,vt,hb,ae,aa⟩:=h6.pl;obtain⟨A,ct,rfl⟩:=aa.form;have aw:=hb.2.at_ 18 rfl;have hX:=hide (And.intro h6 (And.intro aj (And.intro hb (And.intro ae aa))));clear h6 aj hb ae aa ay;refine fK 9 [0] zR zK (λ_ _ _ _ _ h=>h) (.g ?_);refine ed.gT (i:=0) 2 38 50 _ _ rfl bt zR aD wA oA (eE _) ?_;refine ed.loadAt 50 _ rfl wA oA underlying50 rfl zR J ag (eh _) ?_;refine ed.OH #[iV y.1,iV y.2] (.agg #[iV 0,iV 0]) 38 50 (bm 41) rfl bt zR zG zG (xc _ _) wA oA (.g ?_);intro W6 aJ;refine .any λaR au=>?_;refine .e ?_;obtain⟨q,rfl,hq,aE⟩:=au;have ad:=(eh w6).tr aJ;obtain⟨h6,aj,hb,ae,aa⟩:=hX.out;have h7:=h6.extend ad;have ai:=aj.tr (Moves.ext t6 ad);have ab:=(eG.keeps _ _ _ _).ext hb ad;have E:=(Held.keeps (og D) 2 _).ext ae ad;have d:=(eO.keeps _ _ _ _ _ _).ext aa ad;have aq:Src W6 (.slice (bc ⟨q,0,bp⟩) 1 1) 1 [iV y.1,iV y.2]:=⟨_,_,rfl,λ_=>⟨q,0,rfl,λj y hj=>by rw[Nat.zero_add,aE.cell j];grind⟩⟩
  have HS:=hide aq;have HO:=hide d;have HX:=hide (And.intro h7 (And.intro ai (And.intro ab E)));clear h6 aj hb ae aa hX ad aJ h7 ai ab E d aq aE aw J ag hq;go_wp2_with(at_builtin;apply fi rfl _ _ 38 rfl 1 t6 50 i0 (.agg #[iV 0,iV 0]) 2 16 bt aP aO aN aM rfl zO (.slice A s.pl.took.length ct) (.slice (bc ⟨q,0,bp⟩) 1 1) s.pl.took.length 1 (fz s.pl.took) [iV y.1,iV y.2])
  all_goals try rfl
  case hown=>exact HO.out
  case hx=>exact HS.out
  all_goals try(exact⟨rfl,rfl⟩)
  case hlen=>have:=Hp.out;omega
  case h=>
   intro v' w8 t8 hown ht O aQ;obtain⟨A4,c4,rfl⟩:=hown.form;obtain⟨h7,ai,ab,E⟩:=HX.out;have d:=HO.out;have al:Turn 1 W6 t6 w8 t8:=Turn.lG O (λk hk=>(d.at_ hk).1) ht;have ah:=ab.grown O (eH ab d zD) ht;have ap:=(Held.keeps (og D) 2 _).turn zD zD E al;have aw:=ah.2.at_ 18 rfl;have aV:=ah.2.frozen 18;have af:eO 1 50 2 (.slice A4 (s.pl.took.length+1) c4) (s.pl.took++[y]).length (fz (s.pl.took++[y])) w8 t8:=by
    rw[bq,j5];exact hown
   have h9:=h7.Q7 al ah ap af;have hF:=hide (show eV D (s.jr D.ans) w t _ by rw[av.out];exact⟨t8,h9,(ai.and al zD zD).set ah.1 zD zD 18 (.slice A4 (s.pl.took.length+1) c4)⟩);clear hown af ht O aQ h7 ai ab E d al ah ap h9 HO HS HX;go_wp2
   go_end0
   exact⟨⟨_,rfl⟩,hF.out⟩
end
end
theorem FK(r:Rg){R:Nat}(E:1≤R):((r.at_ r.next).isSome=bh∧∃l,ig r R=(r.next:Int)::l)∨((r.at_ r.next).isSome=bo∧(ig r R=[]∨∃x l,ig r R=x::l∧¬x=(r.next:Int))):=by
 obtain⟨k,rfl⟩:∃k,R=k+1:=⟨R-1,by omega⟩
 have e:ig r (k+1)=(if(r.at_ r.next).isSome then [(r.next:Int)]else [])++((((bu k).map (λi=>r.next+(i+1))).filter λn=>(r.at_ n).isSome).map λn:Nat=>(n:Int)):=by
  unfold ig;rw[List.range_succ_eq_map,List.map_cons,List.filter_cons,Nat.add_zero,List.map_map];split
  ·rfl
  rfl
 cases d:(r.at_ r.next).isSome with
 |true=>grind
 |false=>
  refine .inr ⟨rfl,?_⟩;rw[d]at e;simp only[Bool.false_eq_true,if_false,List.nil_append]at e;cases s:ig r (k+1)with
  |nil=>grind
  |cons x l=>
   grind[ig,List.mem_cons_self]
section
variable {D:PS} {s:St} {w w' w1:bd} {t t' t1:ez}
theorem pU{v:ba}(hv:xh D v w):∃b d c,v=.slice (bc ⟨b,d,bp⟩) (D.c.workers+3) c∧D.c.workers+3≤c∧b<w.heap.size∧∀n,n<D.c.workers+3→w.cell? ⟨b,d+n,bp⟩=bc (lT D n):=by
 obtain⟨A,c,rfl,H,h2,E⟩:=hv;simp only[List.length_map,List.length_range]at H E ⊢;obtain⟨b,d,rfl,T,O⟩:=E zO;refine⟨b,d,c,rfl,H,T,λn Y=>?_⟩;obtain⟨x,J,U⟩:=O n (eC (lT D n)) zG;rw[J];exact congrArg bc U
theorem Tryz.FL(a:bH)(w:bd):(method 576 179 (.pointer (bc a)) "teasel/pool.over").run bj w=.ok (337,.pointer (bc a)) w:=by rfl
theorem AU(h:ep D s w t)(hx:s.rg.next≤1000000000)(l:List Int)(hl:ig s.rg D.c.ring=(s.rg.next:Int)::l):bf bj 143 #[gP D.sQ] w (eB w (eC (.bool bh))):=by
 have hA:=hide (rD h.rg);have U:=hide (λW (T:Ext w W)=>lp (h.extend T).rg zO);rw[hl]at U;have r0:=h.mc 0 _ (λ_=>rfl);have O:=h.p13;have H:=hide h;clear h hx hl;go_enter func143,ntmps143;go_wp2_with fail;refine hA.out.mono ?_;rintro _ w2 ⟨_,rfl,d,rfl⟩;have J:=hide (U.out w2 d);have O:=(H.out.extend d).p13;clear hA U;go_wp2_with fail;refine J.out.mono ?_;rintro _ w3 ⟨v,rfl,E,hv⟩;have T:=hide (d.tr E);obtain⟨-,⟨-,hn⟩|⟨g,ae,Y,rfl,hb,hg,h3,h4,h5,h6⟩⟩:=hv
 ·simp at hn
 have ad:w3.cell? ⟨g,0,bp⟩=bc (iV (s.rg.next:Int)):=by
  rw[cell_of_row w3 g 0 Y _ (0,0) hg,←bD];have:=congrArg (λq=>q[0]?) h6;grind
 clear J d E H h6 hb hg h3 h4 h5;have ab:((((s.rg.next:Int)::l).length:Nat):Int)>0:=zG;have aa:0<((s.rg.next:Int)::l).length:=zO;generalize((s.rg.next:Int)::l).length=n at*;go_wp2;go_ret;exact eB.mk T.out rfl
theorem Dq(h:ep D s w t)(hx:s.rg.next≤1000000000)(hl:ig s.rg D.c.ring=[]∨∃x l,ig s.rg D.c.ring=x::l∧¬x=(s.rg.next:Int)):bf bj 143 #[gP D.sQ] w (eB w (eC (.bool (decide (s.rd.ph=5)&&decide (s.rg.next=s.pl.number))))):=by
 have hA:=hide (rD h.rg);have hB:=hide (λW (d:Ext w W)=>lp (h.extend d).rg zO);have r0:=h.mc 0 _ (λ_=>rfl);have ah:=h.p13;have H:=hide h;have Hl:=hide hl;clear h hx hl;go_enter func143,ntmps143;go_wp2_with fail;refine hA.out.mono ?_;rintro _ w2 ⟨_,rfl,U,rfl⟩;have ag:=hide (hB.out w2 U);have ah:=(H.out.extend U).p13;clear hA hB;go_wp2_with fail;refine ag.out.mono ?_;rintro _ w3 ⟨v,rfl,af,hv⟩;have d:=U.tr af;have h3:=H.out.extend d;obtain⟨vs,aa,ab⟩:=h3.S7;obtain⟨b,an,c,rfl,aj,am,ad⟩:=pU ab.1;have Y:=ad 0 zO;rw[show lT D 0=.iface 179 (eF D.mr)from rfl,Nat.add_zero]at Y;have T:=h3.p16;have ae:=h3.Q1;have hO:=hide (λW (d:Ext w3 W)=>kV (w:=W) (b:=D.mr) (p:=(s.rd.ph:Int)) (q:=5) ((h3.extend d).rc 1 _ (λ_=>rfl)) ((h3.extend d).rc 2 _ (λ_=>rfl)));have HE:=hide d;have hm:=Tryz.FL;have e5:decide ((s.rd.ph:Int)=5)=decide (s.rd.ph=5):=decide_eq_decide.2 zO;rw[e5]at hO;have Hn:=hide (show((s.rg.next:Int)=(s.pl.number:Int))↔s.rg.next=s.pl.number by omega);clear ag U af H d ad aj ab h3 e5;have ai:∃n A cc,v=.slice A n cc∧((n=0)∨(0<n∧∃g x,A=bc ⟨g,0,bp⟩∧w3.cell? ⟨g,0,bp⟩=bc (iV x)∧¬x=(s.rg.next:Int))):=by
  rcases Hl.out with e|⟨x,l,e,hx⟩
  ·rw[e]at hv;obtain⟨A,cc,rfl⟩:=eI hv;grind
  ·rw[e]at hv;obtain⟨-,⟨-,hn⟩|⟨g,ao,al,rfl,hb,hg,h3,h4,O,h6⟩⟩:=hv
   ·simp at hn
   have ak:w3.cell? ⟨g,0,bp⟩=bc (iV x):=by
    rw[cell_of_row w3 g 0 al _ (0,0) hg,←bD];have:=congrArg (λq=>q[0]?) h6;grind
   grind
 clear hv Hl;obtain⟨n,A,cc,rfl,rfl|⟨hn,g,x,rfl,ak,hx⟩⟩:=ai
 ·skip;go_wp2_with fail;refine(hO.out _ (Ext.rf _)).mono ?_;rintro _ w4 ⟨_,rfl,E,rfl⟩;have T:=(E.cell (p:=⟨D.g,16,bp⟩) ae).trans T;have d:=hide (HE.out.tr E);clear hO HE E hm Y aa;cases O:decide (s.rd.ph=5)with
  |false=>
   have H5:=hide O;clear O;go_wp2;go_ret;exact eB.mk d.out (show bg bo=bg (decide (s.rd.ph=5)&&decide (s.rg.next=s.pl.number)) by rw[H5.out];rfl)
  |true=>
   have H5:=hide O;clear O;by_cases J:s.rg.next=s.pl.number
   ·have e7:=Hn.out.2 J;have H6:=hide J;clear J;go_wp2;go_ret;exact eB.mk d.out (show bg bh=bg (decide (s.rd.ph=5)&&decide (s.rg.next=s.pl.number)) by rw[H5.out,decide_eq_true H6.out];rfl)
   ·have e7:¬((s.rg.next:Int)=(s.pl.number:Int)):=λe=>J (Hn.out.1 e);have H6:=hide J;clear J;go_wp2;go_ret;exact eB.mk d.out (show bg ((s.rg.next:Int)==(s.pl.number:Int))=bg (decide (s.rd.ph=5)&&decide (s.rg.next=s.pl.number)) by grind[decide_eq_false,beq_eq_false_iff_ne])
 ·go_wp2_with fail;refine(hO.out _ (Ext.rf _)).mono ?_;rintro _ w4 ⟨_,rfl,E,rfl⟩;have T:=(E.cell (p:=⟨D.g,16,bp⟩) ae).trans T;have d:=hide (HE.out.tr E);clear hO HE E hm Y aa;cases O:decide (s.rd.ph=5)with
  |false=>
   have H5:=hide O;clear O;go_wp2;go_ret;exact eB.mk d.out (show bg bo=bg (decide (s.rd.ph=5)&&decide (s.rg.next=s.pl.number)) by rw[H5.out];rfl)
  |true=>
   have H5:=hide O;clear O;by_cases J:s.rg.next=s.pl.number
   ·have e7:=Hn.out.2 J;have H6:=hide J;clear J;go_wp2;go_ret;exact eB.mk d.out (show bg bh=bg (decide (s.rd.ph=5)&&decide (s.rg.next=s.pl.number)) by rw[H5.out,decide_eq_true H6.out];rfl)
   ·have e7:¬((s.rg.next:Int)=(s.pl.number:Int)):=λe=>J (Hn.out.1 e);have H6:=hide J;clear J;go_wp2;go_ret;exact eB.mk d.out (show bg ((s.rg.next:Int)==(s.pl.number:Int))=bg (decide (s.rd.ph=5)&&decide (s.rg.next=s.pl.number)) by grind[decide_eq_false,beq_eq_false_iff_ne])
theorem AW(h:ep D s w t)(hx:s.rg.next≤1000000000):bf bj 143 #[gP D.sQ] w (eB w (eC (.bool s.merged))):=by
 have J:1≤D.c.ring:=by
  obtain⟨T,E,-,-,H⟩:=h.rg;exact H.lo
 unfold St.merged;rcases FK s.rg J with⟨d,l,O⟩|⟨d,O⟩
 ·rw[d,Bool.true_or];grind[AU]
 ·rw[d,Bool.false_or];grind[Dq]
end
structure pV(c:Cf):Prop where
 w1:1≤c.workers
 w2:c.workers≤8
 b1:1≤c.block
 b2:c.block≤256
 r1:1≤c.ring
 r2:c.ring≤16
 q1:1≤c.queue
 q2:c.queue≤16
 o1:1≤c.out
 o2:c.out≤16
 s1:1≤c.slice
 s2:c.slice≤256
 kX:c.kX≤4611686018427387904
structure iE(D:PS)(S:L8→List Nat)(text:L8)(n:Nat)(s:St):Prop where
 good:fq.Good D.c D.M S text D.ans s
 Q8:xR D.M S
 lim:DV n s
 hn:n≤1000000
 conf:pV D.c
 Q9:text.length≤1000000
section
variable {D:PS} {s:St} {w w' W:bd} {t t':ez} {S:List UInt8→List Nat} {text:List UInt8} {n:Nat}
theorem iE.step(h:iE D S text n s)(E:n+1≤1000000){k:Nat}(d:s.ready D.c k=bh):iE D S text (n+1) (s.step D.c D.M D.ans k):=
 ⟨h.good.step h.Q8 h.conf.b1 d,h.Q8,h.lim.step h.conf.b2 k,E,h.conf,h.Q9⟩
theorem iE.cancel(h:iE D S text n s):iE D S text n s.cancel:=⟨h.good.cancel,h.Q8,h.lim.cancel,h.hn,h.conf,h.Q9⟩
theorem iE.next(h:iE D S text n s):s.rg.next≤1000000000∧s.pl.number≤1000000000:=by
 have H:=h.good.room.n.le;have E:=h.lim.num;have d:=h.hn;omega
theorem eV.ext(d:Ext w W)(h:eV D s W t w'):eV D s w t w':=by
 obtain⟨t',H,E⟩:=h;exact⟨t',H,(Moves.ext t d).tr E⟩
theorem gL(d:Ext w W){e:Ending}(h:(∃v,e=.returned v)∧eV D s W t w'):(∃v,e=.returned v)∧eV D s w t w':=⟨h.1,h.2.ext d⟩
theorem isFn(f b:Nat):lI (ja f b):=⟨_,_,_,rfl⟩
theorem kL:lI mP:=⟨_,_,_,rfl⟩
theorem ep.Td(h:ep D s w t):xk w D.mr D.g D.pn (s.rd.ph:Int) 5 s.pl.cancelled mP (ja 136 D.mr) (pQ D.mr):=
 ⟨h.S8,h.rc 0 _ (λ_=>rfl),h.rc 1 _ (λ_=>rfl),h.rc 2 _ (λ_=>rfl),h.rc 3 _ (λ_=>rfl),h.rc 4 _ (λ_=>rfl),h.rc 5 _ (λ_=>rfl),h.Q1,h.PM,h.pn.2⟩
theorem ep.Tf(h:ep D s w t):xk w D.sQ D.g D.pr (s.mg.ph:Int) 3 s.pl.cancelled mP (ja 147 D.sQ) (qR D.sQ):=
 ⟨by obtain⟨E,d,-⟩:=h.mg;exact d.lt,h.mc 0 _ (λ_=>rfl),h.mc 1 _ (λ_=>rfl),h.mc 2 _ (λ_=>rfl),h.mc 3 _ (λ_=>rfl),h.mc 4 _ (λ_=>rfl),h.mc 5 _ (λ_=>rfl),h.Q1,h.PM,h.pr.2⟩
theorem ep.Tg(h:ep D s w t):xk w D.xe D.g D.mem (s.em:Int) 2 s.pl.cancelled (ja 148 D.xe) (ja 150 D.xe) (qS D.xe):=
 ⟨h.em.lt,h.ec 0 _ rfl,h.ec 1 _ rfl,h.ec 2 _ rfl,h.ec 3 _ rfl,h.ec 4 _ rfl,h.ec 5 _ rfl,h.Q1,h.PM,h.mem.2⟩
theorem ep.Th(h:ep D s w t){i:Nat}(hi:i<D.c.workers):xk w (D.jT i) D.g (D.lq i) ((s.fm.getD i Wk.fresh).ph:Int) 4 s.pl.cancelled (ja 141 (D.jT i)) (ja 142 (D.jT i)) (pR (D.jT i)):=
 have k:=h.Q4 hi
 ⟨by obtain⟨H,E,d,-⟩:=h.fm i hi;exact d.lt,k.c hi 0 _ (λ_ _=>rfl),k.c hi 1 _ (λ_ _=>rfl),k.c hi 2 _ (λ_ _=>rfl),k.c hi 3 _ (λ_ _=>rfl),k.c hi 4 _ (λ_ _=>rfl),k.c hi 5 _ (λ_ _=>rfl),h.Q1,h.PM,(h.lq i hi).2⟩
theorem pf(b:Nat):∀x∈pQ b,lI x.2.1∧lI x.2.2:=by
 intro x d;simp only[pQ,bx,br,or_false]at d;rcases d with rfl|rfl|rfl|rfl<;>exact⟨⟨_,_,_,rfl⟩,⟨_,_,_,rfl⟩⟩
theorem sT(b:Nat):∀x∈pR b,lI x.2.1∧lI x.2.2:=by
 intro x d;simp only[pR,bx,br,or_false]at d;rcases d with rfl|rfl|rfl<;>exact⟨⟨_,_,_,rfl⟩,⟨_,_,_,rfl⟩⟩
theorem xr(b:Nat):∀x∈qR b,lI x.2.1∧lI x.2.2:=by
 intro x d;simp only[qR,bx,br,or_false]at d;rcases d with rfl|rfl<;>exact⟨⟨_,_,_,rfl⟩,⟨_,_,_,rfl⟩⟩
theorem Dr(b:Nat):∀x∈qS b,lI x.2.1∧lI x.2.2:=by
 intro x d;simp only[qS,bx,br,or_false]at d;rcases d with rfl;exact⟨⟨_,_,_,rfl⟩,⟨_,_,_,rfl⟩⟩
theorem Dt(h:ep D s w t)(Y:iE D S text n s):bf bj 339 #[eF D.mr] w (eB w (eC (.bool (s.kY D.c)))):=by
 have d:=h.Td;obtain⟨O,J⟩:=Y.next;unfold St.kY;by_cases U:s.rd.ph=5
 ·rw[if_pos U];exact l9 d kL (isFn _ _) (pf _) (by rw[U];rfl)
 ·rw[if_neg U];have T:¬((s.rd.ph:Int)=5):=zO;by_cases H:s.pl.cancelled=bh
  ·rw[if_pos H];rw[H]at d;exact fM d kL (isFn _ _) (pf _) 131 _ _ _ _ (by unfold iN;rw[if_neg T];rfl) (enters_of bI zR rfl) bh λW _=>kW W
  ·rw[if_neg H];rw[a8.2 H]at d;have hp:=Y.good.room.p.Kr;rcases(show s.rd.ph=1∨s.rd.ph=2∨s.rd.ph=3∨s.rd.ph=4 by omega)with e|e|e|e
   ·rw[e]at d;rw[if_pos e];exact fM d kL (isFn _ _) (pf _) 129 _ _ _ _ rfl (enters_of func129 zR rfl) _ λW E=>xl (h.extend E) J O
   ·rw[e]at d;rw[if_neg zO,if_neg zO];exact fM d kL (isFn _ _) (pf _) 131 _ _ _ _ rfl (enters_of bI zR rfl) _ λW E=>kW W
   ·rw[e]at d;rw[if_neg zO,if_pos e];exact fM d kL (isFn _ _) (pf _) 133 _ _ _ _ rfl (enters_of func133 zR rfl) _ λW E=>FD (h.extend E)
   ·rw[e]at d;rw[if_neg zO,if_neg zO];exact fM d kL (isFn _ _) (pf _) 131 _ _ _ _ rfl (enters_of bI zR rfl) _ λW E=>kW W
theorem FM(h:ep D s w t)(hK:iE D S text n s)(U:s.kY D.c=bh):bf bj 340 #[eF D.mr] w λe w'=>(∃v,e=.returned v)∧eV D (s.rdStep D.c D.M) w t w':=by
 have H:=h.Td;obtain⟨aj,ad⟩:=hK.next;have J:=hK.conf;have hl:=hK.lim;have hn:=hK.hn;have T:=hK.good.room;obtain⟨am,af⟩:=h.ki.uG;have O:=T.p.Ks;have aa:∀{k:Nat},k<D.c.ring→k<16:=λhk=>by have:=J.r2;omega
 unfold St.kY at U;by_cases h5:s.rd.ph=5
 ·grind
 rw[if_neg h5]at U;rw[decide_eq_false h5]at O;have ai:¬((s.rd.ph:Int)=5):=zO;unfold St.rdStep;by_cases hc:s.pl.cancelled=bh
 ·rw[if_pos hc];rw[hc]at H;exact fP H kL (isFn _ _) (pf _) 136 _ _ _ _ (by unfold iN;rw[if_neg ai];rfl) (enters_of func136 zR rfl) _ λW d=>
   (AO (h.extend d) O (λY=>by obtain⟨b1,b2,b3⟩:=T.KJ Y;grind)).mono λe w' E=>gL d E
 rw[if_neg hc];rw[if_neg hc]at U;have hd:=hK.good.dat (a8.2 hc);rw[a8.2 hc]at H;have E:=T.p.Kr;rcases(show s.rd.ph=1∨s.rd.ph=2∨s.rd.ph=3∨s.rd.ph=4 by omega)with e|e|e|e
 ·rw[e]at H;rw[if_pos e]at U;rw[if_pos e];have Y:s.rd.holds=false:=by rw[T.p.holds];grind
  obtain⟨l,m,ag,hm⟩:=T.KL Y U;have ae:=hd.KM;exact fP H kL (isFn _ _) (pf _) 130 _ _ _ _ rfl (enters_of func130 zR rfl) _ λW d=>
   (FE (h.extend d) l m ag hm (by have:=J.b2;omega) zO).mono λe w' E=>gL d E
 ·rw[e]at H;rw[if_neg zO,if_pos e];have Y:s.rd.holds=true:=by rw[T.p.holds];grind
  obtain⟨b1,b2,b3⟩:=T.KJ Y;obtain⟨o1,o2⟩:=hd.r.NG e;have ah:=hd.KN (.inl e);have ae:=hd.KM;have ab:=J.b2;have al:=hl.told;have ak:=hl.read;cases hs:s.src.next (D.c.block-s.rd.own)with
  |some q=>
   obtain⟨b,x'⟩:=q;exact fP H kL (isFn _ _) (pf _) 132 _ _ _ _ rfl (enters_of func132 zR rfl) _ λW d=>
    (Di (h.extend d) e o1 ab af b x' hs zO b1 b2 zO zO zO).mono λe w' E=>gL d E
  |none=>
   exact fP H kL (isFn _ _) (pf _) 132 _ _ _ _ rfl (enters_of func132 zR rfl) _ λW d=>
    (Dj (h.extend d) e o1 ab hs b1 b2 (aa b3)).mono λe w' E=>gL d E
 ·rw[e]at H;rw[if_neg zO,if_pos e]at U;rw[if_neg zO,if_neg zO,if_pos e];have Y:s.rd.holds=true:=by rw[T.p.holds];grind
  obtain⟨b1,b2,b3⟩:=T.KJ Y;obtain⟨o1,o2,-⟩:=hd.r.NH e;have ah:=hd.KN (.inr e);have ab:=J.b2;have ha:=hl.ahead;exact fP H kL (isFn _ _) (pf _) 134 _ _ _ _ rfl (enters_of func134 zR rfl) _ λW d=>
   (JW (h.extend d) b1 b2 zO O (of_decide_eq_true U) J.kX zO ad).mono λe w' E=>gL d E
 ·rw[e]at H;rw[if_neg zO,if_neg zO,if_neg zO];exact fP H kL (isFn _ _) (pf _) 135 _ _ _ _ rfl (enters_of func135 zR rfl) _ λW d=>
   (rH (h.extend d) O).mono λe w' E=>gL d E
end
section
variable {D:PS} {s:St} {w w' W:bd} {t t':ez} {S:List UInt8→List Nat} {text:List UInt8} {n:Nat}
theorem Du(h:ep D s w t)(U:iE D S text n s):bf bj 339 #[eF D.sQ] w (eB w (eC (.bool (s.lf D.c)))):=by
 have d:=h.Tf;obtain⟨H,Y⟩:=U.next;unfold St.lf;by_cases T:s.mg.ph=3
 ·rw[if_pos T];exact l9 d kL (isFn _ _) (xr _) (by rw[T];rfl)
 ·rw[if_neg T];have O:¬((s.mg.ph:Int)=3):=zO;by_cases E:s.pl.cancelled=bh
  ·rw[if_pos E];rw[E]at d;exact fM d kL (isFn _ _) (xr _) 131 _ _ _ _ (by unfold iN;rw[if_neg O];rfl) (enters_of bI zR rfl) bh λW _=>kW W
  ·rw[if_neg E];rw[a8.2 E]at d;have hp:=U.good.room.p.Nz;rcases(show s.mg.ph=1∨s.mg.ph=2 by omega)with e|e
   ·rw[e]at d;rw[if_pos e];exact fM d kL (isFn _ _) (xr _) 143 _ _ _ _ rfl (enters_of func143 zR rfl) _ λW J=>AW (h.extend J) H
   ·rw[e]at d;rw[if_neg zO];exact fM d kL (isFn _ _) (xr _) 145 _ _ _ _ rfl (enters_of func145 zR rfl) _ λW J=>FF (h.extend J)
theorem FN(h:ep D s w t)(hK:iE D S text n s)(T:s.lf D.c=bh):bf bj 340 #[eF D.sQ] w λe w'=>(∃v,e=.returned v)∧eV D s.ke w t w':=by
 have H:=h.Tf;obtain⟨O,ab⟩:=hK.next;have Y:=hK.good.room;have d:=Y.p.Qa;unfold St.lf at T;by_cases h5:s.mg.ph=3
 ·grind
 rw[if_neg h5]at T;rw[decide_eq_false h5]at d;have aa:¬((s.mg.ph:Int)=3):=zO;unfold St.ke;by_cases U:s.pl.cancelled=bh
 ·rw[if_pos U];rw[U]at H;exact fP H kL (isFn _ _) (xr _) 147 _ _ _ _ (by unfold iN;rw[if_neg aa];rfl) (enters_of func147 zR rfl) _ λW E=>
   (AQ (h.extend E) d O).mono λe w' J=>gL E J
 rw[if_neg U];rw[if_neg U]at T;rw[a8.2 U]at H;have J:=Y.p.Nz;rcases(show s.mg.ph=1∨s.mg.ph=2 by omega)with e|e
 ·rw[e]at H;rw[if_pos e];exact fP H kL (isFn _ _) (xr _) 144 _ _ _ _ rfl (enters_of func144 zR rfl) _ λW E=>
   (FH (h.extend E) d O).mono λe w' J=>gL E J
 ·rw[e]at H;rw[if_neg zO]at T;rw[if_neg zO];have ad:=Y.p.NA.1 e;cases hq:s.mg.hits with
  |nil=>grind
  |cons y l=>
   exact fP H kL (isFn _ _) (xr _) 146 _ _ _ _ rfl (enters_of func146 zR rfl) _ λW E=>
    (Dk (h.extend E) y l hq d (of_decide_eq_true T) e).mono λe w' J=>gL E J
theorem Dv(h:ep D s w t)(T:iE D S text n s):bf bj 339 #[eF D.xe] w (eB w (eC (.bool s.ng))):=by
 have d:=h.Tg;unfold St.ng;by_cases J:s.em=2
 ·rw[if_pos J];exact l9 d (isFn _ _) (isFn _ _) (Dr _) (by rw[J];rfl)
 ·rw[if_neg J];have H:¬((s.em:Int)=2):=zO;have U:=T.good.room.p.R9;by_cases O:s.pl.cancelled=bh
  ·rw[O]at d;exact fM d (isFn _ _) (isFn _ _) (Dr _) 148 _ _ _ _ (by unfold iN;rw[if_neg H];rfl) (enters_of func148 zR rfl) _ λW E=>sS (h.extend E)
  ·rw[a8.2 O]at d;have e:s.em=1:=zO;rw[e]at d;exact fM d (isFn _ _) (isFn _ _) (Dr _) 148 _ _ _ _ rfl (enters_of func148 zR rfl) _ λW E=>sS (h.extend E)
theorem Dw(h:ep D s w t)(H:s.iG.offers≤1000000000)(J:s.iG.took.length≤1000000000)(E:s.pl.took.length≤1000000000) :
  bf bj 149 #[gP D.xe] w λe w'=>(∃v,e=.returned v)∧eV D (s.jr D.ans) w t w':=by
 cases d:s.out.items with
 |nil=>
  have e:s.jr D.ans={ s with em:=2 }:=by grind[St.jr]
  grind[Dp]
 |cons y l=>exact AT h y l d H J E
theorem FO(h:ep D s w t)(d:iE D S text n s)(hr:s.ng=bh):bf bj 340 #[eF D.xe] w λe w'=>(∃v,e=.returned v)∧eV D (s.iI D.ans) w t w':=by
 have H:=h.Tg;have hl:=d.lim.offers;have hn:=d.hn;have U:=d.good.Gn;have Y:=d.good.same;unfold St.ng at hr;by_cases h5:s.em=2
 ·grind
 have T:¬((s.em:Int)=2):=zO;have J:=d.good.room.p.R9;unfold St.iI;by_cases O:s.pl.cancelled=bh
 ·rw[if_pos O];rw[O]at H;exact fP H (isFn _ _) (isFn _ _) (Dr _) 150 _ _ _ _ (by unfold iN;rw[if_neg T];rfl) (enters_of func150 zR rfl) _ λW E=>
   (AR (h.extend E)).mono λe w' J=>gL E J
 ·rw[if_neg O];rw[a8.2 O]at H;have e:s.em=1:=zO;rw[e]at H;exact fP H (isFn _ _) (isFn _ _) (Dr _) 149 _ _ _ _ rfl (enters_of func149 zR rfl) _ λW E=>
   (Dw (h.extend E) zO zG zO).mono λe w' J=>gL E J
section
variable {i:Nat} (hi:i<D.c.workers)
include hi
theorem Dx(h:ep D s w t)(hK:iE D S text n s):bf bj 339 #[eF (D.jT i)] w (eB w (eC (.bool (s.kZ (s.fm.getD i Wk.fresh))))):=by
 have d:=h.Th hi;have Y:(s.fm.getD i Wk.fresh)∈s.fm:=by
  rw[List.getD_eq_getElem?_getD,bz (by rw[h.len];exact hi)];grind
 have hp:=hK.good.room.p.Br _ Y;have H:=λW (J:Ext w W)=>FG (h.extend J) hi;have E:=λW (J:Ext w W)=>sR (h.extend J) hi;unfold St.kZ;generalize s.fm.getD i Wk.fresh=x at*;by_cases T:x.ph=4
 ·rw[if_pos T];exact l9 d (isFn _ _) (isFn _ _) (sT _) (by rw[T];rfl)
 ·rw[if_neg T];have O:¬((x.ph:Int)=4):=zO;by_cases U:s.pl.cancelled=bh
  ·rw[U]at d;exact fM d (isFn _ _) (isFn _ _) (sT _) 141 _ _ _ _ (by unfold iN;rw[if_neg O];rfl) (enters_of func141 zR rfl) _ H
  ·rw[a8.2 U]at d;rcases(show x.ph=1∨x.ph=2∨x.ph=3 by omega)with e|e|e
   ·rw[e]at d;rw[if_pos e];exact fM d (isFn _ _) (isFn _ _) (sT _) 137 _ _ _ _ rfl (enters_of func137 zR rfl) _ E
   ·rw[e]at d;rw[if_neg zO];exact fM d (isFn _ _) (isFn _ _) (sT _) 131 _ _ _ _ rfl (enters_of bI zR rfl) bh λW _=>kW W
   ·rw[e]at d;rw[if_neg zO];exact fM d (isFn _ _) (isFn _ _) (sT _) 131 _ _ _ _ rfl (enters_of bI zR rfl) bh λW _=>kW W
theorem FP(h:ep D s w t)(hK:iE D S text n s)(hr:s.kZ (s.fm.getD i Wk.fresh)=bh):bf bj 340 #[eF (D.jT i)] w λe w'=>(∃v,e=.returned v)∧eV D (s.kd D.c D.M i (s.fm.getD i Wk.fresh)) w t w':=by
 have T:=h.Th hi;have ak:i<s.fm.length:=by rw[h.len];exact hi
 have O:s.fm[i]?=bc (s.fm.getD i Wk.fresh):=by
  grind
 have hw:=List.mem_of_getElem? O;have d:=hK.conf;have hR:=hK.good.room;have J:=hR.p.Br _ hw;obtain⟨ad,am⟩:=hK.next;have hW:=λW (H:Ext w W)=>(h.extend H).Q4 hi;have aa:∀j,j<D.M.states→(D.M.words j).length≤64:=λj hj=>h.ki.wV hj;have ab:∀j b,j<D.M.states→D.M.step j b<D.M.states:=λj b hj=>h.ki.uF hj b;have af:=h.ki.Fg;obtain⟨ah,ap⟩:=h.ki.uG;unfold St.kZ at hr;generalize al:s.fm.getD i Wk.fresh=x at*;by_cases h5:x.ph=4
 ·grind
 rw[if_neg h5]at hr;have ai:¬((x.ph:Int)=4):=zO;have U:(x.ph=2∨x.ph=3)→x.pc.buf<D.c.ring∧s.buf.used.getD x.pc.buf bo=bh∧s.buf.free.length<16:=λY=>by
  obtain⟨b1,b2,b3⟩:=hR.Pk (qW O Y);exact⟨b1,b2,by have:=d.r2;omega⟩
 unfold St.kd;by_cases hc:s.pl.cancelled=bh
 ·rw[if_pos hc];rw[hc]at T;exact fP T (isFn _ _) (isFn _ _) (sT _) 142 _ _ _ _ (by unfold iN;rw[if_neg ai];rfl) (enters_of func142 zR rfl) _ λW H=>
   (AS (hW W H) hi d.w2 (λy l Y _=>by
    obtain⟨b1,b2,b3⟩:=hR.Pk (Ig Y);exact⟨b1,b2,by have:=d.r2;omega⟩) (λh1=>⟨h5,U zO⟩)).mono λe w' J=>gL H J
 rw[if_neg hc];rw[a8.2 hc]at T;have hd:=hK.good.dat (a8.2 hc);rcases(show x.ph=1∨x.ph=2∨x.ph=3 by omega)with e|e|e
 ·rw[e]at T;rw[if_pos e];refine fP T (isFn _ _) (isFn _ _) (sT _) 138 _ _ _ _ rfl (enters_of func138 zR rfl) _ λW H=>?_;cases Y:s.q.items with
  |nil=>
   refine(ug (hW W H) hi d.w2 Y).mono λe w' J=>gL H ⟨J.1,?_⟩;have e2:s.jN i x={ s with fm:=s.fm.set i { x with ph:=4 } }:=by grind[St.jN]
   rw[e2];exact J.2
  |cons y l=>
   refine(uh (hW W H) hi d.w2 y l Y).mono λe w' J=>gL H ⟨J.1,?_⟩;have e2:s.jN i x={ s with q:=s.q.drop1,fm:=s.fm.set i { x with pc:=y,ph:=2 } }:=by grind[St.jN]
   rw[e2];exact J.2
 ·rw[e]at T;rw[if_neg zO,if_pos e];have E:=hd.can hR ah d.b2 d.b1 (qW O (.inl e));obtain⟨k1,k2,k3⟩:=hd.T8 af ab aa O e;have ao:=sZ x.pc.blk ab aa D.c.slice x.node x.done [] k1;have ae:=d.s2;have aq:=d.kX;have ht:=hK.Q9;have ag:=E.Qd;have an:=E.eZ;exact fP T (isFn _ _) (isFn _ _) (sT _) 139 _ _ _ _ rfl (enters_of func139 zR rfl) _ λW H=>
   (FI (hW W H) hi d.w2 e zO ae ⟨by have:=E.start;omega,E.eZ,E.wst,E.own,E.Qd⟩ k1 k2 zO (by
    grind)).mono λe w' J=>gL H J
 ·rw[e]at T;rw[if_neg zO,if_neg zO];obtain⟨b1,b2,b3⟩:=U (.inr e);have hm:=qW O (.inr e);have aj:=(hR.Pm hm).2;obtain⟨f1,f2⟩:=hR.n.free_at (List.mem_map.2 ⟨x.pc,hm,rfl⟩);exact fP T (isFn _ _) (isFn _ _) (sT _) 140 _ _ _ _ rfl (enters_of func140 zR rfl) _ λW H=>
   (JU (hW W H) hi d.w2 b1 b2 b3 zO ad f2 f1).mono λe w' J=>gL H J
end
end
def lV(D:PS)(k:Nat):TypeId:=if k=0 then 179 else if k≤D.c.workers then 181 else if k=D.c.workers+1 then 183 else 185
def mQ(D:PS)(k:Nat):Nat:=if k=0 then D.mr else if k≤D.c.workers then D.jT (k-1)else if k=D.c.workers+1 then D.sQ else D.xe
theorem pW(D:PS)(k:Nat):lT D k=.iface (lV D k) (eF (mQ D k)):=by
 unfold lT lV mQ;grind
theorem oW(D:PS)(k:Nat):lV D k=179∨lV D k=181∨lV D k=183∨lV D k=185:=by
 grind[lV]
theorem Tryz.zw(D:PS)(k:Nat)(a:bH)(w:bd):(method 576 (lV D k) (.pointer (bc a)) "teasel/pool.ready").run bj w=.ok (339,.pointer (bc a)) w:=by
 rcases oW D k with e|e|e|e<;>rw[e]<;>kernel_rfl
theorem Tryz.MQ(D:PS)(k:Nat)(a:bH)(w:bd):(method 576 (lV D k) (.pointer (bc a)) "teasel/pool.step").run bj w=.ok (340,.pointer (bc a)) w:=by
 rcases oW D k with e|e|e|e<;>rw[e]<;>kernel_rfl
theorem Tryz.MR(D:PS)(k:Nat)(a:bH)(w:bd):(method 576 (lV D k) (.pointer (bc a)) "teasel/pool.over").run bj w=.ok (337,.pointer (bc a)) w:=by
 rcases oW D k with e|e|e|e<;>rw[e]<;>kernel_rfl
theorem Tryz.JX(D:PS)(k:Nat)(a:bH)(w:bd):(method 576 (lV D k) (.pointer (bc a)) "teasel/pool.phase").run bj w=.ok (338,.pointer (bc a)) w:=by
 rcases oW D k with e|e|e|e<;>rw[e]<;>kernel_rfl
def St.pX(c:Cf)(s:St)(k:Nat):Bool:=if k=0 then decide (s.rd.ph=5)else if k≤c.workers then decide ((s.fm.getD (k-1) Wk.fresh).ph=4)else if k=c.workers+1 then decide (s.mg.ph=3)else decide (s.em=2)
def St.FQ(c:Cf)(s:St)(k:Nat):Nat:=if k=0 then s.rd.ph else if k≤c.workers then(s.fm.getD (k-1) Wk.fresh).ph else if k=c.workers+1 then s.mg.ph else s.em
section
variable {D:PS} {s:St} {w w' W:bd} {t t':ez} {S:List UInt8→List Nat} {text:List UInt8} {n k:Nat}
theorem qT(h:ep D s w t)(d:iE D S text n s)(O:k<D.c.workers+3):bf bj 339 #[eF (mQ D k)] w (eB w (eC (.bool (s.ready D.c k)))):=by
 unfold mQ St.ready;by_cases J:k=0
 ·rw[if_pos J,if_pos J];exact Dt h d
 ·rw[if_neg J,if_neg J];by_cases H:k≤D.c.workers
  ·rw[if_pos H,if_pos H];exact Dx zO h d
  ·rw[if_neg H,if_neg H];by_cases E:k=D.c.workers+1
   ·rw[if_pos E,if_pos E];exact Du h d
   ·rw[if_neg E,if_neg E,if_pos zO];exact Dv h d
theorem AX(h:ep D s w t)(O:iE D S text n s)(T:k<D.c.workers+3)(d:s.ready D.c k=bh):bf bj 340 #[eF (mQ D k)] w λe w'=>(∃v,e=.returned v)∧eV D (s.step D.c D.M D.ans k) w t w':=by
 unfold St.ready at d;unfold mQ St.step;by_cases J:k=0
 ·rw[if_pos J]at d;rw[if_pos J,if_pos J];exact FM h O d
 ·rw[if_neg J]at d;rw[if_neg J,if_neg J];by_cases H:k≤D.c.workers
  ·rw[if_pos H]at d;rw[if_pos H,if_pos H];exact FP zO h O d
  ·rw[if_neg H]at d;rw[if_neg H,if_neg H];by_cases E:k=D.c.workers+1
   ·rw[if_pos E]at d;rw[if_pos E,if_pos E];exact FN h O d
   ·rw[if_neg E,if_pos zO]at d;rw[if_neg E,if_neg E];exact FO h O d
theorem cast_eq(a b:Nat):decide ((a:Int)=(b:Int))=decide (a=b):=decide_eq_decide.2 zO
theorem AY(h:ep D s w t)(_:k<D.c.workers+3):bf bj 337 #[eF (mQ D k)] w (eB w (eC (.bool (St.pX D.c s k)))):=by
 unfold mQ St.pX;by_cases H:k=0
 ·rw[if_pos H,if_pos H,←cast_eq];exact kV (h.rc 1 _ (λ_=>rfl)) (h.rc 2 _ (λ_=>rfl))
 ·rw[if_neg H,if_neg H];by_cases E:k≤D.c.workers
  ·have J:=h.Q4 (show k-1<D.c.workers by omega);rw[if_pos E,if_pos E,←cast_eq];exact kV (J.c zO 1 _ (λ_ _=>rfl)) (J.c zO 2 _ (λ_ _=>rfl))
  ·rw[if_neg E,if_neg E];by_cases d:k=D.c.workers+1
   ·rw[if_pos d,if_pos d,←cast_eq];exact kV (h.mc 1 _ (λ_=>rfl)) (h.mc 2 _ (λ_=>rfl))
   ·rw[if_neg d,if_neg d,←cast_eq];exact kV (h.ec 1 _ rfl) (h.ec 2 _ rfl)
theorem yc(h:ep D s w t)(_:k<D.c.workers+3):bf bj 338 #[eF (mQ D k)] w (eB w (eC (.int .u8 (St.FQ D.c s k:Int)))):=by
 unfold mQ St.FQ;by_cases H:k=0
 ·rw[if_pos H,if_pos H];exact nA (h.rc 1 _ (λ_=>rfl))
 ·rw[if_neg H,if_neg H];by_cases E:k≤D.c.workers
  ·have J:=h.Q4 (show k-1<D.c.workers by omega);rw[if_pos E,if_pos E];exact nA (J.c zO 1 _ (λ_ _=>rfl))
  ·rw[if_neg E,if_neg E];by_cases d:k=D.c.workers+1
   ·rw[if_pos d,if_pos d];exact nA (h.mc 1 _ (λ_=>rfl))
   ·rw[if_neg d,if_neg d];exact nA (h.ec 1 _ rfl)
theorem OK{c:Cf}(hl:s.fm.length=c.workers):s.over=(bu (c.workers+3)).all (St.pX c s):=by
 apply Bool.eq_iff_iff.2;unfold St.over;simp only[Bool.and_eq_true,decide_eq_true_eq,bA,bF];constructor
 ·grind[St.pX,decide_eq_true,bz,List.getElem_mem]
 ·intro h;refine⟨⟨⟨?_,λx d=>?_⟩,?_⟩,?_⟩
  ·have:=h 0 zO;grind[St.pX]
  ·obtain⟨i,E,rfl⟩:=List.getElem_of_mem d;have:=h (i+1) zO;unfold St.pX at this;grind
  ·have:=h (c.workers+1) zO;unfold St.pX at this;grind
  ·have:=h (c.workers+2) zO;unfold St.pX at this;grind
def jF(c:Cf)(s:St)(k:Nat):List Int:=((bu k).filter λj=>s.ready c j).map λj:Nat=>(j:Int)
theorem FR(c:Cf)(s:St)(k:Nat):jF c s (k+1)=jF c s k++if s.ready c k then [(k:Int)]else []:=by
 grind[jF,List.range_succ]
theorem JY(c:Cf)(s:St)(k:Nat):(jF c s k).length≤k:=by
 grind[jF,List.length_map,Nat.le_trans,List.length_filter_le]
theorem Dy(h:ep D s w t)(hK:iE D S text n s):bf bj 42 #[eF D.g] w (eY w λv w'=>jv w' w.heap.size v ((s.enabled D.c).map λk:Nat=>(k:Int))):=by
 obtain⟨i0,aw,ap,ao,an⟩:=info_parts Tryz.oG;obtain⟨vs,al,aa⟩:=h.S7;obtain⟨b,am,c,rfl,ay,ai,ab⟩:=pU aa.1;have Hr:=hide (λW k (hE:Ext w W) hk=>qT (k:=k) (h.extend hE) hK hk);have hm:=Tryz.zw;have d:=hide (show D.c.workers+3≤11 by have:=hK.conf.w2;omega);have GZ:=hide ab;clear h hK aa ab ay;obtain⟨N,hN⟩:∃N,N=D.c.workers+3:=⟨_,rfl⟩
 have ad:=hide (show(s.enabled D.c).map (λk:Nat=>(k:Int))=jF D.c s N by rw[hN];rfl);rw[←hN]at Hr d GZ al;clear hN;go_enter func42,ntmps42;go_wp2_with fail
 go_loopw [3,4,5,13] (λs3 s4 s5 i wr=>∃(k:Nat) (A5:Option bH) (c5:Nat),k≤N∧i=iV k∧s3=.slice A5 (jF D.c s k).length c5∧Hid (Ext w wr)∧Hid (jv wr w.heap.size (.slice A5 (jF D.c s k).length c5) (jF D.c s k))) (λ_ _ _ i _=>N-(intOf i).toNat)
 case atStart=>exact⟨0,bp,0,Nat.zero_le _,rfl,rfl,Ext.rf _,World.ownsRow_nil _ _ _ 1⟩
 case round=>
  obtain⟨k,A5,c5,hk,rfl,rfl,HE,HO⟩:=hrel;by_cases O:k<N
  ·have af:(k:Int)<(N:Int):=zO;have ah:=(HE.out.cell (p:=⟨b,am+k,bp⟩) ai).trans (GZ.out k O);rw[pW]at ah;have ar:=hm D k;have ae:=hide (Hr.out wr k HE.out O);have E:=hide (FR D.c s k);have ag:=hide (JY D.c s k);clear hm;generalize lV D k=T at*;generalize mQ D k=q at*;generalize s.ready D.c k=bb at*;go_wp2_with fail;refine ae.out.mono ?_;rintro _ w2 ⟨_,rfl,Y,rfl⟩;have HE2:=hide (HE.out.tr Y);have Bs:=hide (show jv w2 w.heap.size _ _ from fy HO.out Y);clear ae ah ar HE HO Y;cases bb with
   |false=>
    have e:jF D.c s (k+1)=jF D.c s k:=by rw[E.out];simp
    rw[←e]at Bs;have He:=hide e;clear E ag e;go_wp2_with fail;have aj:=d.out;have e1:wrap64 ((k:Int)+1)=((k+1:Nat):Int):=(bJ _ zO).trans zO;rw[e1];exact⟨⟨k+1,A5,c5,by omega,rfl,by rw[He.out],HE2,Bs⟩,show N-(k+1)<N-k by omega⟩
   |true=>
    have e:jF D.c s (k+1)=jF D.c s k++[(k:Int)]:=by rw[E.out];simp
    have He:=hide e;have Sb:=hide (show w2.ownsRow w.heap.size 3 1 (.slice A5 (jF D.c s k).length c5) (jF D.c s k).length ((jF D.c s k).map (Value.int .i64))from Bs.out);have QQ:=hide (λ(W:bd) (v':ba) (h:W.ownsRow w.heap.size 3 1 v' ((jF D.c s k).length+1) ((jF D.c s k).map (Value.int .i64)++[iV k]))=>show jv W w.heap.size v' (jF D.c s (k+1)) by
     grind[jv,bq])
    have J:(jF D.c s (k+1)).length=(jF D.c s k).length+1:=zG;have Hlen:=hide J;have aB:=HE2.out.size;clear E e Bs J;generalize au:(jF D.c s k).length=ll at*;generalize(jF D.c s k).map (Value.int .i64)=cs at*;clear au He;go_wp2_with(at_builtin;refine eJ rfl _ _ 28 rfl w.heap.size 3 i0 (iV 0) 1 8 underlying28 aw ap ao an rfl zO _ _ ll 1 cs [iV k] rfl (fy Sb.out (ek _ _)) rfl rfl (Src.new _ _ _ _) (by intro y hy;simp at hy;rw[hy];rfl) (by have:=ag.out;have:=d.out;omega) zT ?_;intro va wa H U az;clear az)
    have ak:=hide (QQ.out _ _ H);have aA:Hid (Ext w wa):=jB HE2.out U (λj hj=>fk Sb.out j hj);obtain⟨A6,c6,aq⟩:=eI H;subst aq;rw[←Hlen.out]at ak;have aj:=d.out;have e1:wrap64 ((k:Int)+1)=((k+1:Nat):Int):=(bJ _ zO).trans zO;rw[e1];exact⟨⟨k+1,A6,c6,by omega,rfl,by rw[Hlen.out],aA,ak⟩,show N-(k+1)<N-k by omega⟩
  ·have af:¬(k:Int)<(N:Int):=zO;have av:k=N:=zO;subst av;have hf:=HE.out;have hO:=HO.out;clear O HO HE hm Hr GZ;go_wp2_with fail;go_ret;exact eY.mk hf (by rw[ad.out];exact hO)
end
def OL(b:Bool)(v:ba):Prop:=∃r:Int,v=iV r∧((0≤r∧b=bh)∨(r=-1∧b=bo))
section
variable {D:PS} {s:St} {w w' W:bd} {t t':ez} {S:List UInt8→List Nat} {text:List UInt8} {n k:Nat}
theorem JZ(h:ep D s w t)(E:k<D.c.workers+3):bf bj 52 #[lT D k] w (eB w (eC (.bool (!St.pX D.c s k)))):=by
 have H:=hide (AY h E);have J:=Tryz.MR D k;rw[pW];clear h E;generalize lV D k=T at*;generalize mQ D k=q at*;generalize St.pX D.c s k=U at*;go_enter func52,ntmps52;go_wp2_with fail;refine H.out.mono ?_;rintro _ O ⟨_,rfl,d,rfl⟩;clear H J;go_wp2;go_ret;exact eB.mk d rfl
theorem Dz{b H c N:Nat}(f:Nat→Bool)(ab:b<w.heap.size)(U:∀k,k<N→w.cell? ⟨b,H+k,bp⟩=bc (lT D k))(hN:N≤11)(ho:∀W k,Ext w W→k<N→bf bj 52 #[lT D k] W (eB W (eC (.bool (!f k))))) :
  bf bj 98 #[.slice (bc ⟨b,H,bp⟩) N c,.func (.func 52) #[] #[]] w (eY w λv _=>OL (!((bu N).all f)) v):=by
 have Ho:=hide ho;have GZ:=hide U;have HN:=hide hN;clear ho U hN;go_enter func98,ntmps98;go_wp2_with fail
 go_loopw [5,8] (λs5 i wr=>∃(k:Nat),k≤N∧i=iV k∧Hid (Ext w wr)∧Hid (∀j,j<k→f j=bh)) (λ_ i _=>N-(intOf i).toNat)
 case atStart=>exact⟨0,Nat.zero_le _,rfl,Ext.rf _,λj hj=>by omega⟩
 case round=>
  obtain⟨k,hk,rfl,O,HA⟩:=hrel;by_cases E:k<N
  ·have Y:(k:Int)<(N:Int):=zO;have aa:=(O.out.cell (p:=⟨b,H+k,bp⟩) ab).trans (GZ.out k E);have d:=hide (Ho.out wr k O.out E);have Xq:=hide E;have af:∃bb,bb=f k:=⟨_,rfl⟩
   obtain⟨bb,J⟩:=af;rw[←J]at d;have TZ:=hide J;rw[pW]at aa d;clear J;generalize lV D k=T at*;generalize mQ D k=q at*;go_wp2_with fail;refine d.out.mono ?_;rintro _ w2 ⟨_,rfl,ad,rfl⟩;have HE2:=hide (O.out.tr ad);clear d aa O ad;have ah:=HN.out;cases bb with
   |true=>
    have ag:=hide (show∀j,j<k+1→f j=bh from λj hj=>by
     rcases Nat.lt_or_ge j k with h|h
     ·exact HA.out j h
     ·obtain rfl:j=k:=zO;exact TZ.out.symm)
    clear HA TZ;go_wp2_with fail;exact⟨⟨k+1,by omega,rfl,HE2,ag⟩,show N-(k+1)<N-k by omega⟩
   |false=>
    have HF:=hide (show OL (!((bu N).all f)) (iV k)from⟨_,rfl,.inl ⟨by omega,by
     rw[Bool.not_eq_true',←Bool.not_eq_true,bA];intro hx;have:=hx k (bF.2 Xq.out);rw[←TZ.out]at this;cases this⟩⟩)
    clear HA TZ;go_wp2_with fail;go_ret;exact eY.mk HE2.out HF.out
  ·have Y:¬(k:Int)<(N:Int):=zO;have ae:k=N:=zO;subst ae;have HF:=hide (show OL (!((bu k).all f)) (iV (-1))from⟨_,rfl,.inr ⟨rfl,by
    rw[Bool.not_eq_false',bA];intro j hj;exact HA.out j (bF.1 hj)⟩⟩)
   have hf:=O.out;clear E O HA Ho GZ;go_wp2_with fail;go_ret;exact eY.mk hf HF.out
theorem DA{A:Option bH}{N c:Nat}{H:ba}{O:Bool}(E:∃f a c,H=.func f a c)(hi:bf bj 98 #[.slice A N c,H] w (eY w λv _=>OL O v)) :
  bf bj 53 #[.slice A N c,H] w (eB w (eC (.bool O))):=by
 obtain⟨f,a,Y,rfl⟩:=E;have J:=hide hi;clear hi;go_enter func53,ntmps53;go_wp2_with fail;refine J.out.mono ?_;rintro _ T ⟨_,rfl,d,r,rfl,⟨U,rfl⟩|⟨rfl,rfl⟩⟩
 ·clear J;go_wp2;go_ret;exact eB.mk d rfl
 ·clear J;go_wp2;go_ret;exact eB.mk d rfl
theorem xt(h:ep D s w t)(hw:D.c.workers≤8):bf bj 22 #[eF D.g] w (eB w (eC (.bool s.over))):=by
 obtain⟨vs,U,d⟩:=h.S7;obtain⟨b,Y,c,rfl,O,H,E⟩:=pU d.1;have T:=hide (DA (w:=w) ⟨_,_,_,rfl⟩ (Dz (c:=c) (St.pX D.c s) H E zO (λW k hE hk=>JZ (h.extend hE) hk)));rw[←OK h.len]at T;clear h d E O hw;generalize s.over=bb at*;generalize D.c.workers+3=N at*;go_enter func22,ntmps22;go_wp2_with fail;refine T.out.mono ?_;rintro _ w2 ⟨_,rfl,J,rfl⟩;clear T;cases bb with
 |true=>
  go_wp2;go_ret;exact eB.mk J rfl
 |false=>
  go_wp2;go_ret;exact eB.mk J rfl
end
theorem jv.Uk{w:bd}{base:Nat}{v:ba}{l:List Nat}(h:jv w base v (l.map λk:Nat=>(k:Int))):eT l v w:=by
 have d:=AJ h zS;unfold eT eQ;rw[List.map_map]at d;exact d
theorem J0(n:Int){k:Nat}(d:0<k):mK n k=(n%(k:Int)).toNat:=by
 obtain⟨H,-⟩:=Cx n d;have E:(n.tmod k+(k:Int)).tmod k=n%(k:Int):=by
  have s:-(k:Int)<n.tmod k:=by
   have:=Int.tmod_lt_of_pos (-n) (show(0:Int)<k by omega);rw[Int.neg_tmod]at this;omega
  rw[Int.tmod_eq_emod_of_nonneg zO,Int.add_emod_right,Int.tmod_def,Int.sub_mul_emod_self_left]
 omega
theorem MS(n:Int)(l:List Nat):uP n l=if(nX n l).2 then bc (nX n l).1 else none:=by
 cases l with
 |nil=>rfl
 |cons x l=>
  have s:¬(x::l).length=0:=by simp
  have d:=J0 n (k:=(x::l).length) zS;simp only[uP,nX,if_neg s,List.isEmpty_cons,Bool.false_eq_true,if_false,if_true,d]
section
variable {D:PS} {s:St} {w w' W:bd} {t t':ez} {S:List UInt8→List Nat} {text:List UInt8} {n k:Nat}
theorem AZ(h:ep D s w t)(hK:iE D S text n s)(U:k<D.c.workers+3)(hr:s.ready D.c k=bh) :
  bf bj 43 #[eF D.g,iV k] w λe w'=>e=.returned (.bool bh)∧eV D (s.step D.c D.M D.ans k) w t w':=by
 obtain⟨vs,H,J⟩:=h.S7;obtain⟨b,ab,c,rfl,ag,Y,O⟩:=pU J.1;have hA:=hide (qT h hK U);rw[hr]at hA;have hB:=hide (λW (hE:Ext w W)=>(AX (h.extend hE) hK U hr).mono λe w' hp=>gL hE hp);have d:=O k U;rw[pW]at d;have ae:=Tryz.zw D k;have ad:=Tryz.MQ D k;have af:=h.Q1;have n0:¬(k:Int)<0:=zO;have n1:¬(k:Int)≥((D.c.workers+3:Nat):Int):=zO;have n2:k<D.c.workers+3:=U;generalize D.c.workers+3=N at*;clear h hK J O ag hr U;generalize lV D k=T at*;generalize mQ D k=q at*;go_enter func43,ntmps43;go_wp2_with fail;refine hA.out.mono ?_;rintro _ w2 ⟨_,rfl,E,rfl⟩;have aa:=hide (hB.out w2 E);have H:=(E.cell (p:=⟨D.g,15,bp⟩) af).trans H;have d:=(E.cell (p:=⟨b,ab+k,bp⟩) Y).trans d;clear hA hB;go_wp2_with fail;refine aa.out.mono ?_;rintro _ w3 ⟨⟨_,rfl⟩,hP⟩;have HP:=hide hP;clear aa hP ae ad;go_wp2;go_ret;exact⟨rfl,HP.out⟩
theorem xu(h:ep D s w t)(hw:D.c.workers≤8) :
  bf bj 19 #[eF D.g] w λe w'=>e=.returned (.bool (!(s.pl.cancelled||s.over)))∧eV D s.cancel w t w':=by
 have aa:=h.PM;have U:=hide (xt h hw);have H:=hide h;have d:=hide (show s.cancel=if s.pl.cancelled||s.over then s else { s with pl:={ s.pl with cancelled:=bh } }from rfl);clear h hw;obtain⟨cc,T⟩:∃cc,cc=s.pl.cancelled:=⟨_,rfl⟩
 rw[←T]at aa;have Ra:=hide T;clear T;cases cc with
 |true=>
  have Y:=hide (show eV D s.cancel w t w by rw[d.out,←Ra.out];exact⟨t,H.out,Moves.rf _ _⟩);have hR:=hide (show(!(s.pl.cancelled||s.over))=bo by rw[←Ra.out];rfl);clear U H d Ra;go_enter func19,ntmps19;go_wp2;go_ret;exact⟨by rw[hR.out];rfl,Y.out⟩
 |false=>
  obtain⟨oo,O⟩:∃oo,oo=s.over:=⟨_,rfl⟩
  rw[←O]at U;have Se:=hide O;clear O;cases oo with
  |true=>
   have Y:=hide (λW (hE:Ext w W)=>show eV D s.cancel w t W by rw[d.out,←Se.out,Bool.or_true];exact⟨t,H.out.extend hE,Moves.ext t hE⟩);have hR:=hide (show(!(s.pl.cancelled||s.over))=bo by rw[←Se.out,Bool.or_true];rfl);clear H d Ra Se;go_enter func19,ntmps19;go_wp2_with fail;refine U.out.mono ?_;rintro _ w2 ⟨_,rfl,E,rfl⟩;have ab:=hide (Y.out w2 E);clear U Y;go_wp2;go_ret;exact⟨by rw[hR.out];rfl,ab.out⟩
  |false=>
   have hR:=hide (show(!(s.pl.cancelled||s.over))=bh by rw[←Se.out,←Ra.out];rfl);have J:=hide (show s.cancel={ s with pl:={ s.pl with cancelled:=bh } } by rw[d.out,←Ra.out,←Se.out];rfl);clear d Ra Se;go_enter func19,ntmps19;go_wp2_with fail;refine U.out.mono ?_;rintro _ w2 ⟨_,rfl,E,rfl⟩;have h2:=H.out.extend E;have aa:=h2.PM;have ad:=h2.Uw 19;have h3:=h2.MM 19 (.bool bh) { s.pl with cancelled:=bh } (λ_ _=>rfl) rfl;have Y:=hide (show eV D s.cancel w t _ by rw[J.out];exact⟨t,h3,(Moves.ext t E).set h2.ML zD zD 19 (.bool bh)⟩);clear U H h2 h3 J;go_wp2;go_ret;exact⟨by rw[hR.out];rfl,Y.out⟩
end
section
def yd(r:Rn)(vr va vp:ba)(E:Nat)(p:Pn)(s:ba)(d:Nat):AV:=
 #[iV (r.cf.workers:Int),iV (r.cf.block:Int),iV (r.cf.ring:Int),iV (r.cf.queue:Int),iV (r.cf.out:Int),iV (r.cf.slice:Int),iV (r.cf.kX:Int),.bool r.broken,vr,va,vp,.int .u8 (p.kind:Int),.int .u32 (p.seed:Int),iV p.last,iV r.cancel,iV (r.most:Int),eF E,s,iV d]
def gE(r:Rn)(k:Nat)(p:Pn)(l:List Nat):(Nat×Bool)×Pn:=if k<r.picks.length then(nX (r.picks.getD k 0) l,p)else((iR p l).2,(iR p l).1)
theorem zA(r:Rn)(_:Mc)(g:fq.Go)(l:List Nat):r.choice g l=if(gE r g.turns.length g.plan l).1.2 then bc ((gE r g.turns.length g.plan l).1.1,(gE r g.turns.length g.plan l).2)else none:=by
 unfold Rn.choice gE;by_cases h:g.turns.length<r.picks.length
 ·simp_all[MS,nX]
 ·rw[if_neg h,if_neg h];grind[iR]
section
variable {r:Rn} {vr va vp:ba} {gp gr live k:Nat} {p:Pn} {A:Option bH} {c:Nat} {w:bd}
attribute [local irreducible] ew ed in
theorem J1(hb:Box w gr 132 (yd r vr va vp gp p (.slice A k c) live))(l:List Nat)(v:ba)(hv:eT l v w)(hn:l.length≤1000000)(ad:eQ r.picks vp w)(aA:r.picks.length≤1000000)(hk:k≤1000000) :
  bf bj 107 #[gP gr,v] w λe w'=>e=.returned (.tuple #[iV ((gE r k p l).1.1:Int),.bool (gE r k p l).1.2])∧Box w' gr 132 (yd r vr va vp gp (gE r k p l).2 (.slice A k c) live)∧w.grownBy w' (bc gr):=by
 obtain⟨Ap,cp,rfl,av,an,ab⟩:=eQ.form ad;unfold maxLen at an;obtain⟨Av,cv,rfl,-⟩:=eT.form hv;have Y:=hb.at_ 17 rfl;have aa:=hb.at_ 10 rfl;by_cases ar:k<r.picks.length
 ·have am:(k:Int)<(r.picks.length:Int):=zO;obtain⟨b,ak,rfl,au,af⟩:=ab zO;have ae:w.cell? ⟨b,ak+k,bp⟩=bc (iV (r.picks.getD k 0)):=by
   grind
  have e:=hide (show gE r k p l=(nX (r.picks.getD k 0) l,p) by simp_all[gE]);have hP:=hide (λW (s:Ext w W)=>I0 (r.picks.getD k 0) l _ W (VP.st _ _ _ _ hv s) hn);rw[e.out];clear ab af hv ad e;generalize nX (r.picks.getD k 0) l=pk at*;obtain⟨m,ok⟩:=pk;generalize r.picks.getD k 0=y at*;generalize r.picks.length=n at*;have Hb:=hide hb;clear hb;go_enter func107,ntmps107;go_upto_region 1 with(fail)
  refine fK 12 [] zR zK (λ_ _ _ _ _ h=>h) (.g ?_);refine ed.qw _ _ _ _ rfl (ee rfl) (od 4 13 6 rfl) (od 10 19 0 rfl) zO (.g ?_);intro W1 J;have s:=(eh w).tr J;have Y:=(s.cell (p:=⟨gr,17,bp⟩) Hb.out.lt).trans Y;have aa:=(s.cell (p:=⟨gr,10,bp⟩) Hb.out.lt).trans aa;have ae:=(s.cell (p:=⟨b,ak+k,bp⟩) au).trans ae;have hP:=hide (λW (U:Ext W1 W)=>hP.out W (s.tr U));clear J;refine wpList_nil ?_;go_upto_region 2 with(fail)
  refine fK 16 [] zR zK (λ_ _ _ _ _ h=>h) (.g ?_);refine ed.fD (i:=k) 28 3 _ _ rfl underlying28 zR ar (ee rfl) (od 4 25 5 rfl) (od 9 30 0 rfl) (.g ?_);refine ed.call2 41 _ _ _ rfl (enters_of func41 zR rfl) (ee rfl) (od 11 32 1 rfl) (od 12 33 0 rfl) (F:=eR [eC (iV m),eC (.bool ok)]) (λ_ _ W hX h1 h2=>by cases h1;cases h2;exact hP.out W ((eh _).tr hX)) ?_;refine ed.extract _ 0 rfl rfl (ee rfl) (od 13 34 0 rfl) ?_;refine ed.extract _ 1 rfl rfl (ee rfl) (od 13 34 1 rfl) (.g ?_);intro W2 U;refine .any λaq O=>?_;refine .e ?_;clear O;have H:=s.tr ((eh _).tr U);have HF:=hide (And.intro (Hb.out.ext H) (mL H (bc gr)));clear U H s hP Y aa ae Hb;go_wp2_with fail;exact bn (results_tmp2 results107 _ _ _) rfl ⟨rfl,HF.out.1,HF.out.2⟩
 ·have am:¬(k:Int)<(r.picks.length:Int):=zO;have e:=hide (show gE r k p l=((iR p l).2,(iR p l).1) by simp_all[gE,if_neg]);have hP:=hide (λW (s:Ext w W)=>Jd p l _ W (VP.st _ _ _ _ hv s) hn);rw[e.out];clear ab hv ad e;generalize iR p l=np at*;obtain⟨q,m,ok⟩:=np;generalize r.picks.length=n at*;have Hb:=hide hb;clear hb;have al:yd r vr va (.slice Ap n cp) gp q (.slice A k c) live=(((yd r vr va (.slice Ap n cp) gp p (.slice A k c) live).setIfInBounds 11 (.int .u8 (q.kind:Int))).setIfInBounds 12 (.int .u32 (q.seed:Int))).setIfInBounds 13 (iV q.last):=rfl;rw[al];rw[show tY q=#[.int .u8 (q.kind:Int),.int .u32 (q.seed:Int),iV q.last]from rfl]at hP;clear al;generalize(q.kind:Int)=y0 at*;generalize(q.seed:Int)=y1 at*;generalize q.last=y2 at*;go_enter func107,ntmps107;go_upto_region 1 with(fail)
  refine fK 12 [] zR zK (λ_ _ _ _ _ h=>h) (.g ?_);refine ed.xT _ _ _ _ rfl (ee rfl) (od 4 13 6 rfl) (od 10 19 0 rfl) zO (.g ?_);intro W1 J;have s:=(eh w).tr J;have Hb1:=hide (Hb.out.ext s);have HE:=hide s;clear J Y aa s;refine wpList_nil ?_;go_upto_region 3 with(fail)
  have aj:=Hb1.out.at_ 11 rfl;have ai:=Hb1.out.at_ 12 rfl;have ah:=Hb1.out.at_ 13 rfl;have E:=hide (hP.out W1 HE.out);rw[show tY p=#[.int .u8 (p.kind:Int),.int .u32 (p.seed:Int),iV p.last]from rfl]at E;generalize az:(p.kind:Int)=z0 at E aj;generalize ay:(p.seed:Int)=z1 at E ai;generalize aw:p.last=z2 at E ah;go_wp2_with fail;refine E.out.mono ?_;rintro _ w3 ⟨u,rfl,H,hV⟩;obtain⟨_,_,_,rfl,rfl,rfl,rfl⟩:=eR.Ss hV;have ao:=Box.new w3 31 #[.int .u8 0,.int .u32 0,iV 0];have ap:=ek w3 (.cells #[.int .u8 0,.int .u32 0,iV 0] 31);have mS:=hide (HE.out.tr H);clear E hP aj ai ah hV H HE;go_wp2_with(refine eK rfl _ _ _ rfl rfl w3.heap.size #[.int .u8 y0,.int .u32 y1,iV y2] rfl rfl _ _ ao zK rfl rfl ?_)
  intro w4 T _ hX;have ag:=mS.out.tr (hX _ ap (bk _));have d:=Hb.out.ext ag;have HF:=hide (And.intro ag d);have aj:=d.at_ 11 rfl;have ai:=d.at_ 12 rfl;have ah:=d.at_ 13 rfl;have aD:=d.frozen 11;have aC:=d.frozen 12;have aB:=d.frozen 13;have d0:=T.at_ 0 rfl;have d1:=T.at_ 1 rfl;have d2:=T.at_ 2 rfl;clear hX ap ao mS T ag d Hb Hb1;go_wp2_with fail;exact bn (results_tmp2 results107 _ _ _) rfl ⟨rfl,((HF.out.2.eL 11 _).eL 12 _).eL 13 _,eM (eM (eM (mL HF.out.1 (bc gr)) 11 _) 12 _) 13 _⟩
end
end
section
variable {i j:Nat} {w w':bd} {t t':ez} {D:PS} {s s':St}
theorem fh.moves{p:bd→ez→Prop}(h:fh i p)(E:p w t)(d:Moves w t w' t')(hi:100≤i):p w' t':=h w t w' t' E d.size λk H J=>d.block k H zO
theorem ep.far(h:ep D s w t)(E:Turn j w t w' t')(J:100≤j)(H:D.c.workers≤8):ep D s w' t':=by
 have o:=h.others zO E;exact⟨o.ext,o.old,o.ki,o.pl zO,o.src zO,o.iG zO,o.buf zO,o.q zO,o.rg zO,o.out zO,o.rd zO,o.mg zO,o.em zO,o.len,λk d=>o.fm k d zO,o.pn,o.pr,o.mem,o.lq⟩
def iO:List (List Nat×Nat)→List ba→List ba
 |x::ts,u::us=>u::vN x.2::iO ts us
 |_,_=>[]
def jt(i:Nat)(d:List (List Nat×Nat))(v:ba)(w:bd)(t:ez):Prop:=
 ∃E:List ba,E.length=d.length∧eO i 137 2 v d.length (iO d E) w t∧∀k,k<d.length→Held (eT (d.getD k ([],0)).1) (E.getD k undef) w t
theorem jt.keeps(i:Nat)(d:List (List Nat×Nat))(v:ba):fh i (jt i d v):=
 fh.ex λ_=>(fh.const _).and ((eO.keeps _ _ _ _ _ _).and (fh.all λ_=>fh.all λ_=>Held.keeps (j6 _) _ _))
theorem jt.nil(i:Nat)(w:bd)(t:ez):jt i [] nS w t:=⟨[],rfl,eO.nil _ _ _ _ _,λk d=>by cases d⟩
theorem pY:∀(E:List (List Nat×Nat)) (d:List ba) (x:List Nat×Nat) (u:ba),d.length=E.length→iO (E++[x]) (d++[u])=iO E d++[u,vN x.2]
 |[],[],_,_,_=>rfl
 |[],_::_,_,_,h=>by cases h
 |_::_,[],_,_,h=>by cases h
 |y::E,v::d,x,u,h=>by
  have:=pY E d x u (by simpa using h);simp only[List.cons_append,iO,this]
theorem sU:∀(d:List (List Nat×Nat)) (E:List ba),E.length=d.length→∀k,k<d.length→(iO d E)[k*2]?=bc (E.getD k undef)∧(iO d E)[k*2+1]?=bc (vN (d.getD k ([],0)).2)
 |[],_,_,k,hk=>by cases hk
 |_::_,[],h,_,_=>by cases h
 |x::d,u::E,h,0,_=>⟨rfl,rfl⟩
 |x::d,u::E,h,k+1,hk=>by
  have:=sU d E (by simpa using h) k (by simpa using hk);rw[show(k+1)*2=k*2+2 by omega];simpa[iO]using this
theorem jt.turns{H:List (List Nat×Nat)}{v:ba}(h:jt i H v w t):EY H v w:=by
 obtain⟨U,Y,O,hh⟩:=h;have E:=O;obtain⟨h1,⟨rfl,hn⟩|⟨g,d,J,aa,rfl,ht,hg,h3,h4,h5,h6⟩⟩:=O
 ·refine⟨bp,0,by rw[hn],by omega,by decide,λhp=>by omega⟩
 ·refine⟨bc ⟨g,d,bp⟩,J,rfl,by omega,h4,λhp=>⟨g,d,rfl,(bl.1 hg).1,λj T=>?_⟩⟩;obtain⟨c1,c2⟩:=sU H U Y j T;exact⟨_,E.cell _ _ c1,(hh j T).1,E.cell _ _ c2⟩
theorem jt.form{d:List (List Nat×Nat)}{v:ba}(h:jt i d v w t):∃A c,v=.slice A d.length c:=by
 obtain⟨H,J,E,O⟩:=h;exact E.form
end
structure RX where
 r:Rn
 D:PS
 gr:Nat
 bb:Nat
 N:Nat
 pv:Nat
 vr:ba
 va:ba
 vp:ba
structure jU(X:RX)(s:St)(p:Pn)(ts:List (List Nat×Nat))(live:Nat)(W:bd)(t:ez):Prop where
 pool:ep X.D s W t
 row:∃A c,eG 100 X.gr 132 (yd X.r X.vr X.va X.vp X.D.g p (.slice A ts.length c) live) W t∧jt 101 ts (.slice A ts.length c) W t
 var:eG 100 X.bb 223 #[eF X.gr] W t
 ptr:eG 100 X.pv 53 #[eF X.D.g] W t
 two:t X.N=200∧t (X.N+1)=200
structure RX.Ok(X:RX):Prop where
 cf:X.D.c=X.r.cf
 ans:X.D.ans=X.r.answers
 picks:eQ X.r.picks X.vp X.D.w0
 Xr:X.r.picks.length≤1000000
 most:X.r.most≤100000
 w8:X.D.c.workers≤8
structure RX.At(X:RX)(S:L8→List Nat)(text:L8)(g:fq.Go):Prop where
 run:iE X.D S text g.turns.length g.s
 goal:X.r.run X.D.M (X.r.most-g.turns.length) g=X.r.run X.D.M X.r.most X.r.start
 le:g.turns.length≤X.r.most
section
variable {X:RX} {s s':St} {p p':Pn} {ts:List (List Nat×Nat)} {live:Nat} {W W':bd} {t t':ez} {S:List UInt8→List Nat} {text:List UInt8} {g g':fq.Go}
theorem jU.ext'(h:jU X s p ts live W t)(E:Ext W W')(d:∀k,k<W.heap.size→t' k=t k)(O:t' X.N=200∧t' (X.N+1)=200):jU X s p ts live W' t':=by
 obtain⟨A,c,H,J⟩:=h.row;exact⟨h.pool.qp E d,⟨A,c,(eG.keeps _ _ _ _).ext' H E d,(jt.keeps _ _ _).ext' J E d⟩,(eG.keeps _ _ _ _).ext' h.var E d,(eG.keeps _ _ _ _).ext' h.ptr E d,O⟩
theorem jU.ext(h:jU X s p ts live W t)(d:Ext W W'):jU X s p ts live W' t:=h.ext' d (λ_ _=>rfl) h.two
theorem jU.MT(h:jU X s p ts live W t)(E:ep X.D s' W' t')(d:Moves W t W' t')(O:X.N+1<W.heap.size):jU X s' p ts live W' t'∧Two X.N W W':=by
 obtain⟨A,c,H,J⟩:=h.row;have U:=d.block X.N zO (.inr (by have:=h.two.1;omega));have T:=d.block (X.N+1) O (.inr (by have:=h.two.2;omega));exact⟨⟨E,⟨A,c,(eG.keeps _ _ _ _).moves H d zO,(jt.keeps _ _ _).moves J d zO⟩,(eG.keeps _ _ _ _).moves h.var d zO,(eG.keeps _ _ _ _).moves h.ptr d zO,U.2.trans h.two.1,T.2.trans h.two.2⟩,d.size,λq Y=>by grind⟩
theorem jU.moves(h:jU X s p ts live W t)(d:eV X.D s' W t W')(E:X.N+1<W.heap.size):∃t',jU X s' p ts live W' t'∧Two X.N W W':=by
 obtain⟨t',d,H⟩:=d;exact⟨t',h.MT d H E⟩
theorem jU.far(h:jU X s p ts live W t)(H:X.Ok)(d:Turn 200 W t W' t):jU X s p ts live W' t:=by
 obtain⟨A,c,E,J⟩:=h.row;exact⟨h.pool.far d zO H.w8,⟨A,c,(eG.keeps _ _ _ _).turn zO zO E d,(jt.keeps _ _ _).turn zO zO J d⟩,(eG.keeps _ _ _ _).turn zO zO h.var d,(eG.keeps _ _ _ _).turn zO zO h.ptr d,h.two⟩
theorem jU.put(h:jU X s p ts live W t)(d:X.Ok)(o:Obj):jU X s p ts live (W.putObj (X.N+1) o) t:=
 h.far d (Turn.grown (grownBy_putObj' W (X.N+1) o) (λk e=>by cases e;exact h.two.2))
theorem jU.pick(h:jU X s p ts live W t)(hX:X.Ok){A:Option bH}{c:Nat}(hT:jt 101 ts (.slice A ts.length c) W t)(Y:Box W' X.gr 132 (yd X.r X.vr X.va X.vp X.D.g p' (.slice A ts.length c) live))(H:W.grownBy W' (bc X.gr))(hN:X.N+1<W.heap.size):jU X s p' ts live W' t∧Two X.N W W':=by
 obtain⟨A0,c0,d,-⟩:=h.row;have J:Turn 100 W t W' t:=Turn.grown H (λk e=>by cases e;exact d.1);have O:X.bb≠X.gr:=h.var.2.AG d.2 zD;have E:X.pv≠X.gr:=h.ptr.2.AG d.2 zD;refine⟨⟨h.pool.far J zO hX.w8,⟨A,c,⟨d.1,Y⟩,(jt.keeps _ _ _).turn zO zO hT J⟩,⟨h.var.1,(H.block X.bb h.var.2.lt (λe=>O (bC e))).trans h.var.2⟩,⟨h.ptr.1,(H.block X.pv h.ptr.2.lt (λe=>E (bC e))).trans h.ptr.2⟩,h.two⟩,H.size,λq U=>H.block q zO λe=>?_⟩;have e:q=X.gr:=bC e;have T:=d.1;rcases U with rfl|rfl
 ·rw[←e,h.two.1]at T;omega
 ·rw[←e,h.two.2]at T;omega
theorem RX.At.stop(h:X.At S text g)(d:g.s.over=bh∨¬g.turns.length<X.r.most):X.r.run X.D.M X.r.most X.r.start=g:=by
 rw[←h.goal];cases E:X.r.most-g.turns.length with
 |zero=>rfl
 |succ n=>
  unfold Rn.run;grind
theorem RX.At.next(h:X.At S text g)(J:g.s.over=bo)(d:g.turns.length<X.r.most)(E:X.r.turn X.D.M g=(bh,g'))(hl:g'.turns.length=g.turns.length+1)(H:iE X.D S text (g.turns.length+1) g'.s):X.At S text g':=by
 refine⟨by grind,?_,by omega⟩;rw[←h.goal,show X.r.most-g.turns.length=(X.r.most-g'.turns.length)+1 by omega];simp_all[Rn.run]
theorem RX.At.last(h:X.At S text g)(H:g.s.over=bo)(d:g.turns.length<X.r.most)(E:X.r.turn X.D.M g=(bo,g')):X.r.run X.D.M X.r.most X.r.start=g':=by
 rw[←h.goal,show X.r.most-g.turns.length=(X.r.most-g.turns.length-1)+1 by omega];simp_all[Rn.run]
def RX.A(X:RX)(S:L8→List Nat)(text:L8)(o:Option (Nat×List Nat×Nat×Option bH×Nat))(W:bd):Prop:=∃g t,X.At S text g∧(∀x,o=bc x→g.turns.length=x.1+1)∧jU X g.s g.plan g.turns g.live W t
def RX.M(X:RX)(S:L8→List Nat)(text:L8)(x:Nat×List Nat×Nat×Option bH×Nat)(W:bd):Prop:=
 ∃g g' t,X.At S text g∧g.turns.length=x.1∧g.s.over=bo∧g.turns.length<X.r.most∧X.r.turn X.D.M g=(bh,g')∧g'.turns=g.turns++[(x.2.1,x.2.2.1)]∧g'.live=max g.live g'.s.buf.live.length∧iE X.D S text (g.turns.length+1) g'.s∧Held (eT x.2.1) (.slice x.2.2.2.1 x.2.1.length x.2.2.2.2) W t∧jU X g'.s g'.plan g.turns g.live W t
def RX.Z(X:RX)(S:L8→List Nat)(text:L8)(W:bd):Prop:=∃g t,X.r.run X.D.M X.r.most X.r.start=g∧iE X.D S text g.turns.length g.s∧jU X g.s g.plan g.turns g.live W t
theorem J2(r:Rn)(M:Mc)(g:fq.Go)(h:(gE r g.turns.length g.plan ((r.begun g).enabled r.cf)).1.2=bo):r.turn M g=(bo,{ g with s:=r.begun g }):=by
 unfold Rn.turn;dsimp only;rw[zA _ M,h];rfl
theorem J3(r:Rn)(M:Mc)(g:fq.Go)(h:(gE r g.turns.length g.plan ((r.begun g).enabled r.cf)).1.2=bh) :
  r.turn M g=(bh,⟨(r.begun g).step r.cf M r.answers (gE r g.turns.length g.plan ((r.begun g).enabled r.cf)).1.1,(gE r g.turns.length g.plan ((r.begun g).enabled r.cf)).2,g.turns++[((r.begun g).enabled r.cf,(gE r g.turns.length g.plan ((r.begun g).enabled r.cf)).1.1)],max g.live ((r.begun g).step r.cf M r.answers (gE r g.turns.length g.plan ((r.begun g).enabled r.cf)).1.1).buf.live.length⟩)∧
  (gE r g.turns.length g.plan ((r.begun g).enabled r.cf)).1.1∈(r.begun g).enabled r.cf:=by
 have d:=zA r M g ((r.begun g).enabled r.cf);rw[h,if_pos rfl]at d;grind[Ee,Rn.turn]
theorem Bc(r:Rn)(k:Nat)(p:Pn)(l:List Nat)(h:(gE r k p l).1.2=bo):(gE r k p l).2=p:=by
 unfold gE at*;split
 ·rfl
 ·rename_i d;rw[if_neg d]at h;grind[iR]
end
end Go.Proofs.YtofgfpffcegioaaGreat
