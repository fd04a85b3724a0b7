/- A part of the proof. -/
import Derived.Test.YtofgfpffcegioaaGreatZf13
import Derived.Test.YtofgfpffcegioaaGreatZf46
set_option maxRecDepth 100000
set_option maxHeartbeats 8000000
namespace Go.Proofs.YtofgfpffcegioaaGreat
open Go.RowKit Go.ChangeShapes Go.WideShapes Go.ChangeAt Go.Deep
section
variable {H:Type} {enc:TypeId×Value→H} {P:Program} {w:World} {base:Nat} {spare:Nat→Bool} {held:Bool}
theorem b8{r:Reach}{b0:Nat}{t e:TypeId}{v:Value}{d:DataW H}{p:List MemPlace}(J:P.underlying t=some (.slice e))(V:P.underlying e=some (.int .i64))(W:P.cellsOf e=1)
  (T:Value.okWide P w r b0 t v)(h:DataW.Trod enc P w base spare held t v d p):∃E,eQ E v w:=by
 obtain⟨A,n,c,rfl⟩:=okWide_slice J T;obtain⟨O,U⟩:=h;obtain⟨E,u,I,Y⟩:=zZ J V W U;have:u=.slice A n c:=by simp[Value.cells]at I;exact I.symm
 exact⟨E,this▸Y⟩
end
end Go.Proofs.YtofgfpffcegioaaGreat
namespace Go.Proofs.YtofgfpffcegioaaGreat
open Classical renaming byContradiction → aa
namespace fq
def Rg.numbers(r:Rg):List Nat:=((List.range r.places.length).map (r.next+·)).filter λn=>(r.at_ n).isSome
end fq
namespace fq
section
variable {c:Cf} {M:Mc} {ans:List Bool} {s:St}
theorem dH:∀l:List Wk,sumW l≤2*l.length
 |[]=>Nat.le_refl _
 |a::l=>by
  have:=dH l;have h:o7 a≤2:=by
   unfold o7;split
   ·omega
   ·split<;>omega
  simp only[sumW,List.length_cons];omega
theorem Room.dL(h:Room c s):s.cost≤2*c.workers+c.queue+4:=by
 have d:=dH s.fm;have E:=h.p.qlen;rw[h.p.qv]at d;unfold St.cost;have J:(if s.rd.ph=5 then 0 else 1:Nat)≤1:=by split<;>omega
 have I:(if s.mg.ph=3 then 0 else 1:Nat)≤1:=by split<;>omega
 have H:(if s.em=2 then 0 else if s.out.items.isEmpty then 1 else 2:Nat)≤2:=by
  split
  ·omega
  ·split<;>omega
 omega
theorem dz(h:Room c s)(hc:s.pl.cancelled=true)(V:s.over=false):s.enabled c≠[]:=by
 intro he;have E:∀k,k<c.workers+3→s.ready c k=false:=λk hk=>by
  cases d:s.ready c k with
  |false=>rfl
  |true=>have:=tG.2 ⟨hk,d⟩;rw[he]at this;cases this
 have J:=E 0 zO;have I:=E (c.workers+1) zO;have U:=E (c.workers+2) zO;unfold St.ready at J I U;rw[if_pos rfl]at J;rw[if_neg zO,if_neg zO,if_pos rfl]at I;rw[if_neg zO,if_neg zO,if_neg zO,if_pos rfl]at U;unfold St.kY at J;unfold St.lf at I;unfold St.ng at U;rw[hc]at J I;have a0:s.rd.ph=5:=aa λd=>by rw[if_neg d]at J;cases J
 have a2:s.mg.ph=3:=aa λd=>by rw[if_neg d]at I;cases I
 have T:=h.p.Qa;rw[a2]at T;have a3:s.em=2:=aa λd=>by rw[if_neg d,T]at U;simp at U
 have O:=h.p.Ks;rw[a0]at O;have a1:s.fm.all (λw=>decide (w.ph=4))=true:=List.all_eq_true.2 λw hw=>by
  obtain⟨i,Y⟩:=List.getElem?_of_mem hw;have W:=(List.getElem?_eq_some_iff.1 Y).1;have H:=E (i+1) (by rw[h.p.qv]at W;omega);unfold St.ready at H;rw[if_neg zO,if_pos (by rw[h.p.qv]at W;omega),Nat.add_sub_cancel,List.getD_eq_getElem?_getD,Y]at H;simp only[Option.getD_some]at H;unfold St.kZ St.served at H;rw[O]at H;refine decide_eq_true (aa λd=>?_);rw[if_neg d]at H;split at H
  ·simp at H
  ·cases H
 unfold St.over at V;rw[a0,a1,a2,a3]at V;simp at V
theorem dD(h:Room c s)(hW:1≤c.workers)(T:s.over=true):s.buf.free.length=c.ring∧s.buf.live=[]∧s.q.items=[]∧s.rg.numbers=[]∧s.out.items=[]∧s.q.closed=true∧s.out.closed=true:=by
 unfold St.over at T;simp only[Bool.and_eq_true,decide_eq_true_eq]at T;obtain⟨⟨⟨h1,I⟩,h3⟩,h4⟩:=T;have I:=List.all_eq_true.1 I;have Y:0<s.fm.length:=by rw[h.p.qv];omega
 have J:=h.p.w4 s.fm[0] (List.getElem_mem _) (of_decide_eq_true (I _ (List.getElem_mem _)));have V:=h.p.e2 h4;have hb:s.fm.filterMap Wk.busy=[]:=List.filterMap_eq_nil_iff.2 λw W=>Wk.oy (by have:=of_decide_eq_true (I w W);omega);have O:s.jP=[]:=by unfold St.jP;rw[J.1,hb];rfl
 have H:s.iq=[]:=by unfold St.iq;rw[O,h.p.holds,h1];rfl
 have E:=h.b.len;have d:=h.b.live;rw[H]at E d;refine⟨by simpa using E,List.eq_nil_of_length_eq_zero d,J.1,?_,V.1,J.2,V.2⟩;unfold Rg.numbers;rw[List.filter_eq_nil_iff];intro n hn;obtain⟨i,U,rfl⟩:=List.mem_map.1 hn;have U:=List.mem_range.1 U;rw[h.n.pw]at U;rw[h.p.D9 h3 _ zO zO];simp
theorem dE{n:Int}{l:List Nat}(h:l≠[]):∃k,uP n l=some k:=by
 cases l with
 |nil=>exact absurd rfl h
 |cons x l=>exact⟨_,rfl⟩
theorem c6(h:Room c s)(H:s.pl.cancelled=true)(f:Nat→Int):∀n,(∀i,i<n→(s.picks c M ans f i).over=false)→
  (s.picks c M ans f n).cost+n≤s.cost∧(s.picks c M ans f n).pl.cancelled=true∧(s.picks c M ans f n).pl.took=s.pl.took∧(s.picks c M ans f n).iG=s.iG
 |0,_=>⟨Nat.le_refl _,H,rfl,rfl⟩
 |n+1,ho=>by
  obtain⟨h1,J,W,V⟩:=c6 h H f n λi Y=>ho i zO;have I:=h.picks (M:=M) (ans:=ans) f n;have d:=dz I J (ho n zO);obtain⟨k,E⟩:=dE (n:=f n) d;obtain⟨h5,U,T,O⟩:=Ib (M:=M) (ans:=ans) I J (tG.1 (Ed E)).2;have e:s.picks c M ans f (n+1)=(s.picks c M ans f n).step c M ans k:=by
   show St.pick c M ans _ _=_;unfold St.pick;rw[E]
  rw[e];exact⟨by omega,U,T.trans W,O.trans V⟩
theorem dM(h:Room c s)(T:s.pl.cancelled=true)(f:Nat→Int)(n:Nat)(U:2*c.workers+c.queue+4≤n)(J:∀i,i<n→(s.picks c M ans f i).over=false):(s.picks c M ans f n).over=true:=by
 obtain⟨V,E,_⟩:=c6 h T f n J;have:=h.dL;have d:=h.picks (M:=M) (ans:=ans) f n;have H:(s.picks c M ans f n).cost=0:=zO;generalize s.picks c M ans f n=t at E d H;cases I:t.over with
 |true=>rfl
 |false=>
  obtain⟨k,O⟩:=List.exists_mem_of_ne_nil _ (dz d E I);have:=(Ib (M:=M) (ans:=ans) d E (tG.1 O).2).1;omega
end
end fq
end Go.Proofs.YtofgfpffcegioaaGreat
namespace Go.Proofs.YtofgfpffcegioaaGreat
open Go.RowKit Go.Shelf Go.Sort iT jH fq Go.Proofs.Tryz
open _root_.Go renaming World → ai
section
variable {i g:Nat} {ans:List Bool} {s:Snk} {w:ai} {t:ez}
theorem dB(h:gB i g ans s w t):Calls prog 24 #[gP g] w (eB w (eC (iV (s.offers:Int)))):=by
 obtain⟨J,H,d,-,-⟩:=h;have E:=d.2.at_ 2 rfl;clear d;go_enter func24,ntmps24;go_wp2;go_ret;exact eB.mk (Ext.rf _) rfl
end
section
variable {D:PS} {s:St} {w w' W:ai} {t t':ez} {S:List UInt8→List Nat} {text:List UInt8} {n k:Nat}
theorem b5(h:ep D s w t)(hK:iE D S text n s)(m:Int) :
  Calls prog 20 #[eF D.g,iV m] w λe w'=>(∃r:Int,e=.returned (.tuple #[iV r,.bool (!(s.enabled D.c).isEmpty)]))∧eV D (s.pick D.c D.M D.ans m) w t w':=by
 have hA:=hide (Dy h hK);have ae:(s.enabled D.c).length≤1000000:=by
  have h1:(s.enabled D.c).length≤D.c.workers+3:=by
   unfold St.enabled;exact Nat.le_trans (List.length_filter_le _ _) zS
  have:=hK.conf.w2;omega
 have hP:=hide (λW v (J:eT (s.enabled D.c) v W)=>I0 m (s.enabled D.c) v W J ae);have d:=hide (MS m (s.enabled D.c));have hS:=hide (λW k (hE:Ext w W) (hk:k∈s.enabled D.c)=>AZ (k:=k) (h.extend hE) hK (tG.1 hk).1 (tG.1 hk).2);have Y:=hide (show s.pick D.c D.M D.ans m=match uP m (s.enabled D.c)with|some k=>s.step D.c D.M D.ans k|none=>s by unfold St.pick;cases uP m (s.enabled D.c)<;>rfl);have H:=hide h;have E:=hide (show(nX m (s.enabled D.c)).2=!(s.enabled D.c).isEmpty by
  unfold nX;cases s.enabled D.c<;>simp)
 clear h hK ae;obtain⟨pk,ab⟩:∃pk,pk=nX m (s.enabled D.c):=⟨_,rfl⟩
 rw[←ab]at hP d E;clear ab;obtain⟨p1,p2⟩:=pk;simp only at hP d E;cases p2 with
 |false=>
  have hF:=hide (λW (hE:Ext w W)=>show eV D (s.pick D.c D.M D.ans m) w t W by rw[Y.out,d.out];exact⟨t,H.out.extend hE,Moves.ext t hE⟩);clear hS Y d;go_enter func20,ntmps20;go_wp2_with fail;refine hA.out.mono ?_;rintro _ w2 ⟨v,rfl,U,J⟩;have hn:=J.Uk;obtain⟨A,c,rfl,-⟩:=eT.form hn;have O:=hide (hP.out w2 _ hn);clear hA hP J hn;go_wp2_with fail;refine O.out.mono ?_;rintro _ w3 ⟨_,rfl,T,J⟩;obtain⟨_,_,rfl,rfl,rfl⟩:=eR.inv2 J;have ah:=hide (hF.out w3 (U.tr T));clear O hF J U T;go_wp2
  go_ret2
  exact⟨⟨0,by rw[←E.out];rfl⟩,ah.out⟩
 |true=>
  have ad:=hide (Ed (show uP m (s.enabled D.c)=some p1 from d.out));have aa:=hide (show s.pick D.c D.M D.ans m=s.step D.c D.M D.ans p1 by rw[Y.out,d.out];rfl);clear Y d;go_enter func20,ntmps20;go_wp2_with fail;refine hA.out.mono ?_;rintro _ w2 ⟨v,rfl,U,J⟩;have hn:=J.Uk;obtain⟨A,c,rfl,-⟩:=eT.form hn;have O:=hide (hP.out w2 _ hn);clear hA hP J hn;go_wp2_with fail;refine O.out.mono ?_;rintro _ w3 ⟨_,rfl,T,J⟩;obtain⟨_,_,rfl,rfl,rfl⟩:=eR.inv2 J;have hE:=U.tr T;have af:=hide (hS.out w3 p1 hE ad.out);have HM:=hide (Moves.ext t hE);clear O hS ad J U T hE;go_wp2_with fail;refine af.out.mono ?_;rintro _ w4 ⟨rfl,t4,h4,ag⟩;have hF:=hide (show eV D (s.pick D.c D.M D.ans m) w t w4 by rw[aa.out];exact⟨t4,h4,HM.out.tr ag⟩);clear af h4 ag HM aa;go_wp2
  go_ret2
  exact⟨⟨(p1:Int),by rw[←E.out];rfl⟩,hF.out⟩
end
section
attribute [local go_sem] Oper.semAt_some
theorem qY.dn{w E d:ai}(h:qY w E)(k:qY E d):qY w d:=⟨Nat.le_trans h.size k.size,λ_ H=>.inl ((k.same (Nat.lt_of_lt_of_le H h.size)).trans (h.same H))⟩
def b6(N gk:Nat)(d:Bool)(E:LL)(ans:List Bool):VP:=⟨λv w=>∃g t,v=gP g∧gD 2 g d ⟨E,0⟩ w t∧gB 3 gk ans ⟨[],0⟩ w t∧(∀k,t k=0∨t k=2∨t k=3)∧(∀k,k<N→t k=0),
 λ_ _ _ ⟨g,t,Y,U,T,O,J⟩ H=>⟨g,t,Y,gD.keeps.weak U H,gB.keeps.weak T H,O,J⟩⟩
def b7(c:Cf)(M:Mc)(ans:List Bool)(d:Bool)(E:LL)(w0:ai)(Y:Nat):VP:=⟨λv w=>∃(D:PS) (t:ez) (H:ai),v=Value.tuple #[gP D.g,iV 0]∧oZ c M ans d E w0 Y D H t∧qY H w,
 λv w w' h J=>by
  obtain⟨D,t,H,U,T,O⟩:=h;exact⟨D,t,H,U,T,O.dn J⟩⟩
def dc(c:Cf)(M:Mc)(ans:List Bool)(d:Bool)(E:LL)(w0:ai)(Y:Nat):VP:=⟨λv w=>∃(D:PS) (t:ez) (H:ai),v=gP D.g∧oZ c M ans d E w0 Y D H t∧qY H w,
 λv w w' h J=>by
  obtain⟨D,t,H,U,T,O⟩:=h;exact⟨D,t,H,U,T,O.dn J⟩⟩
section
variable {P:Program} {Q:Exit→Act→ai→Prop} {ops:Array Oper} {M m:Nat} {a0:Act} {w0:ai} {K:List Oper→List VP→Prop} {o:Oper} {rest:List Oper} {env:List VP}
theorem ed.dd{F G:VP}(x:Operand)(i:Nat)(O:o.op=.extract x i)(U:∀v w,F v w→∃d u,v=.tuple d∧d[i]?=some u∧G u w)(E:Want ops M a0 w0 env o true)(hx:fu ops M a0 w0 env o x F)
  (J:ed P Q ops M a0 w0 K m rest (G::env)):ed P Q ops M a0 w0 K (m+1) (o::rest) env:=
 .val E (λa w Y hC hD=>by
  obtain⟨d,u,e,H,T⟩:=U _ _ (hx a w Y hC hD);exact⟨u,by unfold execOp;simp[O,e,Instr.extract,H],T⟩) J
end
end
end Go.Proofs.YtofgfpffcegioaaGreat
namespace Go.Proofs.YtofgfpffcegioaaGreat
open Go.RowKit Go.Proofs.Tryz
open Go.IntWalk renaming wrap64_in → aa
theorem dI(c:o8)(h:iA c=true)(w:World):Calls prog 25 #[.agg (jb c)] w (eB w (eR [eC (iV (2*c.workers+c.queue+4)),eC (iV 0)])):=by
 have J:=λW=>nF c W;rw[h]at J;have hb:1≤c.workers∧c.workers≤8∧1≤c.queue∧c.queue≤16:=by
  unfold iA nI at h;simp only[Bool.and_eq_true,decide_eq_true_eq]at h;omega
 have e1:wrap64 (2*c.workers)=2*c.workers:=aa _ zO;have e2:wrap64 (2*c.workers+c.queue)=2*c.workers+c.queue:=aa _ zO;have e3:wrap64 (2*c.workers+c.queue+4)=2*c.workers+c.queue+4:=aa _ zO;have hX:=ek w (.cells (jb c) 26);have d:=Box.new w 26 (jb c);have Hr:=hide (J (w.alloc (.cells (jb c) 26)));clear J h hb;unfold jb at*;go_enter func25,ntmps25;go_upto_region 1 with(fail)
 generalize w.alloc (.cells #[iV c.workers,iV c.block,iV c.ring,iV c.queue,iV c.out,iV c.slice,iV c.kX] 26)=w1 at*;have H:=d.at_ 0 rfl;have Y:=d.at_ 1 rfl;have V:=d.at_ 2 rfl;have E:=d.at_ 3 rfl;have U:=d.at_ 4 rfl;have T:=d.at_ 5 rfl;have O:=d.at_ 6 rfl;go_wp2_with fail;refine Hr.out.mono ?_;rintro _ w2 ⟨u,rfl,I,rfl⟩;have d:=d.ext I;clear H Y V E U T O;have H:=d.at_ 0 rfl;have E:=d.at_ 3 rfl;go_wp2_with fail;exact bodyPost_ret (results_tmp2 results25 _ _ _) rfl (eB.mk (hX.tr I) (eR.two (congrArg (Value.int .i64) e3) rfl))
end Go.Proofs.YtofgfpffcegioaaGreat
namespace Go.Proofs.YtofgfpffcegioaaGreat
open Go.RowKit Go.Shelf Go.Sort iT jH fq Go.Proofs.Tryz
section
variable {w:World}
theorem da(f:Bool)(ws:LL)(u:Value)(E:Rn)(vr va vp:Value)(w:World)(hS:jj f ws u w)(T:eS f ws=true)(hc:pV E.cf)(J:eD E.reads vr w)(aa:iZ E.answers va w)(an:E.reads.length≤100000)(ao:∀b∈E.reads,b.length≤1000000)(av:E.answers.length≤1000000)(aL:∃A n c,vp=.slice A n c) :
  Calls prog 18 #[u,.agg (xP E vr va vp)] w λe w'=>∃D t',e=.returned (.tuple #[eF D.g,eF D.jL])∧oZ E.cf (l6 f ws) E.answers E.broken E.reads D.w0 D.jL D w' t'∧Ext w D.w0∧Ext w w':=by
 have aA:=hS;obtain⟨sl,rfl,hP⟩:=hS;obtain⟨A0,c0,rfl,-⟩:=eD.form (id hP);have al:=uB T;have b0:=al.flat;have b1:=al.many;have aJ:∃A n c,vr=.slice A n c:=by obtain⟨A,c,rfl,_⟩:=J;exact⟨_,_,_,rfl⟩
 have aI:∃A n c,va=.slice A n c:=by obtain⟨A,c,rfl,_⟩:=aa;exact⟨_,_,_,rfl⟩
 obtain⟨A1,n1,c1,rfl⟩:=aJ;obtain⟨A2,n2,c2,rfl⟩:=aI;obtain⟨A3,n3,c3,rfl⟩:=aL;have ak:=(Box.new w 24 #[.bool f,.slice A0 ws.length c0]).alloc (.cells (xP E (.slice A1 n1 c1) (.slice A2 n2 c2) (.slice A3 n3 c3)) 33);have H:=Box.new (w.alloc (.cells #[.bool f,.slice A0 ws.length c0] 24)) 33 (xP E (.slice A1 n1 c1) (.slice A2 n2 c2) (.slice A3 n3 c3));rw[World.size_alloc]at H;have hX:=(ek w (.cells #[.bool f,.slice A0 ws.length c0] 24)).tr (ek (w.alloc (.cells #[.bool f,.slice A0 ws.length c0] 24)) (.cells (xP E (.slice A1 n1 c1) (.slice A2 n2 c2) (.slice A3 n3 c3)) 33));have HC:=hide (Bm f ws _ _ (VP.st _ _ _ _ aA hX) zO zO T);have HX:=hide hX;have HB3:=hide H;have HV:=hide (And.intro J aa);have de:=hide hc;have HL:=hide (And.intro an (And.intro ao av));have q0:=ak.at_ 0 rfl;have q1:=ak.at_ 1 rfl;clear ak H hX hP J aa al b0 b1 an ao av hc aA;generalize ws.length=n0 at*;unfold xP at*;go_enter func18,ntmps18;go_wp2_with fail;refine HC.out.mono ?_;rintro _ w3 ⟨_,rfl,U,gm,rfl,aG,hM⟩;have mS:=hide (HX.out.tr U);have HM:=hide hM.1;have H:=HB3.out.ext U;have k9:=H.at_ 9 rfl;have mX:=hide H;have hK:=hide (MH 3 (λ_=>0) E.answers (.slice A2 n2 c2) (VP.st _ _ _ _ HV.out.2 mS.out) HL.out.2.2);clear HC HX HB3 U hM H q0 q1 aG;go_wp2_with fail;refine hK.out.mono ?_;rintro _ w4 ⟨gk,t4,rfl,aH,ae,O,am⟩;have Y:∀k,k<w3.heap.size→t4 k=0:=am;have H:=mX.out.ext O;have af:=H.lt;have au:=H.at_ 7 rfl;have ar:=H.at_ 8 rfl;have aq:∀j v,(jb (xz E.cf))[j]?=some v→w4.cell? ⟨w.heap.size+1,0+j,none⟩=some v:=by
  intro j v hj;rw[Nat.zero_add];have hl:j<7:=by
   have:=(Array.getElem?_eq_some_iff.1 hj).1;exact this
  refine(H.cell j).trans ?_
  match j,hl with
  |0,_=>exact hj
  |1,_=>exact hj
  |2,_=>exact hj
  |3,_=>exact hj
  |4,_=>exact hj
  |5,_=>exact hj
  |6,_=>exact hj
 have ay:=hide (show∀k,(t4.only [3]) k=0∨(t4.only [3]) k=3 from λk=>by
  rcases ez.DH t4 [3] k with h|h
  ·exact .inl h
  ·exact .inr (List.mem_singleton.1 h))
 have aw:=hide (show∀k,k<w3.heap.size→(t4.only [3]) k=0 from λk hk=>by
  rw[ez.uI (.inr (Y k hk))];exact Y k hk)
 have ag:=hide (gB.keeps.only ae (l:=[3]) zD);generalize t4.only [3]=tk at*;clear am Y ae hK k9;have az:=hide (λ(W:World) (hE:Ext w4 W)=>show Calls prog 40 #[.bool E.broken,.slice A1 n1 c1] W (eB W (b6 w3.heap.size gk E.broken E.reads E.answers))from by
  have aj:∀k,k<W.heap.size→tk k≠2:=λk hk e=>by rcases ay.out k with h|h<;>omega
  refine(MG (w:=W) 2 zD tk aj E.broken E.reads (.slice A1 n1 c1) (VP.st _ _ _ _ HV.out.1 ((mS.out.tr O).tr hE)) HL.out.1 HL.out.2.1).mono ?_;rintro e w' ⟨g,t',rfl,-,hs,hT⟩;have aK:=hT.Tv aj;have aF:=gB.keeps.turn zD zD (gB.keeps.ext ag.out hE) hT;have ap:∀k,k<W.heap.size→t' k=tk k:=λk hk=>(hT.block k hk (aj k hk)).2;refine eB.mk aK ⟨g,t'.only [2,3],rfl,gD.keeps.only hs zD,gB.keeps.only aF zD,λk=>?_,λk hk=>?_⟩
  ·rcases ez.DH t' [2,3] k with h|h
   ·exact .inl h
   ·simp only[List.mem_cons,List.not_mem_nil,or_false]at h;exact .inr h
  ·have h1:=ap k (Nat.lt_of_lt_of_le (Nat.lt_of_lt_of_le hk O.size) hE.size);rw[aw.out k hk]at h1;rw[ez.uI (.inr h1)];exact h1)
 have aB:=hide (λ(W:World) (v:Value) (hE:Ext w4 W) (hv:b6 w3.heap.size gk E.broken E.reads E.answers v W)=>show Calls prog 39 #[eF gm,.agg (jb (xz E.cf)),v,eF gk] W (eB W (b7 E.cf (l6 f ws) E.answers E.broken E.reads w3 gk))from by
  obtain⟨g,t,rfl,h2,h3,h4,h5⟩:=hv;refine(DG de.out HM.out (O.tr hE) h5 h2 h3 (λk _=>by rcases h4 k with h|h|h<;>omega)).mono ?_;rintro e w' ⟨D,t',rfl,a1,a2,a3,a4,a5,a6,a7,a8,a9⟩;exact eB.mk a8 ⟨D,t',w',rfl,⟨a1,a2,a3,a4,a5,a6,a7⟩,⟨Nat.le_refl _,λq hq=>.inl rfl⟩⟩)
 have GJ:=hide (mS.out.tr O);have dp:=hide O;clear ay aw ag aH mX H HL HV;go_wp2_with fail;go_upto_region 3 with(fail)
 refine fK 13 [12] zK zK (λ_ _ _ _ _ h=>h) ?_;refine .rn 6 ?_;refine .re 3 ?_;refine ed.loadAt 26 _ rfl (ee rfl) (od 1 21 0 rfl) underlying26 rfl zK af aq (eh _) ?_;refine .re 3 ?_;refine .rl 4 3 23 0 au (eh _) ?_;refine .re 3 ?_;refine .rl 22 5 25 0 ar (eh _) ?_;refine ed.call2 40 _ _ _ rfl (enters_of func40 zK rfl) (ee rfl) (od 4 24 2 rfl) (od 6 26 0 rfl) (F:=b6 w3.heap.size gk E.broken E.reads E.answers) (λa b W hX ha hb=>by cases ha;cases hb;exact az.out W ((eh _).tr hX)) ?_;refine .rn 8 ?_;refine ed.call4 39 _ _ _ _ _ rfl (enters_of func39 zK rfl) (ee rfl) (od 0 20 8 rfl) (od 2 22 6 rfl) (od 7 27 1 rfl) (od 8 28 0 rfl) (F:=b7 E.cf (l6 f ws) E.answers E.broken E.reads w3 gk) (λa b c d W hX ha hb hc hd=>by cases ha;cases hb;cases hd;exact aB.out W _ ((eh _).tr hX) hc) ?_;refine .rm 9 29 0 ?_;refine ed.dd (G:=dc E.cf (l6 f ws) E.answers E.broken E.reads w3 gk) _ 0 rfl (by rintro v w ⟨D,t,w9,rfl,h1,h2⟩;exact⟨_,_,rfl,rfl,D,t,w9,rfl,h1,h2⟩) (ee rfl) (od 10 19 0 rfl) ?_;refine ed.dd (G:=eC (iV 0)) _ 1 rfl (by rintro v w ⟨D,t,w9,rfl,h1,h2⟩;exact⟨_,_,rfl,rfl,rfl⟩) (ee rfl) (od 10 19 1 rfl) ?_;refine⟨rfl,λW3 U=>?_⟩;iterate 7 refine ew.eq ?_
 refine ew.any λaN ai=>?_;refine ew.eq ?_;refine ew.any λaM ah=>?_;refine ew.any λaE ad=>?_;refine ew.any λaD ab=>?_;refine ew.eq ?_;refine ew.nil ?_;simp only[Act.put,List.setIfInBounds_toArray,List.set_cons_zero,List.set_cons_succ];clear ai ah ad;have hE:=((eh _).tr U)
 obtain⟨D,t,w9,rfl,aC,hW⟩:=ab;have Xa:=hide (GJ.out.tr hE);have HN:=hide (aC.at_ hW (dp.out.tr hE));have Kv:=hide mS.out;clear aC hW hE U GJ dp HM az aB de mS au ar aq af O;go_wp2;obtain⟨a1,a2,a3,a4,a5,a6,a7⟩:=HN.out;exact bodyPost_ret (results_tmp2 results18 _ _ _) rfl ⟨D,t,by rw[a6];rfl,⟨a1,a2,a3,a4,rfl,rfl,a7⟩,by rw[a5];exact Kv.out,Xa.out⟩
end
end Go.Proofs.YtofgfpffcegioaaGreat
namespace Go.Proofs.YtofgfpffcegioaaGreat
open fq Go.Proofs.Tryz
namespace fq
end fq
open fq
theorem iE.pick{D:PS}{S:L8→List Nat}{text:L8}{n:Nat}{s:St}(h:iE D S text n s)(d:n+1≤1000000)(m:Int):iE D S text (n+1) (s.pick D.c D.M D.ans m):=by
 unfold St.pick;split
 ·exact⟨h.good,h.Q8,h.lim.mono (Nat.le_succ _),d,h.conf,h.Q9⟩
 ·rename_i k E;exact h.step d (tG.1 (Ed E)).2
namespace fq
section
variable {c:Cf} {M:Mc} {ans:List Bool} {s:St}
theorem dK(m:Int):(s.pick c M ans m).pl.cancelled=s.pl.cancelled:=by
 unfold St.pick;split
 ·rfl
 ·exact KE s _
theorem dC(E:s.pl.cancelled=false)(d:s.over=false):s.cancel.pl.cancelled=true∧s.cancel.pl.took=s.pl.took∧s.cancel.iG=s.iG:=by
 unfold St.cancel;rw[E,d];exact⟨rfl,rfl,rfl⟩
theorem dF(d:s.pl.cancelled=true):s.cancel=s:=by
 unfold St.cancel;rw[d];rfl
theorem dG(_:Room c s)(hc:s.pl.cancelled=false)(U:s.over=false)(d:Room c s.cancel)(f:Nat→Int):∃P:Nat→St,P 0=s.cancel∧(∀n,P (n+1)=(P n).pick c M ans (f n))∧(∀n,(∀i,i<n→(P i).over=false)→(P n).pl.cancelled=true∧(P n).pl.took=s.pl.took∧(P n).iG=s.iG∧((P n).over=false→(!((P n).enabled c).isEmpty)=true))∧((∀i,i<2*c.workers+c.queue+4→(P i).over=false)→(P (2*c.workers+c.queue+4)).over=true):=by
 obtain⟨E,O,J⟩:=dC hc U;refine⟨s.cancel.picks c M ans f,rfl,λn=>rfl,λn Y=>?_,dM d E f _ (Nat.le_refl _)⟩;obtain⟨-,H,h3,h4⟩:=c6 d E f n Y;refine⟨H,h3.trans O,h4.trans J,λT=>?_⟩;have:=dz (d.picks f n) H T;simpa using this
theorem dJ(h:Room c s)(H:1≤c.workers)(E:s.over=true):ig s.rg c.ring=[]:=by
 have d:=(dD h H E).2.2.2.1;unfold Rg.numbers at d;rw[h.n.pw]at d;unfold ig;rw[d];rfl
end
end fq
theorem dN{D:PS}{s:St}{w d:World}{t:ez}{v:Value}{hs:Hits}(h:ep D s w t)(O:Ext w d)(J:mT d w.heap.size v hs):∃H,ep D s d H∧eO 200 50 2 v hs.length (fz hs) d H:=
 ⟨λk=>if k<w.heap.size then t k else 200,h.qp O λ_ E=>if_pos E,eO.AF J λk E=>if_neg (Nat.not_lt.2 (fk J k E))⟩
def dP(d:List Int)(i:Nat):Int:=if h:i<d.length then d[i]else(i:Int)
end Go.Proofs.YtofgfpffcegioaaGreat
