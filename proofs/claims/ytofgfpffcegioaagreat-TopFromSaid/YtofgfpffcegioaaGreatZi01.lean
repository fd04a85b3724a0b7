/- A part of the proof. -/
import Derived.Test.YtofgfpffcegioaaGreatZf48
import Derived.Test.YtofgfpffcegioaaGreatZi00
set_option maxRecDepth 100000
set_option maxHeartbeats 8000000
namespace Go.Proofs.YtofgfpffcegioaaGreat
open Go.RowKit Go.Shelf Go.Sort iT jH fq Go.Proofs.Tryz
open _root_.Array renaming getElem?_setIfInBounds_ne → dc
open _root_.Go renaming World → de
open List renaming getD_eq_getElem?_getD → df,getElem?_eq_getElem → db
open Nat renaming le_trans → da
open Option renaming none → dd
def cv(n:Nat)(p q:Nat→Int)(d:AV):Prop:=n*2≤d.size∧∀j,j<n→d[j*2]?=some (iV (p j))∧d[j*2+1]?=some (iV (q j))
theorem cP{w:de}{base:Nat}{v:Value}{hs:Hits}(h:mT w base v hs)(h0:0<hs.length):∃g c T d,v=.slice (some ⟨g,0,dd⟩) hs.length c∧base≤g∧hs.length≤c∧c≤maxLen∧Box w g T d∧cv hs.length (λj=>(hs.getD j (0,0)).1) (λj=>(hs.getD j (0,0)).2) d:=by
 obtain⟨_,⟨rfl,h1⟩|⟨g,O,d,rfl,hb,E,hl,hm,aa,J⟩⟩:=h
 ·omega
 ·have hz:hs.length*2≤d.size:=zO;refine⟨g,O,_,d,rfl,hb,hl,hm,E,hz,λj Y=>?_⟩;have H:∀i x,i<hs.length*2→(fz hs)[i]?=some x→d[i]?=some x:=λi x hi U=>by
   rw[←J,List.getElem?_take,if_pos hi,Array.getElem?_toList]at U;exact U
  obtain⟨h1,h2⟩:=mm hs j Y;dsimp only;rw[df,db Y];exact⟨H _ _ zO h1,H _ _ zO h2⟩
theorem cv.pairs{w:de}{g c T:Nat}{d:AV}{hs:Hits}{p q:Nat→Int}(H:Box w g T d)(hl:hs.length≤c)(hm:c≤maxLen)(h:cv hs.length p q d)(U:∀j,j<hs.length→p j=(hs.getD j (0,0)).1∧q j=(hs.getD j (0,0)).2):eP hs (.slice (some ⟨g,0,dd⟩) hs.length c) w:=by
 refine(show eP hs _ w from⟨_,c,rfl,hl,hm,λ_=>⟨g,0,rfl,H.lt,λj E=>?_⟩⟩);obtain⟨h1,Y⟩:=h.2 j E;obtain⟨O,J⟩:=U j E;rw[df,db E]at O J;rw[Nat.zero_add,H.cell,H.cell,h1,Y,O,J];exact⟨rfl,rfl⟩
theorem cv.store{n k:Nat}{a b q:Nat→Int}{d:AV}(h:cv n (λj=>if j<k then b j else a j) q d)(U:k<n):cv n (λj=>if j<k+1 then b j else a j) q (d.setIfInBounds (k*2) (iV (b k))):=by
 refine⟨by rw[Array.size_setIfInBounds];exact h.1,λj J=>?_⟩;obtain⟨E,O⟩:=h.2 j J;have T:=h.1;dsimp only at E ⊢;refine⟨?_,by rw[dc zO];exact O⟩;by_cases e:j=k
 ·subst e;rw[Array.getElem?_setIfInBounds_self_of_lt zO,if_pos (Nat.lt_succ_self _)]
 ·rw[dc zO,E];by_cases H:j<k
  ·rw[if_pos H,if_pos zO]
  ·rw[if_neg H,if_neg zO]
def b9(w:de)(A:Option Addr)(n lo hi:Nat)(p q:Nat→Int):Prop:=0<n→∃g T d,A=some ⟨g,0,dd⟩∧lo≤g∧g<hi∧Box w g T d∧cv n p q d
theorem b9.ext{w E:de}{A:Option Addr}{n lo hi:Nat}{p q:Nat→Int}(h:b9 w A n lo hi p q)(H:Ext w E):b9 E A n lo hi p q:=λh0=>by
 obtain⟨g,T,d,h1,Y,U,O,J⟩:=h h0;exact⟨g,T,d,h1,Y,U,O.ext H,J⟩
theorem b9.far{w:de}{A:Option Addr}{n lo hi:Nat}{p q:Nat→Int}(h:b9 w A n lo hi p q)(a:Addr)(ha:a.block<lo∨hi≤a.block)(v:Value):b9 (w.setCell a v) A n lo hi p q:=λY=>by
 obtain⟨g,T,d,U,O,J,H,E⟩:=h Y;exact⟨g,T,d,U,O,J,H.far zO v,E⟩
theorem b9.pairs{w:de}{A:Option Addr}{lo hi c:Nat}{p q:Nat→Int}{hs:Hits}(h:b9 w A hs.length lo hi p q)(hl:hs.length≤c)(hm:c≤maxLen)(E:∀j,j<hs.length→p j=(hs.getD j (0,0)).1∧q j=(hs.getD j (0,0)).2):eP hs (.slice A hs.length c) w:=by
 rcases Nat.eq_zero_or_pos hs.length with h0|h0
 ·exact(show eP hs _ w from⟨A,c,rfl,hl,hm,λh=>by omega⟩)
 ·obtain⟨g,T,J,rfl,-,-,H,d⟩:=h h0;exact d.pairs H hl hm E
theorem cm{w:de}{base n c:Nat}{A:Option Addr}{hs:Hits}(h:mT w base (.slice A n c) hs):b9 w A hs.length base w.heap.size (λj=>(hs.getD j (0,0)).1) (λj=>(hs.getD j (0,0)).2):=λO=>by
 obtain⟨g,U,T,d,e,J,-,-,E,H⟩:=cP h O;cases e;exact⟨g,T,d,rfl,J,E.lt,E,H⟩
theorem cc(f:Nat)(l:Hits):(ca f l).length=l.length:=List.length_map ..
theorem cq(f:Nat)(l:Hits)(j:Nat)(d:j<l.length):((ca f l).getD j (0,0)).1=(l.getD j (0,0)).1+(f:Int)∧((ca f l).getD j (0,0)).2=(l.getD j (0,0)).2:=by
 unfold ca;rw[df,List.getElem?_map,df,db d];exact⟨rfl,rfl⟩
theorem cQ{d m:Nat}{S:L8→List Nat}{text:L8}{h:Int×Int}(E:h∈BD d S text m):(d:Int)<h.1∧h.1≤(d:Int)+m:=by
 unfold BD at E;obtain⟨e,H,J⟩:=List.mem_flatMap.1 E;obtain⟨x,-,rfl⟩:=List.mem_map.1 J;have:=List.mem_range.1 H;constructor<;>simp only<;>omega
section
variable {w:de}
theorem topFrom_any(f:Bool)(ws:LL)(u:Value)(r:qC)(rs:LL)(E:List Bool)(d:List Int)(vr va vp:Value)(O:Int)(w:de)(hS:jj f ws u w)(hr:eD rs vr w)(ha:iZ E va w)(hp:eQ d vp w)(aL:0≤r.seed)(ah:0≤r.kind) :
  Calls prog 6 #[u,.agg (xG r vr va vp),iV O] w (eB w (eC (.bool true))):=by
 have aq:=hS;obtain⟨sl,rfl,hP⟩:=hS;obtain⟨A0,c0,rfl,-⟩:=eD.form (id hP);obtain⟨A1,c1,rfl,-⟩:=eD.form (id hr);obtain⟨A2,c2,rfl,-⟩:=iZ.form (id ha);obtain⟨A3,c3,rfl,-⟩:=eQ.form (id hp);have aP:=(Box.new w 24 #[.bool f,.slice A0 ws.length c0]).alloc (.cells (xG r (.slice A1 rs.length c1) (.slice A2 E.length c2) (.slice A3 d.length c3)) 33);have aF:=Box.new (w.alloc (.cells #[.bool f,.slice A0 ws.length c0] 24)) 33 (xG r (.slice A1 rs.length c1) (.slice A2 E.length c2) (.slice A3 d.length c3));rw[World.size_alloc]at aF;have HE:=hide ((ek w (.cells #[.bool f,.slice A0 ws.length c0] 24)).tr (ek (w.alloc (.cells #[.bool f,.slice A0 ws.length c0] 24)) (.cells (xG r (.slice A1 rs.length c1) (.slice A2 E.length c2) (.slice A3 d.length c3)) 33)));have HB2:=hide aP;have HB3:=hide aF;have HS:=hide (λW (Y:Ext w W)=>Kg f ws _ r rs E d (.slice A1 rs.length c1) (.slice A2 E.length c2) (.slice A3 d.length c3) W (VP.st _ _ _ _ aq Y) (VP.st _ _ _ _ hr Y) (VP.st _ _ _ _ ha Y) (VP.st _ _ _ _ hp Y));have HSc:=hide (λW (Y:Ext w W) (hz:RS f ws r rs E.length d.length=true)=>by
  have J:=Nl hz;obtain⟨U,o2,o3⟩:=Pd rs E d J.run ah;have h:=Kh f ws _ (tE r rs E d) (.slice A1 rs.length c1) (.slice A2 E.length c2) (.slice A3 d.length c3) W (VP.st _ _ _ _ aq Y) J.right U o3 o2 (VP.st _ _ _ _ hr Y) (VP.st _ _ _ _ ha Y) (VP.st _ _ _ _ hp Y) (da J.n zD) (da J.flat zD) (λb hb=>da (J.each b hb) zD) (da J.an zD) (da J.np zD);rw[←Pb rs E d J.run aL ah]at h;exact h)
 have cK:=hide (λW (Y:Ext w W) (hz:RS f ws r rs E.length d.length=true) (h0:0≤O) (h1:O≤4611686018427387904)=>by
  have J:=Nl hz;obtain⟨U,o2,o3⟩:=Pd rs E d J.run ah;have o4:pV ((tE r rs E d).at_ O.toNat).cf:=⟨U.w1,U.w2,U.b1,U.b2,U.r1,U.r2,U.q1,U.q2,U.o1,U.o2,U.s1,U.s2,by show O.toNat≤_;omega⟩
  have h:=Kh f ws _ ((tE r rs E d).at_ O.toNat) (.slice A1 rs.length c1) (.slice A2 E.length c2) (.slice A3 d.length c3) W (VP.st _ _ _ _ aq Y) J.right o4 o3 o2 (VP.st _ _ _ _ hr Y) (VP.st _ _ _ _ ha Y) (VP.st _ _ _ _ hp Y) (da J.n zD) (da J.flat zD) (λb hb=>da (J.each b hb) zD) (da J.an zD) (da J.np zD);have e:xP ((tE r rs E d).at_ O.toNat) (.slice A1 rs.length c1) (.slice A2 E.length c2) (.slice A3 d.length c3)=xG { r with cf:={ r.cf with kX:=O } } (.slice A1 rs.length c1) (.slice A2 E.length c2) (.slice A3 d.length c3):=by
   rw[show xG { r with cf:={ r.cf with kX:=O } } (.slice A1 rs.length c1) (.slice A2 E.length c2) (.slice A3 d.length c3)=(xG r (.slice A1 rs.length c1) (.slice A2 E.length c2) (.slice A3 d.length c3)).setIfInBounds 6 (iV O)from rfl,Pb rs E d J.run aL ah];obtain⟨k,rfl⟩:=Int.eq_ofNat_of_zero_le (show 0≤O by omega);rfl
  rw[e]at h;exact h)
 have HW:=hide (λ(hz:RS f ws r rs E.length d.length=true) (h0:0≤O) (h1:O≤4611686018427387904)=>by
  have J:=Nl hz;obtain⟨U,o2,o3⟩:=Pd rs E d J.run ah;obtain⟨oo,q1,q2⟩:=cu (r:=tE r rs E d) (M:=l6 f ws) U.r1 r.cf.kX.toNat O.toNat;have q1:(tE r rs E d).report (l6 f ws)=_:=q1;have hp:=(bI (r:=tE r rs E d) (zh J.right) U.b1 U.r1).pre;have h5:=xM (qt J.run).1;have a9:r.cf.kX=((r.cf.kX.toNat:Nat):Int):=(Int.toNat_of_nonneg zO).symm;have ba:O=((O.toNat:Nat):Int):=(Int.toNat_of_nonneg zO).symm;have bl:=cM (f:=f) (ws:=ws) (tE r rs E d).cf.kX rs.flatten (da J.flat zD);exact(show∃(L:Hits) (f0 f1:Nat),r.cf.kX=(f0:Int)∧O=(f1:Int)∧f0≤4611686018427387904∧f1≤4611686018427387904∧((tE r rs E d).report (l6 f ws)).hits=ca f0 L∧(((tE r rs E d).at_ O.toNat).report (l6 f ws)).hits=ca f1 L∧(∀v,D0 (((tE r rs E d).at_ O.toNat).report (l6 f ws)) v=D0 ((tE r rs E d).report (l6 f ws)) v)∧(∀j,j<L.length→0<(L.getD j (0,0)).1∧(L.getD j (0,0)).1≤100)∧L.length≤1000000 from by
   refine⟨oo.hits,r.cf.kX.toNat,O.toNat,a9,ba,by omega,by omega,by rw[q1],by rw[q2],λv=>by rw[q1,q2];rfl,λj hj=>?_,?_⟩
   ·rw[q1]at hp;have hm:(ca r.cf.kX.toNat oo.hits)[j]'(by rw[cc];exact hj)∈BD (tE r rs E d).cf.kX (QF f ws) (tE r rs E d).reads.flatten (tE r rs E d).reads.flatten.length:=hp.subset (List.getElem_mem _);have hb:=cQ hm;have hg:=(cq r.cf.kX.toNat oo.hits j hj).1;rw[df,db (by rw[cc];exact hj)]at hg;simp only[Option.getD_some]at hg;have bn:(tE r rs E d).reads.flatten.length≤100:=J.flat;have bb:(tE r rs E d).cf.kX=r.cf.kX.toNat:=rfl;rw[bb,hg]at hb;omega
   ·have:=hp.length_le;rw[q1]at this;have h2:(ca r.cf.kX.toNat oo.hits).length≤(BD (tE r rs E d).cf.kX (QF f ws) rs.flatten rs.flatten.length).length:=this;rw[cc]at h2;omega))
 clear aF aP aq hP hr ha hp;generalize RS f ws r rs E.length d.length=z at*;generalize(tE r rs E d).report (l6 f ws)=o at*;generalize((tE r rs E d).at_ O.toNat).report (l6 f ws)=op at*;generalize rs.length=n1 at*;generalize E.length=n2 at*;generalize d.length=n3 at*;generalize ws.length=n0 at*;unfold xG at*;go_enter func6,ntmps6;go_wp2_with fail;refine(HS.out _ HE.out).mono ?_;rintro _ w3 ⟨_,rfl,av,rfl⟩;have mS:=hide (HE.out.tr av);have DK:=hide (HB2.out.ext av);have mX:=hide (HB3.out.ext av);clear HS HE HB2 HB3 av;cases z;case false=>
  have HL:=hide (dU w3);go_wp2_with fail;refine HL.out.mono ?_;rintro _ w4 ⟨_,rfl,H,rfl⟩;have GJ:=hide (mS.out.tr H);clear HL mS DK mX H HSc HW cK;go_wp2;go_ret;exact eB.mk GJ.out rfl
 have q0:=DK.out.at_ 0 rfl;have q1:=DK.out.at_ 1 rfl;have WM:=hide (HSc.out w3 mS.out rfl);clear HSc;by_cases bp:O<0
 ·have HL:=hide (dU w3);clear WM DK mX HW cK q0 q1;go_wp2_with fail;refine HL.out.mono ?_;rintro _ w4 ⟨_,rfl,H,rfl⟩;have GJ:=hide (mS.out.tr H);clear HL mS H;go_wp2;go_ret;exact eB.mk GJ.out rfl
 by_cases bo:O>4611686018427387904
 ·have HL:=hide (dU w3);clear WM DK mX HW cK q0 q1;go_wp2_with fail;refine HL.out.mono ?_;rintro _ w4 ⟨_,rfl,H,rfl⟩;have GJ:=hide (mS.out.tr H);clear HL mS H;go_wp2;go_ret;exact eB.mk GJ.out rfl
 have HW2:=hide (HW.out rfl zO zO);have cV:=hide (λW (Y:Ext w W)=>cK.out W Y rfl zO zO);clear HW cK;have k0:=mX.out.at_ 0 rfl;have k1:=mX.out.at_ 1 rfl;have k2:=mX.out.at_ 2 rfl;have k3:=mX.out.at_ 3 rfl;have k4:=mX.out.at_ 4 rfl;have k5:=mX.out.at_ 5 rfl;have k6:=mX.out.at_ 6 rfl;have k7:=mX.out.at_ 7 rfl;have k8:=mX.out.at_ 8 rfl;have k9:=mX.out.at_ 9 rfl;have aE:=mX.out.at_ 10 rfl;have aD:=mX.out.at_ 11 rfl;have aC:=mX.out.at_ 12 rfl;have aB:=mX.out.at_ 13 rfl;have aA:=mX.out.at_ 14 rfl;have az:=mX.out.at_ 15 rfl;go_wp2_with fail;refine WM.out.mono ?_;rintro _ w4 ⟨_,rfl,H,vh,rfl,ho⟩;obtain⟨Ah,ch,rfl⟩:=eI ho;have ap:=H.tr (ek w4 (.cells (D0 o (.slice Ah o.hits.length ch)) 40));have aS:=Box.new w4 40 (D0 o (.slice Ah o.hits.length ch));have bd:Hid (eP o.hits (.slice Ah o.hits.length ch) (w4.alloc (.cells (D0 o (.slice Ah o.hits.length ch)) 40))):=hide (VP.st _ _ _ _ (mT.pairs ho) (ek _ _));have Sk:=hide (mS.out.tr ap);have RT:=hide aS;have cS:=hide (DK.out.ext ap);have p5:=hide (mX.out.ext ap);have HL:=hide (λW=>dU W);have c8:=hide mX.out.lt;have cW:=hide H.size;clear WM mS DK mX H ap q0 q1 k0 k1 k2 k3 k4 k5 k6 k7 k8 k9 aE aD aC aB aA az;obtain⟨L,f0,f1,y1,rfl,y3,y4,y5,y6,y7,y8,y9⟩:=HW2.out;obtain⟨n,hn⟩:∃n,L.length=n:=⟨_,rfl⟩
 have af:o.hits.length=n:=by rw[y5,cc,hn]
 have ae:op.hits.length=n:=by rw[y6,cc,hn]
 obtain⟨_,_,e9,aO,aX,-⟩:=eP.form (mT.pairs ho);cases e9;have au:=(cm ho).ext (ek w4 (.cells (D0 o (.slice Ah o.hits.length ch)) 40));obtain⟨w5,ad⟩:∃W,w4.alloc (.cells (D0 o (.slice Ah o.hits.length ch)) 40)=W:=⟨_,rfl⟩
 rw[ad]at Sk RT cS p5 au;rw[af]at RT au ad aO;have k6:=p5.out.at_ 6 rfl;rw[y1]at k6;have f6:=p5.out.frozen 6;have c4:=hide ad;have PX:=hide au;have aR:w3.heap.size≤w4.heap.size:=cW.out;have bu:w4.heap.size<w5.heap.size:=by rw[←ad,World.size_alloc];exact Nat.lt_succ_self _
 clear HW2 bd ho ad au aS;rw[af];have aT:=c8.out;unfold D0 at c4 ⊢;go_upto_region 4 with(fail)
 rw[c4.out];go_upto_region 6 with(fail)
 have JP:Hid (Ext w (w5.setCell ⟨w.heap.size+1,6,dd⟩ (iV f1))):=hide (Sk.out.setCell (p:=⟨w.heap.size+1,6,dd⟩) (Nat.le_succ _) _);have bP:=hide (cS.out.far (p:=⟨w.heap.size+1,6,dd⟩) (by show w.heap.size≠w.heap.size+1;omega) (iV f1));have bQ:=hide (p5.out.eL 6 (iV f1));have cX:=hide (RT.out.far (p:=⟨w.heap.size+1,6,dd⟩) (by show w4.heap.size≠w.heap.size+1;have:=aR;omega) (iV f1));have c6:=hide (PX.out.far ⟨w.heap.size+1,6,dd⟩ (.inl aT) (iV f1));have bj:(w5.setCell ⟨w.heap.size+1,6,dd⟩ (iV f1)).heap.size=w5.heap.size:=by simp[World.setCell]
 clear cS p5 RT PX Sk c4 k6 f6;generalize w5.setCell ⟨w.heap.size+1,6,dd⟩ (iV f1)=w6 at*;have q0:=bP.out.at_ 0 rfl;have q1:=bP.out.at_ 1 rfl;have cY:=hide (cV.out w6 JP.out);have k0:=bQ.out.at_ 0 rfl;have k1:=bQ.out.at_ 1 rfl;have k2:=bQ.out.at_ 2 rfl;have k3:=bQ.out.at_ 3 rfl;have k4:=bQ.out.at_ 4 rfl;have k5:=bQ.out.at_ 5 rfl;have k6:=bQ.out.at_ 6 rfl;have k7:=bQ.out.at_ 7 rfl;have k8:=bQ.out.at_ 8 rfl;have k9:=bQ.out.at_ 9 rfl;have aE:=bQ.out.at_ 10 rfl;have aD:=bQ.out.at_ 11 rfl;have aC:=bQ.out.at_ 12 rfl;have aB:=bQ.out.at_ 13 rfl;have aA:=bQ.out.at_ 14 rfl;have az:=bQ.out.at_ 15 rfl;clear cV bP bQ;go_wp2_with fail;refine cY.out.mono ?_;rintro _ w7 ⟨_,rfl,ai,bi,rfl,am⟩;obtain⟨ab,ak,rfl⟩:=eI am;obtain⟨_,_,e9,aN,aW,-⟩:=eP.form (mT.pairs am);cases e9;have ar:=(cm am).ext (ek w7 (.cells (D0 o (.slice ab op.hits.length ak)) 40));obtain⟨w8,aa⟩:∃W,w7.alloc (.cells (D0 o (.slice ab op.hits.length ak)) 40)=W:=⟨_,rfl⟩
 have ao:Ext w7 w8:=by rw[←aa];exact ek _ _
 have aH:Box w8 w7.heap.size 40 (D0 o (.slice ab op.hits.length ak)):=by rw[←aa];exact Box.new _ _ _
 rw[aa]at ar;rw[ae]at ar aa aN aH;rw[ae,y7];have aU:=hide (JP.out.tr (ai.tr ao));have cT:=hide (cX.out.ext (ai.tr ao));have cZ:=hide (c6.out.ext (ai.tr ao));have ay:=hide ar;have cL:=hide aH;have c5:=hide aa;have bt:w6.heap.size≤w7.heap.size:=ai.size;have HP:=hide (And.intro y5 (And.intro y6 (And.intro y8 (And.intro hn (And.intro af ae)))));clear cY ai am ao aH ar aa JP cX c6 q0 q1 y7 y5 y6 y8 hn af ae cW k0 k1 k2 k3 k4 k5 k6 k7 k8 k9 aE aD aC aB aA az;have c2:=cT.out.at_ 2 rfl;have d2:=cL.out.at_ 2 rfl;unfold D0 at c5 ⊢;go_upto_region 7 with(fail)
 rw[c5.out];go_wp2_with fail;have HF:Hid (∀j,j<n→∃e:Int,0<e∧e≤100∧(o.hits.getD j (0,0)).1=e+(f0:Int)∧(op.hits.getD j (0,0)).1=e+(f1:Int)∧(op.hits.getD j (0,0)).2=(o.hits.getD j (0,0)).2):=hide (λj hj=>by
  obtain⟨y5,y6,y8,hn,af,ae⟩:=HP.out;rw[←hn]at hj;obtain⟨z1,z2⟩:=y8 j hj;obtain⟨z3,z4⟩:=cq f0 L j hj;obtain⟨z5,z6⟩:=cq f1 L j hj;rw[y5,y6];exact⟨_,z1,z2,z3,z5,z6.trans z4.symm⟩)
 have bk:n≤1000000:=by have:=HP.out.2.2.2.1;omega
 have IB:Hid (op.hits.length=n):=hide HP.out.2.2.2.2.2;clear HP c2 d2 c5
 go_loopw [12] (λi wr=>∃k:Nat,k≤n∧i=iV k∧Hid (b9 wr Ah n w3.heap.size w4.heap.size (λj=>if j<k then(op.hits.getD j (0,0)).1 else(o.hits.getD j (0,0)).1) (λj=>(o.hits.getD j (0,0)).2))∧Hid (b9 wr ab n w6.heap.size w7.heap.size (λj=>(op.hits.getD j (0,0)).1) (λj=>(op.hits.getD j (0,0)).2))∧Hid (Box wr w4.heap.size 40 (D0 o (.slice Ah n ch)))∧Hid (Box wr w7.heap.size 40 (D0 o (.slice ab n ak)))∧Hid (Ext w wr)) (λi _=>n-(intOf i).toNat)
 case atStart=>exact⟨0,Nat.zero_le _,rfl,hide (by have h:=cZ.out;simpa using h),ay,cT,cL,aU⟩
 case round=>
  clear cZ ay cT cL aU;obtain⟨k,J,rfl,HR1,HR2,cw,cx,HX⟩:=hrel;have c2:=cw.out.at_ 2 rfl;have d2:=cx.out.at_ 2 rfl;by_cases ag:k<n
  ·as_aux_lemma=>
    obtain⟨g,T,bv,e1,aZ,aY,hb,hr⟩:=HR1.out zO;obtain⟨g',T',bg,bc,bf,be,aG,aM⟩:=HR2.out zO;obtain⟨ra,rq⟩:=hr.2 k ag;obtain⟨rb,al⟩:=aM.2 k ag;obtain⟨e,br,bq,ea,eb,eq⟩:=HF.out k ag;dsimp only at ra rq rb al;rw[if_neg (Nat.lt_irrefl _),ea]at ra;rw[eb]at rb;rw[eq]at al;have EB:=hide eb;clear ea eb eq;subst e1;subst bc;have Hb:=hide hb;have Hr:=hide hr;have xa:=(hb.cell (k*2)).trans ra;have xq:=(hb.cell (k*2+1)).trans rq;have xb:=(aG.cell (k*2)).trans rb;have aV:=(aG.cell (k*2+1)).trans al;have fz:=hb.frozen (k*2);clear hb hr aG aM ra rq rb al HR1;generalize(o.hits.getD k (0,0)).2=wd at*;go_upto_region 12 with(fail)
    go_region
    have hD:=eh wr;have cw:=hide (cw.out.ext hD);have cx:=hide (cx.out.ext hD);have HX:=hide (HX.out.tr hD);have HR2:=hide (HR2.out.ext hD);have Hb:=hide (Hb.out.ext hD);have xb:wr.drew.cell? ⟨g',k*2,dd⟩=some (iV (e+(f1:Int))):=xb;have fz:wr.drew.frozen? ⟨g,k*2,dd⟩=false:=fz;have xa:wr.drew.cell? ⟨g,k*2,dd⟩=some (iV (e+(f0:Int))):=xa;clear xq aV c2 d2 hD;generalize wr.drew=wr at*;have c2:=cw.out.at_ 2 rfl;have d2:=cx.out.at_ 2 rfl;go_upto_region 14 with(fail)
    go_region
    go_wp2;have aK:=Hr.out.store ag;rw[EB.out]at aK;have aj:=eh (wr.setCell ⟨g,k*2,dd⟩ (iV (e+(f1:Int))));have n1:g<w6.heap.size:=zO;have n2:w4.heap.size≠g:=zO;have n3:w7.heap.size≠g:=zO;have n4:w.heap.size≤g:=zO;have hx:Ext w (wr.setCell ⟨g,k*2,dd⟩ (iV (e+(f1:Int)))):=HX.out.setCell (p:=⟨g,k*2,dd⟩) n4 _;exact⟨⟨k+1,Nat.succ_le_of_lt ag,by go_num,hide (λ_=>⟨g,T,_,rfl,aZ,aY,(Hb.out.eL (k*2) _).ext aj,aK⟩),hide ((HR2.out.far ⟨g,k*2,dd⟩ (.inl n1) _).ext aj),hide ((cw.out.far (p:=⟨g,k*2,dd⟩) n2 _).ext aj),hide ((cx.out.far (p:=⟨g,k*2,dd⟩) n3 _).ext aj),hide (hx.tr aj)⟩,by simp only[intOf];omega⟩
  ·obtain rfl:k=n:=zO;have aJ:eP op.hits (.slice Ah op.hits.length ch) wr:=b9.pairs (by rw[IB.out];exact HR1.out) (by rw[IB.out];exact aO) aX (λj hj=>by
    rw[IB.out]at hj;obtain⟨e,-,-,-,-,eq⟩:=HF.out j hj;exact⟨if_pos hj,eq.symm⟩)
   have aI:eP op.hits (.slice ab op.hits.length ak) wr:=b9.pairs (by rw[IB.out];exact HR2.out) (by rw[IB.out];exact aN) aW (λj _=>⟨rfl,rfl⟩);have VC:=hide (cr o op.hits _ _ wr aJ aI);rw[IB.out]at VC;unfold D0 at VC;have a0:=cw.out.at_ 0 rfl;have b0:=cx.out.at_ 0 rfl;have a1:=cw.out.at_ 1 rfl;have b1:=cx.out.at_ 1 rfl;have a2:=cw.out.at_ 2 rfl;have b2:=cx.out.at_ 2 rfl;have a3:=cw.out.at_ 3 rfl;have b3:=cx.out.at_ 3 rfl;have a4:=cw.out.at_ 4 rfl;have b4:=cx.out.at_ 4 rfl;have a5:=cw.out.at_ 5 rfl;have b5:=cx.out.at_ 5 rfl;have a6:=cw.out.at_ 6 rfl;have b6:=cx.out.at_ 6 rfl;have a7:=cw.out.at_ 7 rfl;have b7:=cx.out.at_ 7 rfl;have a8:=cw.out.at_ 8 rfl;have b8:=cx.out.at_ 8 rfl;clear aJ aI HR1 HR2 cw cx HF IB c2 d2;go_wp2_with fail;refine VC.out.mono ?_;rintro _ w9 ⟨_,rfl,aQ,rfl⟩;have c7:=hide (HX.out.tr aQ);clear VC HX aQ a0 b0 a1 b1 a2 b2 a3 b3 a4 b4 a5 b5 a6 b6 a7 b7 a8 b8;go_wp2_with fail;refine(HL.out _).mono ?_;rintro _ bh ⟨_,rfl,aw,rfl⟩;have TK:=hide (c7.out.tr aw);clear c7 aw HL;go_wp2;go_ret;exact eB.mk TK.out rfl
end
end Go.Proofs.YtofgfpffcegioaaGreat
