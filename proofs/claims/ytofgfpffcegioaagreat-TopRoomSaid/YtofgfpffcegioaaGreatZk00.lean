/- A part of the proof. -/
import Derived.Test.YtofgfpffcegioaaGreatZf13
import Derived.Test.YtofgfpffcegioaaGreatZf46
set_option maxRecDepth 100000
set_option maxHeartbeats 8000000
namespace Go.Proofs.YtofgfpffcegioaaGreat
open Go.RowKit Go.ChangeShapes Go.WideShapes Go.ChangeAt Go.Deep
section
variable {H:Type} {enc:TypeId×Value→H} {P:Program} {w:World} {base:Nat} {spare:Nat→Bool} {held:Bool}
theorem b8{r:Reach}{Y:Nat}{t e:TypeId}{v:Value}{d:DataW H}{p:List MemPlace}(I:P.underlying t=some (.slice e))(U:P.underlying e=some (.int .i64))(V:P.cellsOf e=1)
  (O:Value.okWide P w r Y t v)(h:DataW.Trod enc P w base spare held t v d p):∃s,eQ s v w:=by
 obtain⟨A,n,c,rfl⟩:=okWide_slice I O;obtain⟨J,T⟩:=h;obtain⟨s,u,E,W⟩:=zZ I U V T;have:u=.slice A n c:=by simp[Value.cells]at E;exact E.symm
 exact⟨s,this▸W⟩
end
end Go.Proofs.YtofgfpffcegioaaGreat
namespace Go.Proofs.YtofgfpffcegioaaGreat
open Go.RowKit Go.Shelf Go.Sort iT jH fq Go.Proofs.Tryz
open _root_.Go renaming World → c5
open Nat renaming lt_of_lt_of_le → ba
section
variable {D:PS} {s:St} {w w' W:c5} {t t':ez} {S:List UInt8→List Nat} {text:List UInt8} {n k:Nat}
theorem b5(h:ep D s w t)(hK:iE D S text n s)(m:Int) :
  Calls prog 20 #[eF D.g,iV m] w λe w'=>(∃r:Int,e=.returned (.tuple #[iV r,.bool (!(s.enabled D.c).isEmpty)]))∧eV D (s.pick D.c D.M D.ans m) w t w':=by
 have hA:=hide (Dy h hK);have ae:(s.enabled D.c).length≤1000000:=by
  have h1:(s.enabled D.c).length≤D.c.workers+3:=by
   unfold St.enabled;exact Nat.le_trans (List.length_filter_le _ _) zS
  have:=hK.conf.w2;omega
 have hP:=hide (λW v (J:eT (s.enabled D.c) v W)=>I0 m (s.enabled D.c) v W J ae);have d:=hide (MS m (s.enabled D.c));have hS:=hide (λW k (hE:Ext w W) (hk:k∈s.enabled D.c)=>AZ (k:=k) (h.extend hE) hK (tG.1 hk).1 (tG.1 hk).2);have Y:=hide (show s.pick D.c D.M D.ans m=match uP m (s.enabled D.c)with|some k=>s.step D.c D.M D.ans k|none=>s by unfold St.pick;cases uP m (s.enabled D.c)<;>rfl);have H:=hide h;have E:=hide (show(nX m (s.enabled D.c)).2=!(s.enabled D.c).isEmpty by
  unfold nX;cases s.enabled D.c<;>simp)
 clear h hK ae;obtain⟨pk,ab⟩:∃pk,pk=nX m (s.enabled D.c):=⟨_,rfl⟩
 rw[←ab]at hP d E;clear ab;obtain⟨p1,p2⟩:=pk;simp only at hP d E;cases p2 with
 |false=>
  have hF:=hide (λW (hE:Ext w W)=>show eV D (s.pick D.c D.M D.ans m) w t W by rw[Y.out,d.out];exact⟨t,H.out.extend hE,Moves.ext t hE⟩);clear hS Y d;go_enter func20,ntmps20;go_wp2_with fail;refine hA.out.mono ?_;rintro _ w2 ⟨v,rfl,U,J⟩;have hn:=J.Uk;obtain⟨A,c,rfl,-⟩:=eT.form hn;have O:=hide (hP.out w2 _ hn);clear hA hP J hn;go_wp2_with fail;refine O.out.mono ?_;rintro _ w3 ⟨_,rfl,T,J⟩;obtain⟨_,_,rfl,rfl,rfl⟩:=eR.inv2 J;have ah:=hide (hF.out w3 (U.tr T));clear O hF J U T;go_wp2
  go_ret2
  exact⟨⟨0,by rw[←E.out];rfl⟩,ah.out⟩
 |true=>
  have ad:=hide (Ed (show uP m (s.enabled D.c)=some p1 from d.out));have aa:=hide (show s.pick D.c D.M D.ans m=s.step D.c D.M D.ans p1 by rw[Y.out,d.out];rfl);clear Y d;go_enter func20,ntmps20;go_wp2_with fail;refine hA.out.mono ?_;rintro _ w2 ⟨v,rfl,U,J⟩;have hn:=J.Uk;obtain⟨A,c,rfl,-⟩:=eT.form hn;have O:=hide (hP.out w2 _ hn);clear hA hP J hn;go_wp2_with fail;refine O.out.mono ?_;rintro _ w3 ⟨_,rfl,T,J⟩;obtain⟨_,_,rfl,rfl,rfl⟩:=eR.inv2 J;have hE:=U.tr T;have af:=hide (hS.out w3 p1 hE ad.out);have HM:=hide (Moves.ext t hE);clear O hS ad J U T hE;go_wp2_with fail;refine af.out.mono ?_;rintro _ w4 ⟨rfl,t4,h4,ag⟩;have hF:=hide (show eV D (s.pick D.c D.M D.ans m) w t w4 by rw[aa.out];exact⟨t4,h4,HM.out.tr ag⟩);clear af h4 ag HM aa;go_wp2
  go_ret2
  exact⟨⟨(p1:Int),by rw[←E.out];rfl⟩,hF.out⟩
end
section
attribute [local go_sem] Oper.semAt_some
theorem qY.dn{w s d:c5}(h:qY w s)(k:qY s d):qY w d:=⟨Nat.le_trans h.size k.size,λ_ E=>.inl ((k.same (ba E h.size)).trans (h.same E))⟩
def b6(N Y:Nat)(d:Bool)(s:LL)(ans:List Bool):VP:=⟨λv w=>∃g t,v=gP g∧gD 2 g d ⟨s,0⟩ w t∧gB 3 Y ans ⟨[],0⟩ w t∧(∀k,t k=0∨t k=2∨t k=3)∧(∀k,k<N→t k=0),
 λ_ _ _ ⟨g,t,U,T,O,J,H⟩ E=>⟨g,t,U,gD.keeps.weak T E,gB.keeps.weak O E,J,H⟩⟩
def b7(c:Cf)(M:Mc)(ans:List Bool)(d:Bool)(s:LL)(w0:c5)(U:Nat):VP:=⟨λv w=>∃(D:PS) (t:ez) (E:c5),v=Value.tuple #[gP D.g,iV 0]∧oZ c M ans d s w0 U D E t∧qY E w,
 λv w Y h H=>by
  obtain⟨D,t,E,T,O,J⟩:=h;exact⟨D,t,E,T,O,J.dn H⟩⟩
def dc(c:Cf)(M:Mc)(ans:List Bool)(d:Bool)(s:LL)(w0:c5)(U:Nat):VP:=⟨λv w=>∃(D:PS) (t:ez) (E:c5),v=gP D.g∧oZ c M ans d s w0 U D E t∧qY E w,
 λv w Y h H=>by
  obtain⟨D,t,E,T,O,J⟩:=h;exact⟨D,t,E,T,O,J.dn H⟩⟩
section
variable {P:Program} {Q:Exit→Act→c5→Prop} {ops:Array Oper} {M m:Nat} {a0:Act} {w0:c5} {K:List Oper→List VP→Prop} {o:Oper} {rest:List Oper} {env:List VP}
theorem ed.dd{F G:VP}(x:Operand)(i:Nat)(J:o.op=.extract x i)(T:∀v w,F v w→∃d u,v=.tuple d∧d[i]?=some u∧G u w)(s:Want ops M a0 w0 env o true)(hx:fu ops M a0 w0 env o x F)
  (H:ed P Q ops M a0 w0 K m rest (G::env)):ed P Q ops M a0 w0 K (m+1) (o::rest) env:=
 .val s (λa w U hC Y=>by
  obtain⟨d,u,e,E,O⟩:=T _ _ (hx a w U hC Y);exact⟨u,by unfold execOp;simp[J,e,Instr.extract,E],O⟩) H
end
end
section
variable {w:c5}
theorem da(f:Bool)(ws:LL)(u:Value)(s:Rn)(vr va vp:Value)(w:c5)(hS:jj f ws u w)(O:eS f ws=true)(hc:pV s.cf)(H:eD s.reads vr w)(Y:iZ s.answers va w)(am:s.reads.length≤100000)(an:∀b∈s.reads,b.length≤1000000)(au:s.answers.length≤1000000)(aK:∃A n c,vp=.slice A n c) :
  Calls prog 18 #[u,.agg (xP s vr va vp)] w λe w'=>∃D t',e=.returned (.tuple #[eF D.g,eF D.jL])∧oZ s.cf (l6 f ws) s.answers s.broken s.reads D.w0 D.jL D w' t'∧Ext w D.w0∧Ext w w':=by
 have az:=hS;obtain⟨sl,rfl,hP⟩:=hS;obtain⟨A0,c0,rfl,-⟩:=eD.form (id hP);have ak:=uB O;have b0:=ak.flat;have b1:=ak.many;have aI:∃A n c,vr=.slice A n c:=by obtain⟨A,c,rfl,_⟩:=H;exact⟨_,_,_,rfl⟩
 have aH:∃A n c,va=.slice A n c:=by obtain⟨A,c,rfl,_⟩:=Y;exact⟨_,_,_,rfl⟩
 obtain⟨A1,n1,c1,rfl⟩:=aI;obtain⟨A2,n2,c2,rfl⟩:=aH;obtain⟨A3,n3,c3,rfl⟩:=aK;have aj:=(Box.new w 24 #[.bool f,.slice A0 ws.length c0]).alloc (.cells (xP s (.slice A1 n1 c1) (.slice A2 n2 c2) (.slice A3 n3 c3)) 33);have E:=Box.new (w.alloc (.cells #[.bool f,.slice A0 ws.length c0] 24)) 33 (xP s (.slice A1 n1 c1) (.slice A2 n2 c2) (.slice A3 n3 c3));rw[World.size_alloc]at E;have hX:=(ek w (.cells #[.bool f,.slice A0 ws.length c0] 24)).tr (ek (w.alloc (.cells #[.bool f,.slice A0 ws.length c0] 24)) (.cells (xP s (.slice A1 n1 c1) (.slice A2 n2 c2) (.slice A3 n3 c3)) 33));have HC:=hide (Bm f ws _ _ (VP.st _ _ _ _ az hX) zO zO O);have HX:=hide hX;have HB3:=hide E;have HV:=hide (And.intro H Y);have de:=hide hc;have HL:=hide (And.intro am (And.intro an au));have q0:=aj.at_ 0 rfl;have q1:=aj.at_ 1 rfl;clear aj E hX hP H Y ak b0 b1 am an au hc az;generalize ws.length=n0 at*;unfold xP at*;go_enter func18,ntmps18;go_wp2_with fail;refine HC.out.mono ?_;rintro _ w3 ⟨_,rfl,T,gm,rfl,aF,hM⟩;have mS:=hide (HX.out.tr T);have HM:=hide hM.1;have E:=HB3.out.ext T;have k9:=E.at_ 9 rfl;have mX:=hide E;have hK:=hide (MH 3 (λ_=>0) s.answers (.slice A2 n2 c2) (VP.st _ _ _ _ HV.out.2 mS.out) HL.out.2.2);clear HC HX HB3 T hM E q0 q1 aF;go_wp2_with fail;refine hK.out.mono ?_;rintro _ w4 ⟨gk,t4,rfl,aG,ad,J,al⟩;have U:∀k,k<w3.heap.size→t4 k=0:=al;have E:=mX.out.ext J;have ae:=E.lt;have ar:=E.at_ 7 rfl;have aq:=E.at_ 8 rfl;have ap:∀j v,(jb (xz s.cf))[j]?=some v→w4.cell? ⟨w.heap.size+1,0+j,none⟩=some v:=by
  intro j v hj;rw[Nat.zero_add];have hl:j<7:=by
   have:=(Array.getElem?_eq_some_iff.1 hj).1;exact this
  refine(E.cell j).trans ?_
  match j,hl with
  |0,_=>exact hj
  |1,_=>exact hj
  |2,_=>exact hj
  |3,_=>exact hj
  |4,_=>exact hj
  |5,_=>exact hj
  |6,_=>exact hj
 have aw:=hide (show∀k,(t4.only [3]) k=0∨(t4.only [3]) k=3 from λk=>by
  rcases ez.DH t4 [3] k with h|h
  ·exact .inl h
  ·exact .inr (List.mem_singleton.1 h))
 have av:=hide (show∀k,k<w3.heap.size→(t4.only [3]) k=0 from λk hk=>by
  rw[ez.uI (.inr (U k hk))];exact U k hk)
 have af:=hide (gB.keeps.only ad (l:=[3]) zD);generalize t4.only [3]=tk at*;clear al U ad hK k9;have ay:=hide (λ(W:c5) (hE:Ext w4 W)=>show Calls prog 40 #[.bool s.broken,.slice A1 n1 c1] W (eB W (b6 w3.heap.size gk s.broken s.reads s.answers))from by
  have ai:∀k,k<W.heap.size→tk k≠2:=λk hk e=>by rcases aw.out k with h|h<;>omega
  refine(MG (w:=W) 2 zD tk ai s.broken s.reads (.slice A1 n1 c1) (VP.st _ _ _ _ HV.out.1 ((mS.out.tr J).tr hE)) HL.out.1 HL.out.2.1).mono ?_;rintro e w' ⟨g,t',rfl,-,hs,hT⟩;have aJ:=hT.Tv ai;have aE:=gB.keeps.turn zD zD (gB.keeps.ext af.out hE) hT;have ao:∀k,k<W.heap.size→t' k=tk k:=λk hk=>(hT.block k hk (ai k hk)).2;refine eB.mk aJ ⟨g,t'.only [2,3],rfl,gD.keeps.only hs zD,gB.keeps.only aE zD,λk=>?_,λk hk=>?_⟩
  ·rcases ez.DH t' [2,3] k with h|h
   ·exact .inl h
   ·simp only[List.mem_cons,List.not_mem_nil,or_false]at h;exact .inr h
  ·have h1:=ao k (ba (ba hk J.size) hE.size);rw[av.out k hk]at h1;rw[ez.uI (.inr h1)];exact h1)
 have aA:=hide (λ(W:c5) (v:Value) (hE:Ext w4 W) (hv:b6 w3.heap.size gk s.broken s.reads s.answers v W)=>show Calls prog 39 #[eF gm,.agg (jb (xz s.cf)),v,eF gk] W (eB W (b7 s.cf (l6 f ws) s.answers s.broken s.reads w3 gk))from by
  obtain⟨g,t,rfl,h2,h3,h4,h5⟩:=hv;refine(DG de.out HM.out (J.tr hE) h5 h2 h3 (λk _=>by rcases h4 k with h|h|h<;>omega)).mono ?_;rintro e w' ⟨D,t',rfl,a1,a2,a3,a4,a5,a6,a7,a8,a9⟩;exact eB.mk a8 ⟨D,t',w',rfl,⟨a1,a2,a3,a4,a5,a6,a7⟩,⟨Nat.le_refl _,λq hq=>.inl rfl⟩⟩)
 have GJ:=hide (mS.out.tr J);have dp:=hide J;clear aw av af aG mX E HL HV;go_wp2_with fail;go_upto_region 3 with(fail)
 refine fK 13 [12] zK zK (λ_ _ _ _ _ h=>h) ?_;refine .rn 6 ?_;refine .re 3 ?_;refine ed.loadAt 26 _ rfl (ee rfl) (od 1 21 0 rfl) underlying26 rfl zK ae ap (eh _) ?_;refine .re 3 ?_;refine .rl 4 3 23 0 ar (eh _) ?_;refine .re 3 ?_;refine .rl 22 5 25 0 aq (eh _) ?_;refine ed.call2 40 _ _ _ rfl (enters_of func40 zK rfl) (ee rfl) (od 4 24 2 rfl) (od 6 26 0 rfl) (F:=b6 w3.heap.size gk s.broken s.reads s.answers) (λa b W hX ha hb=>by cases ha;cases hb;exact ay.out W ((eh _).tr hX)) ?_;refine .rn 8 ?_;refine ed.call4 39 _ _ _ _ _ rfl (enters_of func39 zK rfl) (ee rfl) (od 0 20 8 rfl) (od 2 22 6 rfl) (od 7 27 1 rfl) (od 8 28 0 rfl) (F:=b7 s.cf (l6 f ws) s.answers s.broken s.reads w3 gk) (λa b c d W hX ha hb hc hd=>by cases ha;cases hb;cases hd;exact aA.out W _ ((eh _).tr hX) hc) ?_;refine .rm 9 29 0 ?_;refine ed.dd (G:=dc s.cf (l6 f ws) s.answers s.broken s.reads w3 gk) _ 0 rfl (by rintro v w ⟨D,t,w9,rfl,h1,h2⟩;exact⟨_,_,rfl,rfl,D,t,w9,rfl,h1,h2⟩) (ee rfl) (od 10 19 0 rfl) ?_;refine ed.dd (G:=eC (iV 0)) _ 1 rfl (by rintro v w ⟨D,t,w9,rfl,h1,h2⟩;exact⟨_,_,rfl,rfl,rfl⟩) (ee rfl) (od 10 19 1 rfl) ?_;refine⟨rfl,λW3 T=>?_⟩;iterate 7 refine ew.eq ?_
 refine ew.any λaM ah=>?_;refine ew.eq ?_;refine ew.any λaL ag=>?_;refine ew.any λaD ab=>?_;refine ew.any λaC aa=>?_;refine ew.eq ?_;refine ew.nil ?_;simp only[Act.put,List.setIfInBounds_toArray,List.set_cons_zero,List.set_cons_succ];clear ah ag ab;have hE:=((eh _).tr T)
 obtain⟨D,t,w9,rfl,aB,hW⟩:=aa;have Xa:=hide (GJ.out.tr hE);have HN:=hide (aB.at_ hW (dp.out.tr hE));have Kv:=hide mS.out;clear aB hW hE T GJ dp HM ay aA de mS ar aq ap ae J;go_wp2;obtain⟨a1,a2,a3,a4,a5,a6,a7⟩:=HN.out;exact bodyPost_ret (results_tmp2 results18 _ _ _) rfl ⟨D,t,by rw[a6];rfl,⟨a1,a2,a3,a4,rfl,rfl,a7⟩,by rw[a5];exact Kv.out,Xa.out⟩
end
end Go.Proofs.YtofgfpffcegioaaGreat
namespace Go.Proofs.YtofgfpffcegioaaGreat
open fq Go.Proofs.Tryz
namespace fq
theorem js.db{R:Nat}{d:List Nat}{b:Buf}(h:js R d b):b.live.length+b.free.length=R:=by
 rw[h.live];exact h.len
end fq
open fq
theorem ch{r:Rg}{k:Nat}{x:Int}(h:x∈ig r k):(r.next:Int)≤x∧x<(r.next:Int)+k:=by
 unfold ig at h;obtain⟨n,d,rfl⟩:=List.mem_map.1 h;have E:=(List.mem_filter.1 d).1;obtain⟨j,s,rfl⟩:=List.mem_map.1 E;have:=List.mem_range.1 s;omega
theorem iE.pick{D:PS}{S:L8→List Nat}{text:L8}{n:Nat}{s:St}(h:iE D S text n s)(d:n+1≤1000000)(m:Int):iE D S text (n+1) (s.pick D.c D.M D.ans m):=by
 unfold St.pick;split
 ·exact⟨h.good,h.Q8,h.lim.mono (Nat.le_succ _),d,h.conf,h.Q9⟩
 ·rename_i k E;exact h.step d (tG.1 (Ed E)).2
end Go.Proofs.YtofgfpffcegioaaGreat
