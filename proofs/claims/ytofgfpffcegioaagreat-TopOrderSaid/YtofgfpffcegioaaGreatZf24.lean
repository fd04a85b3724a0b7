/- A part of the proof. -/
import Derived.Test.YtofgfpffcegioaaGreatZf11
import Derived.Test.YtofgfpffcegioaaGreatZf21
import Derived.Test.YtofgfpffcegioaaGreatZf23
set_option maxRecDepth 100000
set_option maxHeartbeats 8000000
namespace Go.Proofs.YtofgfpffcegioaaGreat
open Go.RowKit Go.Shelf Go.Sort iT jH Go.Proofs.Tryz
open Bool renaming true → cb
open Go renaming World → bV,Value → bW,maxLen → b7,bodyPost_ret → b9,info_parts → cf,execOp → cg
open Go.Operand renaming tmp → bR
open Go.Proofs.Tryz renaming underlying43 → bZ
open Go.RowKit renaming intOf → cd
open Go.Value renaming int → cj
open Go.World renaming size_alloc → bN,ownsRow_nil → bS
open List renaming getElem?_append_right → bJ,getElem_of_mem → bK,getElem?_append_left → bL,getElem?_eq_getElem → bM,pairwise_iff_getElem → bO,take_succ_eq_append_getElem → bQ,getElem?_eq_some_iff → bT,mem_singleton → bU,take_length → bX,getElem_mem → bY,mem_append_left → cc
open Nat renaming le_refl → bP,eq_zero_or_pos → b4,lt_trichotomy → b6,zero_add → ch
open Option renaming some → bm,none → b8,map_eq_some_iff → ca
open Option.some renaming injEq → bI,inj → ck
section
variable {w w':bV} {base g gn gw:Nat} {words words':List (List UInt8×Int)} {t:vH} {vu vd vw vb:bW}
theorem Making.N9(d:Making w base g gn gw words t vu vd vw vb)(H:fQ w' gw fY (cj .i64) words')(h:w.grownBy w' (bm gw)):Making w' base g gn gw words' t vu vd vw vb:=by
 have s:=λr (E:bm gw=bm r)=>(by cases E;exact d.words.nO:∃o:Obj,w.heap[r]?=bm o∧o.isCells=false)
 exact⟨(h.block g d.box.lt (λe=>d.words.lQ d.box (ck e.symm))).trans d.box,rW d.up h s,rW d.depth h s,rW d.word h s,rW d.byte h s,d.nodes.grown h (λe=>d.nw (ck e).symm),H,d.a1,d.a2,d.a3,d.bg,d.bn,d.nw⟩
end
theorem Oa{a b c d:bW}{s gw j:Nat}{v:bW}(h:(#[a,b,c,d]:AV)[j]?=bm v):(N4 a b c d s gw)[j]?=bm v:=by
 match j,h with
 |0,h=>exact h
 |1,h=>exact h
 |2,h=>exact h
 |3,h=>exact h
 |n+4,h=>simp at h
theorem jC(w:bV)(g:Nat)(cs:AV):w.grownBy (w.setRow g cs) (bm g):=⟨rfl,rfl,rfl,by simp_all,λk h d=>by unfold World.setRow;simp[Array.getElem?_modify,show g≠k from λe=>d (by rw[e])]⟩
theorem kS{w:bV}{base g:Nat}{e T:TypeId}{size n:Nat}{v:bW}{xs:List bW}{d:AV}(h:w.ownsRow base e size v n xs)(H:Box w g T d)(s:T≠e)(cs:AV):(w.setRow g cs).ownsRow base e size v n xs:=vI h (jC w g cs) (λk E=>by grind[eN])
theorem Making.Ob{w:bV}{base g T gw:Nat}{d:List (L8×Int)}{t:vH}{H I E J:bW}(s:Making w base g T gw d t H I E J){r:Nat}{O:AV}(h:Box w r 154 O)(cs:AV):nu t (.agg #[H,I,E,J]) (w.setRow r cs):=
 ⟨H,I,E,J,rfl,lP.ints (kS s.up h zD cs),lP.ints (kS s.depth h zD cs),lP.ints (kS s.word h zD cs),OwnB.bytes (kS s.byte h zD cs)⟩
theorem gI{P:Program}{I:Func}{t u:Tmp}{s:TypeId}(h:I.results=#[.cell t s,.tmp u])(tmps:AV)(w:bV)(g:Nat)(T:TypeId)(cs:AV)(d:TypeDesc)(W:tmps.getD t undef=gP g)(U:Box w g T cs)(J:P.underlying s=bm d)
  (O:(match d with|.struct _|.array _ _=>cb|_=>false)=cb)(hi:(P.info? s).map (·.size)=bm cs.size){x:bW}(V:tmps.getD u undef=x):(results I tmps).run P w=.ok (.tuple #[.agg cs,x]) w:=by
 have H:tmps[t]?.getD undef=gP g:=by simp_all
 have E:tmps[u]?.getD undef=x:=by simp_all
 simp[results,h,H,E,asAddr,run_loadVar_row w g T s cs (0,0) d U J O hi]
theorem vW(f:Bool)(ws:LL)(u:bW)(w:bV)(hS:jj f ws u w)(V:ws.flatten.length≤1000000)(hn:ws.length≤1000000)(hr:eS f ws=cb):Calls prog 74 #[u] w (eB w (eR [nu (fF ws),eC (iV 0)])):=by
 have aK:=hS;obtain⟨sl,rfl,hP⟩:=hS;have aL:=hP;obtain⟨A,c,rfl,a5,aI,hx⟩:=eD.form hP;unfold b7 at aI;clear hP;have aE:=λw:bV=>show(Instr.makeMap 246 b8).run prog w=.ok (.map (bm w.heap.size)) (w.alloc (.map #[] 0))from rfl;have hX:Ext w ((w.alloc (.cells #[.bool f,.slice A ws.length c] 24)).alloc (.cells #[nS,nS,nS,nS] 154)):=(ek _ _).tr (ek _ _);have J:=(Box.new w 24 #[.bool f,.slice A ws.length c]).alloc (.cells #[nS,nS,nS,nS] 154);have E:=Box.new (w.alloc (.cells #[.bool f,.slice A ws.length c] 24)) 154 #[nS,nS,nS,nS];rw[bN]at E;go_enter func74,ntmps74;go_upto_region 1 with(fail)
 generalize(w.alloc (.cells #[.bool f,.slice A ws.length c] 24)).alloc (.cells #[nS,nS,nS,nS] 154)=w1 at*;have aH:=J.at_ 0 rfl;have aa:=J.at_ 1 rfl;have ag:=oK f ws _ _ (VP.st _ _ _ _ aK hX) V hn;rw[hr]at ag;go_wp2_with fail;refine ag.mono ?_;rintro _ d ⟨u,rfl,ab,rfl⟩;have J:=J.ext ab;have E:=E.ext ab;have hE:=hX.tr ab;clear aH aa ag ab hX;go_upto_region 4 with(fail)
 have aj:Ext d (((d.alloc (.map #[] 0)).alloc (.map #[] 0)).alloc (.cells (N4 nS nS nS nS d.heap.size (d.heap.size+1)) 248)):=((ek _ _).tr (ek _ _)).tr (ek _ _);have ak:Making (((d.alloc (.map #[] 0)).alloc (.map #[] 0)).alloc (.cells (N4 nS nS nS nS d.heap.size (d.heap.size+1)) 248)) d.heap.size (d.heap.size+1+1) d.heap.size (d.heap.size+1) (kG (ws.take 0)) Gx nS nS nS nS:=by
  have hb:=Box.new ((d.alloc (.map #[] 0)).alloc (.map #[] 0)) 248 (N4 nS nS nS nS d.heap.size (d.heap.size+1));rw[bN,bN]at hb;have h1:=((fQ.made (kv:=fY) (ev:=cj .i64) d).ext (ek _ (.map #[] 0))).ext (ek ((d.alloc (.map #[] 0)).alloc (.map #[] 0)) (.cells (N4 nS nS nS nS d.heap.size (d.heap.size+1)) 248));have h2:=(fQ.made (kv:=fY) (ev:=cj .i64) (d.alloc (.map #[] 0))).ext (ek ((d.alloc (.map #[] 0)).alloc (.map #[] 0)) (.cells (N4 nS nS nS nS d.heap.size (d.heap.size+1)) 248));rw[bN]at h2;exact⟨hb,bS _ _ _ _,bS _ _ _ _,bS _ _ _ _,bS _ _ _ _,h1,h2,λk h=>(by cases h),λk h=>(by cases h),λk h=>(by cases h),by omega,bP _,by omega⟩
 change Code.wp _ _ _ _ (((d.alloc (.map #[] 0)).alloc (.map #[] 0)).alloc (.cells (N4 nS nS nS nS d.heap.size (d.heap.size+1)) 248));generalize((d.alloc (.map #[] 0)).alloc (.map #[] 0)).alloc (.cells (N4 nS nS nS nS d.heap.size (d.heap.size+1)) 248)=w3 at*;obtain⟨s,hs⟩:∃s,d.heap.size=s:=⟨_,rfl⟩
 rw[hs]at ak ⊢;have aa:=(J.ext aj).at_ 1 rfl;have T:=hide ak;have H:=hide aj;have Hs:=hide hs;have HB1:=hide J;have HB2:=hide E;have HE:=hide hE;clear ak aj hs J E hE aE;go_wp2_with fail;clear aa
 go_loopw [19] (λi wr=>∃k:Nat,k≤ws.length∧i=iV k∧Hid (Ext d wr)∧Hid (Making wr s (s+1+1) s (s+1) (kG (ws.take k)) Gx nS nS nS nS)) (λi _=>ws.length-(cd i).toNat)
 case atStart=>grind
 case round=>
  clear H T;obtain⟨k,hk,rfl,H,T⟩:=hrel;by_cases I:k<ws.length
  ·obtain⟨b,az,rfl,ar,W⟩:=hx zO;obtain⟨z,hz,an⟩:=W k I;have U:Ext w wr:=HE.out.tr H.out;have aV:=(U.cell (p:=⟨b,az+k,b8⟩) ar).trans hz;have af:=VP.st _ _ _ _ an U;have aT:=nE bZ underlying5 underlying9 af;obtain⟨A2,c2,rfl,aa,aG,-⟩:=eu.form af;unfold b7 at aG;have h5:=T.out.box.at_ 5 rfl;obtain⟨w4,aB,al,ah,aC,-⟩:=T.out.words.update (rh underlying9) underlying246 ws[k] (k:Int);rw[←tR ws k I]at al;have a7:=hide (T.out.N9 al ah);have a6:=hide (Below.grown H.out ah H.out.size (λq hq=>by cases hq;have:=Hs.out;omega));unfold fY at aB;generalize ws[k]=bs at*;clear W hx hz an af al ah aC T H U;go_wp2_with fail;grind[cd]
  ·obtain rfl:k=ws.length:=zO;rw[bX]at T;have aA:=(HB1.out.ext H.out).at_ 1 rfl;have U:Ext w wr:=HE.out.tr H.out;have ap:=Ag ws _ wr (VP.st _ _ _ _ aL U) V hn;have ar:=vK ws;have aq:∀x∈ey ws,x.length≤1000000:=λx hx=>Nat.le_trans (vM oI x hx) V;have WU:=hide aq;clear hx U aq;go_wp2_with fail;refine ap.mono ?_;rintro _ w5 ⟨v,rfl,am,hv⟩;have aR:Hid (∃vu vd vw vb,Making w5 s (s+1+1) s (s+1) (kG ws) (kr ws 0) vu vd vw vb):=⟨_,_,_,_,T.out.ext am⟩
   have aP:=hide (H.out.tr am);rcases hv.2 with⟨rfl,h0⟩|⟨g6,aN,ad,rfl,-,au,a4,aF,-,ai⟩
   ·omega
   unfold b7 at aF;rw[Nat.mul_one]at ai;have ae:∀k (h:k<(ey ws).length),ad[k]?=bm (fY ((ey ws)[k])):=λk h=>by
    have h3:(ad.toList.take (ey ws).length)[k]?=((ey ws).map fY)[k]?:=by rw[ai]
    grind
   have HS:Hid (fL w5 w5):=fL.ext (Ext.rf _);have Ui:=hide ae;have Oc:=hide au;clear aA H T am ap ai hv ae au;go_wp2_with fail
   go_loopw [34] (λi wr=>∃k:Nat,k≤(ey ws).length∧i=iV k∧Hid (Ext d wr)∧Hid (fL w5 wr)∧Hid (∃vu vd vw vb,Making wr s (s+1+1) s (s+1) (kG ws) (kr ws k) vu vd vw vb)) (λi _=>(ey ws).length-(cd i).toNat)
   case atStart=>grind
   case round=>
    clear aP HS aR;obtain⟨k,hk,rfl,H,HS,T⟩:=hrel;by_cases I:k<(ey ws).length
    ·have hq:wr.cell? ⟨g6,k,b8⟩=bm (fY ((ey ws)[k])):=(cell_of_row wr g6 k ad 9 (0,0) (HS.out g6 ad (0,0) Oc.out)).trans (Ui.out k I);obtain⟨vu,vd,vw,vb,O⟩:=T.out;obtain⟨l1,l2,l3,l4,l5⟩:=oH ws k hk;have ao:(ey ws)[k]∉(kr ws k).nodes:=by grind[Ew]
     have aD:(kr ws k).nodes.length=k:=zG;have Y:=add_any wr s (s+1+1) s (s+1) (kG ws) (kr ws k) (ey ws)[k] vu vd vw vb O ao zO (WU.out _ (bY I)) (by have:=H.out.size;have:=Hs.out;omega) ⟨by omega,by omega,by omega,by omega⟩;rw[←rr ws k I]at Y;have SG:=hide Y;have aU:k<aN:=zO;generalize(ey ws)[k]=nb at*;clear Y ao aD l1 l2 l3 l4 l5 O;go_upto_region 12 with(fail)
     go_wp2_with fail;refine SG.out.mono ?_;rintro _ w6 ⟨rfl,⟨ay,aw⟩,av⟩;have aO:Hid (Ext d w6):=hide (Below.trans H.out (by rw[Hs.out];exact ay));have aS:=hide (HS.out.tr aw);have aQ:=hide av;clear ay aw av SG H HS T hq;go_wp2_with fail;exact⟨⟨k+1,by omega,by go_num,aO,aS,aQ⟩,by grind[cd]⟩
    ·obtain rfl:k=(ey ws).length:=zO;obtain⟨vu,vd,vw,vb,O⟩:=T.out;have e:kr ws (ey ws).length=fF ws:=by simp[kr,fF,bX]
     rw[e]at O;have aM:=HE.out.tr H.out;have E:=HB2.out.ext H.out;have hl:=O.box;have aZ:=O.box.at_ 0 rfl;have aY:=O.box.at_ 1 rfl;have aX:=O.box.at_ 2 rfl;have aW:=O.box.at_ 3 rfl;obtain⟨a0,p0,q0⟩:=eI O.up;obtain⟨a1,p1,q1⟩:=eI O.depth;obtain⟨a2,p2,q2⟩:=eI O.word;obtain⟨a3,p3,q3⟩:=eI O.byte;subst q0 q1 q2 q3;have WV:=hide (O.Ob E #[.slice a0 (fF ws).up.length p0,.slice a1 (fF ws).depth.length p1,.slice a2 (fF ws).word.length p2,.slice a3 (fF ws).byte.length p3]);clear O T H HS I;generalize(fF ws).up.length=n0 at*;generalize(fF ws).depth.length=n1 at*;generalize(fF ws).word.length=n2 at*;generalize(fF ws).byte.length=n3 at*;go_wp2_with(first|(refine vD rfl 154 _ rfl (s+1+1) 0 rfl #[.slice a0 n0 p0,.slice a1 n1 p1,.slice a2 n2 p2,.slice a3 n3 p3] (λj v h=>by rw[ch,hl.cell j];exact Oa h) underlying154 rfl zK ?_)|(refine wpList_store_row rfl 154 _ _ rfl (w.heap.size+1) #[.slice a0 n0 p0,.slice a1 n1 p1,.slice a2 n2 p2,.slice a3 n3 p3] rfl rfl 154 _ E zK rfl (by simp[Value.oneCell']) ?_))
     have aJ:Box (wr.setRow (w.heap.size+1) #[.slice a0 n0 p0,.slice a1 n1 p1,.slice a2 n2 p2,.slice a3 n3 p3]) (w.heap.size+1) 154 #[.slice a0 n0 p0,.slice a1 n1 p1,.slice a2 n2 p2,.slice a3 n3 p3]:=E.gR;exact b9 (gI results74 _ _ (w.heap.size+1) 154 _ _ rfl aJ underlying154 rfl zK rfl) rfl (eB.mk (below_setRow aM zO _) (eR.two WV.out rfl))
section
structure EE(t:vH)(l:LL):Prop where
 n1:1≤l.length
 n2:l.length≤400
 up:t.up.length=l.length
 depth:t.depth.length=l.length
 word:t.word.length=l.length
 byte:t.byte.length=l.length
 short:∀x∈l,x.length≤500000
 zero:l[0]?=bm []
 edge:∀i,0<i→i<l.length→∃p c x,p<i∧t.up[i]?=bm (p:Int)∧t.byte[i]?=bm c∧l[p]?=bm x∧l[i]?=bm (x++[c])
def oL(w:bV)(base g n:Nat)(l:LL)(k:Nat):Prop:=∃d:AV,Box w g 43 d∧d.size=n∧∀j x,j<k→l[j]?=bm x→∃v,d[j]?=bm v∧OwnB w base 5 v x
theorem oL.ext{w d:bV}{base g n:Nat}{l:LL}{k:Nat}(h:oL w base g n l k)(s:Ext w d):oL d base g n l k:=by
 obtain⟨V,U,T,O⟩:=h;exact⟨V,U.ext s,T,λj x H E=>by obtain⟨v,J,I⟩:=O j x H E;exact⟨v,J,fy I s⟩⟩
theorem oL.put{w d:bV}{base g n:Nat}{l:LL}{k:Nat}{cs:AV}(H:Box w g 43 cs)(T:cs.size=n)(Y:∀j x,j<k→l[j]?=bm x→∃v,cs[j]?=bm v∧OwnB w base 5 v x){row:Option Nat}(O:w.grownBy d row){v:bW}{x:L8}(s:OwnB d base 5 v x)(I:l[k]?=bm x)(U:k<n)(hs:row≠bm g)(W:∀j u,j<k→cs[j]?=bm u→∀r,row=bm r→u.ownBlock≠bm r):oL (d.setCell ⟨g,k,b8⟩ v) base g n l (k+1):=by
 have E:Box d g 43 cs:=(O.block g H.lt (λe=>hs e.symm)).trans H;refine⟨cs.setIfInBounds k v,E.eL k v,by simp[T],λj y V h=>?_⟩;rcases Nat.lt_or_ge j k with J|hge
 ·grind[Array.getElem?_setIfInBounds_ne,OwnB,vI,ri,eN]
 ·obtain rfl:j=k:=zO;rw[I]at h;cases h;exact⟨v,by grind,ri s _ (eN s E zD) _⟩
theorem oL.parts{w:bV}{base g:Nat}{l:LL}(h:oL w base g l.length l l.length)(H:l.length≤b7):eD l (.slice (bm ⟨g,0,b8⟩) l.length l.length) w:=by
 obtain⟨V,E,U,O⟩:=h;refine⟨_,_,by grind,by grind,H,λT=>⟨g,0,rfl,E.lt,λj F s=>?_⟩⟩;rw[List.getElem?_map]at s;obtain⟨x,d,rfl⟩:=ca.1 s;obtain⟨v,J,I⟩:=O j x (bT.1 d).1 d;exact⟨v,by rw[ch,E.cell j];exact J,I.bytes⟩
theorem Tryz.Pw:(prog.info? 43).map (λi=>(i.zero,i.size,i.bytes))=bm (bm nS,1,24):=by rfl
attribute [local irreducible] ew ed in
theorem IK(t:vH)(l:LL)(v:bW)(w:bV)(hT:nu t v w)(I:EE t l):Calls prog 297 #[v] w (eB w (eR [eD l,eC (.bool cb)])):=by
 obtain⟨vu,vd,vw,vb,rfl,hu,hd,aA,hb⟩:=hT;obtain⟨j0,hj,aJ,aI,aH⟩:=cf Tryz.Lg;obtain⟨r0,hr,aZ,aY,bw⟩:=cf Tryz.Pw;have bv:=hu;have bj:=hb;obtain⟨A1,c1,rfl,bt,aX,aW⟩:=eQ.form hu;obtain⟨A2,c2,rfl,bC,bb,-⟩:=eQ.form hd;obtain⟨A3,c3,rfl,br,aS,-⟩:=eQ.form aA;obtain⟨A4,c4,rfl,bD,bi,-⟩:=eu.form hb;unfold b7 at aX bb aS bi;have hX:=ek w (.cells #[.slice A1 t.up.length c1,.slice A2 t.depth.length c2,.slice A3 t.word.length c3,.slice A4 t.byte.length c4] 154);have d:=Box.new w 154 #[.slice A1 t.up.length c1,.slice A2 t.depth.length c2,.slice A3 t.word.length c3,.slice A4 t.byte.length c4];rw[I.up,I.depth,I.word,I.byte]at d hX ⊢;have a5:=I.n1;have a4:=I.n2;have Sc:=hide I;clear hu hd aA hb I;obtain⟨n,hn⟩:∃n,l.length=n:=⟨_,rfl⟩
 have Hn:=hide hn;rw[hn]at d hX a5 a4 ⊢;clear hn;have h0:=d.at_ 0 rfl;have h1:=d.at_ 1 rfl;have h2:=d.at_ 2 rfl;have h3:=d.at_ 3 rfl;have bz:¬(n:Int)<1:=zO;have bx:¬(400:Int)<(n:Int):=zO;go_enter func297,ntmps297;go_upto_region 4 with(fail)
 obtain⟨w1,aG,aa,O⟩:=run_make_full (P:=prog) (w.alloc (.cells #[.slice A1 n c1,.slice A2 n c2,.slice A3 n c3,.slice A4 n c4] 154)) w.heap.size 22 43 r0 nS 1 underlying22 hr aZ aY .i64 .i64 n zG (by grind[b7]) zS;rw[bN]at aG aa;have aL:=hX.tr (gA O rfl);have d:=d.ext (gA O rfl);clear h0 h1 h2 h3 hX O;have aE:oL w1 w.heap.size (w.heap.size+1) n l 1:=by
  rcases aa.2 with⟨he,-⟩|⟨g,bE,aN,he,-,hg,h5,h6,h7,h8⟩
  ·cases he
  ·cases he;refine⟨aN,hg,by omega,λj x hj hx=>?_⟩;obtain rfl:j=0:=zO;have hz:=Sc.out.zero;rw[hz]at hx;cases hx;have h9:(aN.toList.take (n*1))[0]?=(madeCells nS.cells (n*1)).toList[0]?:=by rw[h8]
   rw[List.getElem?_take,if_pos zO]at h9;grind[OwnB.nil,madeCells,Value.cells]
 have HS:=hide aE;have HB:=hide d;have HE:=hide aL;clear aa aE d aL;go_wp2_with fail;clear aG
 go_loopw [6] (λi wr=>∃k:Nat,1≤k∧k≤n∧i=iV k∧Hid (Below w.heap.size w wr)∧Hid (Box wr w.heap.size 154 #[.slice A1 n c1,.slice A2 n c2,.slice A3 n c3,.slice A4 n c4])∧Hid (oL wr w.heap.size (w.heap.size+1) n l k)) (λi _=>n-(cd i).toNat)
 case atStart=>grind
 case round=>
  clear HE HB HS;obtain⟨i,bB,bA,rfl,HE,HB,HS⟩:=hrel;by_cases a7:i<n
  ·obtain⟨p,c,x,hp,aV,bf,aq,a8⟩:=Sc.out.edge i zO (by have:=Hn.out;omega);have a6:=Sc.out.up;have a3:=Hn.out;have aC:=aW zO;obtain⟨bu,ou,bk,bg,bc⟩:=aC;subst bk;have hE:=HE.out;have a9:i<t.up.length:=zO;have an:=((hE.cell (p:=⟨bu,ou+i,b8⟩) bg).trans (bc i a9))
   have aD:t.up[i]=(p:Int):=zG;rw[aD]at an;have aT:=HB.out.at_ 0 rfl;have a1:¬(p:Int)<0:=zO;have a2:¬(i:Int)≤(p:Int):=zO;clear a6 a3;go_upto_region 11 with(fail)
   obtain⟨cs,ar,bd,V⟩:=HS.out;obtain⟨vp,aU,aF⟩:=V p x hp aq;have bq:=Sc.out.short x (List.mem_of_getElem? aq);have ba:i<t.byte.length:=by have:=Hn.out;have:=Sc.out.byte;omega
   have bh:t.byte[i]=c:=by simp_all
   have ap:=VP.st _ _ _ _ bj hE;rw[Sc.out.byte,Hn.out]at ap;have be:=(ar.cell p).trans aU;have d:=HB.out;clear aT an aD aV bf aq;refine fK 13 [0,1] zR zK (λ_ _ _ _ _ h=>h) (.g ?_);refine ed.fD (i:=p) 22 43 _ _ rfl underlying22 zR zO (ee rfl) (od 2 59 1 rfl) (od 3 60 0 rfl) ?_;refine ed.jQ (F:=eu x) 43 _ rfl (ee rfl) (od 4 61 0 rfl) (λ_=>by rfl) (by simp_all) aF.bytes (eh _) ?_;refine ed.N0 43 5 _ j0 (.int .u8 0) rfl bZ hj aJ aI aH rfl (ee rfl) (od 5 62 0 rfl) zO (.g ?_);refine ed.jQ (F:=eu t.byte) 43 _ rfl (ee rfl) (od 7 64 0 rfl) (λ_=>by rfl) (d.at_ 3 rfl) ap (eh _) (.g ?_);refine ed.indexB 43 5 _ _ .i64 i rfl bZ zR (ee rfl) (od 8 65 1 rfl) (od 9 66 0 rfl) ba ?_;refine ed.jM 5 _ rfl (ee rfl) (od 10 67 0 rfl) (λ_=>by rfl) ?_;refine ed.lit (Fs:=[_]) [bR 68] 43 5 1 _ rfl rfl zD zD rfl bZ zR zR ⟨kQ rfl,trivial⟩ (ee rfl) ⟨(od 11 68 0 rfl),trivial⟩ (.g ?_);intro aw ao;refine .any λaR al=>?_;refine .any λW T=>?_;refine .e ?_;refine .any λaQ ak=>?_;refine .e ?_;refine .any λaP Y=>?_;refine .e ?_;refine .any λaO H=>?_;refine .e ?_;clear al ak Y;have E:Ext wr aw:=(eh _).tr ao;have ag:OwnB aw wr.heap.size 5 W x:=T;have U:∀j y,j<i→l[j]?=bm y→∃u,cs[j]?=bm u∧OwnB aw w.heap.size 5 u y:=λj y h1 h2=>by obtain⟨u,h3,h4⟩:=V j y h1 h2;exact⟨u,h3,fy h4 E⟩
   have s:=ar.ext E;have ab:=eN ag s zD;have ad:∀r,W.ownBlock=bm r→wr.heap.size≤r:=λr hr=>fk ag r hr;refine gC rfl _ _ 43 rfl wr.heap.size 5 j0 (.int .u8 0) bZ hj aJ aI aH rfl _ _ x [c] rfl ag rfl (by rw[←bh];exact H) zT E.size ?_;intro bo aj ai J au;obtain⟨ay,av,aB⟩:=OwnB.form ai;subst aB;have ah:OwnB aj w.heap.size 5 (.slice ay (x++[c]).length av) (x++[c]):=ai.low HE.out.size;have af:Box aj (w.heap.size+1) 43 cs:=(J.block _ s.lt (λe=>ab e.symm)).trans s;have aK:=oL.put s bd U J ah a8 a7 ab (λj u h1 h2 r hr hu=>by
    obtain⟨y,hy⟩:∃y,l[j]?=bm y:=⟨_,bM (by have:=Hn.out;omega)⟩
    obtain⟨u',h3,h4⟩:=V j y h1 hy;rw[h2]at h3;cases h3;have:=KX h4 r hu;have:=ad r hr;omega)
   have aM:Below w.heap.size w (aj.setCell ⟨w.heap.size+1,i,b8⟩ (.slice ay (x++[c]).length av)):=
    Below.setCell (Below.grown (HE.out.trans (E.mono HE.out.size)) J (by have:=HE.out.size;have:=E.size;omega) (λr hr=>by have:=ad r hr;have:=HE.out.size;omega)) (p:=⟨w.heap.size+1,i,b8⟩) zS _
   have ae:Box aj w.heap.size 154 #[.slice (bm ⟨bu,ou,b8⟩) n c1,.slice A2 n c2,.slice A3 n c3,.slice A4 n c4]:=by
    have h:=HB.out.ext E;exact(J.block _ h.lt (λe=>eN ag h zD e.symm)).trans h
   have bH:=hide (ae.far (p:=⟨w.heap.size+1,i,b8⟩) zS (.slice ay (x++[c]).length av));have bF:=hide aK;have bG:=hide aM;obtain⟨az,am⟩:∃az,cs[i]?=bm az:=⟨_,Array.getElem?_eq_getElem zO⟩
   have bn:=(af.cell i).trans am;have bl:=af.frozen i;generalize(x++[c]).length=bp at*;clear aK aM ae ai ah J au af U s ag V aF ap be d ar E ao hE T H am a1 a2 ab ad;go_wp2_with fail;grind[cd]
  ·obtain rfl:i=n:=zO;go_wp2_with fail;refine b9 (v:=.tuple #[.slice (bm ⟨w.heap.size+1,0,b8⟩) i i,.bool cb]) (by simp[results,results297]) rfl (eB.mk HE.out (eR.two ?_ rfl));have hS:=HS.out;have hn:=Hn.out;subst hn;exact hS.parts (by unfold b7;omega)
end
structure Ak(t:vH)(l ws:LL):Prop where
 word:∀i,i<l.length→t.word[i]?=bm (-1)∨(0<i∧∃k x,k<ws.length∧t.word[i]?=bm ((k:Nat):Int)∧l[i]?=bm x∧ws[k]?=bm x)
 inj:∀i j (k:Nat),i<l.length→j<l.length→t.word[i]?=bm (k:Int)→t.word[j]?=bm (k:Int)→i=j
 all:∀k,k<ws.length→∃i,i<l.length∧t.word[i]?=bm ((k:Nat):Int)
 le:ws.length≤l.length
def Gy(wd:List Int):Nat→Nat→Int
 |0,_=>0
 |i+1,k=>if wd[i]?=bm ((k:Nat):Int)then(i:Int)else Gy wd i k
def manyN(wd:List Int):Nat→Nat
 |0=>0
 |i+1=>if wd[i]?=bm (-1)then manyN wd i else manyN wd i+1
theorem Ck{wd:List Int}{k:Nat}:∀{i:Nat},Gy wd i k≠0→∃j,j<i∧wd[j]?=bm (k:Int)∧Gy wd i k=(j:Int)
 |0,h=>absurd rfl h
 |i+1,h=>by
  unfold Gy at*;by_cases e:wd[i]?=bm (k:Int)
  ·grind
  ·rw[if_neg e]at*;obtain⟨j,E,s,d⟩:=Ck h;exact⟨j,by omega,s,d⟩
theorem Ls{wd:List Int}{k j:Nat}(d:wd[j]?=bm (k:Int)):∀{i:Nat},j<i→(∀q,q<i→wd[q]?=bm (k:Int)→q=j)→Gy wd i k=(j:Int)
 |0,h,_=>by omega
 |i+1,h,hu=>by
  unfold Gy;by_cases e:wd[i]?=bm (k:Int)
  ·grind
  ·rw[if_neg e];have:j≠i:=by rintro rfl;exact e d
   exact Ls d zO (λq s=>hu q zO)
theorem Cl(wd:List Int):∀i,manyN wd i≤i
 |0=>bP _
 |i+1=>by unfold manyN;have:=Cl wd i;split<;>omega
section
variable {t:vH} {l ws:List (List UInt8)} (h:Ak t l ws)
include h
theorem Od{i k:Nat}(hi:i<l.length)(s:t.word[i]?=bm (k:Int)):Gy t.word i k=0:=by
 apply Classical.byContradiction;intro d;obtain⟨j,H,E,-⟩:=Ck d;have:=h.inj j i k zO hi E s;omega
theorem at_end{k:Nat}(T:k<ws.length):∃j x,0<j∧j<l.length∧Gy t.word l.length k=(j:Int)∧l[j]?=bm x∧ws[k]?=bm x:=by
 obtain⟨j,d,s⟩:=h.all k T;rcases h.word j d with H|⟨H,I,x,W,E,V,U⟩
 ·grind
 ·rw[s]at E;simp only[bI]at E;obtain rfl:k=I:=zO;exact⟨j,x,H,d,Ls s d (λq O J=>h.inj q j k O d J s),V,U⟩
theorem yO:∀i,i≤l.length→∃d:List Nat,d.Nodup∧d.length=manyN t.word i∧∀k,k∈d↔∃j,j<i∧t.word[j]?=bm ((k:Nat):Int)
 |0,_=>⟨[],List.nodup_nil,rfl,λk=>by simp⟩
 |i+1,hi=>by
  obtain⟨d,T,O,J⟩:=yO i zO;unfold manyN;rcases h.word i zO with s|⟨-,E,x,-,s,-⟩
  ·rw[if_pos s];refine⟨d,T,O,λk=>(J k).trans ⟨λ⟨j,a,b⟩=>⟨j,by omega,b⟩,λ⟨j,a,b⟩=>⟨j,?_,b⟩⟩⟩;have:j≠i:=by rintro rfl;rw[s]at b;simp only[bI]at b;omega
   omega
  ·have H:¬t.word[i]?=bm (-1):=by rw[s];simp only[bI];omega
   rw[if_neg H];have I:E∉d:=λU=>by
    obtain⟨j,a,b⟩:=(J E).1 U;have:=h.inj j i E zO zO b s;omega
   refine⟨E::d,List.nodup_cons.2 ⟨I,T⟩,by simp[O],λk=>?_⟩;rw[List.mem_cons,J];constructor
   ·rintro(rfl|⟨j,a,b⟩)
    ·exact⟨i,by omega,s⟩
    ·exact⟨j,by omega,b⟩
   ·rintro⟨j,a,b⟩;by_cases e:j=i
    ·subst e;rw[s]at b;simp only[bI]at b;exact .inl zO
    ·exact .inr ⟨j,by omega,b⟩
theorem Lt:manyN t.word l.length=ws.length:=by
 obtain⟨d,O,J,I⟩:=yO h l.length (bP _);rw[←J];have E:d.Perm (List.range ws.length):=by
  rw[List.perm_ext_iff_of_nodup O List.nodup_range];intro k;rw[I,List.mem_range];constructor
  ·rintro⟨j,a,b⟩;rcases h.word j a with s|⟨-,T,x,c,s,-⟩
   ·grind
   grind
  ·intro H;exact h.all k H
 rw[E.length_eq,List.length_range]
end
def IL(wd:List Int)(n i:Nat):AV:=arr n λk=>iV (Gy wd i k)
theorem Lu(wd:List Int)(n i:Nat):(IL wd n i).size=n:=iJ _ _
theorem Am{wd:List Int}{n i k:Nat}(h:k<n):(IL wd n i)[k]?=bm (iV (Gy wd i k)):=fw h
theorem Lv{wd:List Int}{n i:Nat}(h:wd[i]?=bm (-1)):IL wd n (i+1)=IL wd n i:=by
 simp_all[IL,Gy,bI]
theorem Oe{wd:List Int}{n i k:Nat}(h:wd[i]?=bm ((k:Nat):Int)):(IL wd n i).setIfInBounds k (iV i)=IL wd n (i+1):=by
 unfold IL;rw[nq];refine jI λj _=>?_;show(if j=k then iV i else iV (Gy wd i j))=iV (if wd[i]?=bm ((j:Nat):Int)then(i:Int)else Gy wd i j);grind
def Lw(w0 w:bV)(base:Nat)(v:bW)(h:LL):Prop:=∃d:List bW,d.length=h.length∧w.ownsRow base 43 1 v h.length d∧∀(j:Nat) (x:bW) (p:L8),d[j]?=bm x→h[j]?=bm p→eu p x w0
theorem Lw.parts{w0 w:bV}{base:Nat}{v:bW}{I:LL}(h:Lw w0 w base v I)(hE:Ext w0 w):eD I v w:=by
 obtain⟨xs,O,Y,h2⟩:=h;have W:=NZ (xs:=xs) (by rw[O];exact Y);obtain⟨A,c,hv,U,H,E⟩:=W;refine⟨A,c,by grind,by grind,H,λhp=>?_⟩;obtain⟨b,d,e1,e2,e3⟩:=E zG;refine⟨b,d,e1,e2,λj F J=>?_⟩;rw[List.getElem?_map]at J;obtain⟨p,s,rfl⟩:=ca.1 J;have T:=(bT.1 s).1;have hx:xs[j]?=bm (xs[j]'zO):=bM zO;obtain⟨y,h5,V⟩:=e3 j (eC xs[j]) zG;obtain rfl:y=xs[j]:=V;grind[VP.st]
theorem EF(t:vH)(l ws:LL)(v v2:bW)(w:bV)(hT:nu t v w)(hL:eD l v2 w)(aa:EE t l)(hW:Ak t l ws):Calls prog 298 #[v,v2] w (eB w (eR [eD ws,eC (.bool cb)])):=by
 obtain⟨vu,vd,vw,vb,rfl,hu,hd,al,hb⟩:=hT;obtain⟨i0,hi,aQ,aP,bg⟩:=cf Tryz.oG;obtain⟨r0,hr,aG,aF,aE⟩:=cf Tryz.Pw;have bi:=hL;obtain⟨A5,c5,rfl,aN,aM,ar⟩:=eD.form hL;obtain⟨A1,c1,rfl,-⟩:=eQ.form hu;obtain⟨A2,c2,rfl,-⟩:=eQ.form hd;obtain⟨A3,c3,rfl,aD,aC,Y⟩:=eQ.form al;obtain⟨A4,c4,rfl,-⟩:=eu.form hb;unfold b7 at aC aM;have hX:=ek w (.cells #[.slice A1 t.up.length c1,.slice A2 t.depth.length c2,.slice A3 t.word.length c3,.slice A4 t.byte.length c4] 154);have U:=Box.new w 154 #[.slice A1 t.up.length c1,.slice A2 t.depth.length c2,.slice A3 t.word.length c3,.slice A4 t.byte.length c4];have ak:=aa.word;obtain⟨n,hn⟩:∃n,l.length=n:=⟨_,rfl⟩
 have aJ:=aa.n2;have aK:=aa.n1;have aL:=hW.le;have ai:=Lt hW;have H:=λi k hi hw=>Od hW (i:=i) (k:=k) hi hw;have T:=λk hk=>at_end hW (k:=k) hk;have s:=hW.word;have am:=Cl t.word;have Y:0<n→∃b I,A3=bm ⟨b,I,b8⟩∧b<w.heap.size∧∀(j:Nat) (z:Int),t.word[j]?=bm z→w.cell? ⟨b,I+j,b8⟩=bm (iV z):=λh0=>by
  grind
 have ar:0<n→∃b I,A5=bm ⟨b,I,b8⟩∧b<w.heap.size∧∀(j:Nat) (x:L8),l[j]?=bm x→∃y,w.cell? ⟨b,I+j,b8⟩=bm y∧eu x y w:=λh0=>by
  grind
 rw[ak,hn]at U hX aD ⊢;clear hu hd al hb aa hW hL ak;rw[hn]at aK aJ aL ai H T s aN;have Hn:=hide hn;clear hn;go_enter func298,ntmps298;go_upto_region 1 with(fail)
 obtain⟨w1,an,O,E⟩:=run_make_full (P:=prog) (w.alloc (.cells #[.slice A1 t.up.length c1,.slice A2 t.depth.length c2,.slice A3 n c3,.slice A4 t.byte.length c4] 154)) w.heap.size 28 3 i0 (iV 0) 1 underlying28 hi aQ aP .i64 .i64 n zG (by grind[b7]) zS;rw[bN]at an O;have az:=hX.tr (gA E rfl);have U:=U.ext (gA E rfl);have aw:Box w1 (w.heap.size+1) 3 (IL t.word n 0):=by
  rcases O.2 with⟨he,-⟩|⟨g,bj,aA,he,-,hg,h5,h6,h7,h8⟩
  ·cases he
  ·cases he;have:aA=IL t.word n 0:=by
    apply Array.ext_getElem?;intro j;by_cases hj:j<n
    ·rw[Am hj];have h9:(aA.toList.take (n*1))[j]?=(madeCells (iV 0).cells (n*1)).toList[j]?:=by rw[h8]
     rw[List.getElem?_take,if_pos zO]at h9;simp_all[madeCells,Value.cells,Gy,Nat.mod_one]
    grind[Array.getElem?_eq_none,Lu]
   rw[←this];exact hg
 have HB:=hide U;have HE:=hide az;have HA:=hide aw;clear hX E O U az aw;have aR:=HB.out.at_ 2 rfl;have WW:=hide ai;have SH:=hide H;have Of:=hide T;have Lx:=hide s;have WX:=hide am;clear ai H T s am;go_wp2_with fail;clear an aR
 go_loopw [7,19] (λm i wr=>∃k:Nat,k≤n∧i=iV k∧m=iV (manyN t.word k:Int)∧Hid (Below w.heap.size w wr)∧Hid (Box wr (w.heap.size+1) 3 (IL t.word n k))) (λ_ i _=>n-(cd i).toNat)
 case atStart=>exact⟨0,by omega,rfl,rfl,HE,HA⟩
 case round=>
  clear HA;obtain⟨i,be,rfl,rfl,HX,HA⟩:=hrel;have a7:=WX.out i;by_cases ao:i<n
  ·obtain⟨b3,o3,rfl,av,au⟩:=Y zO;rcases Lx.out i ao with hw|⟨a3,k,x,hk,hw,-,-⟩
   ·have hq:=(HX.out.cell (p:=⟨b3,o3+i,b8⟩) av).trans (au i _ hw);have aj:Hid (Box wr (w.heap.size+1) 3 (IL t.word n (i+1))):=by grind[Lv]
    have Uj:Hid (manyN t.word (i+1)=manyN t.word i):=hide (by simp_all[manyN]);clear hw Y HA;go_wp2_with fail;exact⟨⟨i+1,by omega,by go_num,by rw[Uj.out],HX,aj⟩,by simp[cd];omega⟩
   ·have hq:=(HX.out.cell (p:=⟨b3,o3+i,b8⟩) av).trans (au i _ hw);have hz:=(HA.out.cell k).trans (Am zO);rw[SH.out i k ao hw]at hz;have bh:=HA.out.frozen k;have aj:Hid (Box (wr.setCell ⟨w.heap.size+1,k,b8⟩ (iV i)) (w.heap.size+1) 3 (IL t.word n (i+1))):=by
     have h:=HA.out.eL k (iV i);rw[Oe hw]at h;exact h
    have aY:Hid (Below w.heap.size w (wr.setCell ⟨w.heap.size+1,k,b8⟩ (iV i))):=hide (Below.setCell HX.out (p:=⟨w.heap.size+1,k,b8⟩) zS _);have Uj:Hid (manyN t.word (i+1)=manyN t.word i+1):=hide (by simp_all[manyN,bI]);have ba:((k:Nat):Int)≠-1:=zO;have a2:(((k:Nat):Int)== -1)=false:=by rfl
    have a9:¬((k:Nat):Int)<0:=zO;have a8:¬(n:Int)≤((k:Nat):Int):=zO;have bf:((i:Int)==0)=false:=zG;have aO:k<n:=zO;clear hw Y HA HX;go_wp2_with fail;exact⟨⟨i+1,by omega,by go_num,by rw[Uj.out];go_num,aY,aj⟩,by grind[cd]⟩
  ·obtain rfl:i=n:=zO;rw[WW.out];obtain⟨W2,aV⟩:∃W,W=wr:=⟨_,rfl⟩
   subst aV;have HO:Hid (Lw w W2 W2.heap.size nS (ws.take 0)):=hide ⟨[],by simp,by grind[bS],λj x p h=>by simp at h⟩;go_wp2_with fail
   go_loopw [10,56] (λm i wr=>∃k:Nat,k≤ws.length∧i=iV k∧Hid (Ext W2 wr)∧Hid (Lw w wr W2.heap.size m (ws.take k))) (λ_ i _=>ws.length-(cd i).toNat)
   case atStart=>exact⟨0,by omega,rfl,Ext.rf _,HO⟩
   case round=>
    clear HO;obtain⟨k,hk,rfl,HY,HO⟩:=hrel;by_cases af:k<ws.length
    ·obtain⟨j,x,bd,bb,ay,aq,aB⟩:=Of.out k af;have hz:=((HA.out.ext HY.out).cell k).trans (Am zO);rw[ay]at hz;obtain⟨b5,o5,rfl,aT,aS⟩:=ar zO;obtain⟨y,hy,ag⟩:=aS j x aq;have aW:Ext w wr:=Ext.tr HX.out HY.out;have a5:=(aW.cell (p:=⟨b5,o5+j,b8⟩) aT).trans hy;have ad:=ag;obtain⟨A6,c6,rfl,-⟩:=eu.form ag;have bc:((j:Int)==0)=false:=by rw[beq_eq_false_iff_ne];omega
     have aO:k<i:=zO;have a1:=HO.out;obtain⟨xs,J,d,V⟩:=a1;obtain⟨B7,c7,ah⟩:=eI d;subst ah;have aU:Ext wr (wr.alloc (.cells #[.slice A6 x.length c6] 43)):=ek _ _;have ap:(ws.take k).length=k:=by simp_all
     have ae:ws.take (k+1)=ws.take k++[x]:=by
      rw[bQ af];simp_all
     have Hw2:=hide ae;rw[ap]at d J ⊢;have a6:=HY.out.size;have Hxo:=hide d;have WY:=hide V;have WZ:=hide ad;have SI:=hide J;generalize x.length=xn at*;clear d V ad J hy aq aB ae ay ap HO ag;go_wp2_with(at_builtin;refine eJ rfl _ _ 22 rfl W2.heap.size 43 r0 nS 1 24 underlying22 hr aG aF aE rfl zO _ _ k 1 xs [.slice A6 xn c6] rfl (fy Hxo.out aU) rfl rfl (Src.new _ _ _ _) (λy hy=>by rw[bU]at hy;subst hy;rfl) zO zT ?_;intro v8 w8 aI ab a4;have aX:=hide (jB HY.out ab (λq hq=>fk Hxo.out q hq));have aZ:Hid (Lw w w8 W2.heap.size v8 (ws.take (k+1))):=hide (by
      rw[Hw2.out];refine⟨xs++[.slice A6 xn c6],by simp[SI.out,Nat.min_eq_left hk],?_,λq y p h1 h2=>?_⟩
      ·simp_all
      ·rcases Nat.lt_or_ge q k with hq|hq
       ·rw[bL (by have:=SI.out;omega)]at h1;rw[bL (by simp_all)]at h2;exact WY.out q y p h1 h2
       ·have aH:q=k:=by
         have:=(bT.1 h1).1;rw[List.length_append,List.length_singleton]at this;have:=SI.out;omega
        subst aH;rw[bJ (by have:=SI.out;omega)]at h1;rw[bJ (by simp_all)]at h2;rw[show q-xs.length=0 by have:=SI.out;omega]at h1;rw[show q-(ws.take q).length=0 by simp_all]at h2;cases h1;cases h2;exact WZ.out))
     exact⟨⟨k+1,by omega,by go_num,aX,aZ⟩,by simp[cd];omega⟩
    ·obtain rfl:k=ws.length:=zO;obtain⟨xs,J,d,V⟩:=HO.out;obtain⟨B7,c7,ah⟩:=eI d;have hV:=HO.out.parts (Ext.tr HX.out HY.out);rw[bX]at hV;have HV:=hide hV;have Xa:=hide (Ext.tr HX.out HY.out);subst ah;clear d V J HO hV;go_wp2_with fail;exact b9 (v:=.tuple #[_,.bool cb]) (by simp[results,results298]) rfl (eB.mk Xa.out (eR.two HV.out rfl))
theorem vX(xs:List Int)(u v:bW)(w:bV)(O:eQ xs u w)(J:eQ xs v w):Calls prog 314 #[u,v] w (eB w (eC (.bool cb))):=by
 obtain⟨A,c,rfl,h1,Y,W⟩:=eQ.form O;obtain⟨B,d,rfl,k1,I,H⟩:=eQ.form J;unfold b7 at Y I;rcases b4 xs.length with h0|h0
 ·rw[h0];refine(Tryz.slices_Equal_int_empty A B c 0 d w zO).mono ?_;rintro _ h ⟨rfl,rfl⟩;exact eB.mk (Ext.rf _) rfl
 ·obtain⟨b1,E,rfl,-,V⟩:=W h0;obtain⟨b2,s,rfl,-,U⟩:=H h0;refine(Tryz.slices_Equal_int b1 E xs.length c b2 s xs.length d xs xs w (bP _) (bP _) zO zO (λj T=>by grind) (λj T=>by grind)).mono ?_;rintro _ h ⟨rfl,q,rfl⟩;exact eB.mk (yC w q) (by show _=_;simp)
theorem EG(l:List Int):Lib.allEq (λx y=>x==y) l l=true:=by
 induction l with
 |nil=>rfl
 |cons x l d=>simp[Lib.allEq,d]
theorem Ly(bs:L8)(u v:bW)(w:bV)(T:eu bs u w)(O:eu bs v w)(s:0<bs.length):Calls prog 315 #[u,v] w (eB w (eC (.bool cb))):=by
 obtain⟨A,c,rfl,h1,h2,Y⟩:=eu.form T;obtain⟨B,d,rfl,k1,J,I⟩:=eu.form O;unfold b7 at h2 J;obtain⟨b1,H,rfl,-,W⟩:=Y s;obtain⟨b2,E,rfl,-,V⟩:=I s;have hm:(bs.map λb=>(b.toNat:Int)).length=bs.length:=List.length_map _;have hg:∀j (h:j<bs.length),(bs.map λb=>(b.toNat:Int))[j]! =(bs[j].toNat:Int):=λj h=>by simp[h]
 refine(Tryz.rU (cj .u8) (λx y=>x==y) (NeqAt.int _ _ _) b1 H bs.length c b2 E bs.length d (bs.map λb=>(b.toNat:Int)) (bs.map λb=>(b.toNat:Int)) w zO zO zO zO (λj U=>by grind) (λj U=>by grind)).mono ?_;rintro _ w' ⟨rfl,q,rfl⟩;exact eB.mk (yC w q) (by rw[EG];rfl)
theorem IM(t:vH)(u v:bW)(w:bV)(hu:nu t u w)(hv:nu t v w)(hp:0<t.byte.length):Calls prog 299 #[u,v] w (eB w (eC (.bool cb))):=by
 obtain⟨u0,u1,u2,u3,rfl,p0,p1,p2,p3⟩:=hu;obtain⟨v0,v1,v2,v3,rfl,Y,V,U,T⟩:=hv;have E:Ext w ((w.alloc (.cells #[u0,u1,u2,u3] 154)).alloc (.cells #[v0,v1,v2,v3] 154)):=(ek _ _).tr (ek _ _);have s:=(Box.new w 154 #[u0,u1,u2,u3]).alloc (.cells #[v0,v1,v2,v3] 154);have h:=Box.new (w.alloc (.cells #[u0,u1,u2,u3] 154)) 154 #[v0,v1,v2,v3];rw[bN]at h;have p0:=VP.st _ _ _ _ p0 E;have p1:=VP.st _ _ _ _ p1 E;have p2:=VP.st _ _ _ _ p2 E;have p3:=VP.st _ _ _ _ p3 E;have Y:=VP.st _ _ _ _ Y E;have V:=VP.st _ _ _ _ V E;have U:=VP.st _ _ _ _ U E;have T:=VP.st _ _ _ _ T E;obtain⟨a0,b0,c0,rfl⟩:=jY.slice p0;obtain⟨a1,b1,c1,rfl⟩:=jY.slice p1;obtain⟨a2,b2,c2,rfl⟩:=jY.slice p2;obtain⟨a3,b3,c3,rfl⟩:=jY.slice p3;obtain⟨d0,e0,f0,rfl⟩:=jY.slice Y;obtain⟨d1,e1,f1,rfl⟩:=jY.slice V;obtain⟨d2,e2,f2,rfl⟩:=jY.slice U;obtain⟨d3,e3,f3,rfl⟩:=jY.slice T;go_enter func299,ntmps299;go_upto_region 1 with(fail)
 generalize(w.alloc (.cells #[.slice a0 b0 c0,.slice a1 b1 c1,.slice a2 b2 c2,.slice a3 b3 c3] 154)).alloc (.cells #[.slice d0 e0 f0,.slice d1 e1 f1,.slice d2 e2 f2,.slice d3 e3 f3] 154)=w1 at*;have H:=E;refine BP (r:=.bool cb) (by assumption) 26 4 30 _ zK rfl rfl rfl rfl rfl zR rfl 25 rfl rfl ?_;refine ed.gF (bR 2) wA oA (λI w H d=>by simp[cg,d,go_sem];rfl) ?_;refine ed.jQ (F:=eQ t.up) 28 _ rfl wA oA (λ_=>by rfl) (s.at_ 0 rfl) p0 (Ext.rf _) ?_;refine ed.gF (bR 3) wA oA (λI w H d=>by simp[cg,d,go_sem];rfl) ?_;refine ed.jQ (F:=eQ t.up) 28 _ rfl wA oA (λ_=>by rfl) (h.at_ 0 rfl) Y (Ext.rf _) ?_;refine ed.call2 314 _ _ _ rfl (enters_of func314 zR rfl) wA oA oA (λa b W _ O J=>vX _ a b W O J) ?_;refine .rm 4 9 0 ?_;refine ed.gF (bR 2) wA oA (λI w H d=>by simp[cg,d,go_sem];rfl) ?_;refine ed.jQ (F:=eQ t.depth) 28 _ rfl wA oA (λ_=>by rfl) (s.at_ 1 rfl) p1 (Ext.rf _) ?_;refine ed.gF (bR 3) wA oA (λI w H d=>by simp[cg,d,go_sem];rfl) ?_;refine ed.jQ (F:=eQ t.depth) 28 _ rfl wA oA (λ_=>by rfl) (h.at_ 1 rfl) V (Ext.rf _) ?_;refine ed.call2 314 _ _ _ rfl (enters_of func314 zR rfl) wA oA oA (λa b W _ O J=>vX _ a b W O J) ?_;refine ed.nj _ _ _ rfl wA oA oA ?_;refine .rm 11 16 0 ?_;refine ed.gF (bR 2) wA oA (λI w H d=>by simp[cg,d,go_sem];rfl) ?_;refine ed.jQ (F:=eQ t.word) 28 _ rfl wA oA (λ_=>by rfl) (s.at_ 2 rfl) p2 (Ext.rf _) ?_;refine ed.gF (bR 3) wA oA (λI w H d=>by simp[cg,d,go_sem];rfl) ?_;refine ed.jQ (F:=eQ t.word) 28 _ rfl wA oA (λ_=>by rfl) (h.at_ 2 rfl) U (Ext.rf _) ?_;refine ed.call2 314 _ _ _ rfl (enters_of func314 zR rfl) wA oA oA (λa b W _ O J=>vX _ a b W O J) ?_;refine ed.nj _ _ _ rfl wA oA oA ?_;refine .rm 18 23 0 ?_;refine ed.gF (bR 2) wA oA (λI w H d=>by simp[cg,d,go_sem];rfl) ?_;refine ed.jQ (F:=eu t.byte) 43 _ rfl wA oA (λ_=>by rfl) (s.at_ 3 rfl) p3 (Ext.rf _) ?_;refine ed.gF (bR 3) wA oA (λI w H d=>by simp[cg,d,go_sem];rfl) ?_;refine ed.jQ (F:=eu t.byte) 43 _ rfl wA oA (λ_=>by rfl) (h.at_ 3 rfl) T (Ext.rf _) ?_;refine ed.call2 315 _ _ _ rfl (enters_of func315 zR rfl) wA oA oA (λa b W _ O J=>Ly _ a b W O J hp) ?_;refine ed.nj _ _ _ rfl wA oA oA ?_;refine⟨rfl,rfl,rfl,λW1 aa=>?_⟩;exact eB.mk (H.tr aa) rfl
structure j1(t:vH)(l ws:LL):Prop where
 ok:EE t l
 wd:Ak t l ws
 right:eS false ws=cb
 made:fF ws=t
 len:ws.flatten.length≤1000000
 many:ws.length≤1000000
theorem Lz(t:vH)(l ws:LL)(v:bW)(w:bV)(hT:nu t v w)(hm:j1 t l ws):Calls prog 272 #[v] w (eB w (eR [Sn,eC (.bool cb)])):=by
 have af:=hT;obtain⟨u0,u1,u2,u3,rfl,p0,p1,p2,p3⟩:=hT;obtain⟨a0,b0,c0,rfl⟩:=jY.slice p0;obtain⟨a1,b1,c1,rfl⟩:=jY.slice p1;obtain⟨a2,b2,c2,rfl⟩:=jY.slice p2;obtain⟨a3,b3,c3,rfl⟩:=jY.slice p3;clear p0 p1 p2 p3;have hX:=ek w (.cells #[.slice a0 b0 c0,.slice a1 b1 c1,.slice a2 b2 c2,.slice a3 b3 c3] 154);have d:=Box.new w 154 #[.slice a0 b0 c0,.slice a1 b1 c1,.slice a2 b2 c2,.slice a3 b3 c3];have T:=hide hm;clear hm;go_enter func272,ntmps272;go_upto_region 1 with(fail)
 generalize w.alloc (.cells #[.slice a0 b0 c0,.slice a1 b1 c1,.slice a2 b2 c2,.slice a3 b3 c3] 154)=w1 at*;have H:=d.at_ 0 rfl;have E:=d.at_ 1 rfl;have s:=d.at_ 2 rfl;have h:=d.at_ 3 rfl;go_wp2_with fail;refine(IK t l _ w1 (VP.st _ _ _ _ af hX) T.out.ok).mono ?_;rintro _ w2 ⟨u,rfl,aj,V⟩;obtain⟨sp,_,rfl,ae,rfl⟩:=eR.inv2 V;have aa:=ae;obtain⟨A5,c5,rfl,-⟩:=eD.form ae;have J:=hX.tr aj;have d:=d.ext aj;clear H E s h hX aj V ae;have H:=d.at_ 0 rfl;have E:=d.at_ 1 rfl;have s:=d.at_ 2 rfl;have h:=d.at_ 3 rfl;go_wp2_with fail;refine(EF t l ws _ _ w2 (VP.st _ _ _ _ af J) aa T.out.ok T.out.wd).mono ?_;rintro _ w3 ⟨u,rfl,ai,V⟩;obtain⟨wd,_,rfl,ab,rfl⟩:=eR.inv2 V;have U:=ab;obtain⟨A6,c6,rfl,-⟩:=eD.form ab;have J:=J.tr ai;have d:=d.ext ai;clear H E s h ai V ab aa;go_wp2_with fail;refine(vW false ws _ w3 ⟨_,rfl,U⟩ T.out.len T.out.many T.out.right).mono ?_;rintro _ w4 ⟨u,rfl,ah,V⟩;obtain⟨tr,_,rfl,ad,rfl⟩:=eR.inv2 V;rw[T.out.made]at ad;have Y:=ad;obtain⟨x0,x1,x2,x3,rfl,y0,y1,y2,y3⟩:=ad;obtain⟨d0,e0,f0,rfl⟩:=jY.slice y0;obtain⟨d1,e1,f1,rfl⟩:=jY.slice y1;obtain⟨d2,e2,f2,rfl⟩:=jY.slice y2;obtain⟨d3,e3,f3,rfl⟩:=jY.slice y3;have J:=J.tr ah;have d:=d.ext ah;clear ah V U y0 y1 y2 y3;have O:Ext w4 (w4.alloc (.cells #[.slice d0 e0 f0,.slice d1 e1 f1,.slice d2 e2 f2,.slice d3 e3 f3] 154)):=ek _ _;have I:=Box.new w4 154 #[.slice d0 e0 f0,.slice d1 e1 f1,.slice d2 e2 f2,.slice d3 e3 f3];go_upto_region 8 with(fail)
 have J:=J.tr O;have d:=d.ext O;have W:=VP.st _ _ _ _ Y O;generalize w4.alloc (.cells #[.slice d0 e0 f0,.slice d1 e1 f1,.slice d2 e2 f2,.slice d3 e3 f3] 154)=w5 at*;have H:=d.at_ 0 rfl;have E:=d.at_ 1 rfl;have s:=d.at_ 2 rfl;have h:=d.at_ 3 rfl;have ao:=I.at_ 0 rfl;have an:=I.at_ 1 rfl;have am:=I.at_ 2 rfl;have al:=I.at_ 3 rfl;have ak:=IM t _ _ w5 W (VP.st _ _ _ _ af J) (by rw[T.out.ok.byte];exact T.out.ok.n1);clear O Y W;go_wp2_with fail;refine ak.mono ?_;rintro _ w6 ⟨u,rfl,ag,rfl⟩;have J:=J.tr ag;have d:=d.ext ag;clear H E s h ao an am al I ag ak;have H:=d.at_ 0 rfl;have E:=d.at_ 1 rfl;have s:=d.at_ 2 rfl;have h:=d.at_ 3 rfl;go_wp2_with fail;all_goals exact b9 (v:=.tuple #[gP w6.heap.size,.bool cb]) (by simp[results,results272]) rfl (eB.mk (J.tr (ek _ _)) (eR.two trivial rfl))
theorem EH(t:vH)(l ws:LL)(v:bW)(w:bV)(hT:nu t v w)(hm:j1 t l ws):Calls prog 229 #[v] w (eB w (eC (.bool cb))):=by
 have J:=hT;obtain⟨u0,u1,u2,u3,rfl,p0,p1,p2,p3⟩:=hT;obtain⟨a0,b0,W,rfl⟩:=jY.slice p0;obtain⟨a1,b1,V,rfl⟩:=jY.slice p1;obtain⟨a2,b2,U,rfl⟩:=jY.slice p2;obtain⟨a3,Y,T,rfl⟩:=jY.slice p3;clear p0 p1 p2 p3;have hX:=ek w (.cells #[.slice a0 b0 W,.slice a1 b1 V,.slice a2 b2 U,.slice a3 Y T] 154);have d:=Box.new w 154 #[.slice a0 b0 W,.slice a1 b1 V,.slice a2 b2 U,.slice a3 Y T];have h:=Lz t l ws _ _ (VP.st _ _ _ _ J hX) hm;go_enter func229,ntmps229;go_upto_region 1 with(fail)
 generalize w.alloc (.cells #[.slice a0 b0 W,.slice a1 b1 V,.slice a2 b2 U,.slice a3 Y T] 154)=w1 at*;have I:=d.at_ 0 rfl;have H:=d.at_ 1 rfl;have E:=d.at_ 2 rfl;have s:=d.at_ 3 rfl;go_wp2_with fail;refine h.mono ?_;rintro _ w2 ⟨u,rfl,O,hu⟩;obtain⟨sp,_,rfl,-,rfl⟩:=eR.inv2 hu;clear h hu I H E s;go_wp2_with fail;go_ret;exact eB.mk (hX.tr O) rfl
theorem pI:∀(w u:L8) (i:Nat),i≤w.length→(w.take i<+:u↔i≤fN w u)
 |w,u,0,_=>by simp
 |[],u,i+1,h=>by simp at h
 |x::w,[],i+1,_=>by simp[fN]
 |x::w,y::u,i+1,h=>by
  have d:=pI w u i zG;rw[List.take_succ_cons,List.cons_prefix_cons];unfold fN;grind
theorem sn(l:LL)(w x:L8):∀j,x∈lX l w j↔x∈l∨∃k,k<j∧x=w.take (k+1)
 |0=>by rw[te];simp
 |j+1=>by
  rw[mh];have s:=sn l w x j;have I:=sn l w (w.take (j+1)) j;unfold uq;split
  ·rename_i H;constructor
   ·intro h;rcases s.1 h with h|⟨k,E,e⟩
    ·exact .inl h
    ·exact .inr ⟨k,by omega,e⟩
   ·rintro(h|⟨k,E,e⟩)
    ·exact s.2 (.inl h)
    ·by_cases d:k=j
     ·subst d;rw[e];exact H
     ·exact s.2 (.inr ⟨k,by omega,e⟩)
  ·rw[List.mem_append,bU,s];constructor
   ·rintro((h|⟨k,E,e⟩)|h)
    ·exact .inl h
    ·exact .inr ⟨k,by omega,e⟩
    ·exact .inr ⟨j,by omega,h⟩
   ·rintro(h|⟨k,E,e⟩)
    ·exact .inl (.inl h)
    ·by_cases d:k=j
     ·subst d;exact .inr e
     ·exact .inl (.inr ⟨k,by omega,e⟩)
theorem vY(x:L8)(ws:LL):∀k,k≤ws.length→(x∈fI (ws.take k)↔x=[]∨∃w∈ws.take k,x<+:w)
 |0,_=>by grind[fI]
 |k+1,h=>by
  rw[lA ws k h,sn,vY x ws k zO,show ws.take (k+1)=ws.take k++[ws[k]]from bQ h];constructor
  ·grind[cc,List.mem_append_right,bU,List.take_prefix]
  ·rintro(h|⟨w,hw,d⟩)
   ·grind
   ·rcases List.mem_append.1 hw with hw|hw
    ·grind
    ·rw[bU]at hw;subst hw;rcases b4 x.length with h0|h0
     ·grind
     ·refine .inr ⟨x.length-1,by grind,?_⟩;grind[List.prefix_iff_eq_take]
theorem Gz(x:L8)(ws:LL):x∈fI ws↔x=[]∨∃w∈ws,x<+:w:=by
 have:=vY x ws ws.length (bP _);grind
theorem vZ{f:Bool}{pre:LL}{w:L8}(s:∀u∈pre,textF f u=u)(d:textF f w=w):∀j,j≤w.length→(lX (fI pre) w j).length=(fI pre).length+(j-jy f w pre)
 |0,_=>by rw[te];omega
 |j+1,h=>by
  rw[mh];have H:=vZ s d j zO;have E:w.take (j+1)∈lX (fI pre) w j↔j+1≤jy f w pre:=by
   rw[sn,Gz,uN];constructor
   ·rintro((T|⟨u,J,I⟩)|⟨k,O,e⟩)
    ·simp_all
    ·grind[pI]
    ·have:=congrArg List.length e;grind
   grind[pI]
  unfold uq;grind
theorem Cm(pre:LL)(w:L8):fI (pre++[w])=lX (fI pre) w w.length:=by grind[fI]
theorem yP{f:Bool}:∀(d pre:LL),(∀u∈pre++d,textF f u=u)→(fI (pre++d)).length=ga f (fI pre).length pre d
 |[],pre,_=>by rw[List.append_nil];rfl
 |w::d,pre,h=>by
  have I:=h w zS;have H:=vZ (f:=f) (pre:=pre) (w:=w) (λu s=>h u (cc _ s)) I w.length (bP _);rw[←Cm]at H;have E:=yP d (pre++[w]) (λu s=>h u (by rw[List.append_assoc]at s;exact s));rw[List.append_assoc]at E;show _=ga f ((fI pre).length+(w.length-jy f w pre)) (pre++[w]) d;rw[←H];exact E
theorem th{f:Bool}{ws:LL}(h:∀u∈ws,textF f u=u):(fI ws).length=fj f ws:=yP ws [] h
theorem nR{f:Bool}{ws:LL}(h:eS f ws=cb):Pe f ws:=by
 unfold eS at h;simp only[Bool.and_eq_true,decide_eq_true_eq]at h;have:=rM f ws [] ⟨λw d=>by simp at d,List.nodup_nil⟩;grind
theorem Cn{f:Bool}{ws:LL}(h:eS f ws=cb):eS false ws=true:=by
 have s:=nR h;have H:=lW h;have d:∀u∈ws,textF false u=u:=λu _=>rfl;have E:fj false ws=fj f ws:=by rw[←th d,th s.1]
 have I:fX false ws=0:=by simp_all[fX]
 grind[qF,Pe,eS]
theorem ru{f:Bool}{ws:LL}(h:eS f ws=cb):(ey ws).length≤400:=by
 rw[(mj ws).length_eq,th (nR h).1];simp_all[nJ,lW]
theorem iK(x:L8)(ws:LL):x∈ey ws↔x=[]∨∃w∈ws,x<+:w:=(mj ws).mem_iff.trans (Gz x ws)
theorem tV(ws:LL):(ey ws).Pairwise λx y=>ltOf iW y x=false:=by
 have h:=List.pairwise_mergeSort (le:=λx y=>!(ltOf iW) y x) (λa b c s d=>by
  simp only[Bool.not_eq_true',Bool.eq_false_iff]at*;have:=zW.ntrans c b a zG zG;grind) (λa b=>by
  cases s:ltOf iW b a
  ·simp
  ·cases d:ltOf iW a b
   ·simp
   ·have:=zW.trans b a b s d;rw[zW.irrefl]at this;cases this) (fI ws)
 refine h.imp λ{a b} E=>?_;grind
theorem qd{ws:LL}{i p:Nat}(hi:i<(ey ws).length)(d:p<(ey ws).length)(s:(ey ws)[p].length<(ey ws)[i].length):p<i:=by
 rcases b6 p i with h|h|h
 ·exact h
 ·grind
 ·have:=bO.1 (tV ws) i p hi d h;simp_all[Bool.eq_false_iff,nP]
theorem uz{l:LL}(O:l.Nodup){p:Nat}(J:p<l.length):jx (kg l) l[p]=bm (p:Int):=by
 have h:(jx (kg l) l[p]).isSome=true:=by grind[rY,decide_eq_true,bY]
 unfold jx at*;rw[Option.isSome_map]at h;obtain⟨x,d⟩:=Option.isSome_iff_exists.1 h;rw[d,Option.map_some];have I:=List.find?_some d;have s:=List.mem_of_find?_eq_some d;unfold kg at s;obtain⟨y,E,rfl⟩:=List.mem_map.1 s;have T:l[p]=y.1:=of_decide_eq_true I;obtain⟨q,H,e⟩:=bK E;rw[List.getElem_zipIdx]at e;rw[List.length_zipIdx]at H;subst e;simp only[ch]at*;grind[b6,absurd,bO]
theorem Co{l:LL}{x:L8}(h:x∉l):jx (kg l) x=none:=by
 grind[jx,kg,rY,decide_eq_false]
theorem we{ws:LL}(E:ws.Nodup):∀k,k≤ws.length→kG (ws.take k)=kg (ws.take k)
 |0,_=>rfl
 |k+1,h=>by
  have d:ws[k]∉ws.take k:=λH=>by
   grind[bK,List.length_take,absurd,bO]
  have s:=vA d;rw[List.length_take,Nat.min_eq_left zO]at s;rw[tR ws k h,we E k zO,s,←bQ h]
theorem Cp(ws:LL):∀k,k≤(ey ws).length→∀i (_:i<k) (d:i<(ey ws).length),
  (kr ws k).up[i]?=bm (if(ey ws)[i]=[]then 0 else(jx (kg ((ey ws).take i)) (ey ws)[i].dropLast).getD 0)∧(kr ws k).word[i]?=bm ((jx (kG ws) (ey ws)[i]).getD (-1))∧(kr ws k).byte[i]?=bm ((ey ws)[i].getLastD 0)
 |0,_,i,h,_=>by omega
 |k+1,hk,i,h,d=>by
  obtain⟨J,I,O,H,E⟩:=oH ws k zO;rw[rr ws k hk];unfold Ai;by_cases e:i=k
  ·subst e;simp only;rw[bJ zO,bJ zO,bJ zO,I,H,E,Nat.sub_self,J];exact⟨rfl,rfl,rfl⟩
  ·have s:=Cp ws k zO i zO d;simp only;rw[bL zO,bL zO,bL zO];exact s
theorem GA(ws:LL):fF ws=kr ws (ey ws).length:=by simp[fF,kr,bX]
theorem yQ:∀(l m:LL),l.Nodup→(∀x∈l,x∈m)→l.length≤m.length
 |[],m,_,_=>Nat.zero_le _
 |x::l,m,hn,hs=>by
  obtain⟨s,t,rfl⟩:=List.append_of_mem (hs x zS);rw[List.nodup_cons]at hn;have:=yQ l (s++t) hn.2 (λy d=>by
   grind)
  grind
theorem ti{f:Bool}{ws:LL}(h:eS f ws=cb):j1 (fF ws) (ey ws) ws:=by
 have Y:=nR h;obtain⟨c1,c2,c3,c4,c5,c6⟩:=nJ (lW h);have d:=oH ws (ey ws).length (bP _);have E:=λi (hl:i<(ey ws).length)=>Cp ws (ey ws).length (bP _) i hl hl;rw[←GA]at d;simp only[←GA]at E;have ae:=vK ws;have U:∃p,∃T:p<(ey ws).length,(ey ws)[p]=[]:=bK ((iK [] ws).2 (.inl rfl));have hz:(ey ws)[0]'zO=[]:=by
  obtain⟨p,T,e⟩:=U;rcases b4 ((ey ws)[0]'zO).length with h0|h0
  ·grind
  ·have:=qd (ws:=ws) (i:=0) (p:=p) zO T zG;omega
 have ag:∀i j (s:i<(ey ws).length) (hj:j<(ey ws).length),(ey ws)[i]=(ey ws)[j]→i=j:=λi j s hj e=>by
  grind[b6,absurd,bO,mG]
 have aa:∀i (s:i<(ey ws).length),0<i→(ey ws)[i]≠[]:=λi s h0 e=>by
  grind
 have H:kG ws=kg ws:=by have:=we Y.2 ws.length (bP _);grind
 refine⟨⟨ae.1,ru h,d.2.1,d.2.2.1,d.2.2.2.1,d.2.2.2.2,λx hx=>Nat.le_trans (vM oI x hx) zO,by grind,λi h0 s=>?_⟩,⟨λi s=>?_,λi j k s hj h1 h2=>?_,λk I=>?_,?_⟩,Cn h,rfl,by omega,by omega⟩
 ·have V:=aa i s h0;have O:(ey ws)[i].dropLast∈ey ws:=by
   grind[iK,bY,absurd,List.dropLast_prefix,trans]
  obtain⟨p,T,e⟩:=bK O;have af:0<(ey ws)[i].length:=List.length_pos_iff.2 V;have ad:=qd (ws:=ws) s T zG;refine⟨p,(ey ws)[i].getLastD 0,(ey ws)[p],ad,?_,(E i s).2.2,bM T,?_⟩
  ·rw[(E i s).1,if_neg V,←e];have ab:((ey ws).take i).Nodup:=(mG ws).sublist (List.take_sublist _ _);have:=uz ab (p:=p) zG;grind
  grind[bM,List.dropLast_concat_getLast,absurd,List.getLast_eq_getLastD,List.getLastD_cons]
 ·have J:=(E i s).2.1;rw[H]at J;by_cases W:(ey ws)[i]∈ws
  ·obtain⟨k,I,e⟩:=bK W;rw[←e,uz Y.2 I]at J;refine .inr ⟨?_,k,ws[k],I,J,by grind,bM I⟩;grind
  grind[Co]
 ·have a1:=(E i s).2.1;have a2:=(E j hj).2.1;rw[h1,H]at a1;rw[h2,H]at a2;have ah:∀q (hq:q<(ey ws).length),bm (k:Int)=bm ((jx (kg ws) (ey ws)[q]).getD (-1))→∃I:k<ws.length,(ey ws)[q]=ws[k]:=λq hq e=>by
   by_cases W:(ey ws)[q]∈ws
   ·obtain⟨z,hz,e2⟩:=bK W;rw[←e2,uz Y.2 hz]at e;simp only[Option.getD_some,bI]at e;obtain rfl:k=z:=zO;grind
   grind[Co,bI]
  grind
 ·have W:ws[k]∈ey ws:=(iK _ ws).2 (.inr ⟨ws[k],bY I,List.prefix_rfl⟩);obtain⟨i,s,e⟩:=bK W;refine⟨i,s,?_⟩;rw[(E i s).2.1,H,e,uz Y.2 I];rfl
 ·exact yQ ws (ey ws) Y.2 (λw J=>(iK w ws).2 (.inr ⟨w,J,List.prefix_rfl⟩))
end Go.Proofs.YtofgfpffcegioaaGreat
