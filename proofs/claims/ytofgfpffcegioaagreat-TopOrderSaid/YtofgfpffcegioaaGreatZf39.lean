/- A part of the proof. -/
import Derived.Test.YtofgfpffcegioaaGreatZf38
set_option maxRecDepth 100000
set_option maxHeartbeats 8000000
namespace Go.Proofs.YtofgfpffcegioaaGreat
open Go.RowKit Go.Shelf Go.Sort iT jH fq Go.Proofs.Tryz
open _root_.Array renaming getElem?_eq_some_iff → bl,replicate_succ → bq,replicate_zero → br,size_setIfInBounds → bM
open Bool renaming true → bG,false → bJ
open _root_.Go renaming bodyPost_ret → bf,Calls → bj,World → bm,Value → bC,results_tmp2 → bO,undef → bR,info_parts → bV
open Go.Oper renaming semAt_some → bD
open Go.Proofs.Tryz renaming underlying109 → bb,underlying50 → bh,prog → bn,underlying38 → bo,underlying113 → bp
open Go.RowKit.Below renaming trans → bQ,refl → bW
open Go.Value renaming ownBlock → bt,agg → bN,bool → bT
open Go.World renaming size_alloc → bd
open Go.World.grownBy renaming refl → bk
open List renaming append_toArray → bs,size_toArray → bu,push_toArray → bw,length_cons → bA,cons_append → bB,length_nil → bE,nil_append → bF,setIfInBounds_toArray → bH,take_of_length_le → bP
open Nat renaming le_refl → ba,zero_add → bg,le_trans → bz,zero_le → bI,reduceAdd → bK,reduceSub → bL,mod_lt → bS
open Option renaming none → a8,some → bc
section
section
attribute [local irreducible] ew ed
theorem eO.addr{i:Nat}{e:TypeId}{size n:Nat}{A:Option Addr}{c:Nat}{xs:List bC}{w:bm}{t:ez}(h:eO i e size (.slice A n c) n xs w t):(A=a8∧n=0∧c=0)∨∃b d,A=bc ⟨b,d,a8⟩∧n≤c∧c≤maxLen:=by
 obtain⟨-,⟨s,J⟩|⟨g,d,H,E,s,-,-,T,O,-⟩⟩:=h
 ·grind
 grind
theorem Mr{A:Option Addr}{n m c:Nat}{v:bC}(hv:v=.slice A n c)(b:Nat):bt (.slice A m c)=bc b→v.ownBlock=bc b:=by
 subst hv;cases A with
 |none=>intro h;cases h
 |some a=>intro h;exact h
section
variable {i g R size:Nat} {b:Buf} {w:bm} {t:ez}
theorem Ms(h:ft i g R size b w t)(l:List Nat)(n:Nat)(hl:b.free=l++[n]):bj bn 243 #[gP g] w λe w'=>e=.returned (.tuple #[iV n,.bool bG])∧ft i g R size ⟨l,b.used,b.data⟩ w' t∧Turn i w t w' t:=by
 obtain⟨gu,gd,vf,O,s,H,hu,hd,hD,af,aa,hr⟩:=h;rw[hl]at H aa;obtain⟨A,c,rfl⟩:=H.form;have E:(l++[n]).length=l.length+1:=by simp
 rw[E]at H s;obtain⟨q,d,rfl,aj,ag⟩:∃q d,A=bc ⟨q,d,a8⟩∧l.length+1≤c∧c≤maxLen:=by
  rcases H.addr with⟨-,h,-⟩|h
  ·omega
  ·exact h
 unfold maxLen at ag;have ak:=s.2.at_ 0 rfl;have ah:=s.2.frozen 0;have ai:w.cell? ⟨q,d+l.length,a8⟩=bc (iV n):=H.cell l.length _ zS;have J:=H.take (k:=l.length) zO;rw[Nat.mul_one,List.map_append,List.take_left' zS]at J;have ad:=s.gU 0 (.slice (bc ⟨q,d,a8⟩) l.length c) _ rfl;have hT:=Turn.set (w:=w) s.1 0 (.slice (bc ⟨q,d,a8⟩) l.length c);have U:=eH s H zD;have T:=s.far' hu (.inr zD);have Y:=s.far' hd (.inr zD);have ab:=J.grown (row:=bc g) (eM (bk w _) 0 (.slice (bc ⟨q,d,a8⟩) l.length c)) (λk hk e=>U (by cases e;exact hk)) (λ_ _=>rfl);have ae:=hD.grown (row:=bc g) (eM (bk w _) 0 (.slice (bc ⟨q,d,a8⟩) l.length c)) (λk v hk hv b al e=>by
  obtain⟨v',h1,h2⟩:=hD.it k hk;grind[eH]) (λ_ _=>rfl)
 have HF:=hide (show ft i g R size ⟨l,b.used,b.data⟩ (w.setCell ⟨g,0,a8⟩ (.slice (bc ⟨q,d,a8⟩) l.length c)) t∧Turn i w t (w.setCell ⟨g,0,a8⟩ (.slice (bc ⟨q,d,a8⟩) l.length c)) t from
  ⟨⟨gu,gd,_,O,ad,ab,hu.pP T.symm 0 _,hd.pP Y.symm 0 _,ae,af,(show l.length≤16 by omega),hr⟩,hT⟩)
 have am:(l.length:Int)+1≤16:=zO;clear s H hu hd hD aa J ad hT U T Y ab ae hl hr E;generalize l.length=k at*;have e0:((k:Int)+1==0)=false:=by rfl
 go_enter func243,ntmps243;go_wp2;exact bf (bO results243 _ _ _) rfl ⟨rfl,HF.out⟩
theorem Mt(b:Buf)(n:Nat)(q:Bool):((b.used.set n q).map bT).toArray=((b.used.map bT).toArray).setIfInBounds n (.bool q):=by
 grind
theorem ft.empty(gu gd:Nat)(vf:bC)(cells:AV)(_:i≠0)(hb:eG i g 207 #[vf,iV size,.slice (bc ⟨gu,0,a8⟩) R R,.slice (bc ⟨gd,0,a8⟩) R R] w t)
  (hf:eO i 3 1 vf b.free.length (b.free.map λn:Nat=>iV n) w t)(hu:eG i gu 4 (b.used.map bT).toArray w t)(hd:eG i gd 43 cells w t)(hD:qA i R b.data cells w t)(ao:b.used.length=R)(ak:b.free.length≤16)(hr:1≤R∧R≤16)(n:Nat)(hn:n<R)(q:Bool) :
  ∃(A:Option Addr) (m c:Nat),cells[n]?=bc (.slice A m c)∧(c=0∨∃b d,A=bc ⟨b,d,a8⟩)∧m≤c∧∀W,Ext (w.setCell ⟨gu,n,a8⟩ (.bool q)) W→(ft i g R size ⟨b.free,b.used.set n q,b.data.set n []⟩ (W.setCell ⟨gd,n,a8⟩ (.slice A 0 c)) t∧Turn i w t (W.setCell ⟨gd,n,a8⟩ (.slice A 0 c)) t)∧Box W g 207 #[vf,iV size,.slice (bc ⟨gu,0,a8⟩) R R,.slice (bc ⟨gd,0,a8⟩) R R]∧Box W gd 43 cells:=by
 obtain⟨v,Y,ho⟩:=hD.it n hn;obtain⟨A,c,rfl⟩:=ho.form;have ai:=hb.far' hu (.inr zD);have aj:=hb.far' hd (.inr zD);have aa:=hu.far' hd (.inr zD);have hA:(c=0∨∃b d,A=bc ⟨b,d,a8⟩)∧(b.data.getD n []).length≤c:=by
  rcases ho.addr with⟨-,h1,rfl⟩|⟨b,d,rfl,h1,-⟩
  ·omega
  grind
 refine⟨A,_,c,Y,hA.1,hA.2,λW T=>?_⟩;have am:=(Turn.set (w:=w) hu.1 n (.bool q)).tr (Turn.ext i t T);have ad:=eG.keeps _ _ _ _ |>.ext (hb.pP ai n (.bool q)) T
 have af:=eG.keeps _ _ _ _ |>.ext (hu.gU n (.bool q) _ rfl) T
 have H:=eG.keeps _ _ _ _ |>.ext (hd.pP aa.symm n (.bool q)) T
 have ab:=eO.keeps _ _ _ _ _ _ |>.ext (hf.grown (row:=bc gu) (eM (bk w _) n (.bool q)) (λk E e=>eH hu hf zD zG) (λ_ _=>rfl)) T
 have O:=qA.keeps.ext (hD.grown (row:=bc gu) (eM (bk w _) n (.bool q)) (λk v E Y b J e=>by
  obtain⟨v',h1,h2⟩:=hD.it k E;grind[eH]) (λ_ _=>rfl)) T
 have s:=(O.it n hn)
 obtain⟨v',U,s⟩:=s;rw[Y]at U;cases U;have ap:=s.take (k:=0) (bI _);have ae:=O.set hn [] (.slice A 0 c) zG (λk u E ah ag b J=>O.sep n k _ u hn E ah.symm Y ag b (Mr rfl b J));have an:=ae.grown (row:=bc gd) (eM (bk W _) n (.slice A 0 c)) (λk v E Y b J e=>by
  obtain⟨v',h1,h2⟩:=ae.it k E;grind[eH]) (λ_ _=>rfl)
 have al:=ab.grown (row:=bc gd) (eM (bk W _) n (.slice A 0 c)) (λk E e=>eH H ab zD zG) (λ_ _=>rfl);refine⟨⟨⟨gu,gd,vf,_,ad.pP aj n _,al,?_,H.gU n (.slice A 0 c) _ rfl,an,by grind,ak,hr⟩,am.gU hd.1 n _⟩,ad.2,H.2⟩;show eG i gu _ ((b.used.set n q).map bT).toArray _ _;rw[Mt];exact af.pP aa n _
theorem Jz(hi:i≠0)(h:ft i g R size b w t)(l:List Nat)(n:Nat)(hl:b.free=l++[n])(hn:n<R):bj bn 188 #[gP g] w λe w'=>e=.returned (.tuple #[iV n,.bool bG])∧ft i g R size ⟨l,b.used.set n bG,b.data.set n []⟩ w' t∧Turn i w t w' t:=by
 have hP:=hide (Ms h l n hl);clear h hl;go_enter func188,ntmps188;go_wp2_with fail;refine hP.out.mono ?_;rintro _ w2 ⟨rfl,⟨gu,gd,vf,d,hb,hf,O,hd,hD,s,E,hr⟩,H⟩;obtain⟨A,m,c,hv,hA,ah,J⟩:=ft.empty gu gd vf d hi hb hf O hd hD s E hr n hn bG;have ad:=hb.2.at_ 2 rfl;have aa:w2.cell? ⟨gu,n,a8⟩=bc (.bool (b.used.getD n bJ)):=by
  rw[O.2.cell n];grind
 have U:=O.2.frozen n;have HT:=hide H;have ag:(n:Int)<(R:Int):=zO;have af:¬(n:Int)<0:=zO;have Hv:=hide hv;have J:=hide J;clear hP hb hf O hd hD s E H hv hr;go_upto_region 7 with(fail)
 generalize T:w2.setCell ⟨gu,n,a8⟩ (.bool bG)=w3 at*;obtain⟨-,h3,h4⟩:=J.out w3 (Ext.rf _);have Y:=h3.at_ 3 rfl;have ab:w3.cell? ⟨gd,0+n,a8⟩=bc (.slice A m c):=by rw[bg,h4.cell n];exact Hv.out
 clear ad aa U T;refine vQ 13 (.g ?_);refine ed.fD (i:=n) 22 43 _ _ rfl underlying22 zR hn wA oA oA (.g ?_);refine ed.Mq (hi:=0) 43 5 _ _ .i64 rfl underlying43 zR wA oA (eE _) (bI _) hA (.g ?_);intro W7 ae;obtain⟨⟨hq,H⟩,h5,h6⟩:=J.out W7 ((eh _).tr ae);have ab:W7.cell? ⟨gd,n,a8⟩=bc (.slice A m c):=by rw[h6.cell n];exact Hv.out
 have ai:=h6.frozen n;have HF:=hide (And.intro hq (HT.out.tr H));clear J HT hq H h5 h6 h3 h4 Y;go_wp2;exact bf (bO results188 _ _ _) rfl ⟨rfl,HF.out⟩
theorem tC(hi:i≠0)(h:ft i g R size b w t)(n:Nat)(hn:n<R)(hu:b.used.getD n bJ=bG)(hl:b.free.length<16):bj bn 247 #[gP g,iV n] w λe w'=>(∃u,e=.returned u)∧∃J,ft i g R size (b.give n) w' J∧Turn i w t w' J:=by
 have hH:=wZ h n hn;rw[hu]at hH;have hP:=hide hH;have H:=hide h;have aj:(n:Int)<(R:Int):=zO;have ai:¬(n:Int)<0:=zO;clear h hH;go_enter func247,ntmps247;go_wp2_with fail;refine hP.out.mono ?_;rintro _ w2 ⟨u,rfl,s,rfl⟩;obtain⟨gu,gd,vf,E,hb,hf,d,hd,hD,O,U,hr⟩:=ft.keeps.ext H.out s;obtain⟨A,m,c,hv,hA,ak,HW⟩:=ft.empty gu gd vf E hi hb hf d hd hD O U hr n hn bJ;have ag:=hb.2.at_ 2 rfl;have ae:w2.cell? ⟨gu,n,a8⟩=bc (.bool bG):=by
  rw[d.2.cell n,←hu];grind
 have ab:=d.2.frozen n;have Hv:=hide hv;have HW:=hide HW;have HT:=hide (Turn.ext i t s);clear hP hb hf d hd hD O U hv hr s H;go_upto_region 4 with(fail)
 generalize aa:w2.setCell ⟨gu,n,a8⟩ (.bool bJ)=w3 at*;obtain⟨-,h3,h4⟩:=HW.out w3 (Ext.rf _);have ad:=h3.at_ 3 rfl;have af:w3.cell? ⟨gd,0+n,a8⟩=bc (.slice A m c):=by rw[bg,h4.cell n];exact Hv.out
 clear ag ae ab aa;refine vQ 13 (.g ?_);refine ed.fD (i:=n) 22 43 _ _ rfl underlying22 zR hn wA oA oA (.g ?_);refine ed.Mq (hi:=0) 43 5 _ _ .i64 rfl underlying43 zR wA oA (eE _) (bI _) hA (.g ?_);intro W4 ah;obtain⟨⟨hq,hT⟩,h5,h6⟩:=HW.out W4 ((eh _).tr ah);have af:W4.cell? ⟨gd,n,a8⟩=bc (.slice A m c):=by rw[h6.cell n];exact Hv.out
 have al:=h6.frozen n;have VZ:=hide (zn hq n hl);have HT2:=hide (HT.out.tr hT);clear HW HT hq hT h5 h6 h3 h4 ad;go_wp2_with fail;refine VZ.out.mono ?_;rintro _ w5 ⟨⟨u,rfl⟩,t5,T,Y⟩;have HF:=hide (show∃J,ft i g R size (b.give n) w5 J∧Turn i w t w5 J from⟨t5,T,HT2.out.tr Y⟩);clear VZ HT2 T Y;go_wp2;go_ret;exact⟨⟨_,rfl⟩,HF.out⟩
end
end
end
section
section
attribute [local irreducible] ew ed
section
variable {i g room:Nat} {s:Ff Pc} {w:bm} {t:ez}
abbrev iD(i g room:Nat)(s:Ff Pc):bm→ez→Prop:=mU om 211 109 5 i g room s
theorem zo(h:iD i g room s w t):bj bn 248 #[gP g] w (eB w (eC (iV ((room-s.items.length:Nat):Int)))):=by
 obtain⟨gp,first,J,E,_,d⟩:=h;have O:=d.len;have U:=d.hi;have aa:=E.2.at_ 0 rfl;have Y:=E.2.at_ 2 rfl;have T:((room:Int)-(s.items.length:Int))=((room-s.items.length:Nat):Int):=zO;have H1:=hide T;clear E d T;go_enter func248,ntmps248;go_upto_region 1 with(fail)
 refine vQ 10 (.g ?_);refine ed.kC _ _ _ _ rfl wA oA oA zO ?_;refine ed.kD H1.out (.g ?_);intro W1 H;go_wp2;go_ret;exact eB.mk ((eh _).tr H) rfl
theorem JA(hi:i≠0)(h:iD i g room s w t)(hl:s.items.length<room)(x:Pc)(U T O J v4:bC)(hx:om x [U,T,O,J,v4] w t) :
  bj bn 250 #[gP g,.agg #[U,T,O,J,v4]] w λe w'=>(∃v,e=.returned v)∧∃t',iD i g room (s.put x) w' t'∧Turn i w t w' t':=by
 obtain⟨gp,first,d,hb,ah,hc⟩:=h;have h1:=hx.one;have ag:g≠gp:=hb.ne ah zD;have av:=hc.hi;have af:=hc.lo;have aq:=hc.fst;have hX:=ek w (.cells #[U,T,O,J,v4] 109);have al:=Box.new w 109 #[U,T,O,J,v4];have E:=eG.keeps _ _ _ _ |>.ext hb hX
 have H:=eG.keeps _ _ _ _ |>.ext ah hX
 have aa:=(lJ.keeps (i:=i) (om.keeps i)).ext hc hX;have Y:=(om.keeps i x _).ext hx hX;have ao:=Turn.ext i t hX;have hm:(first+s.items.length)%room<room:=bS _ af;have ai:0+((first+s.items.length)%room)*5+5*0+5≤d.size:=by rw[hc.ud];omega
 have e1:=hide (show((first:Int)+(s.items.length:Int))=((first+s.items.length:Nat):Int) by omega);clear hb ah hc hx;go_enter func250,ntmps250;go_upto_region 1 with(fail)
 generalize w.alloc (.cells #[U,T,O,J,v4] 109)=w1 at*;have au:=E.2.at_ 0 rfl;have ar:=E.2.at_ 1 rfl;have ak:=E.2.at_ 2 rfl;refine vQ 21 (.g ?_);refine ed.ko _ _ _ _ rfl wA oA oA zO ?_;refine ed.kD e1.out (.g ?_);refine ed.ue (c:=(first+s.items.length)%room) _ _ _ _ rfl af zO rfl wA oA oA ?_;refine ed.eU 109 _ rfl wA oA bb rfl zR al (eh _) ?_;refine ed.gT (i:=(first+s.items.length)%room) 5 113 109 _ _ rfl bp zR hm wA oA oA (.g ?_);intro W1 ap;have hE:=(eh _).tr ap;have E:=eG.keeps _ _ _ _ |>.ext E hE
 have H:=eG.keeps _ _ _ _ |>.ext H hE
 have aa:=(lJ.keeps (i:=i) (om.keeps i)).ext aa hE;have Y:=(om.keeps i x _).ext Y hE;have hT:=ao.tr (Turn.ext i t hE);refine eW rfl _ _ _ rfl gp (0+(first+s.items.length)%room*5) #[U,T,O,J,v4] rfl rfl 109 d H.2 zR zO zG (l8 d ((first+s.items.length)%room*5) [U,T,O,J,v4]) (by rw[bg];rfl) ?_;have an:=hT.tr (Turn.setRow H.1 (l8 d ((first+s.items.length)%room*5) [U,T,O,J,v4]));have aj:=(lJ.keeps (i:=i+1) (om.keeps (i+1))).turn zO hi (aa.push hl x [U,T,O,J,v4] rfl Y h1) (Turn.setRow H.1 (l8 d ((first+s.items.length)%room*5) [U,T,O,J,v4]));have E:eG i g _ _ (W1.setRow gp (l8 d ((first+s.items.length)%room*5) [U,T,O,J,v4])) t:=⟨E.1,E.2.jo ag _⟩
 have H:eG i gp _ _ (W1.setRow gp (l8 d ((first+s.items.length)%room*5) [U,T,O,J,v4])) t:=⟨H.1,H.2.gR⟩
 clear au ar ak aa Y hT ao hE hX al ap e1 ai hm;generalize W1.setRow gp (l8 d ((first+s.items.length)%room*5) [U,T,O,J,v4])=W2 at*;generalize l8 d ((first+s.items.length)%room*5) [U,T,O,J,v4]=ab at*;have ak:=E.2.at_ 2 rfl;have aw:=E.2.frozen 2;have hN:=E.eL 2 (iV ((s.items.length:Int)+1));have ae:eG i gp _ _ (W2.setCell ⟨g,2,a8⟩ (iV ((s.items.length:Int)+1))) t:=⟨H.1,H.2.far (p:=⟨g,2,a8⟩) (λe=>ag e.symm) _⟩
 have ad:=(lJ.keeps (i:=i+1) (om.keeps (i+1))).turn zO hi aj (Turn.set (w:=W2) E.1 2 (iV ((s.items.length:Int)+1)));have am:=an.tr (Turn.set E.1 2 (iV ((s.items.length:Int)+1)));have kJ:=hide (show∃t',iD i g room (s.put x) (W2.setCell ⟨g,2,a8⟩ (iV ((s.items.length:Int)+1))) t'∧Turn i w t (W2.setCell ⟨g,2,a8⟩ (iV ((s.items.length:Int)+1))) t' from
  ⟨t,⟨gp,first,ab,by
   have e:((s.put x).items.length:Int)=(s.items.length:Int)+1:=by show(((s.items++[x]).length:Nat):Int)=_;simp
   rw[e];exact hN,ae,ad⟩,am⟩)
 clear hN ae ad am an aj E H h1 af aq ag;go_wp2
 go_end0
 exact⟨⟨_,rfl⟩,kJ.out⟩
theorem Mu(hi:i≠0)(h:iD i g room s w t)(x:Pc)(l:List Pc)(hs:s.items=x::l) :
  bj bn 251 #[gP g] w λe w'=>∃cs:List bC,e=.returned (.agg cs.toArray)∧cs.length=5∧∃t',iD i g room s.drop1 w' t'∧Turn i w t w' t'∧om x cs w' t':=by
 obtain⟨gp,first,E,hb,ao,hc⟩:=h;obtain⟨cs,a2,aq,ah⟩:=hc.PF hs;have an:g≠gp:=hb.ne ao zD;have a7:=ao.lt;have a6:=hb.lt;have aY:=hc.hi;have aK:=hc.lo;have aD:=hc.fst;have aW:=hc.len;have aJ:0<s.items.length:=zG;have aO:0+first*5+5≤E.size:=by rw[hc.ud];omega
 have hX:=(ek w (.cells #[iV 0,iV 0,iV 0,nS,iV 0] 109)).tr (ek _ (.cells #[iV 0,iV 0,iV 0,nS,iV 0] 109));have aj:=Box.new (w.alloc (.cells #[iV 0,iV 0,iV 0,nS,iV 0] 109)) 109 #[iV 0,iV 0,iV 0,nS,iV 0];have U:=(Box.new w 109 #[iV 0,iV 0,iV 0,nS,iV 0]).alloc (.cells #[iV 0,iV 0,iV 0,nS,iV 0] 109);rw[bd]at aj;have ae:∀k,k<w.heap.size→t.up w.heap.size i k=t k:=λk hk=>ez.fB hk;have d:=eG.keeps _ _ _ _ |>.ext' hb hX ae
 have H:=eG.keeps _ _ _ _ |>.ext' ao hX ae
 have ad:=(lJ.keeps (i:=i) (om.keeps i)).ext' hc hX ae;have aI:=(om.keeps i x _).ext' aq hX ae;have aT:=Turn.up i t i hX;have aV:t.up w.heap.size i w.heap.size=i:=ez.fJ (ba _);clear hb ao hc aq hs ae;generalize t.up w.heap.size i=t1 at*;go_enter func251,ntmps251;go_upto_region 2 with(fail)
 generalize(w.alloc (.cells #[iV 0,iV 0,iV 0,nS,iV 0] 109)).alloc (.cells #[iV 0,iV 0,iV 0,nS,iV 0] 109)=w1 at*;have ai:=d.2.at_ 0 rfl;have aa:=d.2.at_ 1 rfl;have aq:=aI;clear aI;obtain⟨vd,rfl,J⟩:=aq;obtain⟨A,cc,rfl,-,-,-⟩:=eu.form J.1;have aP:∀j v,(#[iV (x.blk.num:Int),iV (x.blk.start:Int),iV (x.blk.eZ:Int),.slice A x.blk.data.length cc,iV (x.buf:Int)]:AV)[j]?=bc v→w1.cell? ⟨gp,0+first*5+j,a8⟩=bc v:=λj v hj=>by
  have aX:j<5:=(bl.1 hj).1;rw[H.2.cell,bg,ah j aX,←hj];simp
 clear ah a2;have az:=H;refine vQ 11 (.g ?_);refine ed.gT (i:=first) 5 113 109 _ _ rfl bp zR aD wA oA oA ?_;refine ed.loadAt 109 _ rfl wA oA bb rfl zR H.2.lt aP (eh _) ?_;refine ed.alloc (z:=.agg #[iV 0,iV 0,iV 0,nS,iV 0]) 109 rfl wA zR zR (.g ?_);intro W2 al;refine .any λaU am=>?_;refine .e ?_;obtain⟨g2,rfl,hg,hb,-⟩:=am;refine eK rfl _ _ _ rfl rfl g2 _ rfl rfl _ _ hb zR rfl rfl ?_;intro V2 Y _ hX;have al:=hX _ al hg;have aF:=hg;clear hX hb hg;have aj:=aj.drew.ext al;have T:=(eh _).tr al;have d:=eG.keeps _ _ _ _ |>.ext d T
 have H:=eG.keeps _ _ _ _ |>.ext H T
 have U:=U.ext T;have ad:=(lJ.keeps (i:=i) (om.keeps i)).ext ad T;have J:=(Held.keeps (eX _) i _).ext J T;have aN:g2≠gp:=λe=>by have:=az.lt;have h3:w1.heap.size≤g2:=aF;omega
 have aL:g2≠g:=λe=>by have:=hX.size;have h3:w1.heap.size≤g2:=aF;omega
 have aM:w.heap.size≠gp:=λe=>by omega
 have ak:=aT.tr (Turn.ext i t1 T);clear aP ai aa al T hX aT aF az;have ai:=d.2.at_ 0 rfl;have aa:=d.2.at_ 1 rfl;go_upto_region 3 with(fail)
 refine vQ 10 (.g ?_);refine ed.eU 109 _ rfl wA oA bb rfl zR aj (eh _) ?_;refine ed.gT (i:=first) 5 113 109 _ _ rfl bp zR aD wA oA oA (.g ?_);intro W3 aH;have Y:=Y.drew.ext aH;have T:=(eh _).tr aH;have d:=eG.keeps _ _ _ _ |>.ext d T
 have H:=eG.keeps _ _ _ _ |>.ext H T
 have U:=U.ext T;have ad:=(lJ.keeps (i:=i) (om.keeps i)).ext ad T;have J:=(Held.keeps (eX _) i _).ext J T;have hT:=ak.tr (Turn.ext i t1 T);have ab:w.heap.size≠gp:=aM;refine eW rfl _ _ _ rfl gp (0+first*5) #[iV 0,iV 0,iV 0,nS,iV 0] rfl rfl 109 E H.2 zR zO zK (l8 E (first*5) [iV 0,iV 0,iV 0,nS,iV 0]) (by rw[bg];rfl) ?_;have O:=Turn.setRow (w:=W3) H.1 (l8 E (first*5) [iV 0,iV 0,iV 0,nS,iV 0]);have aS:=hT.tr O;have ag:=(lJ.keeps (i:=i+1) (om.keeps (i+1))).turn zO hi (ad.pop [iV 0,iV 0,iV 0,nS,iV 0] rfl zD aJ) O;have J:=(Held.keeps (eX _) (i+1) _).turn zO hi J O;have d:eG i g _ _ (W3.setRow gp (l8 E (first*5) [iV 0,iV 0,iV 0,nS,iV 0])) t1:=⟨d.1,d.2.jo an _⟩
 have H:eG i gp _ _ (W3.setRow gp (l8 E (first*5) [iV 0,iV 0,iV 0,nS,iV 0])) t1:=⟨H.1,H.2.gR⟩
 have Y:=Y.jo aN (l8 E (first*5) [iV 0,iV 0,iV 0,nS,iV 0]);have U:=U.jo ab (l8 E (first*5) [iV 0,iV 0,iV 0,nS,iV 0]);clear ai aa ad hT ak T aH aj O ab aM aO;generalize W3.setRow gp (l8 E (first*5) [iV 0,iV 0,iV 0,nS,iV 0])=U4 at*;generalize l8 E (first*5) [iV 0,iV 0,iV 0,nS,iV 0]=au at*;have ai:=d.2.at_ 0 rfl;have aa:=d.2.at_ 1 rfl;have e1:=hide (show((first:Int)+1)=((first+1:Nat):Int) by omega);go_upto_region 4 with(fail)
 refine vQ 14 (.g ?_);refine ed.ko _ _ _ _ rfl wA oA (eE _) zO ?_;refine ed.kD e1.out (.g ?_);refine ed.ue (c:=(first+1)%room) _ _ _ _ rfl aK zO rfl wA oA oA (.g ?_);intro W4 aG;have Y:=Y.drew.ext aG;have T:=(eh _).tr aG;have d:=eG.keeps _ _ _ _ |>.ext d T
 have H:=eG.keeps _ _ _ _ |>.ext H T
 have U:=U.ext T;have ag:=(lJ.keeps (i:=i) (om.keeps i)).ext ag T;have J:=(Held.keeps (eX _) i _).ext J T;have hT:=aS.tr (Turn.ext i t1 T);clear ai aa aS T aG e1;have aa:=d.2.at_ 1 rfl;have a3:=d.2.at_ 2 rfl;have a1:=d.2.frozen 1;have aZ:=d.2.frozen 2;have ab:g≠w.heap.size:=λe=>by omega
 have af:g2≠g:=aL;have O:=(Turn.set (w:=W4) d.1 1 (iV (((first+1)%room:Nat):Int))).tr (Turn.set (g:=g) d.1 2 (iV ((s.items.length:Int)-1)));have aA:=(d.eL 1 (iV (((first+1)%room:Nat):Int))).eL 2 (iV ((s.items.length:Int)-1));have ay:eG i gp _ _ ((W4.setCell ⟨g,1,a8⟩ (iV (((first+1)%room:Nat):Int))).setCell ⟨g,2,a8⟩ (iV ((s.items.length:Int)-1))) t1:=⟨H.1,(H.2.far (p:=⟨g,1,a8⟩) (λe=>an e.symm) _).far (p:=⟨g,2,a8⟩) (λe=>an e.symm) _⟩
 have aC:=(Y.far (p:=⟨g,1,a8⟩) af (iV (((first+1)%room:Nat):Int))).far (p:=⟨g,2,a8⟩) af (iV ((s.items.length:Int)-1));have aB:=(U.far (p:=⟨g,1,a8⟩) (λe=>ab e.symm) (iV (((first+1)%room:Nat):Int))).far (p:=⟨g,2,a8⟩) (λe=>ab e.symm) (iV ((s.items.length:Int)-1));have aw:=(lJ.keeps (i:=i+1) (om.keeps (i+1))).turn zO hi ag O;have J:=(Held.keeps (eX _) (i+1) _).turn zO hi J O;have ak:=hT.tr O;have Hq:=hide aA;have Hr:=hide ay;have HB:=hide aC;have Hb:=hide aB;clear d H Y U ag O hT aA ay aC aB aK aD;generalize((first+1)%room:Nat)=fs at*;go_upto_region 6 with(fail)
 generalize(W4.setCell ⟨g,1,a8⟩ (iV fs)).setCell ⟨g,2,a8⟩ (iV ((s.items.length:Int)-1))=W5 at*;have a5:=HB.out;have aQ:=Hb.out;clear aa a3 a1 aZ an aY aW aN aL ab af ag HB Hb;refine KU 1 ?_;refine ed.eU 109 _ rfl wA oA bb rfl zR a5 (Ext.rf _) (.g ?_);intro W6 ar;have ap:=(Turn.ext i t1 ar).tr (Turn.setRow (w:=W6) (t:=t1) aV #[iV (x.blk.num:Int),iV (x.blk.start:Int),iV (x.blk.eZ:Int),.slice A x.blk.data.length cc,iV (x.buf:Int)]);have aE:=aQ.ext ar;refine eW rfl _ _ _ rfl w.heap.size 0 #[iV (x.blk.num:Int),iV (x.blk.start:Int),iV (x.blk.eZ:Int),.slice A x.blk.data.length cc,iV (x.buf:Int)] rfl rfl 109 _ aE zR (ba _) zK #[iV (x.blk.num:Int),iV (x.blk.start:Int),iV (x.blk.eZ:Int),.slice A x.blk.data.length cc,iV (x.buf:Int)] rfl ?_;have hq:=eG.keeps _ _ _ _ |>.ext Hq.out ar
 have hr:=eG.keeps _ _ _ _ |>.ext Hr.out ar
 have hq:eG i g _ _ (W6.setRow w.heap.size #[iV (x.blk.num:Int),iV (x.blk.start:Int),iV (x.blk.eZ:Int),.slice A x.blk.data.length cc,iV (x.buf:Int)]) t1:=⟨hq.1,hq.2.jo zO _⟩
 have hr:eG i gp _ _ (W6.setRow w.heap.size #[iV (x.blk.num:Int),iV (x.blk.start:Int),iV (x.blk.eZ:Int),.slice A x.blk.data.length cc,iV (x.buf:Int)]) t1:=⟨hr.1,hr.2.jo zO _⟩
 have av:=(lJ.keeps (i:=i+1) (om.keeps (i+1))).turn zO hi aw ap;have O:=ap;have J:=(Held.keeps (eX _) (i+1) _).turn zO hi J O;have a4:Box (W6.setRow w.heap.size #[iV (x.blk.num:Int),iV (x.blk.start:Int),iV (x.blk.eZ:Int),.slice A x.blk.data.length cc,iV (x.buf:Int)]) w.heap.size _ _:=aE.gR;have aR:=ak.tr ap;have kJ:=hide (show∃t',iD i g room s.drop1 (W6.setRow w.heap.size #[iV (x.blk.num:Int),iV (x.blk.start:Int),iV (x.blk.eZ:Int),.slice A x.blk.data.length cc,iV (x.buf:Int)]) t'∧Turn i w t (W6.setRow w.heap.size #[iV (x.blk.num:Int),iV (x.blk.start:Int),iV (x.blk.eZ:Int),.slice A x.blk.data.length cc,iV (x.buf:Int)]) t'∧om x [iV (x.blk.num:Int),iV (x.blk.start:Int),iV (x.blk.eZ:Int),.slice A x.blk.data.length cc,iV (x.buf:Int)] (W6.setRow w.heap.size #[iV (x.blk.num:Int),iV (x.blk.start:Int),iV (x.blk.eZ:Int),.slice A x.blk.data.length cc,iV (x.buf:Int)]) t' from
  ⟨t1,⟨gp,fs,au,by
   have e:((s.drop1.items.length:Nat):Int)=(s.items.length:Int)-1:=by show(((s.items.drop 1).length:Nat):Int)=_;grind
   rw[e];exact hq,hr,av⟩,aR,⟨_,rfl,J⟩⟩)
 clear hq hr av O aR ap aE aQ Hq Hr aw ak;generalize W6.setRow w.heap.size #[iV (x.blk.num:Int),iV (x.blk.start:Int),iV (x.blk.eZ:Int),.slice A x.blk.data.length cc,iV (x.buf:Int)]=W7 at*;go_wp2;exact bf (qQ results251 _ _ w.heap.size 109 #[iV (x.blk.num:Int),iV (x.blk.start:Int),iV (x.blk.eZ:Int),.slice A x.blk.data.length cc,iV (x.buf:Int)] _ rfl a4 bb rfl zR) rfl ⟨[iV (x.blk.num:Int),iV (x.blk.start:Int),iV (x.blk.eZ:Int),.slice A x.blk.data.length cc,iV (x.buf:Int)],rfl,rfl,kJ.out⟩
end
end
end
section
variable {i g room:Nat} {s:Ff Pc} {w:bm} {t:ez}
theorem JB(h:iD i g room s w t):bj bn 196 #[gP g] w (eB w (eC (iV (s.items.length:Int)))):=by
 obtain⟨O,first,d,E,_,J⟩:=h;have H:=E.2.at_ 2 rfl;clear E J;go_enter func196,ntmps196;go_wp2;go_ret;exact eB.mk (Ext.rf _) rfl
theorem sN(h:iD i g room s w t):bj bn 49 #[gP g] w (eB w (eC (.bool s.closed))):=by
 obtain⟨O,first,d,E,_,J⟩:=h;have H:=E.2.at_ 3 rfl;clear E J;generalize s.closed=b at*;go_enter func49,ntmps49;cases b<;>(go_wp2;go_ret;exact eB.mk (Ext.rf _) rfl)
theorem Fk(h:iD i g room s w t):bj bn 192 #[gP g] w (eB w (eC (iV ((room-s.items.length:Nat):Int)))):=by
 have E:=hide (zo h);clear h;go_enter func192,ntmps192;go_wp2_with fail;refine E.out.mono ?_;rintro _ H ⟨u,rfl,d,rfl⟩;go_wp2;go_ret;exact eB.mk d rfl
theorem C5(hi:i≠0)(h:iD i g room s w t)(ho:s.closed=bJ):bj bn 195 #[gP g] w λe Y=>(∃v,e=.returned v)∧iD i g room s.shut Y t∧Turn i w t Y t:=by
 obtain⟨U,first,d,O,H,hc⟩:=h;have T:g≠U:=O.ne H zD;rw[ho]at O;have ab:=O.2.at_ 3 rfl;have aa:=O.2.frozen 3;have hN:=O.eL 3 (.bool bG);have J:eG i U _ _ (w.setCell ⟨g,3,a8⟩ (.bool bG)) t:=⟨H.1,H.2.far (p:=⟨g,3,a8⟩) (λe=>T e.symm) _⟩
 have kJ:=hide (λ(E:lJ om 5 room first s.items d (w.setCell ⟨g,3,a8⟩ (.bool bG)) t)=>(show iD i g room s.shut (w.setCell ⟨g,3,a8⟩ (.bool bG)) t∧Turn i w t (w.setCell ⟨g,3,a8⟩ (.bool bG)) t from⟨⟨U,first,d,hN,J,E⟩,Turn.set O.1 3 _⟩));have E:lJ om 5 room first s.items d (w.setCell ⟨g,3,a8⟩ (.bool bG)) t:=(lJ.keeps (i:=i+1) (om.keeps (i+1))).turn zO hi hc (Turn.set O.1 3 _)
 have Hc:=hide E;clear hN J O H hc E ho T;go_enter func195,ntmps195;go_wp2;go_ret;exact⟨⟨_,rfl⟩,kJ.out Hc.out⟩
end
section
section
variable {i g room:Nat} {s:Ff Pc} {w:bm} {t:ez}
attribute [local irreducible] ew ed in
theorem JC(hi:i≠0)(h:iD i g room s w t)(ho:s.closed=bJ)(hl:s.items.length<room)(x:Pc)(A:Option Addr)(cc:Nat)(af:Held (eu x.blk.data) (.slice A x.blk.data.length cc) w t)(b c:Nat)(ad:Box w b 109 #[iV (x.blk.num:Int),iV (x.blk.start:Int),iV (x.blk.eZ:Int),.slice A x.blk.data.length cc,iV (x.buf:Int)]) :
  bj bn 194 #[gP g,.slice (bc ⟨b,0,a8⟩) 1 c] w λe w'=>(∃v,e=.returned v)∧∃J,iD i g room (s.put x) w' J∧Turn i w t w' J:=by
 have E:=hide (zo h);have hx:om x [iV (x.blk.num:Int),iV (x.blk.start:Int),iV (x.blk.eZ:Int),.slice A x.blk.data.length cc,iV (x.buf:Int)] w t:=⟨_,rfl,af⟩
 have h0:=h;obtain⟨gp,first,al,Y,ai,hc⟩:=h0;rw[ho]at Y;have ah:=Y.2.at_ 3 rfl;have ag:¬((room-s.items.length:Nat):Int)<1:=zO;have H:=hide h;have HX:=hide hx;clear Y ai hc h hx ho;go_enter func194,ntmps194;go_wp2_with fail;refine E.out.mono ?_;rintro _ w2 ⟨u,rfl,aj,rfl⟩;clear E;go_upto_region 4 with(fail)
 clear ah ag
 go_loopw [26] (λi' wr=>((i'=iV 0∧Hid (Ext w wr))∨(i'=iV 1∧Hid (∃J,iD i g room (s.put x) wr J∧Turn i w t wr J)))) (λi' _=>2-(intOf i').toNat)
 case atStart=>exact .inl ⟨rfl,aj⟩
 case round=>
  rcases hrel with⟨rfl,HE⟩|⟨rfl,HR⟩
  ·have hE:=HE.out;have T:=ad.ext hE;have ab:∀j v,(#[iV (x.blk.num:Int),iV (x.blk.start:Int),iV (x.blk.eZ:Int),.slice A x.blk.data.length cc,iV (x.buf:Int)]:AV)[j]?=bc v→wr.cell? ⟨b,0+0*5+j,a8⟩=bc v:=λj v hj=>by rw[T.cell,←hj];simp
   go_upto_region 5 with(fail)
   refine KU 3 ?_;refine ed.gT (i:=0) 5 113 109 _ _ rfl bp zR zO (ee rfl) (mf 24 rfl zR) (mf 26 rfl zR) ?_;refine ed.loadAt 109 _ rfl (ee rfl) (od 0 28 0 rfl) bb rfl zR T.lt ab (Ext.rf _) ?_;refine ed.alloc (z:=.agg #[iV 0,iV 0,iV 0,nS,iV 0]) 109 rfl (ee rfl) zR zR (.g ?_);intro W5 U;refine .any λam O=>?_;refine .e ?_;obtain⟨g5,rfl,hg,Y,-⟩:=O;refine eK rfl _ _ _ rfl rfl g5 _ rfl rfl _ _ Y zR rfl rfl ?_;intro V5 ak _ hX;have U:=hX _ U hg;clear hX Y hg;clear ab;go_upto_region 6 with(fail)
   refine fK 4 [] zR zK (λ_ _ _ _ _ h=>h) (.g ?_);refine ed.eU 109 _ rfl (ee rfl) (mf 6 rfl zR) bb rfl zR ak (eh _) (.g ?_);intro W6 d;have d:=((hE.tr U).tr (eh _)).tr d;have hq:=(mU.keeps (i:=i) (om.keeps i)).ext H.out d;have aa:=(om.keeps i x _).ext HX.out d;clear T ad;go_wp2_with fail;refine(JA hi hq hl x _ _ _ _ _ aa).mono ?_;rintro _ w7 ⟨⟨v,rfl⟩,t7,h7,ae⟩;have HR:=hide (show∃J,iD i g room (s.put x) w7 J∧Turn i w t w7 J from⟨t7,h7,(Turn.ext i t d).tr ae⟩);clear hq aa h7 ae d hE HE H HX hl;go_wp2_with fail;simp_all[intOf]
  ·go_wp2_with fail;go_ret;exact⟨⟨_,rfl⟩,HR.out⟩
end
end
section
variable {i g room:Nat} {s:Ff Pc} {w:bm} {t:ez}
theorem Fl(hi:i≠0)(h:iD i g room s w t)(x:Pc)(l:List Pc)(hs:s.items=x::l) :
  bj bn 197 #[gP g] w λe w'=>∃cs:List bC,e=.returned (.tuple #[.agg cs.toArray,.bool bG])∧cs.length=5∧∃J,iD i g room s.drop1 w' J∧Turn i w t w' J∧om x cs w' J:=by
 have hX:=ek w (.cells #[iV 0,iV 0,iV 0,nS,iV 0] 109);have Y:∀k,k<w.heap.size→t.up w.heap.size (i+1) k=t k:=λk hk=>ez.fB hk;have hq:=(mU.keeps (i:=i) (om.keeps i)).ext' h hX Y;have af:=Turn.up i t (i+1) hX;have ab:t.up w.heap.size (i+1) w.heap.size=i+1:=ez.fJ (ba _);have ad:=Box.new w 109 #[iV 0,iV 0,iV 0,nS,iV 0];have d:=hide (Mu hi hq x l hs);have ak:(w.alloc (.cells #[iV 0,iV 0,iV 0,nS,iV 0] 109)).cell? ⟨g,2,a8⟩=bc (iV (s.items.length:Int)):=by
  obtain⟨gp,first,an,hb,-,-⟩:=hq;exact hb.2.at_ 2 rfl
 have aj:((s.items.length:Int)==0)=false:=zG;clear h hq hs Y;generalize t.up w.heap.size (i+1)=t1 at*;generalize s.items.length=n at*;go_enter func197,ntmps197;go_wp2_with fail;refine d.out.mono ?_;rintro _ w2 ⟨cs,rfl,hl,t2,h2,T,ag⟩;obtain⟨aa,H⟩:=(eG.keeps (i+1) _ _ _).turn zO hi ⟨ab,ad⟩ T;have h1:=ag.one;have O:=Turn.setRow (w:=w2) (t:=t2) aa cs.toArray;have h3:=(mU.keeps (i:=i) (om.keeps i)).turn zO zO h2 O;have ah:=(om.keeps i x _).turn zO zO ag O;have al:=H.gR (cs:=cs.toArray);have ae:=(af.tr T).fresh (ba _) cs.toArray;have HF:=hide (show∃U:List bC,Ending.returned (.tuple #[.agg cs.toArray,.bool bG])=.returned (.tuple #[.agg U.toArray,.bool bG])∧U.length=5∧∃J,iD i g room s.drop1 (w2.setRow w.heap.size cs.toArray) J∧Turn i w t (w2.setRow w.heap.size cs.toArray) J∧om x U (w2.setRow w.heap.size cs.toArray) J from⟨cs,rfl,hl,t2,h3,ae,ah⟩);have am:cs.toArray.all (·.oneCell')=true:=zG;have ai:cs.toArray.size=5:=zO;have E:(prog.info? 109).map (·.size)=bc cs.toArray.size:=by rw[ai];rfl
 clear af T O h3 ah ae aa ab d ad hX h2 ak aj;go_wp2_with(refine eW rfl _ _ _ rfl w.heap.size 0 cs.toArray rfl rfl 109 _ H E (by simp_all) am cs.toArray zG ?_)
 exact bf (gI results197 _ _ w.heap.size 109 cs.toArray _ rfl al bb rfl E rfl) rfl HF.out
end
section
section
variable {i g room:Nat} {s:Ff Pc} {w:bm} {t:ez}
theorem JD(i:Nat)(t:ez)(hl:1≤room)(hh:room≤16):bj bn 84 #[iV room] w λe U=>∃g,e=.returned (.tuple #[gP g,iV 0])∧Ext w U∧w.heap.size≤g∧iD i g room ⟨[],bJ⟩ U (t.up w.heap.size i):=by
 obtain⟨Y,H,E,d,O⟩:=bV Tryz.Fh;have aa:∀w:bm,(Instr.makeSlice 113 (iV room) (iV room)).run bn w=.ok (.slice (bc ⟨w.heap.size,0,a8⟩) room room) (w.alloc (.cells (madeCells #[iV 0,iV 0,iV 0,nS,iV 0] (room*5)) 109)):=λw=>by
  have h:=run_make (P:=bn) w 113 109 Y _ bp H E .i64 .i64 room room zO (Int.le_refl _) zG zO;rw[d]at h;simp only[Int.toNat_natCast]at h;exact h
 have h1:¬(room:Int)<1:=zO;have h2:¬(16:Int)<room:=zO;clear E d O H;go_enter func84,ntmps84;go_wp2;have T:=(Box.new w 109 (madeCells #[iV 0,iV 0,iV 0,nS,iV 0] (room*5))).alloc (.cells #[.slice (bc ⟨w.heap.size,0,a8⟩) room room,iV 0,iV 0,.bool bJ] 211);have J:=Box.new (w.alloc (.cells (madeCells #[iV 0,iV 0,iV 0,nS,iV 0] (room*5)) 109)) 211 #[.slice (bc ⟨w.heap.size,0,a8⟩) room room,iV 0,iV 0,.bool bJ];rw[bd]at J;exact bf (bO results84 _ _ _) rfl ⟨w.heap.size+1,rfl,(ek _ _).tr (ek _ _),by omega,w.heap.size,0,_,⟨ez.fJ zO,J⟩,⟨ez.fJ (ba _),T⟩,lJ.made hl hh rfl zD (by simp;decide)⟩
attribute [local irreducible] ew ed in
theorem Fm(h:iD i g room s w t)(hs:s.items=[]) :
  bj bn 197 #[gP g] w (eB w (eR [eC (.agg #[iV 0,iV 0,iV 0,nS,iV 0]),eC (.bool bJ)])):=by
 have T:=ek w (.cells #[iV 0,iV 0,iV 0,nS,iV 0] 109);have d:=Box.new w 109 #[iV 0,iV 0,iV 0,nS,iV 0];have H:(w.alloc (.cells #[iV 0,iV 0,iV 0,nS,iV 0] 109)).cell? ⟨g,2,a8⟩=bc (iV 0):=by
  obtain⟨gp,first,U,Y,-,-⟩:=h;have:=(Y.2.ext T).at_ 2 rfl;grind
 clear h hs;go_enter func197,ntmps197;go_upto_region 2 with(fail)
 generalize w.alloc (.cells #[iV 0,iV 0,iV 0,nS,iV 0] 109)=w1 at*;refine KU 1 ?_;refine ed.eU 109 _ rfl wA oA bb rfl zR d (Ext.rf _) (.g ?_);intro W2 E;have d:=d.ext E;have J:=d.gR (cs:=#[iV 0,iV 0,iV 0,nS,iV 0]);have O:=below_setRow (T.tr E) (ba _) #[iV 0,iV 0,iV 0,nS,iV 0];clear H T;go_wp2_with(refine eW rfl _ _ _ rfl w.heap.size 0 #[iV 0,iV 0,iV 0,nS,iV 0] rfl rfl 109 _ d zR zD zK #[iV 0,iV 0,iV 0,nS,iV 0] rfl ?_)
 exact bf (gI results197 _ _ w.heap.size 109 _ _ rfl J bb rfl zR rfl) rfl (eB.mk O (eR.two rfl rfl))
end
end
section
attribute [local go_sem] bD
attribute [local irreducible] ew ed in
theorem JE(gf:Nat)(lb:AV)(eg:∀O w,(callFunc gf O).run bn w=.ok (.enter gf O) w)(xs:List Js)(w0 w:bm)(hq:Quiet gf lb (λx:Js=>#[bN #[iV x.num,iV x.start,iV x.eZ,.slice x.tz x.len x.cap,iV x.buf]]) xs w0)(hE:Ext w0 w)(hlen:xs.length≤100000) :
  bj bn 155 #[nS,.func (.func gf) #[] lb] w (eY w λv w'=>w'.ownsRow w.heap.size 109 5 v xs.length (xs.flatMap λx=>[iV x.num,iV x.start,iV x.eZ,.slice x.tz x.len x.cap,iV x.buf])):=by
 obtain⟨i0,hi,am,al,ak⟩:=bV Tryz.Fh;have hX:=ek w (.cells #[nS] 113);have ah:=Box.new w 113 #[nS];refine(callsIn_wide (n:=9)).1 ?_;have h1:1≤9:=zO;refine callsIn_of_wp_marks func155 rfl trivial ?_ rfl;simp only[ntmps155,bu,bA,bE,bK,bL,bq,br,bw,bs,bF,bB];gi_wp2;obtain⟨W0,aj⟩:∃W0,w.alloc (.cells #[nS] 113)=W0:=⟨_,rfl⟩
 rw[aj]at hX ah ⊢;have aw:w.heap.size+1≤W0.heap.size:=by rw[←aj];simp
 have av:=hE.size;refine mD (F:=Fence.wide) rfl h1 (gf:=gf) (lb:=lb) rfl trivial eg (hq.ext (hE.tr hX)) (λa b=>bQ a b)
  (λW l o' hl=>fx (bW _ _) zO o')
  (λW W' k ar hk ao=>ar.block k ao) (λs W l o' hl hT=>trivial) (λ_=>rfl)
  (lH w W0.heap.size 113 109 5 (λx:Js=>[iV x.num,iV x.start,iV x.eZ,.slice x.tz x.len x.cap,iV x.buf])) (λ_ _ _=>False) (lH.own zO) (λ_ _ _ _ _ h _ _=>h.elim) (λ_ _ _ h k=>lH.ext h k)
  ⟨_,ah,World.ownsRow_nil _ _ _ _,hX,ba _⟩ (λ_ _ _ h k=>lH.ext h k) (λW W' h k=>h.mono zO) (λx W a W'=>W'=W.alloc (.cells #[iV x.num,iV x.start,iV x.eZ,.slice x.tz x.len x.cap,iV x.buf] 109)∧a={ tmps:=#[nS,.func (.func gf) #[] lb,gP w.heap.size,bR,nS,gP W.heap.size,.func (.func gf) #[] lb,.agg #[iV x.num,iV x.start,iV x.eZ,.slice x.tz x.len x.cap,iV x.buf],bR,bR,bR,bR,bR],defers:=[] }) (λx W a W' h=>by grind[ek]) ?assign ?body ?done ?stop
 case assign=>
  intro l x W K hK;gi_wp2;all_goals exact hK _ _ ⟨rfl,rfl⟩
 case body=>
  rintro l s x W W' _ o ⟨aq,rfl⟩ ⟨sv,U,E,hB,ab⟩ ay hl hW ad;obtain⟨B1,c1,rfl⟩:=eI E;subst aq;have ap:Box ((W.alloc (.cells #[iV x.num,iV x.start,iV x.eZ,.slice x.tz x.len x.cap,iV x.buf] 109)).putObj l o) W.heap.size 109 #[iV x.num,iV x.start,iV x.eZ,.slice x.tz x.len x.cap,iV x.buf]:=by
   obtain⟨o',ae,ag⟩:=ad;refine(World.putObj_heap_other (λe=>?_)).trans (Box.new W 109 #[iV x.num,iV x.start,iV x.eZ,.slice x.tz x.len x.cap,iV x.buf]);rw[←e,show(W.alloc _).heap[W.heap.size]?=_ from Box.new W 109 #[iV x.num,iV x.start,iV x.eZ,.slice x.tz x.len x.cap,iV x.buf]]at ae;cases ae;cases ag
  generalize hV:(W.alloc (.cells #[iV x.num,iV x.start,iV x.eZ,.slice x.tz x.len x.cap,iV x.buf] 109)).putObj l o=V at*
  gi_upto_region 3 with(fail)
  refine qc (gJ l) (λ⟨_,_,h⟩=>h.elim) zR 2 zK (.g ?_);refine ed.gG 113 _ rfl wA oA (λ_=>by rfl) (U.at_ 0 rfl) (Ext.rf _) ?_;refine ed.eU 109 _ rfl wA oA bb rfl zR ap (Ext.rf _) (.g ?_);intro W3 H;have U:=U.ext H;have Y:Ext V W3:=H;have E:=fy E H;have ab:W0.heap.size≤W3.heap.size:=bz ab H.size;generalize W3=VV at*;have aa:Ext VV (VV.alloc (.cells #[iV x.num,iV x.start,iV x.eZ,.slice x.tz x.len x.cap,iV x.buf] 109)):=ek _ _;have HO:=hide (fy E aa);have Hb:=hide (U.ext aa);have af:=fk E;have az:s.length+1≤xs.length:=zG;clear U E ad hV;go_wp2_with(at_builtin;apply eJ rfl _ _ 113 rfl W0.heap.size 109 i0 (.agg #[iV 0,iV 0,iV 0,nS,iV 0]) 5 56 bp hi am al ak rfl zO (.slice B1 s.length c1) (.slice (bc ⟨VV.heap.size,0,a8⟩) 1 1) s.length 1 (s.flatMap λx=>[iV x.num,iV x.start,iV x.eZ,.slice x.tz x.len x.cap,iV x.buf]) [iV x.num,iV x.start,iV x.eZ,.slice x.tz x.len x.cap,iV x.buf])
  case hv=>rfl
  case V=>exact HO.out
  case hl=>rfl
  case hu=>rfl
  case hx=>exact Src.new _ _ _ _
  case h1=>exact(λy hy=>by simp at hy;rcases hy with rfl|rfl|rfl|rfl|rfl<;>rfl)
  case W=>omega
  case I=>simp;omega
  case h=>
   intro v' w' J d aC;obtain⟨A4,c4,an⟩:=eI J;subst an;have T:=Hb.out.grows d (λe=>absurd (af _ e) zO);have ag:=T.at_ 0 rfl;have aA:=T.frozen 0;go_wp2;have au:bt (.slice A4 (s.length+1) c4)≠bc w.heap.size:=λe=>absurd (fk J _ e) zO;have ai:∀k,bt (.slice B1 s.length c1)=bc k→w.heap.size≤k:=λk hk=>bz zO (af k hk);refine⟨(((KeepsOthers.of_grownBy (gZ Y) (λj o e _=>by cases e)).trans (KeepsOthers.alloc VV _)).trans ((KeepsOthers.of_grownBy d (qn HO.out)).trans (KeepsOthers.setCell _ _ _))).from _,Below.setCell (p:=⟨w.heap.size,0,a8⟩) (((Y.tr aa).mono zO).grown d (by rw[bd];omega) (λk hk=>bz zO (ai k hk))) zO _,?_⟩;refine⟨_,T.eL 0 _,?_,((jB (hB.tr Y) d ai).setCell (p:=⟨w.heap.size,0,a8⟩) (ba _) _),?_⟩
   ·grind[List.length_append,iX]
   ·have:=d.size;grind[bd,World.setCell,bM]
 case done=>
  rintro D ys W hD rfl-⟨sv,U,E,hB,ab⟩ hK;obtain⟨B1,c1,rfl⟩:=eI E;have aB:=U.at_ 0 rfl;gi_wp2;refine⟨by simp,.inl ⟨_,_,rfl,run_takeDeferred hK,?_⟩⟩;refine⟨.slice B1 ys.length c1,by simp[results,results155],?_⟩;exact eY.mk (hB.trans (fx (bW _ _) zO _)) (iY (rE E (grownBy_putObj' W D _) (λr e=>by cases e;exact⟨_,hK,rfl⟩)) zO)
 grind
theorem JF(gf:Nat)(lb:AV)(O:∀d w,(callFunc gf d).run bn w=.ok (.enter gf d) w)(xs:List Js)(w0 w:bm)(E:Quiet gf lb (λx:Js=>#[bN #[iV x.num,iV x.start,iV x.eZ,.slice x.tz x.len x.cap,iV x.buf]]) xs w0)(J:Ext w0 w)(hlen:xs.length≤100000) :
  bj bn 96 #[.func (.func gf) #[] lb] w (eY w λv T=>T.ownsRow w.heap.size 109 5 v xs.length (xs.flatMap λx=>[iV x.num,iV x.start,iV x.eZ,.slice x.tz x.len x.cap,iV x.buf])):=by
 have H:=hide (JE gf lb O xs w0 w E J hlen);clear E J O;go_enter func96,ntmps96;go_wp2_with fail;refine H.out.mono ?_;rintro _ Y ⟨v,rfl,s,U⟩;clear H;go_wp2;go_ret;exact eY.mk s U
end
section
attribute [local go_sem] bD
attribute [local irreducible] ew ed in
theorem Mv(g gp bx first d N:Nat)(xs:List Js)(cl:bC)(cells:AV)(w0:bm)(_:w0.heap.size=N)
  (hb:Box w0 g 211 #[.slice (bc ⟨gp,0,a8⟩) d d,iV first,iV (xs.length:Int),cl])(ar:Box w0 gp 109 cells)(_:cells.size=d*5)(af:1≤d)(aC:d≤16)(hf:first<d)(aB:xs.length≤d)
  (s:∀k (hk:k<xs.length) o,o<5→cells[((first+k)%d)*5+o]?=((λx:Js=>([iV x.num,iV x.start,iV x.eZ,.slice x.tz x.len x.cap,iV x.buf]:List bC)) xs[k])[o]?)
  (ah:Box w0 bx 281 #[gP g]) :
  Quiet 156 #[gP bx] (λx:Js=>#[bN #[iV x.num,iV x.start,iV x.eZ,.slice x.tz x.len x.cap,iV x.buf]]) xs w0:=by
 intro l J Jx W hE hJ hY h0;have ay:prog.follows .mixedOrders=true:=by rfl
 have E:=hide hE;have gV:=hide s;clear hE s;refine callsIn_of_wp func156 rfl trivial ?_ rfl;simp only[ntmps156,bu,bA,bE,bK,bL,bq,br,bw,bs,bF,bB];have ap:=(hb.ext E.out).at_ 2 rfl;have U:=(ah.ext E.out).at_ 0 rfl;gi_wp2;clear ap U
 gi_loopw [8] (λv wr=>∃(x:Nat),x≤xs.length∧v=iV x∧Hid (J (xs.take x) wr)∧Hid (Ext w0 wr))
  (λv _=>xs.length-(intOf v).toNat)
 case atStart=>exact⟨0,bI _,rfl,h0,E⟩
 case round=>
  clear E h0;obtain⟨x,aA,rfl,HJ,E⟩:=hrel;have hd:=(ah.ext E.out).at_ 0 rfl;by_cases am:x<xs.length
  ·have ae:(x:Int)<(xs.length:Int):=zO;have aq:=(hb.ext E.out).at_ 0 rfl;have U:=(hb.ext E.out).at_ 1 rfl;have Y:=ar.ext E.out;have hm:(first+x)%d<d:=bS _ af;have ad:xs.take x++[xs[x]]=xs.take (x+1):=by simp_all
   have O:xs.take x++[xs[x]]<+:xs:=zG;have HY:=hide (λW (au:J (xs.take x) W)=>hY _ _ W au O);have H:=gV.out x am;have PG:=hide ad;clear O ad;generalize xs[x]=y at*;have H:∀j v,(#[iV y.num,iV y.start,iV y.eZ,.slice y.tz y.len y.cap,iV y.buf]:AV)[j]?=bc v→wr.cell? ⟨gp,0+(first+x)%d*5+j,a8⟩=bc v:=λj v hj=>by
    have an:j<5:=(bl.1 hj).1;rw[Y.cell,bg,H j an,←hj];simp
   have e1:=hide (show((first:Int)+(x:Int))=((first+x:Nat):Int) by omega)
   gi_upto_region 3 with(fail)
   refine ml fe zR 19 zR zK (.g ?_);refine ed.ko _ _ _ _ rfl wA oA oA zO ?_;refine ed.kD e1.out (.g ?_);refine ed.ue (c:=(first+x)%d) _ _ _ _ rfl af zO rfl wA oA oA ?_;refine ed.gT (i:=(first+x)%d) 5 113 109 _ _ rfl bp zR hm wA oA oA ?_;refine ed.loadAt 109 _ rfl wA oA bb rfl zR Y.lt H (eh _) (.g ?_);refine .n0 ⟨rfl,λW3 aj=>?_⟩;iterate 19 refine iC.eq ?_
   refine iC.nil ?_;simp only[Act.put,bH,List.set_cons_zero,List.set_cons_succ];have aa:=(eh wr).tr aj;have ss:=hide (hJ _ _ _ HJ.out aa);have mS:=hide (E.out.tr aa);obtain⟨fn,aw,ak,az,hy,hR⟩:=HY.out W3 ss.out;clear HJ E HY H hd aq U Y aj aa e1 hm;gi_wp2;refine hR.mono ?_;rintro e W4 ⟨ag,(⟨rfl,ab⟩|⟨rfl,ai⟩)⟩
   ·have aD:Hid (Ext w0 W4):=by show Ext w0 W4;exact bQ mS.out ag
    rw[PG.out]at ab;have uc:=hide ab;clear ag hy hR ab mS ss;gi_wp2
    go_roundw
    case rel=>grind
    case measure=>grind[intOf]
   ·have uc:=hide ai;gi_wp2;refine bf (results_none results156 _ _ _) rfl ⟨⟨_,rfl⟩,.inr ⟨_,?_,trivial,uc.out⟩⟩;rw[PG.out];grind
  ·have ae:¬(x:Int)<(xs.length:Int):=zO;have T:xs.take x=xs:=bP zO;have av:=HJ.out;rw[T]at av;clear T hd;gi_wp2
   go_end0
   grind
theorem Mw(g:Nat)(w:bm):bj bn 97 #[gP g] w λe d=>e=.returned (.func (.func 156) #[] #[gP w.heap.size])∧d=w.alloc (.cells #[gP g] 281):=by
 go_enter func97,ntmps97;go_wp2;go_ret;simp_all
theorem lJ.Xk{s first:Nat}{d:List Pc}{cells:AV}{w:bm}{t:ez}(h:lJ om 5 s first d cells w t):∃E:List Js,E.map (·.num)=d.map (λp=>(p.blk.num:Int))∧∀k (J:k<E.length) o,o<5→cells[((first+k)%s)*5+o]?=((λx:Js=>([iV x.num,iV x.start,iV x.eZ,.slice x.tz x.len x.cap,iV x.buf]:List bC)) E[k])[o]?:=by
 have J:∀k,∃y:Js,∀h:k<d.length,y.num=(d[k].blk.num:Int)∧∀o,o<5→cells[((first+k)%s)*5+o]?=([iV y.num,iV y.start,iV y.eZ,.slice y.tz y.len y.cap,iV y.buf]:List bC)[o]?:=λk=>by
  by_cases H:k<d.length
  ·obtain⟨cs,-,U,T⟩:=h.it k H;obtain⟨v,rfl,O⟩:=U;obtain⟨A,c,rfl,-⟩:=eu.form O.1;exact⟨⟨_,_,_,_,_,_,_⟩,λ_=>⟨rfl,T⟩⟩
  ·exact⟨⟨0,0,0,a8,0,0,0⟩,λh=>absurd h H⟩
 refine⟨(List.range d.length).map λk=>Classical.choose (J k),?_,λk h o Y=>?_⟩
 ·apply List.ext_getElem
  ·simp
  grind
 grind
section
variable {i g room:Nat} {s:Ff Pc} {w:bm} {t:ez}
theorem JG(h:iD i g room s w t):bj bn 51 #[gP g] w (eY w λv w'=>∃H:List Js,H.map (·.num)=s.items.map (λp=>(p.blk.num:Int))∧w'.ownsRow w.heap.size 109 5 v H.length (H.flatMap λx=>[iV x.num,iV x.start,iV x.eZ,.slice x.tz x.len x.cap,iV x.buf])):=by
 obtain⟨gp,first,Y,hb,ad,O⟩:=h;obtain⟨H,aa,E⟩:=O.Xk;have J:s.items.length=H.length:=by grind[List.length_map]
 have hX:=ek w (.cells #[gP g] 281);have ab:=Box.new w 281 #[gP g];have T:=O.len;have ae:=O.hi;have U:=hb.2.ext hX;rw[J]at U T;have hq:=Mv g gp w.heap.size first room _ H (.bool s.closed) Y _ rfl U (ad.2.ext hX) O.ud O.lo O.hi O.fst T E ab
 have d:=hide (JF 156 _ (enters_of func156 zR rfl) H _ _ hq (Ext.rf _) zO);have Uq:=hide aa;clear hq ab U E J T ae O hb ad aa;go_enter func51,ntmps51;go_wp2_with(go_at_call 97;refine(Mw _ _).mono ?_;rintro _ _ ⟨rfl,rfl⟩)
 refine d.out.mono ?_;rintro _ w2 ⟨v,rfl,af,ho⟩;clear d;go_wp2;go_ret;exact eY.mk (hX.tr af) ⟨H,Uq.out,iY ho zS⟩
end
end
section
section
attribute [local irreducible] ew ed
section
variable {i g room:Nat} {s:Ff (Int×Int)} {w:bm} {t:ez}
abbrev im(i g room:Nat)(s:Ff (Int×Int)):bm→ez→Prop:=mU oT 202 50 2 i g room s
theorem zp(h:im i g room s w t):bj bn 257 #[gP g] w (eB w (eC (iV ((room-s.items.length:Nat):Int)))):=by
 obtain⟨gp,first,J,E,_,d⟩:=h;have O:=d.len;have U:=d.hi;have aa:=E.2.at_ 0 rfl;have Y:=E.2.at_ 2 rfl;have T:((room:Int)-(s.items.length:Int))=((room-s.items.length:Nat):Int):=zO;have H1:=hide T;clear E d T;go_enter func257,ntmps257;go_upto_region 1 with(fail)
 refine vQ 10 (.g ?_);refine ed.kC _ _ _ _ rfl wA oA oA zO ?_;refine ed.kD H1.out (.g ?_);intro W1 H;go_wp2;go_ret;exact eB.mk ((eh _).tr H) rfl
theorem JH(hi:i≠0)(h:im i g room s w t)(hl:s.items.length<room)(x:(Int×Int))(O J:bC)(hx:oT x [O,J] w t) :
  bj bn 258 #[gP g,.agg #[O,J]] w λe w'=>(∃v,e=.returned v)∧∃t',im i g room (s.put x) w' t'∧Turn i w t w' t':=by
 obtain⟨gp,first,d,hb,af,hc⟩:=h;have h1:=hx.one;have ae:g≠gp:=hb.ne af zD;have ar:=hc.hi;have ad:=hc.lo;have ao:=hc.fst;have hX:=ek w (.cells #[O,J] 50);have aj:=Box.new w 50 #[O,J];have E:=eG.keeps _ _ _ _ |>.ext hb hX
 have H:=eG.keeps _ _ _ _ |>.ext af hX
 have U:=(lJ.keeps (i:=i) (oT.keeps i)).ext hc hX;have T:=(oT.keeps i x _).ext hx hX;have am:=Turn.ext i t hX;have hm:(first+s.items.length)%room<room:=bS _ ad;have ag:0+((first+s.items.length)%room)*2+5*0+2≤d.size:=by rw[hc.ud];omega
 have e1:=hide (show((first:Int)+(s.items.length:Int))=((first+s.items.length:Nat):Int) by omega);clear hb af hc hx;go_enter func258,ntmps258;go_upto_region 1 with(fail)
 generalize w.alloc (.cells #[O,J] 50)=w1 at*;have aq:=E.2.at_ 0 rfl;have ap:=E.2.at_ 1 rfl;have ai:=E.2.at_ 2 rfl;refine vQ 21 (.g ?_);refine ed.ko _ _ _ _ rfl wA oA oA zO ?_;refine ed.kD e1.out (.g ?_);refine ed.ue (c:=(first+s.items.length)%room) _ _ _ _ rfl ad zO rfl wA oA oA ?_;refine ed.eU 50 _ rfl wA oA bh rfl zR aj (eh _) ?_;refine ed.gT (i:=(first+s.items.length)%room) 2 38 50 _ _ rfl bo zR hm wA oA oA (.g ?_);intro W1 an;have hE:=(eh _).tr an;have E:=eG.keeps _ _ _ _ |>.ext E hE
 have H:=eG.keeps _ _ _ _ |>.ext H hE
 have U:=(lJ.keeps (i:=i) (oT.keeps i)).ext U hE;have T:=(oT.keeps i x _).ext T hE;have hT:=am.tr (Turn.ext i t hE);refine eW rfl _ _ _ rfl gp (0+(first+s.items.length)%room*2) #[O,J] rfl rfl 50 d H.2 zR zO zG (l8 d ((first+s.items.length)%room*2) [O,J]) (by rw[bg];rfl) ?_;have al:=hT.tr (Turn.setRow H.1 (l8 d ((first+s.items.length)%room*2) [O,J]));have ah:=(lJ.keeps (i:=i+1) (oT.keeps (i+1))).turn zO hi (U.push hl x [O,J] rfl T h1) (Turn.setRow H.1 (l8 d ((first+s.items.length)%room*2) [O,J]));have E:eG i g _ _ (W1.setRow gp (l8 d ((first+s.items.length)%room*2) [O,J])) t:=⟨E.1,E.2.jo ae _⟩
 have H:eG i gp _ _ (W1.setRow gp (l8 d ((first+s.items.length)%room*2) [O,J])) t:=⟨H.1,H.2.gR⟩
 clear aq ap ai U T hT am hE hX aj an e1 ag hm;generalize W1.setRow gp (l8 d ((first+s.items.length)%room*2) [O,J])=W2 at*;generalize l8 d ((first+s.items.length)%room*2) [O,J]=Y at*;have ai:=E.2.at_ 2 rfl;have au:=E.2.frozen 2;have hN:=E.eL 2 (iV ((s.items.length:Int)+1));have ab:eG i gp _ _ (W2.setCell ⟨g,2,a8⟩ (iV ((s.items.length:Int)+1))) t:=⟨H.1,H.2.far (p:=⟨g,2,a8⟩) (λe=>ae e.symm) _⟩
 have aa:=(lJ.keeps (i:=i+1) (oT.keeps (i+1))).turn zO hi ah (Turn.set (w:=W2) E.1 2 (iV ((s.items.length:Int)+1)));have ak:=al.tr (Turn.set E.1 2 (iV ((s.items.length:Int)+1)));have kJ:=hide (show∃t',im i g room (s.put x) (W2.setCell ⟨g,2,a8⟩ (iV ((s.items.length:Int)+1))) t'∧Turn i w t (W2.setCell ⟨g,2,a8⟩ (iV ((s.items.length:Int)+1))) t' from
  ⟨t,⟨gp,first,Y,by
   have e:((s.put x).items.length:Int)=(s.items.length:Int)+1:=by show(((s.items++[x]).length:Nat):Int)=_;simp
   rw[e];exact hN,ab,aa⟩,ak⟩)
 clear hN ab aa ak al ah E H h1 ad ao ae;go_wp2
 go_end0
 exact⟨⟨_,rfl⟩,kJ.out⟩
theorem Mx(hi:i≠0)(h:im i g room s w t)(x:(Int×Int))(l:List (Int×Int))(hs:s.items=x::l) :
  bj bn 261 #[gP g] w λe w'=>∃cs:List bC,e=.returned (.agg cs.toArray)∧cs.length=2∧∃t',im i g room s.drop1 w' t'∧Turn i w t w' t'∧oT x cs w' t':=by
 obtain⟨gp,first,E,hb,ap,hc⟩:=h;obtain⟨cs,a4,ar,ag⟩:=hc.PF hs;have an:g≠gp:=hb.ne ap zD;have a1:=ap.lt;have av:=hb.lt;have aZ:=hc.hi;have aL:=hc.lo;have ao:=hc.fst;have aX:=hc.len;have aK:0<s.items.length:=by rw[hs];simp
 have aP:0+first*2+2≤E.size:=by rw[hc.ud];have:=mn (size:=2) ao;omega
 have hX:=(ek w (.cells #[iV 0,iV 0] 50)).tr (ek _ (.cells #[iV 0,iV 0] 50));have ai:=Box.new (w.alloc (.cells #[iV 0,iV 0] 50)) 50 #[iV 0,iV 0];have J:=(Box.new w 50 #[iV 0,iV 0]).alloc (.cells #[iV 0,iV 0] 50);rw[bd]at ai;have ad:∀k,k<w.heap.size→t.up w.heap.size i k=t k:=λk hk=>ez.fB hk;have d:=eG.keeps _ _ _ _ |>.ext' hb hX ad
 have H:=eG.keeps _ _ _ _ |>.ext' ap hX ad
 have ab:=(lJ.keeps (i:=i) (oT.keeps i)).ext' hc hX ad;have aJ:=(oT.keeps i x _).ext' ar hX ad;have aU:=Turn.up i t i hX;have aW:t.up w.heap.size i w.heap.size=i:=ez.fJ (ba _);clear hb ap hc ar hs ad;generalize t.up w.heap.size i=t1 at*;go_enter func261,ntmps261;go_upto_region 2 with(fail)
 generalize(w.alloc (.cells #[iV 0,iV 0] 50)).alloc (.cells #[iV 0,iV 0] 50)=w1 at*;have ah:=d.2.at_ 0 rfl;have Y:=d.2.at_ 1 rfl;have ar:=aJ;clear aJ;obtain rfl:=ar;have aQ:∀j v,(#[iV x.1,iV x.2]:AV)[j]?=bc v→w1.cell? ⟨gp,0+first*2+j,a8⟩=bc v:=λj v hj=>by
  have aY:j<2:=(bl.1 hj).1;rw[H.2.cell,bg,ag j aY,←hj];simp
 clear ag a4;have aA:=H;refine vR 11 ?_;refine ed.gT (i:=first) 2 38 50 _ _ rfl bo zK ao wA oA oA ?_;refine ed.loadAt 50 _ rfl wA oA bh rfl zK H.2.lt aQ (eh _) ?_;refine ed.alloc (z:=.agg #[iV 0,iV 0]) 50 rfl wA zK zK (.g ?_);intro W2 al;refine .any λaV am=>?_;refine .e ?_;obtain⟨g2,rfl,hg,hb,-⟩:=am;refine eK rfl _ _ _ rfl rfl g2 _ rfl rfl _ _ hb zK rfl rfl ?_;intro V2 U _ hX;have al:=hX _ al hg;have aF:=hg;clear hX hb hg;have ai:=ai.drew.ext al;have O:=(eh _).tr al;have d:=eG.keeps _ _ _ _ |>.ext d O
 have H:=eG.keeps _ _ _ _ |>.ext H O
 have J:=J.ext O;have ab:=(lJ.keeps (i:=i) (oT.keeps i)).ext ab O;have aO:g2≠gp:=λe=>by have:=aA.lt;have h3:w1.heap.size≤g2:=aF;omega
 have aM:g2≠g:=λe=>by have:=hX.size;have h3:w1.heap.size≤g2:=aF;have:=av;omega
 have aN:w.heap.size≠gp:=λe=>by have:=a1;omega
 have aj:=aU.tr (Turn.ext i t1 O);clear aQ ah Y al O hX aU aF aA;have ah:=d.2.at_ 0 rfl;have Y:=d.2.at_ 1 rfl;go_upto_region 3 with(fail)
 refine vR 10 ?_;refine ed.eU 50 _ rfl wA oA bh rfl zK ai (eh _) ?_;refine ed.gT (i:=first) 2 38 50 _ _ rfl bo zK ao wA oA oA (.g ?_);intro W3 aH;have U:=U.drew.ext aH;have O:=(eh _).tr aH;have d:=eG.keeps _ _ _ _ |>.ext d O
 have H:=eG.keeps _ _ _ _ |>.ext H O
 have J:=J.ext O;have ab:=(lJ.keeps (i:=i) (oT.keeps i)).ext ab O;have hT:=aj.tr (Turn.ext i t1 O);have aa:w.heap.size≠gp:=aN;refine eW rfl _ _ _ rfl gp (0+first*2) #[iV 0,iV 0] rfl rfl 50 E H.2 zK (by show _+2≤_;omega) zK (l8 E (first*2) [iV 0,iV 0]) (by rw[bg];rfl) ?_;have T:=Turn.setRow (w:=W3) H.1 (l8 E (first*2) [iV 0,iV 0]);have aT:=hT.tr T;have af:=(lJ.keeps (i:=i+1) (oT.keeps (i+1))).turn zO hi (ab.pop [iV 0,iV 0] rfl zD aK) T;have d:eG i g _ _ (W3.setRow gp (l8 E (first*2) [iV 0,iV 0])) t1:=⟨d.1,d.2.jo an _⟩
 have H:eG i gp _ _ (W3.setRow gp (l8 E (first*2) [iV 0,iV 0])) t1:=⟨H.1,H.2.gR⟩
 have U:=U.jo aO (l8 E (first*2) [iV 0,iV 0]);have J:=J.jo aa (l8 E (first*2) [iV 0,iV 0]);clear ah Y ab hT aj O aH ai T aa aN aP;generalize W3.setRow gp (l8 E (first*2) [iV 0,iV 0])=U4 at*;generalize l8 E (first*2) [iV 0,iV 0]=au at*;have ah:=d.2.at_ 0 rfl;have Y:=d.2.at_ 1 rfl;have e1:=hide (show((first:Int)+1)=((first+1:Nat):Int) by omega);go_upto_region 4 with(fail)
 refine vR 14 ?_;refine ed.ko _ _ _ _ rfl wA oA (eE _) zO ?_;refine ed.kD e1.out (.g ?_);refine ed.ue (c:=(first+1)%room) _ _ _ _ rfl aL zO rfl wA oA oA (.g ?_);intro W4 aG;have U:=U.drew.ext aG;have O:=(eh _).tr aG;have d:=eG.keeps _ _ _ _ |>.ext d O
 have H:=eG.keeps _ _ _ _ |>.ext H O
 have J:=J.ext O;have af:=(lJ.keeps (i:=i) (oT.keeps i)).ext af O;have hT:=aT.tr (Turn.ext i t1 O);clear ah Y aT O aG e1;have Y:=d.2.at_ 1 rfl;have a5:=d.2.at_ 2 rfl;have a3:=d.2.frozen 1;have a2:=d.2.frozen 2;have aa:g≠w.heap.size:=λe=>by have:=av;omega
 have ae:g2≠g:=aM;have T:=(Turn.set (w:=W4) d.1 1 (iV (((first+1)%room:Nat):Int))).tr (Turn.set (g:=g) d.1 2 (iV ((s.items.length:Int)-1)));have aB:=(d.eL 1 (iV (((first+1)%room:Nat):Int))).eL 2 (iV ((s.items.length:Int)-1));have az:eG i gp _ _ ((W4.setCell ⟨g,1,a8⟩ (iV (((first+1)%room:Nat):Int))).setCell ⟨g,2,a8⟩ (iV ((s.items.length:Int)-1))) t1:=⟨H.1,(H.2.far (p:=⟨g,1,a8⟩) (λe=>an e.symm) _).far (p:=⟨g,2,a8⟩) (λe=>an e.symm) _⟩
 have aD:=(U.far (p:=⟨g,1,a8⟩) ae (iV (((first+1)%room:Nat):Int))).far (p:=⟨g,2,a8⟩) ae (iV ((s.items.length:Int)-1));have aC:=(J.far (p:=⟨g,1,a8⟩) (λe=>aa e.symm) (iV (((first+1)%room:Nat):Int))).far (p:=⟨g,2,a8⟩) (λe=>aa e.symm) (iV ((s.items.length:Int)-1));have ay:=(lJ.keeps (i:=i+1) (oT.keeps (i+1))).turn zO hi af T;have aj:=hT.tr T;have Hq:=hide aB;have Hr:=hide az;have HB:=hide aD;have Hb:=hide aC;clear d H U J af T hT aB az aD aC aL ao;generalize((first+1)%room:Nat)=fs at*;go_upto_region 6 with(fail)
 generalize(W4.setCell ⟨g,1,a8⟩ (iV fs)).setCell ⟨g,2,a8⟩ (iV ((s.items.length:Int)-1))=W5 at*;have aI:=HB.out;have aR:=Hb.out;clear Y a5 a3 a2 an aZ aX aO aM aa ae af HB Hb;refine KU 1 ?_;refine ed.eU 50 _ rfl wA oA bh rfl zK aI (Ext.rf _) (.g ?_);intro W6 ak;have aI:=aI.ext ak;have aq:=(Turn.ext i t1 ak).tr (Turn.setRow (w:=W6) (t:=t1) aW #[iV x.1,iV x.2]);have aE:=aR.ext ak;refine eW rfl _ _ _ rfl w.heap.size 0 #[iV x.1,iV x.2] rfl rfl 50 _ aE zK (ba _) zK #[iV x.1,iV x.2] rfl ?_;have hq:=eG.keeps _ _ _ _ |>.ext Hq.out ak
 have hr:=eG.keeps _ _ _ _ |>.ext Hr.out ak
 have hq:eG i g _ _ (W6.setRow w.heap.size #[iV x.1,iV x.2]) t1:=⟨hq.1,hq.2.jo zO _⟩
 have hr:eG i gp _ _ (W6.setRow w.heap.size #[iV x.1,iV x.2]) t1:=⟨hr.1,hr.2.jo zO _⟩
 have aw:=(lJ.keeps (i:=i+1) (oT.keeps (i+1))).turn zO hi ay aq;have T:=aq;have a6:Box (W6.setRow w.heap.size #[iV x.1,iV x.2]) w.heap.size _ _:=aE.gR;have aS:=aj.tr aq;have kJ:=hide (show∃t',im i g room s.drop1 (W6.setRow w.heap.size #[iV x.1,iV x.2]) t'∧Turn i w t (W6.setRow w.heap.size #[iV x.1,iV x.2]) t'∧oT x [iV x.1,iV x.2] (W6.setRow w.heap.size #[iV x.1,iV x.2]) t' from
  ⟨t1,⟨gp,fs,au,by
   have e:((s.drop1.items.length:Nat):Int)=(s.items.length:Int)-1:=by show(((s.items.drop 1).length:Nat):Int)=_;rw[List.length_drop];omega
   rw[e];exact hq,hr,aw⟩,aS,rfl⟩)
 clear hq hr aw T aS aq aE aR Hq Hr ay aj;generalize W6.setRow w.heap.size #[iV x.1,iV x.2]=W7 at*;go_wp2;exact bf (qQ results261 _ _ w.heap.size 50 #[iV x.1,iV x.2] _ rfl a6 bh rfl zK) rfl ⟨[iV x.1,iV x.2],rfl,rfl,kJ.out⟩
end
end
end
section
variable {i g room:Nat} {s:Ff (Int×Int)} {w:bm} {t:ez}
theorem zq(h:im i g room s w t):bj bn 46 #[gP g] w (eB w (eC (iV (s.items.length:Int)))):=by
 obtain⟨O,first,d,E,_,J⟩:=h;have H:=E.2.at_ 2 rfl;clear E J;go_enter func46,ntmps46;go_wp2;go_ret;exact eB.mk (Ext.rf _) rfl
theorem sO(h:im i g room s w t):bj bn 50 #[gP g] w (eB w (eC (.bool s.closed))):=by
 obtain⟨O,first,d,E,_,J⟩:=h;have H:=E.2.at_ 3 rfl;clear E J;generalize s.closed=b at*;go_enter func50,ntmps50;cases b<;>(go_wp2;go_ret;exact eB.mk (Ext.rf _) rfl)
theorem Fo(h:im i g room s w t):bj bn 203 #[gP g] w (eB w (eC (iV ((room-s.items.length:Nat):Int)))):=by
 have E:=hide (zp h);clear h;go_enter func203,ntmps203;go_wp2_with fail;refine E.out.mono ?_;rintro _ H ⟨u,rfl,d,rfl⟩;go_wp2;go_ret;exact eB.mk d rfl
theorem C6(_:i≠0)(h:im i g room s w t)(ho:s.closed=bJ):bj bn 256 #[gP g] w λe Y=>(∃v,e=.returned v)∧im i g room s.shut Y t∧Turn i w t Y t:=by
 obtain⟨U,first,d,O,H,hc⟩:=h;have T:g≠U:=O.ne H zD;rw[ho]at O;have ab:=O.2.at_ 3 rfl;have aa:=O.2.frozen 3;have hN:=O.eL 3 (.bool bG);have J:eG i U _ _ (w.setCell ⟨g,3,a8⟩ (.bool bG)) t:=⟨H.1,H.2.far (p:=⟨g,3,a8⟩) (λe=>T e.symm) _⟩
 have kJ:=hide (λ(E:lJ oT 2 room first s.items d (w.setCell ⟨g,3,a8⟩ (.bool bG)) t)=>(show im i g room s.shut (w.setCell ⟨g,3,a8⟩ (.bool bG)) t∧Turn i w t (w.setCell ⟨g,3,a8⟩ (.bool bG)) t from⟨⟨U,first,d,hN,J,E⟩,Turn.set O.1 3 _⟩));have E:lJ oT 2 room first s.items d (w.setCell ⟨g,3,a8⟩ (.bool bG)) t:=hc.mono λ_ _ _ h=>h
 have Hc:=hide E;clear hN J O H hc E ho T;go_enter func256,ntmps256;go_wp2;go_ret;exact⟨⟨_,rfl⟩,kJ.out Hc.out⟩
end
section
section
variable {i g room:Nat} {s:Ff (Int×Int)} {w:bm} {t:ez}
attribute [local irreducible] ew ed in
theorem JI(hi:i≠0)(h:im i g room s w t)(ho:s.closed=bJ)(hl:s.items.length<room)(x:(Int×Int))  (b c:Nat)(ad:Box w b 50 #[iV x.1,iV x.2]) :
  bj bn 204 #[gP g,.slice (bc ⟨b,0,a8⟩) 1 c] w λe w'=>(∃v,e=.returned v)∧∃J,im i g room (s.put x) w' J∧Turn i w t w' J:=by
 have E:=hide (zp h);have hx:oT x [iV x.1,iV x.2] w t:=rfl;have h0:=h;obtain⟨gp,first,ak,Y,ah,hc⟩:=h0;rw[ho]at Y;have ag:=Y.2.at_ 3 rfl;have af:¬((room-s.items.length:Nat):Int)<1:=zO;have H:=hide h;have HX:=hide hx;clear Y ah hc h hx ho;go_enter func204,ntmps204;go_wp2_with fail;refine E.out.mono ?_;rintro _ w2 ⟨u,rfl,ai,rfl⟩;clear E;go_upto_region 4 with(fail)
 clear ag af
 go_loopw [26] (λi' wr=>((i'=iV 0∧Hid (Ext w wr))∨(i'=iV 1∧Hid (∃J,im i g room (s.put x) wr J∧Turn i w t wr J)))) (λi' _=>2-(intOf i').toNat)
 case atStart=>exact .inl ⟨rfl,ai⟩
 case round=>
  rcases hrel with⟨rfl,HE⟩|⟨rfl,HR⟩
  ·have hE:=HE.out;have T:=ad.ext hE;have ab:∀j v,(#[iV x.1,iV x.2]:AV)[j]?=bc v→wr.cell? ⟨b,0+0*2+j,a8⟩=bc v:=λj v hj=>by rw[T.cell,←hj];simp
   go_upto_region 5 with(fail)
   refine KU 3 ?_;refine ed.gT (i:=0) 2 38 50 _ _ rfl bo zR zO (ee rfl) (mf 24 rfl zR) (mf 26 rfl zR) ?_;refine ed.loadAt 50 _ rfl (ee rfl) (od 0 28 0 rfl) bh rfl zR T.lt ab (Ext.rf _) ?_;refine ed.alloc (z:=.agg #[iV 0,iV 0]) 50 rfl (ee rfl) zR zR (.g ?_);intro W5 U;refine .any λal O=>?_;refine .e ?_;obtain⟨g5,rfl,hg,Y,-⟩:=O;refine eK rfl _ _ _ rfl rfl g5 _ rfl rfl _ _ Y zR rfl rfl ?_;intro V5 aj _ hX;have U:=hX _ U hg;clear hX Y hg;clear ab;go_upto_region 6 with(fail)
   refine fK 4 [] zR zK (λ_ _ _ _ _ h=>h) (.g ?_);refine ed.eU 50 _ rfl (ee rfl) (mf 6 rfl zR) bh rfl zR aj (eh _) (.g ?_);intro W6 d;have d:=((hE.tr U).tr (eh _)).tr d;have hq:=(mU.keeps (i:=i) (oT.keeps i)).ext H.out d;have aa:=(oT.keeps i x _).ext HX.out d;clear T ad;go_wp2_with fail;refine(JH hi hq hl x _ _ aa).mono ?_;rintro _ w7 ⟨⟨v,rfl⟩,t7,h7,ae⟩;have HR:=hide (show∃J,im i g room (s.put x) w7 J∧Turn i w t w7 J from⟨t7,h7,(Turn.ext i t d).tr ae⟩);clear hq aa h7 ae d hE HE H HX hl;go_wp2_with fail;simp_all[intOf]
  ·go_wp2_with fail;go_ret;exact⟨⟨_,rfl⟩,HR.out⟩
end
end
section
variable {i g room:Nat} {s:Ff (Int×Int)} {w:bm} {t:ez}
theorem Tryz.QU(w:bm):(zeroValue 50).run bn w=.ok (.agg #[iV 0,iV 0]) w:=by rfl
theorem Tryz.QV:(prog.info? 50).map (λi=>(i.zero,i.size,i.bytes))=bc (bc (.agg #[iV 0,iV 0]),2,16):=by rfl
theorem Fp(hi:i≠0)(h:im i g room s w t)(x:(Int×Int))(l:List (Int×Int))(hs:s.items=x::l) :
  bj bn 208 #[gP g] w λe w'=>∃cs:List bC,e=.returned (.tuple #[.agg cs.toArray,.bool bG])∧cs.length=2∧∃J,im i g room s.drop1 w' J∧Turn i w t w' J∧oT x cs w' J:=by
 have hX:=ek w (.cells #[iV 0,iV 0] 50);have Y:∀k,k<w.heap.size→t.up w.heap.size (i+1) k=t k:=λk hk=>ez.fB hk;have hq:=(mU.keeps (i:=i) (oT.keeps i)).ext' h hX Y;have af:=Turn.up i t (i+1) hX;have ab:t.up w.heap.size (i+1) w.heap.size=i+1:=ez.fJ (ba _);have ad:=Box.new w 50 #[iV 0,iV 0];have d:=hide (Mx hi hq x l hs);have ak:(w.alloc (.cells #[iV 0,iV 0] 50)).cell? ⟨g,2,a8⟩=bc (iV (s.items.length:Int)):=by
  obtain⟨gp,first,an,hb,-,-⟩:=hq;exact hb.2.at_ 2 rfl
 have aj:((s.items.length:Int)==0)=false:=zG;clear h hq hs Y;generalize t.up w.heap.size (i+1)=t1 at*;generalize s.items.length=n at*;go_enter func208,ntmps208;go_wp2_with fail;refine d.out.mono ?_;rintro _ w2 ⟨cs,rfl,hl,t2,h2,T,ag⟩;obtain⟨aa,H⟩:=(eG.keeps (i+1) _ _ _).turn zO hi ⟨ab,ad⟩ T;have h1:=ag.one;have O:=Turn.setRow (w:=w2) (t:=t2) aa cs.toArray;have h3:=(mU.keeps (i:=i) (oT.keeps i)).turn zO zO h2 O;have ah:=(oT.keeps i x _).turn zO zO ag O;have al:=H.gR (cs:=cs.toArray);have ae:=(af.tr T).fresh (ba _) cs.toArray;have HF:=hide (show∃U:List bC,Ending.returned (.tuple #[.agg cs.toArray,.bool bG])=.returned (.tuple #[.agg U.toArray,.bool bG])∧U.length=2∧∃J,im i g room s.drop1 (w2.setRow w.heap.size cs.toArray) J∧Turn i w t (w2.setRow w.heap.size cs.toArray) J∧oT x U (w2.setRow w.heap.size cs.toArray) J from⟨cs,rfl,hl,t2,h3,ae,ah⟩);have am:cs.toArray.all (·.oneCell')=true:=zG;have ai:cs.toArray.size=2:=zO;have E:(prog.info? 50).map (·.size)=bc cs.toArray.size:=by rw[ai];rfl
 clear af T O h3 ah ae aa ab d ad hX h2 ak aj;go_wp2_with(refine eW rfl _ _ _ rfl w.heap.size 0 cs.toArray rfl rfl 50 _ H E zG am cs.toArray zG ?_)
 exact bf (gI results208 _ _ w.heap.size 50 cs.toArray _ rfl al bh rfl E rfl) rfl HF.out
end
section
variable {i g room:Nat} {s:Ff (Int×Int)} {w:bm} {t:ez}
theorem JJ(i:Nat)(t:ez)(hl:1≤room)(hh:room≤16):bj bn 86 #[iV room] w λe U=>∃g,e=.returned (.tuple #[gP g,iV 0])∧Ext w U∧w.heap.size≤g∧im i g room ⟨[],bJ⟩ U (t.up w.heap.size i):=by
 obtain⟨Y,H,E,d,O⟩:=bV Tryz.QV;have aa:∀w:bm,(Instr.makeSlice 38 (iV room) (iV room)).run bn w=.ok (.slice (bc ⟨w.heap.size,0,a8⟩) room room) (w.alloc (.cells (madeCells #[iV 0,iV 0] (room*2)) 50)):=λw=>by
  have h:=run_make (P:=bn) w 38 50 Y _ bo H E .i64 .i64 room room zO (Int.le_refl _) zG zO;rw[d]at h;simp only[Int.toNat_natCast]at h;exact h
 have h1:¬(room:Int)<1:=zO;have h2:¬(16:Int)<room:=zO;clear E d O H;go_enter func86,ntmps86;go_wp2;have T:=(Box.new w 50 (madeCells #[iV 0,iV 0] (room*2))).alloc (.cells #[.slice (bc ⟨w.heap.size,0,a8⟩) room room,iV 0,iV 0,.bool bJ] 202);have J:=Box.new (w.alloc (.cells (madeCells #[iV 0,iV 0] (room*2)) 50)) 202 #[.slice (bc ⟨w.heap.size,0,a8⟩) room room,iV 0,iV 0,.bool bJ];rw[bd]at J;exact bf (bO results86 _ _ _) rfl ⟨w.heap.size+1,rfl,(ek _ _).tr (ek _ _),by omega,w.heap.size,0,_,⟨ez.fJ zO,J⟩,⟨ez.fJ (ba _),T⟩,lJ.made hl hh rfl zD (by simp;decide)⟩
theorem C7(_:i≠0)(h:im i g room s w t):bj bn 209 #[gP g] w λe w'=>e=.returned (iV (s.items.length:Int))∧im i g room s.clear w' t∧Turn i w t w' t:=by
 obtain⟨H,first,ad,O,E,hc⟩:=h;have J:g≠H:=O.ne E zD;have ae:=hc.lo;have aa:=hc.ud;have ak:=O.2.at_ 0 rfl;have aj:=O.2.at_ 2 rfl;have d:=eG.jo O J (madeCells #[iV 0,iV 0] (room*2));have U:eG i H _ _ (w.setRow H (madeCells #[iV 0,iV 0] (room*2))) t:=eG.uE E;have Y:=Turn.setRow (w:=w) E.1 (madeCells #[iV 0,iV 0] (room*2));have T:lJ oT 2 room 0 [] (madeCells #[iV 0,iV 0] (room*2)) (((w.setRow H (madeCells #[iV 0,iV 0] (room*2))).setCell ⟨g,1,a8⟩ (iV 0)).setCell ⟨g,2,a8⟩ (iV 0)) t:=hc.clear rfl zD (by simp;decide);have ai:=d.2.at_ 1 rfl;have ah:=d.2.at_ 2 rfl;have ag:=d.2.frozen 1;have af:=d.2.frozen 2;have HF:=hide (show im i g room s.clear (((w.setRow H (madeCells #[iV 0,iV 0] (room*2))).setCell ⟨g,1,a8⟩ (iV 0)).setCell ⟨g,2,a8⟩ (iV 0)) t∧Turn i w t (((w.setRow H (madeCells #[iV 0,iV 0] (room*2))).setCell ⟨g,1,a8⟩ (iV 0)).setCell ⟨g,2,a8⟩ (iV 0)) t from
  ⟨⟨H,0,_,(d.gU 1 (iV 0) _ rfl).gU 2 (iV 0) _ rfl,(U.pP J.symm 1 _).pP J.symm 2 _,T⟩,(Y.gU O.1 1 _).gU O.1 2 _⟩)
 have ab:=E.2;clear O E hc d U Y T;generalize s.items.length=n at*;go_enter func209,ntmps209;go_wp2_with(refine oc rfl 38 50 _ rfl (.agg #[iV 0,iV 0]) bo Tryz.QU (by simp[Value.cells];decide) zD H room room rfl _ _ zO ab aa ?_)
 go_ret;exact⟨rfl,HF.out⟩
end
section
attribute [local go_sem] bD
attribute [local irreducible] ew ed in
theorem JK(gf:Nat)(lb:AV)(eg:∀O w,(callFunc gf O).run bn w=.ok (.enter gf O) w)(xs:List (Int×Int))(w0 w:bm)(hq:Quiet gf lb (λx:(Int×Int)=>#[bN #[iV x.1,iV x.2]]) xs w0)(hE:Ext w0 w)(hlen:xs.length≤100000) :
  bj bn 222 #[nS,.func (.func gf) #[] lb] w (eY w λv w'=>w'.ownsRow w.heap.size 50 2 v xs.length (xs.flatMap λx=>[iV x.1,iV x.2])):=by
 obtain⟨i0,hi,am,al,ak⟩:=bV Tryz.pN;have hX:=ek w (.cells #[nS] 38);have ah:=Box.new w 38 #[nS];refine(callsIn_wide (n:=9)).1 ?_;have h1:1≤9:=zO;refine callsIn_of_wp_marks func222 rfl trivial ?_ rfl;simp only[ntmps222,bu,bA,bE,bK,bL,bq,br,bw,bs,bF,bB];gi_wp2;obtain⟨W0,aj⟩:∃W0,w.alloc (.cells #[nS] 38)=W0:=⟨_,rfl⟩
 rw[aj]at hX ah ⊢;have aw:w.heap.size+1≤W0.heap.size:=by rw[←aj];simp
 have av:=hE.size;refine mD (F:=Fence.wide) rfl h1 (gf:=gf) (lb:=lb) rfl trivial eg (hq.ext (hE.tr hX)) (λa b=>bQ a b)
  (λW l o' hl=>fx (bW _ _) zO o')
  (λW W' k ar hk ao=>ar.block k ao) (λs W l o' hl hT=>trivial) (λ_=>rfl)
  (lH w W0.heap.size 38 50 2 (λx:(Int×Int)=>[iV x.1,iV x.2])) (λ_ _ _=>False) (lH.own zO) (λ_ _ _ _ _ h _ _=>h.elim) (λ_ _ _ h k=>lH.ext h k)
  ⟨_,ah,World.ownsRow_nil _ _ _ _,hX,ba _⟩ (λ_ _ _ h k=>lH.ext h k) (λW W' h k=>h.mono zO) (λx W a W'=>W'=W.alloc (.cells #[iV x.1,iV x.2] 50)∧a={ tmps:=#[nS,.func (.func gf) #[] lb,gP w.heap.size,bR,nS,gP W.heap.size,.func (.func gf) #[] lb,.agg #[iV x.1,iV x.2],bR,bR,bR,bR,bR],defers:=[] }) (λx W a W' h=>by grind[ek]) ?assign ?body ?done ?stop
 case assign=>
  intro l x W K hK;gi_wp2;all_goals exact hK _ _ ⟨rfl,rfl⟩
 case body=>
  rintro l s x W W' _ o ⟨aq,rfl⟩ ⟨sv,U,E,hB,ab⟩ ay hl hW ad;obtain⟨B1,c1,rfl⟩:=eI E;subst aq;have ap:Box ((W.alloc (.cells #[iV x.1,iV x.2] 50)).putObj l o) W.heap.size 50 #[iV x.1,iV x.2]:=by
   obtain⟨o',ae,ag⟩:=ad;refine(World.putObj_heap_other (λe=>?_)).trans (Box.new W 50 #[iV x.1,iV x.2]);rw[←e,show(W.alloc _).heap[W.heap.size]?=_ from Box.new W 50 #[iV x.1,iV x.2]]at ae;cases ae;cases ag
  generalize hV:(W.alloc (.cells #[iV x.1,iV x.2] 50)).putObj l o=V at*
  gi_upto_region 3 with(fail)
  refine qc (gJ l) (λ⟨_,_,h⟩=>h.elim) zR 2 zK (.g ?_);refine ed.gG 38 _ rfl wA oA (λ_=>by rfl) (U.at_ 0 rfl) (Ext.rf _) ?_;refine ed.eU 50 _ rfl wA oA bh rfl zR ap (Ext.rf _) (.g ?_);intro W3 H;have U:=U.ext H;have Y:Ext V W3:=H;have E:=fy E H;have ab:W0.heap.size≤W3.heap.size:=bz ab H.size;generalize W3=VV at*;have aa:Ext VV (VV.alloc (.cells #[iV x.1,iV x.2] 50)):=ek _ _;have HO:=hide (fy E aa);have Hb:=hide (U.ext aa);have af:=fk E;have az:s.length+1≤xs.length:=zG;clear U E ad hV;go_wp2_with(at_builtin;apply eJ rfl _ _ 38 rfl W0.heap.size 50 i0 (.agg #[iV 0,iV 0]) 2 16 bo hi am al ak rfl zO (.slice B1 s.length c1) (.slice (bc ⟨VV.heap.size,0,a8⟩) 1 1) s.length 1 (s.flatMap λx=>[iV x.1,iV x.2]) [iV x.1,iV x.2])
  case hv=>rfl
  case V=>exact HO.out
  case hl=>rfl
  case hu=>rfl
  case hx=>exact Src.new _ _ _ _
  case h1=>exact(λy hy=>by simp at hy;rcases hy with rfl|rfl<;>rfl)
  case W=>omega
  case I=>simp;omega
  case h=>
   intro v' w' J d aC;obtain⟨A4,c4,an⟩:=eI J;subst an;have T:=Hb.out.grows d (λe=>absurd (af _ e) zO);have ag:=T.at_ 0 rfl;have aA:=T.frozen 0;go_wp2;have au:bt (.slice A4 (s.length+1) c4)≠bc w.heap.size:=λe=>absurd (fk J _ e) zO;have ai:∀k,bt (.slice B1 s.length c1)=bc k→w.heap.size≤k:=λk hk=>bz zO (af k hk);refine⟨(((KeepsOthers.of_grownBy (gZ Y) (λj o e _=>by cases e)).trans (KeepsOthers.alloc VV _)).trans ((KeepsOthers.of_grownBy d (qn HO.out)).trans (KeepsOthers.setCell _ _ _))).from _,Below.setCell (p:=⟨w.heap.size,0,a8⟩) (((Y.tr aa).mono zO).grown d (by rw[bd];omega) (λk hk=>bz zO (ai k hk))) zO _,?_⟩;refine⟨_,T.eL 0 _,?_,((jB (hB.tr Y) d ai).setCell (p:=⟨w.heap.size,0,a8⟩) (ba _) _),?_⟩
   ·grind[List.length_append,iX]
   ·have:=d.size;grind[bd,World.setCell,bM]
 case done=>
  rintro D ys W hD rfl-⟨sv,U,E,hB,ab⟩ hK;obtain⟨B1,c1,rfl⟩:=eI E;have aB:=U.at_ 0 rfl;gi_wp2;refine⟨by simp,.inl ⟨_,_,rfl,run_takeDeferred hK,?_⟩⟩;refine⟨.slice B1 ys.length c1,by simp[results,results222],?_⟩;exact eY.mk (hB.trans (fx (bW _ _) zO _)) (iY (rE E (grownBy_putObj' W D _) (λr e=>by cases e;exact⟨_,hK,rfl⟩)) zO)
 grind
theorem zr(gf:Nat)(lb:AV)(O:∀d w,(callFunc gf d).run bn w=.ok (.enter gf d) w)(xs:List (Int×Int))(w0 w:bm)(E:Quiet gf lb (λx:(Int×Int)=>#[bN #[iV x.1,iV x.2]]) xs w0)(J:Ext w0 w)(hlen:xs.length≤100000) :
  bj bn 167 #[.func (.func gf) #[] lb] w (eY w λv T=>T.ownsRow w.heap.size 50 2 v xs.length (xs.flatMap λx=>[iV x.1,iV x.2])):=by
 have H:=hide (JK gf lb O xs w0 w E J hlen);clear E J O;go_enter func167,ntmps167;go_wp2_with fail;refine H.out.mono ?_;rintro _ Y ⟨v,rfl,s,U⟩;clear H;go_wp2;go_ret;exact eY.mk s U
end
section
attribute [local go_sem] bD
attribute [local irreducible] ew ed in
theorem My(g gp bx first d N:Nat)(xs:List (Int×Int))(cl:bC)(cells:AV)(w0:bm)(_:w0.heap.size=N)
  (hb:Box w0 g 202 #[.slice (bc ⟨gp,0,a8⟩) d d,iV first,iV (xs.length:Int),cl])(ar:Box w0 gp 50 cells)(_:cells.size=d*2)(af:1≤d)(aC:d≤16)(hf:first<d)(aB:xs.length≤d)
  (s:∀k (hk:k<xs.length) o,o<2→cells[((first+k)%d)*2+o]?=((λx:(Int×Int)=>([iV x.1,iV x.2]:List bC)) xs[k])[o]?)
  (ah:Box w0 bx 422 #[gP g]) :
  Quiet 291 #[gP bx] (λx:(Int×Int)=>#[bN #[iV x.1,iV x.2]]) xs w0:=by
 intro l J Jx W hE hJ hY h0;have ay:prog.follows .mixedOrders=true:=by rfl
 have E:=hide hE;have gV:=hide s;clear hE s;refine callsIn_of_wp func291 rfl trivial ?_ rfl;simp only[ntmps291,bu,bA,bE,bK,bL,bq,br,bw,bs,bF,bB];have ap:=(hb.ext E.out).at_ 2 rfl;have U:=(ah.ext E.out).at_ 0 rfl;gi_wp2;clear ap U
 gi_loopw [8] (λv wr=>∃(x:Nat),x≤xs.length∧v=iV x∧Hid (J (xs.take x) wr)∧Hid (Ext w0 wr))
  (λv _=>xs.length-(intOf v).toNat)
 case atStart=>exact⟨0,bI _,rfl,h0,E⟩
 case round=>
  clear E h0;obtain⟨x,aA,rfl,HJ,E⟩:=hrel;have hd:=(ah.ext E.out).at_ 0 rfl;by_cases am:x<xs.length
  ·have ae:(x:Int)<(xs.length:Int):=zO;have aq:=(hb.ext E.out).at_ 0 rfl;have U:=(hb.ext E.out).at_ 1 rfl;have Y:=ar.ext E.out;have hm:(first+x)%d<d:=bS _ af;have ad:xs.take x++[xs[x]]=xs.take (x+1):=by simp_all
   have O:xs.take x++[xs[x]]<+:xs:=zG;have HY:=hide (λW (au:J (xs.take x) W)=>hY _ _ W au O);have H:=gV.out x am;have PG:=hide ad;clear O ad;generalize xs[x]=y at*;have H:∀j v,(#[iV y.1,iV y.2]:AV)[j]?=bc v→wr.cell? ⟨gp,0+(first+x)%d*2+j,a8⟩=bc v:=λj v hj=>by
    have an:j<2:=(bl.1 hj).1;rw[Y.cell,bg,H j an,←hj];simp
   have e1:=hide (show((first:Int)+(x:Int))=((first+x:Nat):Int) by omega)
   gi_upto_region 3 with(fail)
   refine ml fe zR 19 zR zK (.g ?_);refine ed.ko _ _ _ _ rfl wA oA oA zO ?_;refine ed.kD e1.out (.g ?_);refine ed.ue (c:=(first+x)%d) _ _ _ _ rfl af zO rfl wA oA oA ?_;refine ed.gT (i:=(first+x)%d) 2 38 50 _ _ rfl bo zR hm wA oA oA ?_;refine ed.loadAt 50 _ rfl wA oA bh rfl zR Y.lt H (eh _) (.g ?_);refine .n0 ⟨rfl,λW3 aj=>?_⟩;iterate 19 refine iC.eq ?_
   refine iC.nil ?_;simp only[Act.put,bH,List.set_cons_zero,List.set_cons_succ];have aa:=(eh wr).tr aj;have ss:=hide (hJ _ _ _ HJ.out aa);have mS:=hide (E.out.tr aa);obtain⟨fn,aw,ak,az,hy,hR⟩:=HY.out W3 ss.out;clear HJ E HY H hd aq U Y aj aa e1 hm;gi_wp2;refine hR.mono ?_;rintro e W4 ⟨ag,(⟨rfl,ab⟩|⟨rfl,ai⟩)⟩
   ·have aD:Hid (Ext w0 W4):=by show Ext w0 W4;exact bQ mS.out ag
    rw[PG.out]at ab;have uc:=hide ab;clear ag hy hR ab mS ss;gi_wp2
    go_roundw
    case rel=>grind
    case measure=>grind[intOf]
   ·have uc:=hide ai;gi_wp2;refine bf (results_none results291 _ _ _) rfl ⟨⟨_,rfl⟩,.inr ⟨_,?_,trivial,uc.out⟩⟩;rw[PG.out];grind
  ·have ae:¬(x:Int)<(xs.length:Int):=zO;have T:xs.take x=xs:=bP zO;have av:=HJ.out;rw[T]at av;clear T hd;gi_wp2
   go_end0
   grind
theorem Mz(g:Nat)(w:bm):bj bn 259 #[gP g] w λe d=>e=.returned (.func (.func 291) #[] #[gP w.heap.size])∧d=w.alloc (.cells #[gP g] 422):=by
 go_enter func259,ntmps259;go_wp2;go_ret;simp_all
section
variable {i g room:Nat} {s:Ff (Int×Int)} {w:bm} {t:ez}
theorem zt(h:im i g room s w t):bj bn 206 #[gP g] w (eY w λv w'=>mT w' w.heap.size v s.items):=by
 obtain⟨gp,first,H,hb,ad,O⟩:=h;obtain⟨T,U,E⟩:=(show∃T:List (Int×Int),T=s.items∧∀k (hk:k<T.length) o,o<2→H[((first+k)%room)*2+o]?=((λx:(Int×Int)=>([iV x.1,iV x.2]:List bC)) T[k])[o]? from⟨s.items,rfl,λk hk o ho=>by obtain⟨cs,-,rfl,h3⟩:=O.it k hk;grind⟩)
 have J:s.items.length=T.length:=by rw[U]
 have hX:=ek w (.cells #[gP g] 422);have ab:=Box.new w 422 #[gP g];have Y:=O.len;have ae:=O.hi;have aa:=hb.2.ext hX;rw[J]at aa Y;have hq:=My g gp w.heap.size first room _ T (.bool s.closed) H _ rfl aa (ad.2.ext hX) O.ud O.lo O.hi O.fst Y E ab
 have d:=hide (zr 291 _ (enters_of func291 zR rfl) T _ _ hq (Ext.rf _) zO);have Uq:=hide U;clear hq ab aa E J Y ae O hb ad U;go_enter func206,ntmps206;go_wp2_with(go_at_call 259;refine(Mz _ _).mono ?_;rintro _ _ ⟨rfl,rfl⟩)
 refine d.out.mono ?_;rintro _ w2 ⟨v,rfl,af,ho⟩;clear d;go_wp2;go_ret;exact eY.mk (hX.tr af) (by rw[←Uq.out];exact iY ho zS)
end
end
end Go.Proofs.YtofgfpffcegioaaGreat
