/- A part of the proof. -/
import Derived.Test.YtofgfpffcegioaaGreatZf43
set_option maxRecDepth 100000
set_option maxHeartbeats 8000000
namespace Go.Proofs.YtofgfpffcegioaaGreat
open Go.RowKit Go.Shelf Go.Sort iT jH fq Go.Proofs.Tryz
open _root_.Array renaming getElem?_eq_some_iff → cn
open Bool renaming false → cI
open _root_.Go renaming World → cq,Value → cw,TypeId → cS,bodyPost_ret → b8,Operand → di,Calls → dn,execOp → dp,Oper → dq
open Go.Act renaming put → de
open Go.Instr renaming mapUpdate → cA,makeInterface → cJ
open Go.Operand renaming tmp → ct
open Go.Proofs.Tryz renaming underlying258 → cF,prog → cP,underlying100 → cL,underlying37 → cM
open Go.Result renaming andThen_ok → dk
open Go.RowKit.Below renaming heap_setCell → bs
open Go.Value renaming iface → cB
open Go.World renaming size_alloc → cK
open List renaming setIfInBounds_toArray → cy,set_cons_zero → cC,set_cons_succ → cD,range → cH,length_append → cN,replicate → cV,getElem?_eq_getElem → cZ,map_append → cR,range_succ → da,map_congr_left → df,map_map → dj
open Nat renaming le_refl → cx,le_trans → cz,le_of_eq → cG,lt_of_lt_of_le → cE,zero_le → db
open Option renaming none → cm,some → cu
theorem j7{P:Program}{E:Func}{t:Tmp}{s:cS}(h:E.results=#[.cell t s])(tmps:AV)(w:cq)(g:Nat)(T:cS)(cs:AV)(d:TypeDesc)(O:tmps.getD t undef=gP g)(J:Box w g T cs)(hu:P.underlying s=cu d)(H:(match d with|.struct _|.array _ _=>true|_=>cI)=true)(hi:(P.info? s).map (·.size)=cu cs.size) :
  (results E tmps).run P w=.ok (.agg cs) w:=by
 have U:=run_loadVar_row w g T s cs (0,0) d J hu H hi;simp_all[Array.getD_eq_getD_getElem?,results,asAddr]
section
variable {D:PS} {s:St} {w w' W:cq} {t t':ez}
theorem Tryz.Bd:(prog.info? 37).map (·.size)=cu 2:=by rfl
def DB(k:Nat)(a:Nat):Value:=.agg #[.int .u8 (k:Int),iV a]
def sV(D:PS)(s:St):Nat×Nat:=if s.over then(if s.pl.cancelled then(3,0)else if D.broken then(4,s.pl.read)else(2,0))else(1,0)
theorem FT(h:ep D s w t)(hw:D.c.workers≤8):dn cP 26 #[eF D.g] w (eB w (eC (DB (sV D s).1 (sV D s).2))):=by
 have hX:=ek w (.cells #[.int .u8 0,iV 0] 37);have J:=Box.new w 37 #[.int .u8 0,iV 0];have h1:=h.extend hX;have hO:=hide (xt h1 hw);have H:=hide h1;have rq:=hide (show sV D s=if s.over then(if s.pl.cancelled then(3,0)else if D.broken then(4,s.pl.read)else(2,0))else(1,0)from rfl);clear h h1 hw;obtain⟨oo,aj⟩:∃oo,oo=s.over:=⟨_,rfl⟩
 obtain⟨cc,ah⟩:∃cc,cc=s.pl.cancelled:=⟨_,rfl⟩
 obtain⟨bb,ai⟩:∃bb,bb=D.broken:=⟨_,rfl⟩
 rw[←aj]at hO rq;have hp:∀W,Ext (w.alloc (.cells #[.int .u8 0,iV 0] 37)) W→W.cell? ⟨D.g,19,cm⟩=cu (.bool cc)∧W.cell? ⟨D.g,9,cm⟩=cu (eF D.jK)∧W.cell? ⟨D.g,17,cm⟩=cu (iV (s.pl.read:Int)):=λW hE=>by
  have h2:=H.out.extend hE;exact⟨by rw[ah];exact h2.PM,h2.p9,h2.TY⟩
 have hS:=hide (λW (hE:Ext (w.alloc (.cells #[.int .u8 0,iV 0] 37)) W)=>show dn cP 56 #[eF D.jK] W (eB W (eC (.bool bb))) by rw[ai];exact Da (H.out.extend hE).src);rw[←ah,←ai]at rq;clear aj ah ai;cases oo with
 |false=>
  have Y:=hide (show sV D s=(1,0)from rq.out);rw[Y.out];clear Y rq;go_enter func26,ntmps26;go_wp2_with fail;refine hO.out.mono ?_;rintro _ w2 ⟨_,rfl,E,rfl⟩;have d:=J.ext E;obtain⟨ab,p9,aa⟩:=hp w2 E;clear hO;clear hS ab p9 aa;have O:=d.two (.int .u8 1) (iV 0);have hF:=hide (((hX.tr E).fS (cx _) 0 (.int .u8 1)).fS (cx _) 1 (iV 0));have ag:=d.at_ 0 rfl;have af:=d.at_ 1 rfl;have ae:=d.frozen 0;have ad:=d.frozen 1;clear hX J hp H d E;go_wp2;refine b8 (j7 results26 _ _ w.heap.size 37 _ _ zR O cM rfl Tryz.Bd) rfl ?_;exact eB.mk hF.out rfl
 |true=>
  cases cc with
  |true=>
   have Y:=hide (show sV D s=(3,0)from rq.out);rw[Y.out];clear Y rq;go_enter func26,ntmps26;go_wp2_with fail;refine hO.out.mono ?_;rintro _ w2 ⟨_,rfl,E,rfl⟩;have d:=J.ext E;obtain⟨ab,p9,aa⟩:=hp w2 E;clear hO;clear hS p9 aa;have O:=d.two (.int .u8 3) (iV 0);have hF:=hide (((hX.tr E).fS (cx _) 0 (.int .u8 3)).fS (cx _) 1 (iV 0));have ag:=d.at_ 0 rfl;have af:=d.at_ 1 rfl;have ae:=d.frozen 0;have ad:=d.frozen 1;clear hX J hp H d E;go_wp2;refine b8 (j7 results26 _ _ w.heap.size 37 _ _ zR O cM rfl Tryz.Bd) rfl ?_;exact eB.mk hF.out rfl
  |false=>
   cases bb with
   |true=>
    have Y:=hide (show sV D s=(4,s.pl.read)from rq.out);rw[Y.out];clear Y rq;go_enter func26,ntmps26;go_wp2_with fail;refine hO.out.mono ?_;rintro _ w2 ⟨_,rfl,E,rfl⟩;have d:=J.ext E;clear hO;have U:=hide (hS.out w2 E);clear hS;go_wp2_with fail;refine U.out.mono ?_;rintro _ w3 ⟨_,rfl,T,rfl⟩;have d:=d.ext T;have E:=E.tr T;obtain⟨ab,p9,aa⟩:=hp w3 E;clear U T;have O:=d.two (.int .u8 4) (iV (s.pl.read:Int));have hF:=hide (((hX.tr E).fS (cx _) 0 (.int .u8 4)).fS (cx _) 1 (iV (s.pl.read:Int)));have ag:=d.at_ 0 rfl;have af:=d.at_ 1 rfl;have ae:=d.frozen 0;have ad:=d.frozen 1;clear hX J hp H d E;go_wp2;refine b8 (j7 results26 _ _ w.heap.size 37 _ _ zR O cM rfl Tryz.Bd) rfl ?_;exact eB.mk hF.out rfl
   |false=>
    have Y:=hide (show sV D s=(2,0)from rq.out);rw[Y.out];clear Y rq;go_enter func26,ntmps26;go_wp2_with fail;refine hO.out.mono ?_;rintro _ w2 ⟨_,rfl,E,rfl⟩;have d:=J.ext E;clear hO;have U:=hide (hS.out w2 E);clear hS;go_wp2_with fail;refine U.out.mono ?_;rintro _ w3 ⟨_,rfl,T,rfl⟩;have d:=d.ext T;have E:=E.tr T;clear U T;have O:=d.two (.int .u8 2) (iV 0);have hF:=hide (((hX.tr E).fS (cx _) 0 (.int .u8 2)).fS (cx _) 1 (iV 0));have ag:=d.at_ 0 rfl;have af:=d.at_ 1 rfl;have ae:=d.frozen 0;have ad:=d.frozen 1;clear hX J hp H d E;go_wp2;refine b8 (j7 results26 _ _ w.heap.size 37 _ _ zR O cM rfl Tryz.Bd) rfl ?_;exact eB.mk hF.out rfl
theorem MU(h:ep D s w t)(J:s.pl.took.length≤100000000):dn cP 23 #[eF D.g] w (eY w λv w'=>mT w' w.heap.size v s.pl.took):=by
 obtain⟨vs,U,O,-,E⟩:=h.pl;have Y:=O.2.at_ 18 rfl;have T:=hide (Ft U s.pl.took.length (fz s.pl.took) w (oR _) E.src (oS _) J);obtain⟨A,c,rfl⟩:=E.form;clear h O E J;go_enter func23,ntmps23;go_wp2_with fail;refine T.out.mono ?_;rintro _ w2 ⟨v,rfl,H,d⟩;have HV:=hide d;obtain⟨A2,c2,rfl⟩:=eI d;clear T d;go_wp2;go_ret;exact eY.mk H HV.out
end
def PR(B:Nat)(O:List Int):VP:=⟨λv w=>jv w B v O,λv w w' h T=>by
 obtain⟨J,h2⟩:=h;rcases h2 with d|⟨g,E,s,d,Y,H,U⟩
 ·exact⟨J,.inl d⟩
 ·exact⟨J,.inr ⟨g,E,s,d,Y,(T.same (cn.1 H).1).trans H,U⟩⟩⟩
def DZ(_:PS)(s:St)(vp d vr E:cw):AV:=#[vp,iV (s.rg.next:Int),iV (s.pl.number:Int),d,vr,iV (s.out.items.length:Int),E,iV (s.buf.free.length:Int),.bool s.q.closed,.bool s.out.closed,.bool s.pl.cancelled,iV (s.pl.read:Int)]
def Ti(D:PS)(s:St)(F G:VP):VP:=⟨λv w=>∃a b,v=.agg (DZ D s nS nS a b)∧F a w∧G b w,λ_ _ _ ⟨a,b,J,H,E⟩ d=>⟨a,b,J,F.wk _ _ _ H d,G.wk _ _ _ E d⟩⟩
section
variable {Q:Exit→Act→cq→Prop} {ops:Array dq} {M m:Nat} {a0:Act} {w0:cq} {K:List dq→List VP→Prop} {o:dq} {rest:List dq} {env:List VP}
theorem FU(D:PS)(s:St)(A B:Option Addr)(n k l c:Nat):prog.built 60 [(1,iV (s.rg.next:Int)),(2,iV (s.pl.number:Int)),(4,.slice A n k),(5,iV (s.out.items.length:Int)),(6,.slice B l c),(7,iV (s.buf.free.length:Int)),(8,.bool s.q.closed),(9,.bool s.out.closed),(10,.bool s.pl.cancelled),(11,iV (s.pl.read:Int))]=cu (DZ D s nS nS (.slice A n k) (.slice B l c)):=by kernel_rfl
theorem ed.J4{F G:VP}(D:PS)(s:St)(x1 x2 x4 x5 x6 x7 Y U T O:di)(ho:o.op=.build 60 #[(1,x1),(2,x2),(4,x4),(5,x5),(6,x6),(7,x7),(8,Y),(9,U),(10,T),(11,O)])(hF:∀v w,F v w→∃A n k,v=.slice A n k)(hG:∀v w,G v w→∃A n k,v=.slice A n k)
  (hw:Want ops M a0 w0 env o true)(h1:fu ops M a0 w0 env o x1 (eC (iV (s.rg.next:Int))))(h2:fu ops M a0 w0 env o x2 (eC (iV (s.pl.number:Int))))(h4:fu ops M a0 w0 env o x4 F)(h5:fu ops M a0 w0 env o x5 (eC (iV (s.out.items.length:Int))))(h6:fu ops M a0 w0 env o x6 G)(h7:fu ops M a0 w0 env o x7 (eC (iV (s.buf.free.length:Int))))
  (h8:fu ops M a0 w0 env o Y (eC (.bool s.q.closed)))(h9:fu ops M a0 w0 env o U (eC (.bool s.out.closed)))(ab:fu ops M a0 w0 env o T (eC (.bool s.pl.cancelled)))(aa:fu ops M a0 w0 env o O (eC (iV (s.pl.read:Int))))
  (hr:ed cP Q ops M a0 w0 K m rest (Ti D s F G::env)):ed cP Q ops M a0 w0 K (m+1) (o::rest) env:=
 .new hw (λd w E J H=>by
  have e1:d.eval x1=_:=h1 d w E J H;have e2:d.eval x2=_:=h2 d w E J H;have e4:=h4 d w E J H;have e5:d.eval x5=_:=h5 d w E J H;have e6:=h6 d w E J H;have e7:d.eval x7=_:=h7 d w E J H;have e8:d.eval Y=_:=h8 d w E J H;have e9:d.eval U=_:=h9 d w E J H;have ae:d.eval T=_:=ab d w E J H;have ad:d.eval O=_:=aa d w E J H;obtain⟨A,n,k,f4⟩:=hF _ _ e4;obtain⟨B,l,c,f6⟩:=hG _ _ e6;refine⟨.agg (DZ D s nS nS (d.eval x4) (d.eval x6)),w,?_,Ext.rf _,_,_,rfl,e4,e6⟩;rw[f4,f6];have hr:=run_build (P:=cP) w 60 #[(1,iV (s.rg.next:Int)),(2,iV (s.pl.number:Int)),(4,.slice A n k),(5,iV (s.out.items.length:Int)),(6,.slice B l c),(7,iV (s.buf.free.length:Int)),(8,.bool s.q.closed),(9,.bool s.out.closed),(10,.bool s.pl.cancelled),(11,iV (s.pl.read:Int))] _ (FU D s A B n k l c);unfold dp;simp_all) hr
theorem Tryz.J5{T:cS}{p:cw}{J:String}{s:Array cS}{f:FuncId}{x:di}(O:o.op=.call { callee:=.invoke x J,args:=#[],argTypes:=s })(hm:∀w,(method 576 T p J).run cP w=.ok (f,p) w)(d:∀a w,(callFunc f a).run cP w=.ok (.enter f a) w)(H:di→cw)(w:cq)(e:H x=.iface T p) :
  (dp H o).run cP w=.ok (.enter f #[p]) w:=by
 have E:prog.types.size+100=576:=by rfl
 unfold dp;simp[O,resolve,e,go_sem,hm,d]
theorem ed.invoke{P:Program}{F:VP}{T:cS}{p:cw}(f:FuncId)(x:di)(d:∀(a:Act) w,a.eval x=.iface T p→(dp a.eval o).run P w=.ok (.enter f #[p]) w)
  (J:Want ops M a0 w0 env o true)(hx:fu ops M a0 w0 env o x (eC (.iface T p)))(h:∀w,Ext w0 w→dn P f #[p] w (eB w F))
  (O:ed P Q ops M a0 w0 K m rest (F::env)):ed P Q ops M a0 w0 K (m+1) (o::rest) env:=
 ⟨F,λa w s H E=>by
  rw[J a w s H E,if_pos rfl];unfold Oper.wp;rw[d a w (hx a w s H E)];refine(h w s).mono ?_;rintro e w' ⟨v,rfl,Y,U⟩;exact⟨v,rfl,Y.grow s.size,U⟩,O⟩
end
section
variable {D:PS} {s:St} {w w' W:cq} {t t':ez}
theorem qq{w:cq}{base:Nat}{e:cS}{size n:Nat}{v:cw}{xs:List cw}(h:w.ownsRow base e size v n xs):∃A n k,v=.slice A n k:=by
 grind[eI]
end
abbrev kN:AV:=#[nS,iV 0,iV 0,nS,nS,iV 0,nS,iV 0,.bool cI,.bool cI,.bool cI,iV 0]
section
variable {w w':cq} {B e k n:Nat} {v:cw} {xs:List cw}
theorem j8(h:w.ownsRow B e k v n xs)(hs:∀j,v.ownBlock=cu j→w'.heap[j]?=w.heap[j]?):w'.ownsRow B e k v n xs:=by
 obtain⟨T,E⟩:=h;refine⟨T,?_⟩;rcases E with E|⟨g,s,d,rfl,O,J,H⟩
 ·grind
 ·exact .inr ⟨g,s,d,rfl,O,(hs g rfl).trans J,H⟩
theorem rI(h:w.ownsRow B e k v n xs){j:Nat}(s:v.ownBlock=cu j):j<w.heap.size∧∃d,w.heap[j]?=cu (.cells d e (0,0)):=by
 rcases h.2 with⟨rfl,-⟩|⟨g,E,d,rfl,O,J,H⟩
 ·cases s
 ·cases s;grind
theorem MV{g c:Nat}(h:w.ownsRow B e k (.slice (cu ⟨g,0,cm⟩) n c) n xs){j:Nat}{y:cw}(E:xs[j]?=cu y):w.cell? ⟨g,j,cm⟩=cu y:=by
 obtain⟨h1,⟨d,-⟩|⟨g',J,s,d,T,H,h3,h4,Y,U⟩⟩:=h
 ·cases d
 ·cases d;have O:=(List.getElem?_eq_some_iff.1 E).1;rw[cell_of_row w g j s e (0,0) H,←Array.getElem?_toList];grind
theorem MW{A:Option Addr}{c:Nat}(h:w.ownsRow B e k (.slice A n c) n xs)(H:0<n):∃g,A=cu ⟨g,0,cm⟩∧g<w.heap.size:=by
 obtain⟨T,⟨-,U⟩|⟨Y,s,d,E,O,J,-⟩⟩:=h
 ·omega
 grind
theorem DC{Y E J H:Nat}{s:cw}{d:List cw}(h:w.ownsRow B e k v n xs)(h':w.ownsRow Y E J s H d)(O:e≠E){j:Nat}(U:v.ownBlock=cu j):s.ownBlock≠cu j:=λT=>by
 obtain⟨-,c,h1⟩:=rI h U;grind[rI]
end
structure mR(D:PS)(s:St)(w0:cq)(g b2:Nat)(n:Nat)(vq:cw)(w:cq):Prop where
 ext:Ext w0 w
 z:Box w w0.heap.size 60 kN
 hg:w0.heap.size<g
 hb2:w0.heap.size≤b2
 hs:b2≤w.heap.size
 row:∃vp vr vl xs,Box w g 60 (DZ D s vp vq vr vl)∧w.ownsRow w0.heap.size 5 1 vp n xs∧jv w w0.heap.size vr (ig s.rg D.c.ring)∧jv w w0.heap.size vl (s.buf.live.map λn:Nat=>(n:Int))∧
  (∀k,vr.ownBlock=cu k→k<b2)∧(∀k,vl.ownBlock=cu k→k<b2)
section
variable {D:PS} {s:St} {w0 w w':cq} {g b2 n m:Nat} {vp vq vr vl v':cw} {xs xs':List cw}
theorem mR.more(h:mR D s w0 g b2 n vq w){E:Nat}(hb:b2≤E)(d:E≤w.heap.size):mR D s w0 g E n vq w:=by
 obtain⟨T,H,O,h3,hs,vp,vr,vl,xs,a1,a2,Y,U,a5,a6⟩:=h;exact⟨T,H,O,by omega,d,vp,vr,vl,xs,a1,a2,Y,U,λk J=>by grind,λk J=>by grind⟩
theorem mR.extend(h:mR D s w0 g b2 n vq w)(d:Ext w w'):mR D s w0 g b2 n vq w':=by
 obtain⟨T,E,O,J,H,vp,vr,vl,xs,a1,a2,a3,a4,Y,U⟩:=h;exact⟨T.tr d,E.ext d,O,J,cz H d.size,vp,vr,vl,xs,a1.ext d,fy a2 d,fy a3 d,fy a4 d,Y,U⟩
theorem J6(hE:Ext w0 w)(hz:Box w w0.heap.size 60 kN)(hg:w0.heap.size<g)(ag:w0.heap.size≤b2)(hs:b2≤w.heap.size)(hb:Box w g 60 (DZ D s vp vq vr vl))(U:w.ownsRow w0.heap.size 5 1 vp n xs)(hr:jv w w0.heap.size vr (ig s.rg D.c.ring))(hl:jv w w0.heap.size vl (s.buf.live.map λn:Nat=>(n:Int)))
  (ab:∀k,vr.ownBlock=cu k→k<b2)(af:∀k,vl.ownBlock=cu k→k<b2)(d:w.grownBy w' vp.ownBlock)(O:w'.ownsRow w0.heap.size 5 1 v' m xs') :
  Box w' g 60 (DZ D s vp vq vr vl)∧mR D s w0 g b2 m vq (w'.setCell ⟨g,0,cm⟩ v'):=by
 have ae:=eN U hb zD;have E:Box w' g 60 (DZ D s vp vq vr vl):=(d.block g hb.lt (λe=>ae e.symm)).trans hb;have J:∀{v:cw} {ns:List Int},jv w w0.heap.size v ns→jv (w'.setCell ⟨g,0,cm⟩ v') w0.heap.size v ns:=λ{v ns} Y=>j8 Y λj H=>by
  have h1:j≠g:=λe=>eN Y hb zD (e▸H);rw[bs w' ⟨g,0,cm⟩ v' j h1];exact d.block j (rI Y H).1 (λe=>DC U Y zD e.symm H)
 have T:=eN O E zD;have ad:(w'.setCell ⟨g,0,cm⟩ v').ownsRow w0.heap.size 5 1 v' m xs':=j8 O λj H=>bs w' ⟨g,0,cm⟩ v' j (λe=>T zG);have ah:Ext w0 w':=hE.grown d hE.size (λj H=>fk U j H);have aa:Box w' w0.heap.size 60 kN:=(d.block _ hz.lt (λe=>eN U hz zD e.symm)).trans hz;exact⟨E,ah.fS (Nat.le_of_lt hg) 0 v',aa.far (p:=⟨g,0,cm⟩) zG v',hg,ag,by simp only[World.setCell,Array.size_modify];exact cz hs d.size,v',vr,vl,xs',E.eL 0 v',ad,J hr,J hl,ab,af⟩
theorem J7{q q':List Int}(hE:Ext w0 w)(hz:Box w w0.heap.size 60 kN)(hg:w0.heap.size<g)(ag:w0.heap.size≤b2)(hs:b2≤w.heap.size)(hb:Box w g 60 (DZ D s vp vq vr vl))(hp:w.ownsRow w0.heap.size 5 1 vp n xs)(hr:jv w w0.heap.size vr (ig s.rg D.c.ring))(hl:jv w w0.heap.size vl (s.buf.live.map λn:Nat=>(n:Int)))
  (O:∀k,vr.ownBlock=cu k→k<b2)(aa:∀k,vl.ownBlock=cu k→k<b2)(U:jv w b2 vq q)(d:w.grownBy w' vq.ownBlock)(T:jv w' b2 v' q') :
  Box w' g 60 (DZ D s vp vq vr vl)∧mR D s w0 g b2 n v' (w'.setCell ⟨g,3,cm⟩ v')∧jv (w'.setCell ⟨g,3,cm⟩ v') b2 v' q':=by
 have af:=eN U hb zD;have H:Box w' g 60 (DZ D s vp vq vr vl):=(d.block g hb.lt (λe=>af e.symm)).trans hb;have J:∀{v:cw} {ns:List Int},jv w w0.heap.size v ns→(∀k,v.ownBlock=cu k→k<b2)→jv (w'.setCell ⟨g,3,cm⟩ v') w0.heap.size v ns:=λ{v ns} ho h2=>j8 ho λj E=>by
  have h1:j≠g:=λe=>eN ho hb zD (e▸E);rw[bs w' ⟨g,3,cm⟩ v' j h1];exact d.block j (rI ho E).1 (λe=>by have:=fk U j e.symm;grind)
 have Y:=eN T H zD;have ad:jv (w'.setCell ⟨g,3,cm⟩ v') b2 v' q':=j8 T λj E=>bs w' ⟨g,3,cm⟩ v' j (λe=>Y zG);have ae:(w'.setCell ⟨g,3,cm⟩ v').ownsRow w0.heap.size 5 1 vp n xs:=j8 hp λj E=>by
  have h1:j≠g:=λe=>eN hp hb zD (e▸E);rw[bs w' ⟨g,3,cm⟩ v' j h1];exact d.block j (rI hp E).1 (λe=>DC U hp zD e.symm E)
 have ah:Ext w0 w':=hE.grown d hE.size (λj E=>by have:=fk U j E;omega);have ab:Box w' w0.heap.size 60 kN:=(d.block _ hz.lt (λe=>eN U hz zD e.symm)).trans hz;exact⟨H,⟨ah.fS (Nat.le_of_lt hg) 3 v',ab.far (p:=⟨g,3,cm⟩) zG v',hg,ag,by simp only[World.setCell,Array.size_modify];exact cz hs d.size,vp,vr,vl,xs,H.eL 3 v',ae,J hr O,J hl aa,O,aa⟩,ad⟩
theorem J8(xs:List Js)(k:Nat)(d:k<xs.length)(j:Nat)(H:j<5):(xs.flatMap λx=>[iV x.num,iV x.start,iV x.eZ,.slice x.tz x.len x.cap,iV x.buf])[k*5+j]?=[iV xs[k].num,iV xs[k].start,iV xs[k].eZ,.slice xs[k].tz xs[k].len xs[k].cap,iV xs[k].buf][j]?:=by
 induction xs generalizing k with
 |nil=>simp at d
 |cons x l E=>
  cases k with
  |zero=>
   grind
  |succ k=>
   grind
end
section
variable {D:PS} {s:St} {w w' W:cq} {t t':ez} {S:List UInt8→List Nat} {text:List UInt8} {n:Nat}
theorem MX(h:ep D s w t)(hx:s.rg.next≤1000000000)(ce:D.c.workers≤8)(cg:s.q.items.length≤16) :
  dn cP 21 #[eF D.g] w (eY w λv w'=>∃vp vq vr vl,v=.agg (DZ D s vp vq vr vl)∧jv w' w.heap.size vr (ig s.rg D.c.ring)∧jv w' w.heap.size vl (s.buf.live.map λn:Nat=>(n:Int))∧(∃A c,vq=.slice A s.q.items.length c)∧(∃A n c,vp=.slice A n c)):=by
 obtain⟨vs,aG,a5⟩:=h.S7;obtain⟨b,bL,c,rfl,bX,aE,a6⟩:=pU a5.1;have GZ:=hide a6;have Wb:=hide (λW k (hE:Ext w W) hk=>yc (k:=k) (h.extend hE) hk);have Tj:=hide (λW (hE:Ext w W)=>JG (h.extend hE).q);have ba:=h.p12;have bf:=h.Q1;clear a5 a6 bX;have H:=ek w (.cells kN 60);have am:=Box.new w 60 kN;have E:=h.extend H;have bl:=hide (λW (hE:Ext (w.alloc (.cells kN 60)) W)=>rD (E.extend hE).rg);have bn:=hide (λW (hE:Ext (w.alloc (.cells kN 60)) W)=>lp (E.extend hE).rg zO);have bp:=hide (λW (hE:Ext (w.alloc (.cells kN 60)) W)=>zq (E.extend hE).out);have bo:=hide (λW (hE:Ext (w.alloc (.cells kN 60)) W)=>JO (E.extend hE).buf);have br:=hide (λW (hE:Ext (w.alloc (.cells kN 60)) W)=>Jy (E.extend hE).buf);have bw:=hide (λW (hE:Ext (w.alloc (.cells kN 60)) W)=>sN (E.extend hE).q);have bu:=hide (λW (hE:Ext (w.alloc (.cells kN 60)) W)=>sO (E.extend hE).out);have aK:=E.p11;have aJ:=E.p12;have aI:=E.p13;have aH:=E.Nu;have aW:=E.p16;have aV:=E.TY;have aU:=E.PM;have cf:(w.alloc (.cells kN 60)).heap.size=w.heap.size+1:=cK _ _;have HB:=hide am;have HX:=hide H;clear h E am H;go_enter func21,ntmps21;go_upto_region 3 with(fail)
 generalize(w.alloc (.cells kN 60))=w1 at*;refine vQ 49 ?_;refine .rn 0 ?_;refine .rc 0 11 0 ?_;refine .rd 1 12 0 ?_;refine .rl 98 2 13 0 aI (eh _) ?_;refine ed.gz 44 _ _ rfl (enters_of func44 zK rfl) wA oA (F:=eC (iV (s.rg.next:Int))) (λ_ W H E=>by cases E;exact bl.out W ((eh _).tr H)) ?_;refine .rn 0 ?_;refine .rc 5 16 0 ?_;refine .rd 6 17 0 ?_;refine .rl 3 7 18 0 aW (eh _) ?_;refine .rn 0 ?_;refine .rc 9 20 0 ?_;refine .rd 10 21 0 ?_;refine .rl 98 11 22 0 aI (eh _) ?_;refine ed.gz 45 _ _ rfl (enters_of func45 zK rfl) wA oA (F:=PR w.heap.size (ig s.rg D.c.ring)) (λ_ W H E=>by cases E;exact(bn.out W ((eh _).tr H)).mono (by rintro _ w4 ⟨_,rfl,aS,ho⟩;exact eB.mk aS (pB ho (cz (HX.out.size) ((eh w1).tr H).size)))) ?_;refine .rn 0 ?_;refine .rc 14 25 0 ?_;refine .rd 15 26 0 ?_;refine .rl 99 16 27 0 aH (eh _) ?_;refine ed.gz 46 _ _ rfl (enters_of func46 zK rfl) wA oA (F:=eC (iV (s.out.items.length:Int))) (λ_ W H E=>by cases E;exact bp.out W ((eh _).tr H)) ?_;refine .rn 0 ?_;refine .rc 19 30 0 ?_;refine .rd 20 31 0 ?_;refine .rl 96 21 32 0 aK (eh _) ?_;refine ed.gz 47 _ _ rfl (enters_of func47 zK rfl) wA oA (F:=PR w.heap.size (s.buf.live.map λn:Nat=>(n:Int))) (λ_ W H E=>by cases E;exact(bo.out W ((eh _).tr H)).mono (by rintro _ w4 ⟨_,rfl,aS,ho⟩;exact eB.mk aS (pB ho (cz (HX.out.size) ((eh w1).tr H).size)))) ?_;refine .rn 0 ?_;refine .rc 24 35 0 ?_;refine .rd 25 36 0 ?_;refine .rl 96 26 37 0 aK (eh _) ?_;refine ed.gz 48 _ _ rfl (enters_of func48 zK rfl) wA oA (F:=eC (iV (s.buf.free.length:Int))) (λ_ W H E=>by cases E;exact br.out W ((eh _).tr H)) ?_;refine .rn 0 ?_;refine .rc 29 40 0 ?_;refine .rd 30 41 0 ?_;refine .rl 97 31 42 0 aJ (eh _) ?_;refine ed.gz 49 _ _ rfl (enters_of func49 zK rfl) wA oA (F:=eC (.bool s.q.closed)) (λ_ W H E=>by cases E;exact bw.out W ((eh _).tr H)) ?_;refine .rn 0 ?_;refine .rc 34 45 0 ?_;refine .rd 35 46 0 ?_;refine .rl 99 36 47 0 aH (eh _) ?_;refine ed.gz 50 _ _ rfl (enters_of func50 zK rfl) wA oA (F:=eC (.bool s.out.closed)) (λ_ W H E=>by cases E;exact bu.out W ((eh _).tr H)) ?_;refine .rn 0 ?_;refine .rc 39 50 0 ?_;refine .rd 40 51 0 ?_;refine .rl 4 41 52 0 aU (eh _) ?_;refine .rn 0 ?_;refine .rc 43 54 0 ?_;refine .rd 44 55 0 ?_;refine .rl 3 45 56 0 aV (eh _) ?_;refine ed.J4 D s (ct 15) (ct 19) (ct 24) (ct 29) (ct 34) (ct 39) (ct 44) (ct 49) (ct 53) (ct 57) rfl (λv w hv=>qq hv) (λv w hv=>qq hv) wA oA oA oA oA oA oA oA oA oA oA ?_;refine ed.alloc (z:=.agg kN) 60 rfl wA zK zK ?_;refine⟨rfl,λW3 aA=>?_⟩;iterate 9 refine ew.eq ?_
 simp only[de,cy,cC,cD];iterate 4 refine ew.eq ?_
 refine ew.any λbK aw=>?_;iterate 5 refine ew.eq ?_
 simp only[de,cy,cC,cD];iterate 4 refine ew.eq ?_
 refine ew.any λbJ av=>?_;iterate 5 refine ew.eq ?_
 simp only[de,cy,cC,cD];iterate 10 refine ew.eq ?_
 simp only[de,cy,cC,cD];iterate 8 refine ew.eq ?_
 refine ew.any λbI au=>?_;simp only[de,cy,cC,cD];refine ew.any λbH ar=>?_;refine ew.nil ?_;simp only[de,cy,cC,cD];clear aw av;obtain⟨vr,vl,rfl,ap,aq⟩:=au;obtain⟨Ar,nr,cr,rfl⟩:=qq ap;obtain⟨Al,nl,cl,rfl⟩:=qq aq;obtain⟨g3,rfl,hg,d,-⟩:=ar;refine eK rfl _ _ _ rfl rfl g3 _ rfl rfl _ _ d zK rfl rfl ?_;intro V3 bx an H;have aA:=H _ aA hg;have b0:=hg;clear H hg;have hE:=(eh w1).tr aA;have bb:=eN ap d zD;have bc:=eN aq d zD;have ah:jv V3 w.heap.size (.slice Ar nr cr) (ig s.rg D.c.ring):=j8 ap λj hj=>an j (λe=>bb (e▸hj));have ai:jv V3 w.heap.size (.slice Al nl cl) (s.buf.live.map λn:Nat=>(n:Int)):=j8 aq λj hj=>an j (λe=>bc (e▸hj));have HV:=hide (show mR D s w g3 V3.heap.size 0 nS V3 from⟨HX.out.tr hE,HB.out.ext hE,by have e:w1.drew.heap.size=w1.heap.size:=rfl;omega,cz HX.out.size hE.size,cx _,nS,_,_,[],bx,World.ownsRow_nil _ _ _ 1,ah,ai,λk hk=>(rI ah hk).1,λk hk=>(rI ai hk).1⟩);clear ap aq d an bb bc ah ai aA b0 bx bl bn bp bo br bw bu aK aJ aI aH aW aV aU hE;have aG:=(HV.out.ext.cell (p:=⟨D.g,15,cm⟩) bf).trans aG;have hm:=Tryz.JX;have cc:D.c.workers+3≤11:=zO;generalize D.c.workers+3=N at*;obtain⟨i0,bV,bO,bN,bM⟩:=info_parts Tryz.tB;go_wp2_with fail
 go_loopw [5,64] (λs5 i wr=>∃(k:Nat),k≤N∧i=iV k∧Hid (mR D s w g3 V3.heap.size k nS wr)) (λ_ i _=>N-(intOf i).toNat)
 case atStart=>exact⟨0,db _,rfl,HV⟩
 case round=>
  clear HV;obtain⟨k,hk,rfl,HV⟩:=hrel;by_cases O:k<N
  ·have ak:(k:Int)<(N:Int):=zO;have bg:=(HV.out.ext.cell (p:=⟨b,bL+k,cm⟩) aE).trans (GZ.out k O);rw[pW]at bg;have bd:=hm D k;have a8:=hide (λW (hE:Ext wr W)=>Wb.out W k (HV.out.ext.tr hE) O);clear hm;generalize lV D k=T at*;generalize mQ D k=q at*;generalize St.FQ D.c s k=ph at*;obtain⟨DD,hz,hg,aa,hs,vp,vr,vl,xs,d,hp,hr,hl,J,U⟩:=HV.out;obtain⟨A0,c0,rfl⟩:=eI hp;have bD:=d.at_ 0 rfl;have HY:=hide (And.intro DD (And.intro hz (And.intro hg (And.intro aa (And.intro hs (And.intro d (And.intro hp (And.intro hr (And.intro hl (And.intro J U))))))))));clear DD hz hg aa hs d hp hr hl J U HV;go_wp2_with fail;go_upto_region 7 with(fail)
   refine vQ 5 ?_;refine .re 3 ?_;refine .rl 43 0 68 0 bD (eh _) ?_;refine .rn 5 ?_;refine ed.invoke (F:=eC (.int .u8 (ph:Int))) 338 (ct 70) (λa w e=>Tryz.J5 rfl (λW=>bd _ W) (enters_of func338 zK rfl) a.eval w e) wA oA (λW H=>a8.out W ((eh _).tr H)) ?_;refine ed.lit (Fs:=[_]) [ct 71] 43 5 1 _ rfl rfl zD zD rfl underlying43 zK zK ⟨kQ rfl,trivial⟩ wA ⟨oA,trivial⟩ ?_;refine⟨rfl,λW7 ae=>?_⟩;iterate 3 refine ew.eq ?_
   refine ew.any λb9 aM=>?_;refine ew.any λb7 aL=>?_;refine ew.nil ?_;simp only[de,cy,cC,cD];clear aM;have ad:=(eh wr).tr ae;obtain⟨Av,cv,rfl,-,-,bA⟩:=aL;obtain⟨bv,ov,rfl,bY,bh⟩:=bA zS;have aB:Src W7 (.slice (cu ⟨bv,ov,cm⟩) 1 cv) 1 [.int .u8 (ph:Int)]:=⟨_,_,rfl,λ_=>⟨bv,ov,rfl,λj y hj=>by
    match j with
    |0=>
     obtain⟨x,hx,bS⟩:=bh 0 _ rfl;rw[hx];simp at hj;rw[show x=_ from bS,hj]
    |j+1=>simp at hj⟩⟩
   have HS:=hide aB;obtain⟨DD,hz,hg,aa,hs,d,hp,hr,hl,J,U⟩:=HY.out;have UA:=hide (And.intro (DD.tr ad) (And.intro (hz.ext ad) (And.intro hg (And.intro aa (And.intro (cz hs ad.size) (And.intro (d.ext ad) (And.intro (fy hp ad) (And.intro (fy hr ad) (And.intro (fy hl ad) (And.intro J U))))))))));have bT:=(DD.tr ad).size;clear ad bA bY bh aB DD hz hg aa hs d hp hr hl J U HY ae bD a8 bg bd;go_wp2_with(at_builtin;refine eJ rfl _ _ 43 rfl w.heap.size 5 i0 (.int .u8 0) 1 1 underlying43 bV bO bN bM rfl zO _ _ k 1 xs [.int .u8 (ph:Int)] rfl UA.out.2.2.2.2.2.2.1 rfl rfl HS.out (by intro y hy;simp at hy;rw[hy];rfl) zO zO ?_)
   intro va wa ab Y aQ;clear aQ;obtain⟨DD,hz,hg,aa,hs,d,hp,hr,hl,J,U⟩:=UA.out;obtain⟨A6,c6,aN⟩:=eI ab;subst aN;obtain⟨af,ao⟩:=J6 DD hz hg aa hs d hp hr hl J U Y ab;have aT:=hide ao;have c0:=af.at_ 0 rfl;have f0:=af.frozen 0;clear DD hz hg aa hs d hp hr hl J U UA ab Y af ao HS;go_wp2_with fail;exact⟨⟨k+1,by omega,rfl,aT⟩,show N-(k+1)<N-k by omega⟩
  ·have ak:¬(k:Int)<(N:Int):=zO;have aP:k=N:=zO;subst aP;generalize k=k0 at*;have hA:=hide (Tj.out wr HV.out.ext);have aJ:=(HV.out.ext.cell (p:=⟨D.g,12,cm⟩) bf).trans ba;clear O hm Wb GZ Tj aG aE;go_wp2_with fail;refine hA.out.mono ?_;rintro _ w6 ⟨v,rfl,aR,px,a9,hv⟩;have al:=congrArg List.length a9;rw[List.length_map,List.length_map]at al;have UB:=hide ((HV.out.extend aR).more (cz HV.out.hs aR.size) (cx _));obtain⟨L,hL⟩:∃L,px.length=L:=⟨_,rfl⟩
   obtain⟨A8,c8,rfl⟩:=eI hv;have ay:=hv;rw[hL]at ay;have bz:=hide (λ(h0:0<L)=>show∃g,A8=cu ⟨g,0,cm⟩∧g<w6.heap.size∧g≠g3 by
    obtain⟨g,e,hg⟩:=MW ay h0;refine⟨g,e,hg,λe3=>?_⟩;obtain⟨-,-,-,-,-,vp,vr,vl,xs,d,-⟩:=UB.out;exact eN ay d zD (by rw[e,e3];rfl))
   have gV:=hide (λ(q:Nat) (hq:q<L) (j:Nat) (hj:j<5) (g8:Nat) (e:A8=cu ⟨g8,0,cm⟩)=>show w6.cell? ⟨g8,q*5+j,cm⟩=[iV (px.getD q ⟨0,0,0,cm,0,0,0⟩).num,iV (px.getD q ⟨0,0,0,cm,0,0,0⟩).start,iV (px.getD q ⟨0,0,0,cm,0,0,0⟩).eZ,.slice (px.getD q ⟨0,0,0,cm,0,0,0⟩).tz (px.getD q ⟨0,0,0,cm,0,0,0⟩).len (px.getD q ⟨0,0,0,cm,0,0,0⟩).cap,iV (px.getD q ⟨0,0,0,cm,0,0,0⟩).buf][j]? by
    have aj:q<px.length:=zO;have E:=J8 px q aj j hj;have e2:px.getD q ⟨0,0,0,cm,0,0,0⟩=px[q]:=by rw[List.getD_eq_getElem?_getD,cZ aj];rfl
    rw[e2,←E];subst e;obtain⟨y,hy⟩:∃y,(px.flatMap λx=>[iV x.num,iV x.start,iV x.eZ,.slice x.tz x.len x.cap,iV x.buf])[q*5+j]?=cu y:=by
     rw[E];exact⟨_,cZ (by simpa using hj)⟩
    rw[hy];exact MV hv hy)
   have HL:=hide (And.intro (show L=s.q.items.length from hL.symm.trans al) (show L≤16 by omega));rw[hL];clear a9 al hv ay hL hA HV aR;obtain⟨i1,bU,bR,bQ,bP⟩:=info_parts Tryz.oG;go_wp2_with fail
   go_loopw [7,82] (λs7 i wr=>∃(k:Nat) (A5:Option Addr) (c5:Nat) (q:List Int),k≤L∧i=iV k∧Hid (q.length=k)∧Hid (mR D s w g3 w6.heap.size k0 (.slice A5 k c5) wr)∧Hid (∀b,b<w6.heap.size→b≠g3→wr.heap[b]?=w6.heap[b]?)∧Hid (jv wr w6.heap.size (.slice A5 k c5) q)) (λ_ i _=>L-(intOf i).toNat)
   case atStart=>exact⟨0,cm,0,[],db _,rfl,rfl,UB,λ_ _ _=>rfl,World.ownsRow_nil _ _ _ 1⟩
   case round=>
    clear UB;obtain⟨k,A5,c5,q,hk,rfl,HQ,HV,HE,HO⟩:=hrel;by_cases O:k<L
    ·have ak:(k:Int)<(L:Int):=zO;obtain⟨g8,bW,aD,aC⟩:=bz.out zO;subst bW;have ag:∀o,wr.cell? ⟨g8,o,cm⟩=w6.cell? ⟨g8,o,cm⟩:=λo=>by
      have:=HE.out g8 aD aC;unfold World.cell?;simp only[this]
     have a4:=(ag (k*5)).trans (gV.out k O 0 zO g8 rfl);have a3:=(ag (k*5+1)).trans (gV.out k O 1 zO g8 rfl);have a2:=(ag (k*5+2)).trans (gV.out k O 2 zO g8 rfl);have a1:=(ag (k*5+3)).trans (gV.out k O 3 zO g8 rfl);have aZ:=(ag (k*5+4)).trans (gV.out k O 4 zO g8 rfl);simp only[List.getElem?_cons_zero,List.getElem?_cons_succ]at a4 a3 a2 a1 aZ;clear ag;generalize px.getD k ⟨0,0,0,cm,0,0,0⟩=pv at*;have am:=Box.new wr 109 #[iV 0,iV 0,iV 0,nS,iV 0];have bj:=ek wr (.cells #[iV 0,iV 0,iV 0,nS,iV 0] 109);go_wp2_with(refine eK rfl _ _ _ rfl rfl wr.heap.size #[iV pv.num,iV pv.start,iV pv.eZ,.slice pv.tz pv.len pv.cap,iV pv.buf] rfl rfl _ _ am zK rfl rfl ?_)
     intro w7 bi _ H;have ae:=H _ bj (cx _);have UC:=hide ((HV.out.extend ae).extend (ek w7 (.cells #[iV pv.num] 3)));have aF:=ae.tr (ek w7 (.cells #[iV pv.num] 3));have Wc:=hide (show∀b,b<w6.heap.size→b≠g3→(w7.alloc (.cells #[iV pv.num] 3)).heap[b]?=w6.heap[b]? from λb d az=>(aF.block b (cE d HV.out.hs)).trans (HE.out b d az));have T0:=hide (show jv (w7.alloc (.cells #[iV pv.num] 3)) w6.heap.size (.slice A5 k c5) q from fy (fy HO.out ae) (ek _ _));have c3:w7.cell? ⟨g3,3,cm⟩=cu (.slice A5 k c5):=by
      obtain⟨-,-,-,-,-,vp,vr,vl,xs,d,-⟩:=HV.out.extend ae;exact d.at_ 3 rfl
     have d0:=bi.at_ 0 rfl;have bq:=HQ.out;have bk:(w7.alloc (.cells #[iV pv.num] 3)).ownsRow w6.heap.size 3 1 (.slice A5 k c5) k (q.map (Value.int .i64)):=by have:=T0.out;unfold jv at this;rwa [bq]at this
     have OM:=hide bk;have bT:=UC.out.hs;have cd:=HL.out.2;clear H bj am bi HV HE HO ae aF aC a4 a3 a2 a1 aZ aD bk bq;go_wp2_with(at_builtin;refine eJ rfl _ _ 28 rfl w6.heap.size 3 i1 (iV 0) 1 8 underlying28 bU bR bQ bP rfl zO _ _ k 1 (q.map (Value.int .i64)) [iV pv.num] rfl OM.out rfl rfl (Src.new _ _ _ _) (by intro y hy;simp at hy;rw[hy];rfl) zO zO ?_)
     intro va wa ab Y aQ;clear aQ;obtain⟨DD,hz,hg,aa,hs,vp,vr,vl,xs,d,hp,hr,hl,J,U⟩:=UC.out;have aj:jv wa w6.heap.size va (q++[pv.num]):=by
      unfold jv;rw[cN,HQ.out,cR];exact ab
     obtain⟨A6,c6,aN⟩:=eI ab;subst aN;obtain⟨af,ao,bE⟩:=J7 DD hz hg aa hs d hp hr hl J U T0.out Y aj;have aT:=hide ao;have b5:=hide bE;have b6:=hide (show∀b,b<w6.heap.size→b≠g3→(wa.setCell ⟨g3,3,cm⟩ (.slice A6 (k+1) c6)).heap[b]?=w6.heap[b]? from λb O az=>by
      rw[bs wa ⟨g3,3,cm⟩ _ b az];exact(Y.block b (cE O hs) (λe=>by have:=fk T0.out b e.symm;omega)).trans (Wc.out b O az))
     have c3:=af.at_ 3 rfl;have f3:=af.frozen 3;have b3:=hide (show(q++[pv.num]).length=k+1 by rw[cN,HQ.out];rfl);clear DD hz hg aa hs d hp hr hl J U ab Y af ao bE UC Wc T0 OM aj HQ;go_wp2_with fail;exact⟨⟨k+1,A6,c6,_,by omega,rfl,b3,aT,b6,b5⟩,show L-(k+1)<L-k by omega⟩
    ·have ak:¬(k:Int)<(L:Int):=zO;have aP:k=L:=zO;obtain⟨DD,hz,hg,aa,hs,vp,vr,vl,xs,d,hp,hr,hl,J,U⟩:=HV.out;obtain⟨Ap,cp,rfl⟩:=eI hp;obtain⟨bF,bB,b1⟩:=eI hr;obtain⟨bG,bC,b2⟩:=eI hl;subst b1 b2;generalize ca:(ig s.rg D.c.ring).length=aX at*;generalize cb:(s.buf.live.map λn:Nat=>(n:Int)).length=aY at*;have c0:=d.at_ 0 rfl;have c1:=d.at_ 1 rfl;have c2:=d.at_ 2 rfl;have c3:=d.at_ 3 rfl;have c4:=d.at_ 4 rfl;have ci:=d.at_ 5 rfl;have c6:=d.at_ 6 rfl;have c7:=d.at_ 7 rfl;have ch:=d.at_ 8 rfl;have c9:=d.at_ 9 rfl;have ck:=d.at_ 10 rfl;have cj:=d.at_ 11 rfl;have HY:=hide (And.intro DD (And.intro hz (And.intro hr hl)));have Wd:=hide (show k=s.q.items.length by have:=HL.out.1;omega);clear HV HE HO HQ O aP DD hg aa hs d hp hr hl J U bz gV HL;go_wp2_with(refine eK rfl _ _ _ rfl rfl w.heap.size (DZ D s (.slice Ap k0 cp) (.slice A5 k c5) (.slice bF aX bB) (.slice bG aY bC)) rfl rfl _ _ hz zK rfl rfl ?_)
     intro wf bZ aO H;have bt:=H _ HY.out.1 (cx _);obtain⟨DD,hz,hr,hl⟩:=HY.out;have a7:=j8 hr λj hj=>aO j (λe=>eN hr hz zD (by rw[←e];exact hj));have be:=j8 hl λj hj=>aO j (λe=>eN hl hz zD (by rw[←e];exact hj));have HF:=hide (show eY w (λv w'=>∃vp vq vr vl,v=.agg (DZ D s vp vq vr vl)∧jv w' w.heap.size vr (ig s.rg D.c.ring)∧jv w' w.heap.size vl (s.buf.live.map λn:Nat=>(n:Int))∧(∃A c,vq=.slice A s.q.items.length c)∧(∃A n c,vp=.slice A n c)) (.returned (.agg (DZ D s (.slice Ap k0 cp) (.slice A5 k c5) (.slice bF aX bB) (.slice bG aY bC)))) wf from eY.mk bt ⟨_,_,_,_,rfl,a7,be,⟨A5,c5,by rw[Wd.out]⟩,Ap,k0,cp,rfl⟩);clear DD hz hr hl a7 be aO H bt HY Wd;go_wp2;exact b8 (j7 results21 _ _ w.heap.size 60 _ _ zR bZ underlying60 rfl zK) rfl HF.out
end
theorem Tryz.mkMap(w:cq):(Instr.makeMap 258 cm).run cP w=.ok (.map (cu w.heap.size)) (w.alloc (.map #[] 0)):=by rfl
theorem grown_fresh{w w1 d:cq}{m:Nat}(h:Ext w w1)(s:w1.grownBy d (cu m))(hm:w.heap.size≤m):Ext w d:=h.grown s h.size (λk E=>by grind)
theorem yf(g:Nat)(w:cq):dn cP 87 #[eF g] w (eY w λv Y=>v=eF w.heap.size∧w.heap.size+2≤Y.heap.size∧Box Y w.heap.size 264 (rdA g w.heap.size (w.heap.size+1) ⟨1,cI,0,0,0,0,[],cI⟩ nS)∧fQ Y (w.heap.size+1) Bv mW (pQ w.heap.size)):=by
 have ai:=Box.new w 264 #[eF g,.int .u8 1,.int .u8 5,.map cm,.nilFunc,.nilFunc,.bool cI,iV 0,iV 0,iV 0,iV 0,nS,.bool cI];have aj:=ek w (.cells #[eF g,.int .u8 1,.int .u8 5,.map cm,.nilFunc,.nilFunc,.bool cI,iV 0,iV 0,iV 0,iV 0,nS,.bool cI] 264);have d:(w.alloc (.cells #[eF g,.int .u8 1,.int .u8 5,.map cm,.nilFunc,.nilFunc,.bool cI,iV 0,iV 0,iV 0,iV 0,nS,.bool cI] 264)).heap.size=w.heap.size+1:=cK _ _;go_enter func87,ntmps87;go_upto_region 2 with(fail)
 generalize(w.alloc (.cells #[eF g,.int .u8 1,.int .u8 5,.map cm,.nilFunc,.nilFunc,.bool cI,iV 0,iV 0,iV 0,iV 0,nS,.bool cI] 264))=w1 at*;have az:=Tryz.mkMap w1;have M0:=fQ.made (kv:=Bv) (ev:=mW) w1;rw[d]at M0 az;obtain⟨v1,U,an,ag,ay,-⟩:=M0.update pS cF (1:Int) (ja 129 w.heap.size,ja 130 w.heap.size);have U:(cA 258 (.map (cu (w.heap.size+1))) (.int .u8 1) (.agg #[ja 129 w.heap.size,ja 130 w.heap.size])).run cP (w1.alloc (.map #[] 0))=.ok () v1:=U;obtain⟨v2,T,am,af,aw,-⟩:=an.update pS cF (2:Int) (mP,ja 132 w.heap.size);have T:(cA 258 (.map (cu (w.heap.size+1))) (.int .u8 2) (.agg #[mP,ja 132 w.heap.size])).run cP v1=.ok () v2:=T;obtain⟨v3,O,al,ae,av,-⟩:=am.update pS cF (3:Int) (ja 133 w.heap.size,ja 134 w.heap.size);have O:(cA 258 (.map (cu (w.heap.size+1))) (.int .u8 3) (.agg #[ja 133 w.heap.size,ja 134 w.heap.size])).run cP v2=.ok () v3:=O;obtain⟨v4,J,ak,ad,au,-⟩:=al.update pS cF (4:Int) (mP,ja 135 w.heap.size);have J:(cA 258 (.map (cu (w.heap.size+1))) (.int .u8 4) (.agg #[mP,ja 135 w.heap.size])).run cP v3=.ok () v4:=J;have aq:=grown_fresh (ek w1 (.map #[] 0)) ag (cG d);have ap:=grown_fresh aq af (cG d);have ao:=grown_fresh ap ae (cG d);have aa:=grown_fresh ao ad (cG d);have H:=ai.ext aa;have ar:w1.heap.size+1≤v4.heap.size:=by simp_all
 have c3:=H.at_ 3 rfl;have f3:=H.frozen 3;have E:=H.eL 3 (.map (cu (w.heap.size+1)));have c4:=E.at_ 4 rfl;have f4:=E.frozen 4;have s:=E.eL 4 (mP);have c5:=s.at_ 5 rfl;have f5:=s.frozen 5;have ah:=s.eL 5 (ja 136 w.heap.size);have ab:=((ak.same (bs v4 ⟨w.heap.size,3,cm⟩ (.map (cu (w.heap.size+1))) (w.heap.size+1) zG)).same (bs _ ⟨w.heap.size,4,cm⟩ (mP) (w.heap.size+1) zG)).same (bs _ ⟨w.heap.size,5,cm⟩ (ja 136 w.heap.size) (w.heap.size+1) zG);have hE:=(((aj.tr aa).fS (cx _) 3 (.map (cu (w.heap.size+1)))).fS (cx _) 4 (mP)).fS (cx _) 5 (ja 136 w.heap.size);have HF:=hide (show eY w (λv Y=>v=eF w.heap.size∧w.heap.size+2≤Y.heap.size∧Box Y w.heap.size 264 (rdA g w.heap.size (w.heap.size+1) ⟨1,cI,0,0,0,0,[],cI⟩ nS)∧fQ Y (w.heap.size+1) Bv mW (pQ w.heap.size)) (.returned (eF w.heap.size)) _ from eY.mk hE ⟨rfl,by simp_all,ah,ab⟩);clear ai aj H E s ah ab hE ar M0 an ag ay aq am af aw ap al ae av ao ak ad au aa;go_wp2;go_ret;exact HF.out
theorem yg(g:Nat)(w:cq):dn cP 88 #[eF g] w (eY w λv U=>v=eF w.heap.size∧w.heap.size+2≤U.heap.size∧Box U w.heap.size 268 (xO g w.heap.size (w.heap.size+1) Wk.fresh nS nS)∧fQ U (w.heap.size+1) Bv mW (pR w.heap.size)):=by
 have ag:=Box.new w 268 #[eF g,.int .u8 1,.int .u8 4,.map cm,.nilFunc,.nilFunc,iV 0,iV 0,iV 0,nS,iV 0,iV 0,iV 0,nS];have ah:=ek w (.cells #[eF g,.int .u8 1,.int .u8 4,.map cm,.nilFunc,.nilFunc,iV 0,iV 0,iV 0,nS,iV 0,iV 0,iV 0,nS] 268);have d:(w.alloc (.cells #[eF g,.int .u8 1,.int .u8 4,.map cm,.nilFunc,.nilFunc,iV 0,iV 0,iV 0,nS,iV 0,iV 0,iV 0,nS] 268)).heap.size=w.heap.size+1:=cK _ _;go_enter func88,ntmps88;go_upto_region 2 with(fail)
 generalize(w.alloc (.cells #[eF g,.int .u8 1,.int .u8 4,.map cm,.nilFunc,.nilFunc,iV 0,iV 0,iV 0,nS,iV 0,iV 0,iV 0,nS] 268))=w1 at*;have ar:=Tryz.mkMap w1;have M0:=fQ.made (kv:=Bv) (ev:=mW) w1;rw[d]at M0 ar;obtain⟨v1,T,ak,ae,aq,-⟩:=M0.update pS cF (1:Int) (ja 137 w.heap.size,ja 138 w.heap.size);have T:(cA 258 (.map (cu (w.heap.size+1))) (.int .u8 1) (.agg #[ja 137 w.heap.size,ja 138 w.heap.size])).run cP (w1.alloc (.map #[] 0))=.ok () v1:=T;obtain⟨v2,O,aj,ad,ap,-⟩:=ak.update pS cF (2:Int) (mP,ja 139 w.heap.size);have O:(cA 258 (.map (cu (w.heap.size+1))) (.int .u8 2) (.agg #[mP,ja 139 w.heap.size])).run cP v1=.ok () v2:=O;obtain⟨v3,J,ai,ab,ao,-⟩:=aj.update pS cF (3:Int) (mP,ja 140 w.heap.size);have J:(cA 258 (.map (cu (w.heap.size+1))) (.int .u8 3) (.agg #[mP,ja 140 w.heap.size])).run cP v2=.ok () v3:=J;have am:=grown_fresh (ek w1 (.map #[] 0)) ae (cG d);have al:=grown_fresh am ad (cG d);have Y:=grown_fresh al ab (cG d);have H:=ag.ext Y;have an:w1.heap.size+1≤v3.heap.size:=by simp_all
 have c3:=H.at_ 3 rfl;have f3:=H.frozen 3;have E:=H.eL 3 (.map (cu (w.heap.size+1)));have c4:=E.at_ 4 rfl;have f4:=E.frozen 4;have s:=E.eL 4 (ja 141 w.heap.size);have c5:=s.at_ 5 rfl;have f5:=s.frozen 5;have af:=s.eL 5 (ja 142 w.heap.size);have aa:=((ai.same (bs v3 ⟨w.heap.size,3,cm⟩ (.map (cu (w.heap.size+1))) (w.heap.size+1) zG)).same (bs _ ⟨w.heap.size,4,cm⟩ (ja 141 w.heap.size) (w.heap.size+1) zG)).same (bs _ ⟨w.heap.size,5,cm⟩ (ja 142 w.heap.size) (w.heap.size+1) zG);have hE:=(((ah.tr Y).fS (cx _) 3 (.map (cu (w.heap.size+1)))).fS (cx _) 4 (ja 141 w.heap.size)).fS (cx _) 5 (ja 142 w.heap.size);have HF:=hide (show eY w (λv U=>v=eF w.heap.size∧w.heap.size+2≤U.heap.size∧Box U w.heap.size 268 (xO g w.heap.size (w.heap.size+1) Wk.fresh nS nS)∧fQ U (w.heap.size+1) Bv mW (pR w.heap.size)) (.returned (eF w.heap.size)) _ from eY.mk hE ⟨rfl,by simp_all,af,aa⟩);clear ag ah H E s af aa hE an M0 ak ae aq am aj ad ap al ai ab ao Y;go_wp2;go_ret;exact HF.out
theorem yh(g:Nat)(w:cq):dn cP 89 #[eF g] w (eY w λv O=>v=eF w.heap.size∧w.heap.size+2≤O.heap.size∧Box O w.heap.size 270 (QW g w.heap.size (w.heap.size+1) ⟨1,[]⟩ nS)∧fQ O (w.heap.size+1) Bv mW (qR w.heap.size)):=by
 have af:=Box.new w 270 #[eF g,.int .u8 1,.int .u8 3,.map cm,.nilFunc,.nilFunc,nS];have ag:=ek w (.cells #[eF g,.int .u8 1,.int .u8 3,.map cm,.nilFunc,.nilFunc,nS] 270);have T:(w.alloc (.cells #[eF g,.int .u8 1,.int .u8 3,.map cm,.nilFunc,.nilFunc,nS] 270)).heap.size=w.heap.size+1:=cK _ _;go_enter func89,ntmps89;go_upto_region 2 with(fail)
 generalize(w.alloc (.cells #[eF g,.int .u8 1,.int .u8 3,.map cm,.nilFunc,.nilFunc,nS] 270))=Y at*;have an:=Tryz.mkMap Y;have M0:=fQ.made (kv:=Bv) (ev:=mW) Y;rw[T]at M0 an;obtain⟨v1,J,ai,ad,am,-⟩:=M0.update pS cF (1:Int) (ja 143 w.heap.size,ja 144 w.heap.size);have J:(cA 258 (.map (cu (w.heap.size+1))) (.int .u8 1) (.agg #[ja 143 w.heap.size,ja 144 w.heap.size])).run cP (Y.alloc (.map #[] 0))=.ok () v1:=J;obtain⟨v2,H,ah,ab,al,-⟩:=ai.update pS cF (2:Int) (ja 145 w.heap.size,ja 146 w.heap.size);have H:(cA 258 (.map (cu (w.heap.size+1))) (.int .u8 2) (.agg #[ja 145 w.heap.size,ja 146 w.heap.size])).run cP v1=.ok () v2:=H;have aj:=grown_fresh (ek Y (.map #[] 0)) ad (cG T);have U:=grown_fresh aj ab (cG T);have E:=af.ext U;have ak:Y.heap.size+1≤v2.heap.size:=by simp_all
 have c3:=E.at_ 3 rfl;have f3:=E.frozen 3;have s:=E.eL 3 (.map (cu (w.heap.size+1)));have c4:=s.at_ 4 rfl;have f4:=s.frozen 4;have d:=s.eL 4 (mP);have c5:=d.at_ 5 rfl;have f5:=d.frozen 5;have ae:=d.eL 5 (ja 147 w.heap.size);have aa:=((ah.same (bs v2 ⟨w.heap.size,3,cm⟩ (.map (cu (w.heap.size+1))) (w.heap.size+1) zG)).same (bs _ ⟨w.heap.size,4,cm⟩ (mP) (w.heap.size+1) zG)).same (bs _ ⟨w.heap.size,5,cm⟩ (ja 147 w.heap.size) (w.heap.size+1) zG);have hE:=(((ag.tr U).fS (cx _) 3 (.map (cu (w.heap.size+1)))).fS (cx _) 4 (mP)).fS (cx _) 5 (ja 147 w.heap.size);have HF:=hide (show eY w (λv O=>v=eF w.heap.size∧w.heap.size+2≤O.heap.size∧Box O w.heap.size 270 (QW g w.heap.size (w.heap.size+1) ⟨1,[]⟩ nS)∧fQ O (w.heap.size+1) Bv mW (qR w.heap.size)) (.returned (eF w.heap.size)) _ from eY.mk hE ⟨rfl,by simp_all,ae,aa⟩);clear af ag E s d ae aa hE ak M0 ai ad am aj ah ab al U;go_wp2;go_ret;exact HF.out
theorem xw(g:Nat)(w:cq):dn cP 90 #[eF g] w (eY w λv J=>v=eF w.heap.size∧w.heap.size+2≤J.heap.size∧Box J w.heap.size 272 (S5 g w.heap.size (w.heap.size+1) 1)∧fQ J (w.heap.size+1) Bv mW (qS w.heap.size)):=by
 have ad:=Box.new w 272 #[eF g,.int .u8 1,.int .u8 2,.map cm,.nilFunc,.nilFunc];have ae:=ek w (.cells #[eF g,.int .u8 1,.int .u8 2,.map cm,.nilFunc,.nilFunc] 272);have U:(w.alloc (.cells #[eF g,.int .u8 1,.int .u8 2,.map cm,.nilFunc,.nilFunc] 272)).heap.size=w.heap.size+1:=cK _ _;go_enter func90,ntmps90;go_upto_region 2 with(fail)
 generalize(w.alloc (.cells #[eF g,.int .u8 1,.int .u8 2,.map cm,.nilFunc,.nilFunc] 272))=T at*;have ai:=Tryz.mkMap T;have M0:=fQ.made (kv:=Bv) (ev:=mW) T;rw[U]at M0 ai;obtain⟨v1,H,af,aa,ah,-⟩:=M0.update pS cF (1:Int) (ja 148 w.heap.size,ja 149 w.heap.size);have H:(cA 258 (.map (cu (w.heap.size+1))) (.int .u8 1) (.agg #[ja 148 w.heap.size,ja 149 w.heap.size])).run cP (T.alloc (.map #[] 0))=.ok () v1:=H;have O:=grown_fresh (ek T (.map #[] 0)) aa (cG U);have E:=ad.ext O;have ag:T.heap.size+1≤v1.heap.size:=by simp_all
 have c3:=E.at_ 3 rfl;have f3:=E.frozen 3;have s:=E.eL 3 (.map (cu (w.heap.size+1)));have c4:=s.at_ 4 rfl;have f4:=s.frozen 4;have d:=s.eL 4 (ja 148 w.heap.size);have c5:=d.at_ 5 rfl;have f5:=d.frozen 5;have ab:=d.eL 5 (ja 150 w.heap.size);have Y:=((af.same (bs v1 ⟨w.heap.size,3,cm⟩ (.map (cu (w.heap.size+1))) (w.heap.size+1) zG)).same (bs _ ⟨w.heap.size,4,cm⟩ (ja 148 w.heap.size) (w.heap.size+1) zG)).same (bs _ ⟨w.heap.size,5,cm⟩ (ja 150 w.heap.size) (w.heap.size+1) zG);have hE:=(((ae.tr O).fS (cx _) 3 (.map (cu (w.heap.size+1)))).fS (cx _) 4 (ja 148 w.heap.size)).fS (cx _) 5 (ja 150 w.heap.size);have HF:=hide (show eY w (λv J=>v=eF w.heap.size∧w.heap.size+2≤J.heap.size∧Box J w.heap.size 272 (S5 g w.heap.size (w.heap.size+1) 1)∧fQ J (w.heap.size+1) Bv mW (qS w.heap.size)) (.returned (eF w.heap.size)) _ from eY.mk hE ⟨rfl,by simp_all,ab,Y⟩);clear ad ae E s d ab Y hE ag M0 af aa ah O;go_wp2;go_ret;exact HF.out
def iv(p:cq→ez→Prop):Prop:=∀(w:cq) (t:ez) (d:cq) (s:ez),p w t→w.heap.size≤d.heap.size→(∀k,k<w.heap.size→t k≠1→d.heap[k]?=w.heap[k]?∧s k=t k)→p d s
section
variable {p q:cq→ez→Prop} {i:Nat} {w w':cq} {t t':ez}
theorem fh.one(h:fh i p)(hi:i≠1):iv p:=λw t w' t' s d H=>h w t w' t' s d λk E J=>H k E zO
theorem iv.turn(h:iv p)(E:p w t)(s:Turn 1 w t w' t'):p w' t':=h _ _ _ _ E s.size λk H d=>s.block k H d
theorem iv.ext'(h:iv p)(H:p w t)(s:Ext w w')(E:∀k,k<w.heap.size→t' k=t k):p w' t':=h _ _ _ _ H s.size λk d _=>⟨s.block k d,E k d⟩
theorem iv.and(h:iv p)(k:iv q):iv λw t=>p w t∧q w t:=λw t w' t' ⟨H,E⟩ d s=>⟨h w t w' t' H d s,k w t w' t' E d s⟩
theorem iv.all{d:Sort _}{p:d→cq→ez→Prop}(h:∀a,iv (p a)):iv λw t=>∀a,p a w t:=λw t w' t' H s E a=>h a w t w' t' (H a) s E
end
def MY(c:Cf)(M:Mc)(E d s:Nat)(O J H b4 vs:cw):AV:=
 #[eF E,iV (c.workers:Int),iV (c.block:Int),iV (c.ring:Int),iV (c.queue:Int),iV (c.out:Int),iV (c.slice:Int),iV (c.kX:Int),iV ((M.long-1:Nat):Int),
  eF d,eF s,O,J,H,b4,vs,iV 0,iV 0,nS,.bool cI]
structure Mk(w0:cq)(g:Nat)(cells:AV)(vs:cw)(vals:List cw)(Q:cq→ez→Prop)(w:cq)(t:ez):Prop where
 ext:Ext w0 w
 old:∀k,k<w0.heap.size→t k=0
 box:eG 1 g 102 cells w t
 row:eO 1 111 1 vs vals.length vals w t
 keep:iv Q
 q:Q w t
section
variable {w0 w w' w1:cq} {t t' t1:ez} {g:Nat} {cells cells':Array cw} {vs vs':cw} {vals vals':List cw} {Q N:cq→ez→Prop}
theorem Mk.grow(h:Mk w0 g cells vs vals Q w t)(s:Ext w w')(d:∀k,k<w.heap.size→t' k=t k):Mk w0 g cells vs vals Q w' t':=
 ⟨h.ext.tr s,λk E=>(d k (cE E h.ext.size)).trans (h.old k E),(eG.keeps _ _ _ _).ext' h.box s d,(eO.keeps _ _ _ _ _ _).ext' h.row s d,h.keep,h.keep.ext' h.q s d⟩
theorem Mk.add(h:Mk w0 g cells vs vals Q w t)(s:iv N)(d:N w t):Mk w0 g cells vs vals (λw t=>Q w t∧N w t) w t:=⟨h.ext,h.old,h.box,h.row,h.keep.and s,h.q,d⟩
theorem Mk.to(h:Mk w0 g cells vs vals Q w t)(s:iv N)(d:Q w t→N w t):Mk w0 g cells vs vals N w t:=⟨h.ext,h.old,h.box,h.row,s,d h.q⟩
theorem Mk.set(h:Mk w0 g cells vs vals Q w t)(k:Nat)(u:cw)(cells':AV)(e:cells.setIfInBounds k u=cells'):Mk w0 g cells' vs vals Q (w.setCell ⟨g,k,cm⟩ u) t:=by
 have d:=Turn.set (w:=w) h.box.1 k u;refine⟨(d.low h.old zD h.ext).1,h.old,h.box.gU k u _ e,?_,h.keep,h.keep.turn h.q d⟩;exact h.row.grown (row:=cu g) (eM (World.grownBy.refl _ _) k u) (λq s e=>by
  cases e;exact eH h.box h.row zD s) (λ_ _=>rfl)
theorem Mk.app(h:Mk w0 g cells vs vals Q w t)(d:w.grownBy w' vs.ownBlock)(s:∀k,k<w.heap.size→t' k=t k)(hown:eO 1 111 1 vs' vals'.length vals' w' t'):Mk w0 g cells vs' vals' Q w' t':=by
 have E:Turn 1 w t w' t':=Turn.lG d (λk H=>(h.row.at_ H).1) s;obtain⟨O,J⟩:=E.low h.old zD h.ext;exact⟨O,J,h.box.grown d (eH h.box h.row zD) s,hown,h.keep,h.keep.turn h.q E⟩
theorem Mk.other{j:Nat}(h:Mk w0 g cells vs vals Q w t)(d:Turn j w t w' t')(h0:j≠0)(h1:j≠1)(s:Q w' t'):Mk w0 g cells vs vals Q w' t':=
 ⟨(d.low h.old h0 h.ext).1,(d.low h.old h0 h.ext).2,(eG.keeps _ _ _ _).turn (Ne.symm h1) h0 h.box d,(eO.keeps _ _ _ _ _ _).turn (Ne.symm h1) h0 h.row d,h.keep,s⟩
theorem xy{T:cS}{cs:AV}{s E:Type}{kv:s→cw}{ev:E→cw}{l:List (s×E)}{b m:Nat}(h:Box w b T cs)(H:fQ w m kv ev l):b≠m:=λe=>by
 subst e;obtain⟨_,O,d,J,_⟩:=H;grind[Box]
theorem Mk.close(h:Mk w0 g cells vs vals Q w t):∃t',(∀k,k<w0.heap.size→t' k=0)∧eG 1 g 102 cells w t'∧Q w t'∧Held (jY (vals.map eC)) vs w t':=by
 obtain⟨hE,O,d,J,hK,hQ⟩:=h;obtain⟨hl,⟨rfl,h0⟩|⟨b,E,H,ae,rfl,ht,hg,ad,T,ab,aa⟩⟩:=J
 ·obtain rfl:=List.eq_nil_of_length_eq_zero h0;exact⟨t,O,d,hQ,⟨cm,0,rfl,cx _,by decide,λh=>by simp at h⟩,λk U=>by cases U⟩
 ·have s:eO 1 111 1 (.slice (cu ⟨b,E,cm⟩) vals.length H) vals.length vals w t:=⟨hl,.inr ⟨b,E,H,ae,rfl,ht,hg,ad,T,ab,aa⟩⟩
  have hT:Turn 1 w t w (t.one b 0):=Turn.give ht 0 w;have Y:g≠b:=λe=>eH d s zD (by rw[e];rfl);refine⟨t.one b 0,λk U=>?_,⟨(ez.jn Y).trans d.1,d.2⟩,hK.turn hQ hT,⟨_,H,by grind,by grind,T,λhp=>⟨b,E,rfl,(cn.1 hg).1,λj F hj=>?_⟩⟩,λk U=>?_⟩
  ·grind[ez.one]
  ·rw[List.getElem?_map]at hj;obtain⟨x,hx,rfl⟩:=Option.map_eq_some_iff.1 hj;exact⟨x,s.cell j x hx,rfl⟩
  ·cases U;grind[cn,ez.pO]
def pZ(Q:cq→ez→Prop)(g k:Nat)(gw mw:Nat→Nat)(w:cq)(t:ez):Prop:=Q w t∧∀j,j<k→qB (11+j) g (gw j) (mw j) Wk.fresh w t∧jq (mw j) (pR (gw j)) w t
theorem pZ.keep{g k:Nat}{gw mw:Nat→Nat}(h:iv Q):iv (pZ Q g k gw mw):=h.and (iv.all λj=>iv.all λd=>((qB.keeps (11+j) _ _ _ _).one zO).and ((jq.keeps 0 _ _).one zD))
theorem pZ.more{g k b:Nat}{gw mw:Nat→Nat}(h:pZ Q g k gw mw w t)(d:qB (11+k) g b (b+1) Wk.fresh w t)(hm:jq (b+1) (pR b) w t):pZ Q g (k+1) (λj=>if j=k then b else gw j) (λj=>if j=k then b+1 else mw j) w t:=
 ⟨h.1,λj s=>by
  by_cases e:j=k
  ·grind
  ·simp only[if_neg e];exact h.2 j zO⟩
theorem Mk.at_(h:Mk w0 g cells vs vals Q w t)(k:Nat)(v:cw)(e:nth cells.toList k=cu v):w.cell? ⟨g,k,cm⟩=cu v:=h.box.2.at_ k e
theorem Mk.fr(h:Mk w0 g cells vs vals Q w t)(k:Nat):w.frozen? ⟨g,k,cm⟩=false:=h.box.2.frozen k
end
section
variable {P:Program} {Q:Exit→Act→cq→Prop} {ops:Array dq} {M m:Nat} {a0:Act} {w0:cq} {K:List dq→List VP→Prop} {o:dq} {rest:List dq} {env:List VP}
theorem zB{E:di→cw}:∀(d:List (Nat×di)) (s:List (Nat×cw)),d.map (·.1)=s.map (·.1)→d.map (λx=>E x.2)=s.map (·.2)→d.map (λ(i,x)=>(i,E x))=s
 |[],[],_,_=>rfl
 |[],_::_,h,_=>by simp at h
 |_::_,[],h,_=>by simp at h
 |(i,x)::l,(j,v)::k,h1,h2=>by
  simp only[List.map_cons,List.cons.injEq]at h1 h2 ⊢;exact⟨Prod.ext h1.1 h2.1,zB l k h1.2 h2.2⟩
theorem ed.FV{vs:List (Nat×cw)}{cells:AV}(t:cS)(xs:List (Nat×di))(H:o.op=.build t xs.toArray)(s:Want ops M a0 w0 env o true)(hx:ku ops M a0 w0 env o (xs.map (·.2)) (vs.map (·.2)))(hi:xs.map (·.1)=vs.map (·.1))(J:P.built t vs=cu cells)
  (E:ed P Q ops M a0 w0 K m rest (eC (.agg cells)::env)):ed P Q ops M a0 w0 K (m+1) (o::rest) env:=
 .LK (r:=.agg cells) (xs.map (·.2)) (vs.map (·.2)) s hx (λd w T h=>by
  have O:=run_build (P:=P) w t vs.toArray cells zO;have e:(xs.toArray.map λ(i,x)=>(i,d x))=vs.toArray:=by
   rw[List.map_toArray];congr 1;exact zB xs vs hi (by rw[←h,dj];rfl)
  grind[dp,Sem.run_bind,Sem.run_pure,dk]) E
def We(T:cS)(F:VP):VP:=⟨λv w=>∃u,v=.iface T u∧F u w,λ_ _ _ ⟨u,E,s⟩ d=>⟨u,E,F.wk _ _ _ s d⟩⟩
theorem ed.uH{F:VP}(T:cS)(x:di)(d:∀u w,(cJ T u).run P w=.ok (.iface T u) w)(O:o.op=.makeInterface T x)(E:Want ops M a0 w0 env o true)(hx:fu ops M a0 w0 env o x F)
  (H:ed P Q ops M a0 w0 K m rest (We T F::env)):ed P Q ops M a0 w0 K (m+1) (o::rest) env:=
 .TR x E hx (λs w U J=>by
  refine⟨.iface T (s x),w,?_,Ext.rf _,_,rfl,J⟩;grind[dp,Sem.run_bind,Sem.run_pure,dk]) H
def G3(B:Nat)(T:cS)(A:Nat→AV)(d:Nat→Tab):VP:=⟨λv w=>∃b,v=eF b∧B≤b∧b+2≤w.heap.size∧Box w b T (A b)∧fQ w (b+1) Bv mW (d b),λ_ _ _ ⟨b,U,O,J,H,E⟩ s=>⟨b,U,O,cz J s.size,(s.same H.lt).trans H,E.same (s.same E.lt)⟩⟩
theorem oX(T:cS)(F:VP):OneCell (We T F):=λv _ d=>by obtain⟨u,h,_⟩:=d;rw[h];rfl
end
section
def xz(c:Cf):o8:=⟨c.workers,c.block,c.ring,c.queue,c.out,c.slice,c.kX⟩
theorem DE{c:Cf}(h:pV c):iA (xz c)=true:=by
 obtain⟨h1,h2,h3,h4,Y,U,T,O,J,H,E,s,d⟩:=h;unfold iA nI xz;grind
theorem FW(c:Cf)(M:Mc)(E d s:Nat):prog.built 102 [(0,eF E),(1,.agg (jb (xz c))),(2,iV ((M.long-1:Nat):Int)),(3,eF d),(4,eF s)]=cu (MY c M E d s (.pointer cm) (.pointer cm) (.pointer cm) (.pointer cm) nS):=by kernel_rfl
def xA(w1:cq)(t1:ez)(w:cq)(t:ez):Prop:=w1.heap.size≤w.heap.size∧∀k,k<w1.heap.size→w.heap[k]?=w1.heap[k]?∧t k=t1 k∧t1 k≠1∧t1 k≠4
theorem xA.keep(w1:cq)(t1:ez):iv (xA w1 t1):=λw t E H ⟨s,T⟩ d O=>⟨cz s d,λk J=>by
 grind⟩
theorem xA.Tk{w1 w d:cq}{t1 t t':ez}(h:xA w1 t1 w t)(E:Turn 4 w t d t'):xA w1 t1 d t':=⟨cz h.1 E.size,λk s=>by
 obtain⟨U,T,O⟩:=h.2 k s;obtain⟨J,H⟩:=E.block k (cE s h.1) zO;grind⟩
def J9(w1:cq)(t1:ez)(c:Cf)(_:Mc)(ans:List Bool)(d:Bool)(s:LL)(J E H:Nat)(w:cq)(t:ez):Prop:=
 eG 0 J 26 (jb (xz c)) w t∧gD 2 E d ⟨s,0⟩ w t∧gB 3 H ans ⟨[],0⟩ w t∧xA w1 t1 w t
def UD(c:Cf):Buf:=⟨(cH c.ring).reverse,cV c.ring cI,cV c.ring []⟩
def DF(w1:cq)(t1:ez)(c:Cf)(M:Mc)(ans:List Bool)(d:Bool)(s:LL)(J E H jE gq sP kU:Nat)(w:cq)(t:ez):Prop:=
 J9 w1 t1 c M ans d s J E H w t∧ft 4 jE c.ring (c.block+(M.long-1)) (UD c) w t∧iD 5 gq c.queue ⟨[],cI⟩ w t∧kh 6 sP c.ring ⟨cV c.ring cm,0⟩ w t∧im 7 kU c.out ⟨[],cI⟩ w t
theorem Tryz.Rb:(prog.info? 111).map (λi=>(i.zero,i.size,i.bytes))=cu (cu .nilIface,1,16):=by rfl
theorem Tryz.UE(u:cw)(w:cq):(cJ 179 u).run cP w=.ok (.iface 179 u) w:=by rfl
theorem Tryz.UF(u:cw)(w:cq):(cJ 181 u).run cP w=.ok (.iface 181 u) w:=by rfl
theorem Tryz.UG(u:cw)(w:cq):(cJ 183 u).run cP w=.ok (.iface 183 u) w:=by rfl
theorem Tryz.UH(u:cw)(w:cq):(cJ 185 u).run cP w=.ok (.iface 185 u) w:=by rfl
section
variable {c:Cf} {M:Mc} {ans:List Bool} {broken:Bool} {reads:List (List UInt8)} {gc gm jK jL jE gq sP kU:Nat}
theorem J9.keep{w1:cq}{t1:ez}:iv (J9 w1 t1 c M ans broken reads gc jK jL):=((eG.keeps 0 _ _ _).one zD).and ((gD.keeps.one zD).and ((gB.keeps.one zD).and (xA.keep w1 t1)))
theorem DF.keep{w1:cq}{t1:ez}:iv (DF w1 t1 c M ans broken reads gc jK jL jE gq sP kU):=J9.keep.and ((ft.keeps.one zD).and (((mU.keeps (om.keeps 5)).one zD).and ((kh.keeps.one zD).and ((mU.keeps (oT.keeps 7)).one zD))))
theorem FX{w0 w w1:cq}{t t1:ez}{g d bm H:Nat}{gw mw:Nat→Nat}{vs:cw}{xs:List cw}{ag:cq→ez→Prop}(hM:iM M gm w0)(T:Ext w0 w1)
  (h:Mk w0 g (MY c M gm jK jL (eF jE) (eF gq) (eF sP) (eF kU) vs) vs (xs++[.iface 183 (eF bm),.iface 185 (eF H)]) (λw t=>pZ ag g c.workers gw mw w t∧xf g bm (bm+1) ⟨1,[]⟩ w t∧xg g H (H+1) 1 w t∧jq (bm+1) (qR bm) w t∧jq (H+1) (qS H) w t) w t)
  (ah:xs=.iface 179 (eF d)::(cH c.workers).map λj=>cB 181 (eF (gw j)))
  (hQ:ag=λJ t=>DF w1 t1 c M ans broken reads gc jK jL jE gq sP kU J t∧uv g d (d+1) ⟨1,cI,0,0,0,0,[],cI⟩ J t∧jq (d+1) (pQ d) J t) :
  ∃D t',D.g=g∧D.c=c∧D.M=M∧D.ans=ans∧D.broken=broken∧D.w0=w0∧D.jL=jL∧ep D (St.start c reads) w t'∧Ext w1 w∧∀k,k<w1.heap.size→t' k=t1 k:=by
 have s:=h.ext;obtain⟨t',ad,af,⟨⟨hq,aj⟩,ao,ar,an,ap⟩,E⟩:=h.close;subst hQ;obtain⟨⟨⟨au,Y,aa,O⟩,ae,aq,ak,ab⟩,al,am⟩:=hq;have ai:xs++[.iface 183 (eF bm),.iface 185 (eF H)]=(cH (c.workers+3)).map (lT ⟨c,M,ans,broken,w0,gm,g,jK,jL,jE,gq,sP,kU,d,bm,H,gw,d+1,bm+1,H+1,mw⟩):=by
  rw[ah,show c.workers+3=(c.workers+1)+1+1 from rfl,da,da,List.range_succ_eq_map];simp only[cR,List.map_cons,dj,List.map_nil,List.append_assoc,List.cons_append,List.nil_append];congr 1;congr 1
  ·refine df λj hj=>?_;have:=List.mem_range.1 hj;unfold lT;grind
  simp_all[lT,eF,if_neg]
 refine⟨⟨c,M,ans,broken,w0,gm,g,jK,jL,jE,gq,sP,kU,d,bm,H,gw,d+1,bm+1,H+1,mw⟩,t',rfl,rfl,rfl,rfl,rfl,rfl,rfl,⟨s,ad,hM,⟨vs,nS,af,?_,eO.nil _ _ _ _ _⟩,Y,aa,ae,aq,ak,ab,al,ao,ar,by simp[St.start],λk U=>?_,am,an,ap,λk U=>(aj k U).2⟩,⟨s.os.trans T.os.symm,s.tape.trans T.tape.symm,s.output.trans T.output.symm,O.1,λk U=>(O.2 k U).1⟩,λk U=>(O.2 k U).2.1⟩
 ·rw[ai,dj]at E;exact E
 grind[St.start,Wk.fresh,cV]
attribute [local irreducible] ew ed in
theorem DG{w0 w:cq}{t:ez}(hc:pV c)(hM:iM M gm w0)(hE:Ext w0 w)(aQ:∀k,k<w0.heap.size→t k=0)(aO:gD 2 jK broken ⟨reads,0⟩ w t)(aP:gB 3 jL ans ⟨[],0⟩ w t)(h1:∀k,k<w.heap.size→t k≠1∧t k≠4) :
  dn cP 39 #[eF gm,.agg (jb (xz c)),eF jK,eF jL] w λe w'=>∃D t',e=.returned (.tuple #[eF D.g,.int .i64 0])∧D.c=c∧D.M=M∧D.ans=ans∧D.broken=broken∧D.w0=w0∧D.jL=jL∧ep D (St.start c reads) w' t'∧Ext w w'∧∀k,k<w.heap.size→t' k=t k:=by
 have hX:=ek w (.cells (jb (xz c)) 26);have E:=Box.new w 26 (jb (xz c));have hR:=hide (nF (xz c) (w.alloc (.cells (jb (xz c)) 26)));rw[DE hc]at hR;have k0:=E.at_ 0 rfl;have k1:=E.at_ 1 rfl;have k2:=E.at_ 2 rfl;have k3:=E.at_ 3 rfl;have k4:=E.at_ 4 rfl;have k5:=E.at_ 5 rfl;have k6:=E.at_ 6 rfl;have HC:=hide hc;have HS:=hide (And.intro hM (And.intro hE (And.intro aQ (And.intro aO (And.intro aP h1)))));have HX:=hide (And.intro hX E);clear hM hE aQ aO aP h1 hc hX E;unfold jb at hR k0 k1 k2 k3 k4 k5 k6 HX ⊢;go_enter func39,ntmps39;go_wp2_with fail;refine hR.out.mono ?_;rintro _ w2 ⟨_,rfl,bh,rfl⟩;have bd:=HS.out.1.uG;have br:=hide (λW (hE:Ext w0 W)=>(HS.out.1.ext hE).vB);have bt:=HX.out.1.tr bh;have E:=HX.out.2.ext bh;have HE2:=hide bt;have Wg:=hide E;clear hR k0 k1 k2 k3 k4 k5 k6 bh bt;go_upto_region 5 with(fail)
 refine vR 10 ?_;refine ed.eU 26 _ rfl (ee rfl) (ik 5 rfl) underlying26 rfl zK E (eh _) (.g ?_);refine ed.gz 82 _ _ rfl (enters_of func82 zK rfl) (ee rfl) (od 2 18 0 rfl) (F:=eC (.int .i64 (M.long:Int))) (λ_ W hX h1=>by cases h1;exact br.out W ((HS.out.2.1.tr HE2.out).tr ((eh _).tr hX))) ?_;refine ed.kC _ _ _ _ rfl (ee rfl) (od 3 19 0 rfl) (eE _) zO ?_;refine ed.head (show eC (.int .i64 ((M.long:Int)-1))=eC (.int .i64 ((M.long:Int)-((1:Nat):Int)))from rfl) ?_;refine ed.MO _ rfl (ee rfl) (od 4 20 0 rfl) (.g ?_);refine ed.FV (vs:=[(0,eF gm),(1,.agg (jb (xz c))),(2,.int .i64 ((M.long-1:Nat):Int)),(3,eF jK),(4,eF jL)]) 102 [(0,ct 16),(1,ct 17),(2,ct 21),(3,ct 22),(4,ct 23)] rfl (ee rfl) (ku.cons (od 0 16 7 rfl) (ku.cons (od 1 17 6 rfl) (ku.cons (od 5 21 2 rfl) (ku.cons (od 6 22 1 rfl) (ku.cons (od 7 23 0 rfl) ku.nil))))) rfl (FW c M gm jK jL) ?_;refine ed.LM 102 (ct 24) rfl (ee rfl) (od 8 24 0 rfl) (.g ?_);intro W5 bg;refine .any λb7 bc=>?_;refine .e ?_;have E:=E.drew.ext bg;obtain⟨g,rfl,hg,hb⟩:=bc;have O:=(eh w2).tr bg;have al:Ext w W5:=HE2.out.tr O;have bZ:w2.heap.size≤g:=hg;have cb:w.heap.size<g:=by
  have h4:w.heap.size<w2.heap.size:=Wg.out.lt;omega
 have h5:Mk w0 g (MY c M gm jK jL (.pointer cm) (.pointer cm) (.pointer cm) (.pointer cm) (.slice cm 0 0)) (.slice cm 0 0) [] (J9 w t c M ans broken reads w.heap.size jK jL) W5 ((t.up w.heap.size 0).one g 1):=by
  have T:∀k,k<w.heap.size→((t.up w.heap.size 0).one g 1) k=t k:=λk hk=>by rw[ez.jn zO,ez.fB hk]
  refine⟨HS.out.2.1.tr al,λk hk=>(T k (cE hk HS.out.2.1.size)).trans (HS.out.2.2.1 k hk),⟨ez.pO,hb⟩,eO.nil _ _ _ _ _,J9.keep,⟨?_,E⟩,gD.keeps.ext' HS.out.2.2.2.1 al T,gB.keeps.ext' HS.out.2.2.2.2.1 al T,al.size,λk hk=>⟨al.block k hk,T k hk,HS.out.2.2.2.2.2 k hk⟩⟩;rw[ez.jn zO,ez.fJ (cx _)]
 have H5:=hide h5;clear hg hb O al bZ E h5 br HX HE2 Wg bg;generalize(t.up w.heap.size 0).one g 1=t5 at*;go_upto_region 6 with(fail)
 have q1:W5.cell? ⟨w.heap.size,1,cm⟩=cu (.int .i64 (c.block:Int)):=H5.out.q.1.2.at_ 1 rfl;have q2:W5.cell? ⟨w.heap.size,2,cm⟩=cu (.int .i64 (c.ring:Int)):=H5.out.q.1.2.at_ 2 rfl;have p8:W5.cell? ⟨g,8,cm⟩=cu (.int .i64 ((M.long-1:Nat):Int)):=H5.out.at_ 8 _ rfl;have ay:=hide (show c.block≤256∧M.long≤32∧1≤c.block∧1≤c.ring∧c.ring≤16 from⟨HC.out.b2,bd.2,HC.out.b1,HC.out.r1,HC.out.r2⟩);have hB:=hide (MD (w:=W5.drew) 4 zD t5 ay.out.2.2.2.1 ay.out.2.2.2.2 (show 1≤c.block+(M.long-1) by have:=ay.out;omega) (by have:=ay.out;omega));have H6:=hide (H5.out.grow (eh W5) (λ_ _=>rfl));have bW:IntKind.i64.wrap ((c.block:Int)+((M.long-1:Nat):Int))=((c.block+(M.long-1):Nat):Int):=by
  rw[Int.natCast_add];exact IntWalk.i64_in _ (by have:=ay.out;omega)
 clear H5
 go_region_held3 (λw'=>w'.cell? ⟨w.heap.size,2,cm⟩=cu (.int .i64 (c.ring:Int))∧w'.cell? ⟨w.heap.size,1,cm⟩=cu (.int .i64 (c.block:Int))∧w'.cell? ⟨g,8,cm⟩=cu (.int .i64 ((M.long-1:Nat):Int))) (first|(refine⟨?_,?_,?_⟩<;>assumption)|go_keep) ((go_at_call 83;refine hB.out.mono ?_;rintro _ w7 ⟨jE,t7,rfl,bY,aS,hT⟩;have h7:=(H6.out.other hT zD zD ⟨(eG.keeps 0 _ _ _).turn zD zD H6.out.q.1 hT,gD.keeps.turn zD zD H6.out.q.2.1 hT,gB.keeps.turn zD zD H6.out.q.2.2.1 hT,H6.out.q.2.2.2.Tk hT⟩).add (ft.keeps.one zD) aS;have bV:=h7.at_ 11 _ rfl;have b3:=h7.fr 11;have q1:w7.cell? ⟨w.heap.size,1,cm⟩=cu (.int .i64 (c.block:Int)):=h7.q.1.1.2.at_ 1 rfl;have q2:w7.cell? ⟨w.heap.size,2,cm⟩=cu (.int .i64 (c.ring:Int)):=h7.q.1.1.2.at_ 2 rfl;have p8:w7.cell? ⟨g,8,cm⟩=cu (.int .i64 ((M.long-1:Nat):Int)):=h7.at_ 8 _ rfl;have H8:=hide (h7.set 11 (eF jE) (MY c M gm jK jL (eF jE) (.pointer cm) (.pointer cm) (.pointer cm) (.slice cm 0 0)) rfl);have r1:(w7.setCell ⟨g,11,cm⟩ (.pointer (cu ⟨jE,0,cm⟩))).cell? ⟨w.heap.size,1,cm⟩=cu (.int .i64 (c.block:Int)):=H8.out.q.1.1.2.at_ 1 rfl;have r2:(w7.setCell ⟨g,11,cm⟩ (.pointer (cu ⟨jE,0,cm⟩))).cell? ⟨w.heap.size,2,cm⟩=cu (.int .i64 (c.ring:Int)):=H8.out.q.1.1.2.at_ 2 rfl;have r8:(w7.setCell ⟨g,11,cm⟩ (.pointer (cu ⟨jE,0,cm⟩))).cell? ⟨g,8,cm⟩=cu (.int .i64 ((M.long-1:Nat):Int)):=H8.out.at_ 8 _ rfl;clear hT aS bY h7))
 clear hB H6 bW;go_upto_region 7 with(fail)
 generalize w7.setCell ⟨g,11,cm⟩ (eF jE)=w8 at*;clear bV b3 q1 q2 p8 r1 r2 r8;have q3:w8.cell? ⟨w.heap.size,3,cm⟩=cu (.int .i64 (c.queue:Int)):=H8.out.q.1.1.2.at_ 3 rfl;have hB:=hide (JD (w:=w8) 5 t7 HC.out.q1 HC.out.q2);go_wp2_with fail;refine hB.out.mono ?_;rintro _ w9 ⟨gq,rfl,ae,av,ad⟩;have h9:=(H8.out.grow ae (t':=t7.up w8.heap.size 5) (λk hk=>ez.fB hk)).add ((mU.keeps (om.keeps 5)).one zD) ad;have bU:=h9.at_ 12 _ rfl;have b2:=h9.fr 12;have UI:=hide (h9.set 12 (eF gq) (MY c M gm jK jL (eF jE) (eF gq) (.pointer cm) (.pointer cm) (.slice cm 0 0)) rfl);clear hB ae av ad h9 H8 q3;go_upto_region 8 with(fail)
 generalize t7.up w8.heap.size 5=t9 at*;generalize w9.setCell ⟨g,12,cm⟩ (eF gq)=aE at*;clear bU b2;have q2:aE.cell? ⟨w.heap.size,2,cm⟩=cu (.int .i64 (c.ring:Int)):=UI.out.q.1.1.1.2.at_ 2 rfl;have hB:=hide (Jv (w:=aE) 6 t9 HC.out.r1 HC.out.r2);go_wp2_with fail;refine hB.out.mono ?_;rintro _ bG ⟨sP,rfl,ae,av,ad⟩;have h9:=(UI.out.grow ae (t':=t9.up aE.heap.size 6) (λk hk=>ez.fB hk)).add (kh.keeps.one zD) ad;have bT:=h9.at_ 13 _ rfl;have b1:=h9.fr 13;have UJ:=hide (h9.set 13 (eF sP) (MY c M gm jK jL (eF jE) (eF gq) (eF sP) (.pointer cm) (.slice cm 0 0)) rfl);clear hB ae av ad h9 UI q2;go_upto_region 9 with(fail)
 generalize t9.up aE.heap.size 6=a7 at*;generalize bG.setCell ⟨g,13,cm⟩ (eF sP)=aD at*;clear bT b1;have q4:aD.cell? ⟨w.heap.size,4,cm⟩=cu (.int .i64 (c.out:Int)):=UJ.out.q.1.1.1.1.2.at_ 4 rfl;have hB:=hide (JJ (w:=aD) 7 a7 HC.out.o1 HC.out.o2);go_wp2_with fail;refine hB.out.mono ?_;rintro _ bF ⟨kU,rfl,ae,av,ad⟩;have h9:=(UJ.out.grow ae (t':=a7.up aD.heap.size 7) (λk hk=>ez.fB hk)).add ((mU.keeps (oT.keeps 7)).one zD) ad;have bS:=h9.at_ 14 _ rfl;have b0:=h9.fr 14;have bx:=h9.set 14 (eF kU) (MY c M gm jK jL (eF jE) (eF gq) (eF sP) (eF kU) (.slice cm 0 0)) rfl;have UK:=hide (bx.to (DF.keep (w1:=w) (t1:=t) (jE:=jE) (gq:=gq) (sP:=sP) (kU:=kU)) (λ⟨⟨⟨⟨a1,a2⟩,a3⟩,a4⟩,a5⟩=>⟨a1,a2,a3,a4,a5⟩));clear hB ae av ad h9 bx UJ q4;go_upto_region 10 with(fail)
 generalize a7.up aD.heap.size 7=a6 at*;generalize bF.setCell ⟨g,14,cm⟩ (eF kU)=an at*;clear bS b0;obtain⟨i0,bf,bb,ba,a9⟩:=info_parts Tryz.Rb;have Y:=UK.out.at_ 15 _ rfl;refine vR 9 ?_ (fl:=[0]);refine ed.gz 87 _ _ rfl (enters_of func87 zK rfl) (ee rfl) (od 5 74 0 rfl) (F:=G3 an.heap.size 264 (λb=>rdA g b (b+1) ⟨1,cI,0,0,0,0,[],cI⟩ (.slice cm 0 0)) pQ) (λ_ W hX h1=>by cases h1;exact(yf g W).mono (by rintro _ w4 ⟨_,rfl,ag,rfl,a1,a2,a3⟩;exact eB.mk ag ⟨_,rfl,((eh _).tr hX).size,a1,a2,a3⟩)) ?_;refine ed.uH 179 (ct 75) Tryz.UE rfl (ee rfl) (od 6 75 0 rfl) ?_;refine ed.lit (Fs:=[_]) [ct 76] 100 111 1 _ rfl rfl zD zD rfl cL zK zK ⟨oX _ _,trivial⟩ (ee rfl) ⟨(od 7 76 0 rfl),trivial⟩ (.g ?_);intro b6 aV;refine .any λbP aN=>?_;refine .any λbO aM=>?_;refine .any λbN aL=>?_;refine .e ?_;clear aN aM;have O:=(eh an).tr aV;obtain⟨Av,cv,rfl,-,-,af⟩:=aL;obtain⟨bv,ov,rfl,aw,ab⟩:=af zS;obtain⟨x,hx,u,rfl,d,rfl,az,aA,U,aa⟩:=ab 0 _ rfl;have xB:=hide (show Src b6 (.slice (cu ⟨bv,ov,cm⟩) 1 cv) 1 [.iface 179 (eF d)]from⟨_,_,rfl,λ_=>⟨bv,ov,rfl,λj y hj=>by
  match j with
  |0=>simp at hj;rw[←hj];exact hx
  |j+1=>simp at hj⟩⟩)
 have T:∀k,k<an.heap.size→((a6.up an.heap.size 0).one d 8) k=a6 k:=λk hk=>by rw[ez.jn zO,ez.fB hk]
 have HA:=hide ((UK.out.grow O T).add (((uv.keeps g d (d+1) ⟨1,cI,0,0,0,0,[],cI⟩).one zD).and ((jq.keeps 0 (d+1) (pQ d)).one zD)) ⟨⟨.slice cm 0 0,⟨ez.pO,U⟩,eO.nil _ _ _ _ _⟩,⟨by rw[ez.jn zO,ez.fJ zO],aa⟩⟩);clear O af aw ab hx az aA U aa T aV UK Y;generalize(a6.up an.heap.size 0).one d 8=bR at*;go_wp2_with(at_builtin;apply fi rfl _ _ 100 rfl 1 bR 111 i0 .nilIface 1 16 cL bf bb ba a9 rfl zO (.slice cm 0 0) (.slice (cu ⟨bv,ov,cm⟩) 1 cv) 0 1 [] [.iface 179 (eF d)])
 all_goals try rfl
 case hown=>exact HA.out.row
 case hx=>exact xB.out
 case h1=>intro y hy;simp at hy;rw[hy];rfl
 case hlen=>omega
 case h=>
 intro v' aX aZ hown T s aB;obtain⟨A4,c4,rfl⟩:=hown.form;have H:=HA.out.app (vals':=[.iface 179 (eF d)]) s T hown;have Y:=H.at_ 15 _ rfl;have bi:=H.fr 15;have PT:=hide (H.set 15 (.slice A4 1 c4) (MY c M gm jK jL (eF jE) (eF gq) (eF sP) (eF kU) (.slice A4 1 c4)) rfl);clear hown T s aB H HA xB;go_upto_region 11 with(fail)
 generalize aX.setCell ⟨g,15,cm⟩ (.slice A4 1 c4)=bE at*;clear Y bi;have q0:bE.cell? ⟨w.heap.size,0,cm⟩=cu (.int .i64 (c.workers:Int)):=PT.out.q.1.1.1.2.at_ 0 rfl;obtain⟨bz,aC⟩:∃Q:cq→ez→Prop,Q=λaW aY=>DF w t c M ans broken reads w.heap.size jK jL jE gq sP kU aW aY∧uv g d (d+1) ⟨1,cI,0,0,0,0,[],cI⟩ aW aY∧jq (d+1) (pQ d) aW aY:=⟨_,rfl⟩
 rw[←aC]at PT;have UL:=hide aC;clear aC;have bB:=hide (PT.out.to (N:=pZ bz g 0 (λ_=>0) (λ_=>0)) (pZ.keep PT.out.keep) (λh=>⟨h,λj hj=>by omega⟩));have b9:c.workers≤8:=HC.out.w2;have UM:=hide PT.out.keep;clear PT;go_wp2_with fail
 go_loopw [83] (λi wr=>∃(k:Nat) (gw mw:Nat→Nat) (tt:ez) (A5:Option Addr) (c5:Nat),k≤c.workers∧i=.int .i64 (k:Int)∧Hid (Mk w0 g (MY c M gm jK jL (eF jE) (eF gq) (eF sP) (eF kU) (.slice A5 (k+1) c5)) (.slice A5 (k+1) c5) (.iface 179 (eF d)::(cH k).map λj=>.iface 181 (eF (gw j))) (pZ bz g k gw mw) wr tt)) (λi _=>c.workers-(intOf i).toNat)
 case atStart=>exact⟨0,_,_,_,A4,c4,db _,rfl,bB⟩
 case round=>
  clear bB;obtain⟨k,gw,mw,tt,A5,c5,hk,rfl,HL⟩:=hrel;by_cases ca:k<c.workers
  ·have bk:(k:Int)<(c.workers:Int):=zO;have Y:=HL.out.at_ 15 _ rfl;go_upto_region 13 with(fail)
   refine vR 9 ?_ (fl:=[0]);refine ed.gz 88 _ _ rfl (enters_of func88 zK rfl) (ee rfl) (od 5 90 0 rfl) (F:=G3 wr.heap.size 268 (λb=>xO g b (b+1) Wk.fresh (.slice cm 0 0) (.slice cm 0 0)) pR) (λ_ W hX h1=>by cases h1;exact(yg g W).mono (by rintro _ w4 ⟨_,rfl,ag,rfl,a1,a2,a3⟩;exact eB.mk ag ⟨_,rfl,((eh _).tr hX).size,a1,a2,a3⟩)) ?_;refine ed.uH 181 (ct 91) Tryz.UF rfl (ee rfl) (od 6 91 0 rfl) ?_;refine ed.lit (Fs:=[_]) [ct 92] 100 111 1 _ rfl rfl zD zD rfl cL zK zK ⟨oX _ _,trivial⟩ (ee rfl) ⟨(od 7 92 0 rfl),trivial⟩ (.g ?_);intro bj aU;refine .any λbM aK=>?_;refine .any λbL aJ=>?_;refine .any λbK aI=>?_;refine .e ?_;clear aK aJ;have O:=(eh wr).tr aU;obtain⟨Av,cv,rfl,-,-,af⟩:=aI;obtain⟨bv,ov,rfl,aw,ab⟩:=af zS;obtain⟨x,hx,u,rfl,bw,rfl,az,aA,U,aa⟩:=ab 0 _ rfl;have xB:=hide (show Src bj (.slice (cu ⟨bv,ov,cm⟩) 1 cv) 1 [.iface 181 (eF bw)]from⟨_,_,rfl,λ_=>⟨bv,ov,rfl,λj y hj=>by
    match j with
    |0=>simp at hj;rw[←hj];exact hx
    |j+1=>simp at hj⟩⟩)
   have T:∀q,q<wr.heap.size→((tt.up wr.heap.size 0).one bw (11+k)) q=tt q:=λq hq=>by rw[ez.jn zO,ez.fB hq]
   have bl:=HL.out.grow O T;have bp:qB (11+k) g bw (bw+1) Wk.fresh bj ((tt.up wr.heap.size 0).one bw (11+k)):=⟨.slice cm 0 0,.slice cm 0 0,⟨ez.pO,U⟩,xo _ _,eO.nil _ _ _ _ _⟩
   have bq:jq (bw+1) (pR bw) bj ((tt.up wr.heap.size 0).one bw (11+k)):=⟨by rw[ez.jn zO,ez.fJ zO],aa⟩
   have HA:=hide (bl.to (pZ.keep (k:=k+1) (gw:=λj=>if j=k then bw else gw j) (mw:=λj=>if j=k then bw+1 else mw j) UM.out) (λhq=>pZ.more hq bp bq));obtain⟨am,au⟩:∃am:Nat→Nat,am=λj=>if j=k then bw else gw j:=⟨_,rfl⟩
   obtain⟨a8,aR⟩:∃a8:Nat→Nat,a8=λj=>if j=k then bw+1 else mw j:=⟨_,rfl⟩
   rw[←au,←aR]at HA;have ao:(.iface 179 (eF d)::(cH k).map λj=>cB 181 (eF (gw j)))++[.iface 181 (eF bw)]=.iface 179 (eF d)::(cH (k+1)).map λj=>cB 181 (eF (am j)):=by
    rw[da,cR,List.cons_append,au];congr 2
    ·refine df λj hj=>?_;have:=List.mem_range.1 hj;show _=cB _ (eF (if j=k then bw else gw j));rw[if_neg zO]
    ·simp
   have aj:(.iface 179 (eF d)::(cH k).map λj=>cB 181 (eF (gw j))).length=k+1:=by simp
   have HV:=hide ao;have bA:=hide aj;have J:=HA.out.row;rw[aj]at J;have HR:=hide J;clear O af aw ab hx az aA U aa T aU bl bp bq HL Y au aR ao aj J;generalize(tt.up wr.heap.size 0).one bw (11+k)=bQ at*;obtain⟨xs,ai⟩:∃xs:List cw,xs=.iface 179 (eF d)::(cH k).map λj=>cB 181 (eF (gw j)):=⟨_,rfl⟩
   rw[←ai]at HA HV bA HR;clear ai;go_wp2_with(at_builtin;apply fi rfl _ _ 100 rfl 1 bQ 111 i0 .nilIface 1 16 cL bf bb ba a9 rfl zO (.slice A5 (k+1) c5) (.slice (cu ⟨bv,ov,cm⟩) 1 cv) (k+1) 1 xs [.iface 181 (eF bw)])
   all_goals try rfl
   case hown=>exact HR.out
   case hx=>exact xB.out
   case h1=>intro y hy;simp at hy;rw[hy];rfl
   case hlen=>omega
   case h=>
   intro v' aX aZ hown T s aB;obtain⟨A6,c6,rfl⟩:=hown.form;rw[HV.out]at hown;have H:=HA.out.app (vals':=.iface 179 (eF d)::(cH (k+1)).map λj=>cB 181 (eF (am j))) s T (by
    have e:(.iface 179 (eF d)::(cH (k+1)).map λj=>cB 181 (eF (am j))).length=k+1+1:=by simp
    rw[e];exact hown)
   have Y:=H.at_ 15 _ rfl;have bi:=H.fr 15;have PT:=hide (H.set 15 (.slice A6 (k+1+1) c6) (MY c M gm jK jL (eF jE) (eF gq) (eF sP) (eF kU) (.slice A6 (k+1+1) c6)) rfl);clear hown T s aB H HA xB HV bA HR;go_wp2_with fail;exact⟨⟨k+1,am,a8,aZ,A6,c6,by omega,rfl,PT⟩,show c.workers-(k+1)<c.workers-k by omega⟩
  ·have bk:¬(k:Int)<(c.workers:Int):=zO;have bX:k=c.workers:=zO;subst bX;go_upto_region 15 with(fail)
   have Y:=HL.out.at_ 15 _ rfl;refine vR 12 ?_ (fl:=[0]);refine ed.gz 89 _ _ rfl (enters_of func89 zK rfl) (ee rfl) (od 5 103 0 rfl) (F:=G3 wr.heap.size 270 (λb=>QW g b (b+1) ⟨1,[]⟩ (.slice cm 0 0)) qR) (λ_ W hX h1=>by cases h1;exact(yh g W).mono (by rintro _ w4 ⟨_,rfl,ag,rfl,a1,a2,a3⟩;exact eB.mk ag ⟨_,rfl,((eh _).tr hX).size,a1,a2,a3⟩)) ?_;refine ed.uH 183 (ct 104) Tryz.UG rfl (ee rfl) (od 6 104 0 rfl) (.g ?_);refine ed.gz 90 _ _ rfl (enters_of func90 zK rfl) (ee rfl) (od 8 106 0 rfl) (F:=G3 wr.heap.size 272 (λb=>S5 g b (b+1) 1) qS) (λ_ W hX h1=>by cases h1;exact(xw g W).mono (by rintro _ w4 ⟨_,rfl,ag,rfl,a1,a2,a3⟩;exact eB.mk ag ⟨_,rfl,((eh _).tr hX).size,a1,a2,a3⟩)) ?_;refine ed.uH 185 (ct 107) Tryz.UH rfl (ee rfl) (od 9 107 0 rfl) ?_;refine ed.lit (Fs:=[_,_]) [ct 105,ct 108] 100 111 2 _ rfl rfl zD zD rfl cL zK zK ⟨oX _ _,oX _ _,trivial⟩ (ee rfl) ⟨(od 7 105 3 rfl),(od 10 108 0 rfl),trivial⟩ (.g ?_);intro b5 aT;refine .any λbJ aH=>?_;refine .any λbI aG=>?_;refine .e ?_;refine .any λbH aF=>?_;refine .any λbD aq=>?_;refine .any λbC ap=>?_;refine .e ?_;clear aH aG aF aq;have O:=(eh wr).tr aT;obtain⟨Av,cv,rfl,-,-,af⟩:=ap;obtain⟨bv,ov,rfl,aw,ab⟩:=af zS;obtain⟨x,hx,u,rfl,bm,rfl,az,aA,U,aa⟩:=ab 0 _ rfl;obtain⟨y,hy,u,rfl,be,rfl,bn,bo,ah,ar⟩:=ab 1 _ rfl;have xB:=hide (show Src b5 (.slice (cu ⟨bv,ov,cm⟩) 2 cv) 2 [.iface 183 (eF bm),.iface 185 (eF be)]from⟨_,_,rfl,λ_=>⟨bv,ov,rfl,λj z hj=>by
    match j with
    |0=>simp at hj;rw[←hj];exact hx
    |1=>simp at hj;rw[←hj];exact hy
    |j+2=>simp at hj⟩⟩)
   have n1:bm≠be:=λe=>by
    subst e;have h1:=U;have h2:=ah;unfold Box at h1 h2;rw[h1]at h2;cases h2
   have n2:be≠bm+1:=xy ah aa;have n3:bm≠be+1:=xy U ar;obtain⟨tn,ak⟩:∃tn,tn=((tt.up wr.heap.size 0).one bm 9).one be 10:=⟨_,rfl⟩
   have T:∀q,q<wr.heap.size→tn q=tt q:=λq hq=>by rw[ak,ez.jn zO,ez.jn zO,ez.fB hq]
   have t1:tn bm=9:=by rw[ak,ez.jn n1];exact ez.pO
   have t2:tn be=10:=by rw[ak];exact ez.pO
   have t3:tn (bm+1)=0:=by rw[ak,ez.jn (Ne.symm n2),ez.jn zO,ez.fJ zO]
   have t4:tn (be+1)=0:=by rw[ak,ez.jn zO,ez.jn (Ne.symm n3),ez.fJ zO]
   have HA:=hide ((HL.out.grow O T).add (((xf.keeps g bm (bm+1) ⟨1,[]⟩).one zD).and (((xg.keeps g be (be+1) 1).one zD).and (((jq.keeps 0 (bm+1) (qR bm)).one zD).and ((jq.keeps 0 (be+1) (qS be)).one zD)))) ⟨⟨.slice cm 0 0,⟨t1,U⟩,qo _ _⟩,⟨t2,ah⟩,⟨t3,aa⟩,⟨t4,ar⟩⟩);have aj:(.iface 179 (eF d)::(cH c.workers).map λj=>cB 181 (eF (gw j))).length=c.workers+1:=by simp
   have J:=HA.out.row;rw[aj]at J;have HR:=hide J;clear O af aw ab hx az aA U aa hy bn bo ah ar T aT HL Y J aj t1 t2 t3 t4 ak n1 n2 n3;obtain⟨xs,ai⟩:∃xs:List cw,xs=.iface 179 (eF d)::(cH c.workers).map λj=>cB 181 (eF (gw j)):=⟨_,rfl⟩
   rw[←ai]at HA HR;have Hxs:=hide ai;clear ai;go_wp2_with(at_builtin;apply fi rfl _ _ 100 rfl 1 tn 111 i0 .nilIface 1 16 cL bf bb ba a9 rfl zO (.slice A5 (c.workers+1) c5) (.slice (cu ⟨bv,ov,cm⟩) 2 cv) (c.workers+1) 2 xs [.iface 183 (eF bm),.iface 185 (eF be)])
   all_goals try rfl
   case hown=>exact HR.out
   case hx=>exact xB.out
   case h1=>first|exact⟨rfl,rfl⟩|(intro z hz;simp at hz;rcases hz with rfl|rfl<;>rfl)
   case hlen=>omega
   case h=>
   intro v' aX aZ hown T s aB;obtain⟨A6,c6,rfl⟩:=hown.form;have H:=HA.out.app (vals':=xs++[cB 183 (eF bm),cB 185 (eF be)]) s T (by
    have e:(xs++[cB 183 (eF bm),cB 185 (eF be)]).length=c.workers+1+2:=by rw[cN,Hxs.out];simp
    rw[e];exact hown)
   have Y:=H.at_ 15 _ rfl;have bi:=H.fr 15;have bu:=H.set 15 (.slice A6 (c.workers+1+2) c6) (MY c M gm jK jL (eF jE) (eF gq) (eF sP) (eF kU) (.slice A6 (c.workers+1+2) c6)) rfl;have HFin:=hide (FX (xs:=xs) HS.out.1 HS.out.2.1 bu Hxs.out UL.out);clear hown T s aB H bu HA xB HR;go_wp2
   go_ret2
   obtain⟨D,t',e1,e2,e3,e4,e5,e6,e7,e8,e9⟩:=HFin.out;exact⟨D,t',by rw[e1];rfl,e2,e3,e4,e5,e6,e7,e8,e9⟩
end
end
def tA(cl:Nat→Int)(m n:Nat)(vr:cw):AV:=arr 259 λi=>if i<256 then iV (cl i)else if i=256 then iV m else if i=257 then iV n else vr
theorem Rc(cl:Nat→Int)(m n:Nat)(A:Option Addr)(a c:Nat):prog.built 161 [(0,.agg (iL cl)),(1,iV m),(2,iV n),(3,.slice A a c)]=cu (tA cl m n (.slice A a c)):=by kernel_rfl
theorem Re(cl:Nat→Int)(m n:Nat)(A:Option Addr)(a c:Nat)(f:Bool)(B:Option Addr)(b d:Nat)(lo s:Int):prog.built 166 [(0,.agg (tA cl m n (.slice A a c))),(1,.agg #[.bool f,.slice B b d]),(2,iV lo),(3,iV s)]=cu (mA cl m n (.slice A a c) f (.slice B b d) lo s nS):=by kernel_rfl
theorem Be(cl:Nat→Int)(m n:Nat)(vr:cw)(f:Bool)(vs:cw)(lo s:Int)(E d:cw):(mA cl m n vr f vs lo s E).setIfInBounds 263 d=mA cl m n vr f vs lo s d:=by
 unfold mA;rw[nq];rfl
theorem Rf{cl:Nat→Int}{m:Nat}{vr:cw}{j:Nat}{v:cw}(h:(iL cl)[j]?=cu v):(eA cl m vr)[j]?=cu v:=by
 by_cases d:j<256
 ·rw[CI cl d]at h;unfold eA;rw[fw zO,if_pos d];exact h
 grind[Array.getElem?_eq_none,fo]
theorem ON{cl:Nat→Int}{m:Nat}{vr:cw}:(eA cl m vr)[256]?=cu (iV m):=by grind[eA,fw]
theorem Rh{cl:Nat→Int}{m:Nat}{vr:cw}:(eA cl m vr)[257]?=cu vr:=by grind[eA,fw]
theorem fE.same{w s:cq}{base:Nat}{e J:cS}{v:cw}{U:LL}(h:fE w base e J v U)(hs:w.heap.size≤s.heap.size)(key:∀(k:Nat) (cs:AV) (t:cS) (m:Nat×Nat),w.heap[k]?=cu (.cells cs t m)→t=e∨t=J→s.heap[k]?=w.heap[k]?):fE s base e J v U:=by
 obtain⟨xs,h1,h2,h3⟩:=h;refine⟨xs,⟨h1.1,?_⟩,h2,λi p1 Y=>jZ.keep (h3 i p1 Y) hs λg E=>?_⟩
 ·rcases h1.2 with h4|⟨g,T,O,rfl,H,d,r⟩
  ·grind
  ·exact .inr ⟨g,T,O,rfl,H,(key g _ _ _ d (.inl rfl)).trans d,r⟩
 ·obtain⟨h4,cs,m,h5,-⟩:=(h3 i p1 Y).2 g E;grind
theorem Tryz.Ri:(prog.info? 28).map (λi=>(i.zero,i.size,i.bytes))=cu (cu nS,1,24):=by rfl
theorem mu{w:cq}{a b:Nat}{T U:cS}{cs s:AV}(h:Box w a T cs)(k:Box w b U s)(d:T≠U):a≠b:=by
 intro e;subst e;have:=h.symm.trans k;grind
def nB(w:cq)(v:cw)(ws:LL):Prop:=fE w 0 43 5 v ws
theorem nB.far{w d:cq}{v:cw}{ws:LL}{g:Nat}{T:cS}{cs:AV}{m:Nat×Nat}(h:nB w v ws)(U:w.heap[g]?=cu (.cells cs T m))(h1:T≠43)(Y:T≠5)(s:w.grownBy d (cu g)):nB d v ws:=
 fE.same h s.size λk H t J E O=>s.block k (cn.1 E).1 λe=>by
  grind
theorem nB.wk{w d:cq}{v:cw}{ws:LL}(h:nB w v ws)(s:qY w d):nB d v ws:=fE.same h s.size λ_ _ _ _ E _=>s.same (cn.1 E).1
theorem nB.ext{w d:cq}{v:cw}{ws:LL}(h:nB w v ws)(s:Ext w d):nB d v ws:=h.wk s.weak
def MZ(f:Bool)(ws:LL):VP:=⟨λv w=>∃d,v=.agg #[.bool f,d]∧nB w d ws,λ_ _ _ ⟨d,H,E⟩ s=>⟨d,H,E.wk s⟩⟩
theorem FY(f:Bool)(ws:LL)(u:cw)(w:cq)(E:jj f ws u w)(hl:∀b∈ws,b.length≤1000000)(s:ws.length≤1000000):dn cP 77 #[u] w (eB w (MZ f ws)):=by
 refine(Cj f ws u w E hl s).mono ?_;rintro x U ⟨r,T,O,d,J,H⟩;subst J;exact⟨_,T,O,d,rfl,fE.low H (db _)⟩
def PU(cl:Nat→Int)(m n:Nat)(vr:cw)(f:Bool)(ws:LL)(lo:Int):VP:=⟨λv w=>∃d s,v=.agg (mA cl m n vr f d lo s nS)∧nB w d ws,λ_ _ _ ⟨d,s,J,H⟩ E=>⟨d,s,J,H.wk E⟩⟩
def Rj(base:Nat)(cl:Nat→Int)(m n:Nat)(vr:cw)(f:Bool)(ws:LL)(lo:Int):VP:=⟨λv w=>∃b d s,v=gP b∧base≤b∧Box w b 166 (mA cl m n vr f d lo s nS)∧nB w d ws,λ_ _ _ ⟨b,d,s,T,O,H,J⟩ E=>⟨b,d,s,T,O,(E.same H.lt).trans H,J.wk E⟩⟩
section
variable {Q:Exit→Act→cq→Prop} {ops:Array dq} {M q:Nat} {a0:Act} {w0:cq} {K:List dq→List VP→Prop} {o:dq} {rest:List dq} {env:List VP}
theorem ed.Ka{cl:Nat→Int}{m n:Nat}{A:Option Addr}{a c:Nat}{f:Bool}{ws:LL}{lo:Int}(x y z u:di)(ho:o.op=.build 166 #[(0,x),(1,y),(2,z),(3,u)])
  (hw:Want ops M a0 w0 env o true)(hx:fu ops M a0 w0 env o x (eC (.agg (tA cl m n (.slice A a c)))))(hy:fu ops M a0 w0 env o y (MZ f ws))(Y:fu ops M a0 w0 env o z (eC (iV lo)))(hu:fu ops M a0 w0 env o u Oj)
  (T:ed cP Q ops M a0 w0 K q rest (PU cl m n (.slice A a c) f ws lo::env)):ed cP Q ops M a0 w0 K (q+1) (o::rest) env:=
 .new hw (λs w H O J=>by
  have h0:s.eval x=_:=hx s w H O J;have h1:=hy s w H O J;have h2:s.eval z=_:=Y s w H O J;obtain⟨E,h3⟩:∃E:Int,s.eval u=iV E:=hu s w H O J;obtain⟨sl,h4,U⟩:=h1;obtain⟨B,d,rfl⟩:=fE.form U;refine⟨.agg (mA cl m n (.slice A a c) f (.slice B ws.length d) lo E nS),w,?_,Ext.rf _,_,E,rfl,U⟩;have T:=run_build (P:=cP) w 166 #[(0,.agg (tA cl m n (.slice A a c))),(1,.agg #[.bool f,.slice B ws.length d]),(2,iV lo),(3,iV E)] _ (Re cl m n A a c f B ws.length d lo E);unfold dp;simp_all) T
theorem ed.OO{cl:Nat→Int}{m n:Nat}{vr:cw}{f:Bool}{ws:LL}{lo:Int}(x:di)(J:o.op=.box 166 x)(E:Want ops M a0 w0 env o true)(hx:fu ops M a0 w0 env o x (PU cl m n vr f ws lo))
  (H:ed cP Q ops M a0 w0 K q rest (Rj w0.heap.size cl m n vr f ws lo::env)):ed cP Q ops M a0 w0 K (q+1) (o::rest) env:=
 .TR x E hx (λρ w O Y=>by
  obtain⟨d,s,U,T⟩:=Y;refine⟨_,w.alloc (.cells (mA cl m n vr f d lo s nS) 166),?_,ek _ _,w.heap.size,d,s,rfl,O.size,Box.new _ _ _,T.ext (ek _ _)⟩;unfold dp;simp[J,U,newVar,Value.cells,go_sem]) H
end
end Go.Proofs.YtofgfpffcegioaaGreat
