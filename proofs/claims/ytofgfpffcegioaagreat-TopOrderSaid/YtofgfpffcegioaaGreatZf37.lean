/- A part of the proof. -/
import Derived.Test.YtofgfpffcegioaaGreatZf36
import Derived.Laws.CopyOwn
set_option maxRecDepth 100000
set_option maxHeartbeats 8000000
namespace Go.Proofs.YtofgfpffcegioaaGreat
open Go.RowKit Go.Shelf Go.Sort iT jH Go.Proofs.Tryz
open _root_.Array renaming getElem?_eq_none → bW,getElem?_toList → b8,replicate_succ → ca,replicate_zero → cb,ext' → cm
open Bool renaming true → cf
open Go renaming Value → bz,World → bB,setRow_heap → bU,wpList_store_row → bV,setRow_other → bX,callsIn_wide → bY,Calls → b6
open Go.Fence renaming wide → bL
open Go.IntWalk renaming wrap64_in → ck
open Go.Proofs.Tryz renaming underlying28 → bK,prog → ch
open Go.World renaming size_alloc → bI
open Go.World.grownBy renaming refl → bN
open List renaming getElem?_map → bA,getElem?_range → bC,getElem?_eq_getElem → bE,length_map → bF,length_range → bG,range → bH,getElem?_append_right → bM,getD_eq_getElem?_getD → bP,getElem?_append_left → bQ,getElem?_eq_some_iff → bR,ext_getElem? → bS,foldl_append → bT,nil_append → b7,getElem?_eq_none → b9,append_toArray → cj
open Nat renaming le_refl → bD,le_trans → bJ,eq_zero_or_pos → bO,zero_add → bZ,mul_le_mul_right → cg
open Option renaming some → bm,none → bs,map_some → b5
open UInt8 renaming toNat_lt → cd
section
attribute [local go_sem] Oper.semAt_some
def sF(p:Nat)(cl:Nat→Int)(lF:L8)(F:Nat→Nat)(k:Nat):Nat→Nat:=λi=>if i=p+(cl (lF.getD k 0).toNat).toNat then k else F i
def sG(p q m:Nat)(F:Nat→Nat):Nat→Nat:=λi=>if p≤i∧i<p+m then F (q+(i-p))else F i
theorem Mf{w W W':bB}{g B:Nat}{row:Option Nat}(h:oM g w W)(d:W.grownBy W' row)(H:∀r,row=bm r→B≤r∧∃o:Obj,W.heap[r]?=bm o∧o.isCells=false)(I:w.heap.size≤B):oM g w W':=
 ⟨d.os.trans h.os,d.tape.trans h.tape,d.output.trans h.output,bJ h.size d.size,λk E s=>(d.block k (Nat.lt_of_lt_of_le E h.size) (λe=>by grind)).trans (h.block k E s)⟩
theorem GS{w W:bB}{g D:Nat}(h:oM g w W)(E:w.heap.size≤D)(o:Obj):oM g w (W.putObj D o):=
 ⟨h.os,h.tape,h.output,by simpa using h.size,λk s d=>(World.putObj_heap_other zO).trans (h.block k s d)⟩
def Mh(w:bB)(gr b4 q p:Nat)(v4:bz)(cl:Nat→Int)(lF:L8)(F:Nat→Nat)(s0:Nat)(pre:List Nat)(W:bB):Prop:=
 oM gr w W∧Box W gr 3 (fA q (pre.foldl (sF p cl lF) F))∧Box W b4 28 #[v4]∧s0≤W.heap.size
theorem CU{w:bB}{gr b4 q p:Nat}{v4:bz}{cl:Nat→Int}{lF:L8}{F:Nat→Nat}{s0:Nat}(B:Nat)(H:w.heap.size≤B):OwnFrom B (Mh w gr b4 q p v4 cl lF F s0):=by
 rintro E W U s ⟨T,O,J,I⟩ d h;exact⟨Mf T d h H,jc O d h,jc J d h,bJ I d.size⟩
theorem sH{w:bB}{gr b4 q p:Nat}{v4:bz}{cl:Nat→Int}{lF:L8}{F:Nat→Nat}{s0:Nat}(pre:List Nat)(W W':bB)(h:Mh w gr b4 q p v4 cl lF F s0 pre W)(d:Ext W W'):Mh w gr b4 q p v4 cl lF F s0 pre W':=
 ⟨so h.1 d,h.2.1.ext d,h.2.2.1.ext d,bJ h.2.2.2 d.size⟩
theorem CV(n:Nat)(hn:1≤n)(I E g m:Nat)(cl:Nat→Int)(vr T u1 u2 O vl:bz)(up:List Int)(lF:L8)(nd:Nat)(h w:bB)
  (hU:eQ up T h)(ab:eu lF O h)(s:lF.length=up.length)(U:1≤up.length)
  (aa:Ext h w)(V:Box w E 324 #[gP g])(Y:Box w I 3 #[iV nd])(hg:Box w g 244 (dA cl m vr T u1 u2 O vl)) :
  oD bL n ch 236 #[gP E,gP I] (λx:Nat=>#[iV (cl (lF.getD x 0).toNat),iV x]) (fc h.heap.size [E,I,g]) Ext (λ_ _=>True) (λxs=>xs=ob up nd up.length) (λd=>d<+:ob up nd up.length) (λd=>d<+:ob up nd up.length) w:=λl J Jx W H hJ hY h0=>
 Me n hn l I E g _ m cl vr T u1 u2 O vl up lF nd h rfl J Jx hJ hY hU ab s U W (aa.tr H) (V.ext H) (Y.ext H) (hg.ext H) h0
theorem ql{w:bB}{g gr q m:Nat}{cl:Nat→Int}{vr H E s h d:bz}{F:Nat→Nat}(J:Box w g 244 (dA cl m vr H E s h d))(I:Box w gr 3 (fA q F)):g≠gr:=by
 rintro rfl;have T:w.heap[g]?=_:=J;have O:w.heap[g]?=_:=I;grind
theorem AD(q:Nat)(F:Nat→Nat):(fA q F).toList=(bH q).map λi=>iV (F i:Int):=by
 apply bS;intro i;rw[b8,bA];grind[wJ,bC,bW,GP,b9]
theorem Oy{q p r m:Nat}{F:Nat→Nat}(h:p+m≤q):((fA q F).toList.take p++(((bH m).map λj=>iV (F (r+j):Int))++(fA q F).toList.drop (p+((bH m).map λj=>iV (F (r+j):Int)).length))).toArray=fA q (sG p r m F):=by
 apply cm;rw[AD,AD];apply bS;intro i;simp only[bF,bG];by_cases d:i<p
 ·rw[bQ zG,List.getElem?_take,if_pos d,bA,bA,bC zO];simp only[b5];unfold sG;grind
 ·rw[bM zG];have s:(List.take p ((bH q).map λi=>iV (F i:Int))).length=p:=zG;rw[s];by_cases H:i<p+m
  ·rw[bQ zG,bA,bA,bC zO,bC zO];simp_all[b5,sG]
  ·rw[bM zG,List.getElem?_drop,bA,bA];simp only[bF,bG];rw[show p+m+(i-p-m)=i by omega];by_cases E:i<q
   ·simp_all[b5,sG,if_neg]
   grind
theorem Mi{w W:bB}{g:Nat}(h:oM g w W)(cs:AV):oM g w (W.setRow g cs):=
 ⟨h.os,h.tape,h.output,by simpa[World.setRow]using h.size,λk s d=>(bX W g k cs (λe=>d (by rw[e]))).trans (h.block k s d)⟩
attribute [local irreducible] ew ed in
theorem Mj(g gr n m nd:Nat)(cl:Nat→Int)(u0 u1 u2 u3 vl:bz)(up:List Int)(lF:L8)(ah:List Nat)(F:Nat→Nat)(wB w:bB)
  (hE:Ext wB w)(hU:eQ up u0 wB)(a3:eu lF u3 wB)(aZ:eT ah vl wB)(az:up.length=n)(aD:lF.length=up.length)(aU:ah.length=n)
  (hg:Box w g 244 (dA cl m (.slice (bm ⟨gr,0,bs⟩) (n*m) (n*m)) u0 u1 u2 u3 vl))(hr:Box w gr 3 (fA (n*m) F))(ap:wB.heap.size≤gr)(aI:nd<n)(aw:1≤m)(aT:m≤257)(hn:n≤400)(aN:0<nd→ah.getD nd 0<nd)(aW:∀i,i<256→0≤cl i∧cl i<(m:Int)) :
  b6 ch 120 #[gP g,iV nd] w λe w'=>e=.returned (.tuple #[])∧oM gr w w'∧
   Box w' gr 3 (fA (n*m) ((ob up nd n).foldl (sF (nd*m) cl lF) (if nd=0 then F else sG (nd*m) (ah.getD nd 0*m) m F))):=by
 refine(bY (n:=9)).1 ?_;have h1:1≤9:=zO;obtain⟨AL,cL,rfl,bj,bi,aY⟩:=eT.form aZ;obtain⟨bl,ol,rfl,bh,aK⟩:=aY zO;unfold maxLen at bi;rw[aU]at hg bj aK;have Xh:=hide aK;clear aK aY aZ;have aB:=CN g gr n m nd cl u0 u1 u2 u3 _ w hg aI aw aT hn;obtain⟨bk,aC⟩:=sE aI aw;obtain⟨F3,aj⟩:∃F3,(if nd=0 then F else sG (nd*m) (ah.getD nd 0*m) m F)=F3:=⟨_,rfl⟩
 rw[aj];have a6:nd*m+m≤n*m:=by rw[Nat.add_mul,Nat.one_mul]at aC;exact aC
 refine callsIn_of_wp_marks func120 rfl trivial ?_ rfl;simp only[ntmps120,List.size_toArray,List.length_cons,List.length_nil,Nat.reduceAdd,Nat.reduceSub,ca,cb,List.push_toArray,cj,b7,List.cons_append]
 gi_upto_region 1 with(refine⟨trivial,?_⟩;gi_at_call 178;refine(bY.2 aB).mono ?_;rintro e w2 ⟨u,rfl,ak,rfl⟩)
 obtain⟨O,au⟩:∃O,w2.alloc (.cells #[.slice (bm ⟨gr,nd*m,bs⟩) m (n*m-nd*m)] 28)=O:=⟨_,rfl⟩
 have aH:Ext w2 O:=by rw[←au];exact ek _ _
 have af:Box O w2.heap.size 28 #[.slice (bm ⟨gr,nd*m,bs⟩) m (n*m-nd*m)]:=by rw[←au];exact Box.new _ _ _
 obtain⟨b4,aG⟩:∃b4,w2.heap.size=b4:=⟨_,rfl⟩
 have bp:=hr.lt;have ae:b4≠gr:=by have:=ak.size;omega
 have ay:=ak.tr aH;change Code.wpIn _ _ _ _ _ _ (w2.alloc (.cells #[.slice (bm ⟨gr,nd*m,bs⟩) m (n*m-nd*m)] 28));rw[au];rw[aG]at af ⊢;clear aB au ak aH aG;have hO:=so (bN w (bm gr)) ay;have ad:=hE.tr ay;have E:=hg.ext ay;have T:=hr.ext ay;rcases bO nd with h0|h0
 ·have aJ:(nd:Int)=0:=zO;rw[if_pos h0]at aj;rw[aj]at T
  gi_upto_region 3 with(fail)
  clear aJ h0;gi_wp2_with (refine⟨trivial,?_⟩;gi_at_call 179;refine(bY.2 (CO g nd _)).mono ?_;rintro e w2 ⟨rfl,rfl⟩)
  obtain⟨U,J⟩:∃U,((O.alloc (.cells #[gP g] 324)).alloc (.cells #[iV nd] 3))=U:=⟨_,rfl⟩
  have ag:Ext O U:=by rw[←J];exact(ek _ _).tr (ek _ _)
  have a5:U.heap.size=O.heap.size+2:=by rw[←J];simp
  have aR:Box U O.heap.size 324 #[gP g]:=by rw[←J];exact(Box.new _ _ _).alloc _
  have aQ:Box U (O.heap.size+1) 3 #[iV nd]:=by
   rw[←J];have:=Box.new (O.alloc (.cells #[gP g] 324)) 3 #[iV nd]
   rwa [bI]at this
  rw[J];have ar:=sH [] O U (w:=w) (gr:=gr) (b4:=b4) (q:=n*m) (p:=nd*m) (v4:=.slice (bm ⟨gr,nd*m,bs⟩) m (n*m-nd*m)) (cl:=cl) (lF:=lF) (F:=F3) (s0:=O.heap.size) ⟨hO,T,af,bD _⟩ ag;have a4:=hO.size;have bb:=T.lt;have bc:=E.lt;have a7:=ql E T;refine je (F:=bL) rfl h1 (gf:=236) (lb:=#[gP O.heap.size,gP (O.heap.size+1)]) rfl trivial (enters_of func236 zK rfl)
   (CV 8 zO (O.heap.size+1) O.heap.size g m cl _ u0 u1 u2 u3 (.slice (bm ⟨bl,ol,bs⟩) n cL) up lF nd wB U hU a3 aD zO (ad.tr ag) aR aQ (E.ext ag)) fc.t
   (λW l o' hl=>fc.put (M:=U.heap.size) (by have:=ad.size;omega) zT W l o' hl)
   (λW W' k aS hk aL=>aS.block k aL) (λV W l o' hl hT=>trivial) (λ_=>rfl)
   (Mh w gr b4 (n*m) (nd*m) (.slice (bm ⟨gr,nd*m,bs⟩) m (n*m-nd*m)) cl lF F3 O.heap.size) (λ_ _ _=>False) (CU _ zO) (λ_ _ _ _ _ h _ _=>h.elim) sH
   ar ?a1 ?assign ?body ?done ?stop
  case assign=>
   intro l x W K' hK;gi_wp2;exact hK
  case body=>
   rintro l V x W ⟨Y,d,I,al⟩ am;obtain⟨aP,aO⟩:=aW (lF.getD x 0).toNat (cd _);obtain⟨c,hc⟩:∃c:Nat,cl (lF.getD x 0).toNat=(c:Int):=⟨(cl (lF.getD x 0).toNat).toNat,by omega⟩
   have hd:=I.at_ 0 rfl;have s:=d.eL (nd*m+c) (iV x);rw[Mb]at s;have H:(λj=>if j=nd*m+c then x else V.foldl (sF (nd*m) cl lF) F3 j)=(V++[x]).foldl (sF (nd*m) cl lF) F3:=by
    rw[bT];show _=sF (nd*m) cl lF _ x;unfold sF;rw[hc];rfl
   rw[H]at s;have be:W.cell? ⟨gr,nd*m+c,bs⟩=bm _:=(d.cell (nd*m+c)).trans (wJ zO);have bg:=d.frozen (nd*m+c);have aa:=eM Y (nd*m+c) (iV x);have ab:=I.far (p:=⟨gr,nd*m+c,bs⟩) (by have:=ae;exact this) (iV x);have an:fc wB.heap.size [O.heap.size,O.heap.size+1,g] W (W.setCell ⟨gr,nd*m+c,bs⟩ (iV x)):=fc.set (fc.rf _ _ W) _ _ ap zT;have ao:KeepsFrom U.heap.size W (W.setCell ⟨gr,nd*m+c,bs⟩ (iV x)):=(KeepsOthers.setCell W _ _).from _;have gK:=hide (And.intro ao (And.intro an (And.intro aa (And.intro s (And.intro ab (show O.heap.size≤(W.setCell ⟨gr,nd*m+c,bs⟩ (iV x)).heap.size by simpa[World.setCell]using al))))));have bf:c<m:=zO;clear s H aa ab an ao Y d ar;have aq:cl (lF[x]?.getD 0).toNat=(c:Int):=by rw[←bP];exact hc
   rw[aq];clear aq hc aP aO;generalize nd*m=p at*;gi_wp2;exact gK.out
  case done=>
   rintro D xs W hD rfl-⟨Y,d,I,al⟩ hK;gi_wp2;refine⟨by simp,.inl ⟨_,_,rfl,run_takeDeferred hK,?_⟩⟩;rw[az]at d;refine⟨.tuple #[],by simp[results,results120,go_sem],rfl,GS Y zO _,(World.putObj_heap_other zO).trans d⟩
  case stop=>
   rintro D c' V W hD am-h hK;exact h.elim
 ·have aJ:¬(nd:Int)=0:=zO;rw[if_neg zO]at aj;have a8:=aN h0;obtain⟨k,hk⟩:∃k,ah.getD nd 0=k:=⟨_,rfl⟩
  have aF:=(ad.cell (p:=⟨bl,ol+nd,bs⟩) bh).trans (Xh.out nd aI);rw[hk]at aF a8 aj;have aM:=(E.cell 262).trans Ma;have bd:=af.at_ 0 rfl;have PC:=hide (λW (hX:Ext O W)=>CN g gr n m k cl u0 u1 u2 u3 _ W (E.ext hX) zO aw aT hn);obtain⟨bn,aE⟩:=sE (j:=k) (n:=n) (m:=m) zO aw;have bo:k*m+m≤n*m:=by rw[Nat.add_mul,Nat.one_mul]at aE;exact aE
  gi_upto_region 2 with(fail)
  clear aJ h0;refine fR fe (λ⟨_,_,h⟩=>by obtain⟨⟨_,h⟩,-⟩:=h) zK 10 zK zK (.g ?_);refine ed.fD (i:=nd) 28 3 _ _ rfl bK zK zO wA oA oA (.g ?_);refine ed.call2 178 _ _ _ rfl (enters_of func178 zK rfl) wA oA oA (λ_ _ W hX h1 h2=>by cases h1;cases h2;exact PC.out W ((eh _).tr hX)) (.g ?_);intro W2 ak;have ai:=(eh O).tr ak;have av:=T.ext ai;have aA:∀(j:Nat) (v:bz),((bH m).map λj=>iV (F (k*m+j):Int))[j]?=bm v→W2.cell? ((⟨gr,k*m,bs⟩:Addr).add j)=bm v:=λj v hj=>by
   obtain⟨a9,aV⟩:=bR.1 hj;simp only[bF,bG]at a9;rw[List.getElem_map,List.getElem_range]at aV;rw[addr_add,av.cell,wJ zO,aV]
  refine wpList_copy_own rfl _ _ 28 28 rfl 3 bK zK gr (nd*m) m _ ⟨gr,k*m,bs⟩ m _ rfl rfl (fA (n*m) F) 3 av ((bH m).map λj=>iV (F (k*m+j):Int)) zS aA (by rw[GP];simp;omega) (by intro v hv;obtain⟨j,-,rfl⟩:=List.mem_map.1 hv;rfl) ?_;rw[Oy (q:=n*m) (p:=nd*m) (r:=k*m) (m:=m) (F:=F) a6,aj];have hO:=Mi (so hO ai) (fA (n*m) F3);have ad:Ext wB (W2.setRow gr (fA (n*m) F3)):=below_setRow (ad.tr ai) ap _;have T:Box (W2.setRow gr (fA (n*m) F3)) gr 3 (fA (n*m) F3):=bU W2 gr _ _ _ _ av;have ba:=ql hg hr;have E:Box (W2.setRow gr (fA (n*m) F3)) g 244 _:=(bX W2 gr g _ ba).trans (E.ext ai);have af:Box (W2.setRow gr (fA (n*m) F3)) b4 28 _:=(bX W2 gr b4 _ ae).trans (af.ext ai);obtain⟨W5,aX⟩:∃W5,W2.setRow gr (fA (n*m) F3)=W5:=⟨_,rfl⟩
  rw[aX]at hO ad T E af ⊢;clear aX ai av aA ak PC bd aM aF;go_wp2;gi_wp2_with (refine⟨trivial,?_⟩;gi_at_call 179;refine(bY.2 (CO g nd _)).mono ?_;rintro e w2 ⟨rfl,rfl⟩)
  obtain⟨U,J⟩:∃U,((W5.alloc (.cells #[gP g] 324)).alloc (.cells #[iV nd] 3))=U:=⟨_,rfl⟩
  have ag:Ext W5 U:=by rw[←J];exact(ek _ _).tr (ek _ _)
  have a5:U.heap.size=W5.heap.size+2:=by rw[←J];simp
  have aR:Box U W5.heap.size 324 #[gP g]:=by rw[←J];exact(Box.new _ _ _).alloc _
  have aQ:Box U (W5.heap.size+1) 3 #[iV nd]:=by
   rw[←J];have:=Box.new (W5.alloc (.cells #[gP g] 324)) 3 #[iV nd]
   rwa [bI]at this
  rw[J];have ar:=sH [] W5 U (w:=w) (gr:=gr) (b4:=b4) (q:=n*m) (p:=nd*m) (v4:=.slice (bm ⟨gr,nd*m,bs⟩) m (n*m-nd*m)) (cl:=cl) (lF:=lF) (F:=F3) (s0:=W5.heap.size) ⟨hO,T,af,bD _⟩ ag;have a4:=hO.size;have bb:=T.lt;have bc:=E.lt;have a7:=ql E T;refine je (F:=bL) rfl h1 (gf:=236) (lb:=#[gP W5.heap.size,gP (W5.heap.size+1)]) rfl trivial (enters_of func236 zK rfl)
   (CV 8 zO (W5.heap.size+1) W5.heap.size g m cl _ u0 u1 u2 u3 (.slice (bm ⟨bl,ol,bs⟩) n cL) up lF nd wB U hU a3 aD zO (ad.tr ag) aR aQ (E.ext ag)) fc.t
   (λW l o' hl=>fc.put (M:=U.heap.size) (by have:=ad.size;omega) zT W l o' hl)
   (λW W' k aS hk aL=>aS.block k aL) (λV W l o' hl hT=>trivial) (λ_=>rfl)
   (Mh w gr b4 (n*m) (nd*m) (.slice (bm ⟨gr,nd*m,bs⟩) m (n*m-nd*m)) cl lF F3 W5.heap.size) (λ_ _ _=>False) (CU _ zO) (λ_ _ _ _ _ h _ _=>h.elim) sH
   ar ?a2 ?assign2 ?body2 ?done2 ?stop2
  case assign2=>
   intro l x W K' hK;gi_wp2;exact hK
  case body2=>
   rintro l V x W ⟨Y,d,I,al⟩ am;obtain⟨aP,aO⟩:=aW (lF.getD x 0).toNat (cd _);obtain⟨c,hc⟩:∃c:Nat,cl (lF.getD x 0).toNat=(c:Int):=⟨(cl (lF.getD x 0).toNat).toNat,by omega⟩
   have hd:=I.at_ 0 rfl;have s:=d.eL (nd*m+c) (iV x);rw[Mb]at s;have H:(λj=>if j=nd*m+c then x else V.foldl (sF (nd*m) cl lF) F3 j)=(V++[x]).foldl (sF (nd*m) cl lF) F3:=by
    rw[bT];show _=sF (nd*m) cl lF _ x;unfold sF;rw[hc];rfl
   rw[H]at s;have be:W.cell? ⟨gr,nd*m+c,bs⟩=bm _:=(d.cell (nd*m+c)).trans (wJ zO);have bg:=d.frozen (nd*m+c);have aa:=eM Y (nd*m+c) (iV x);have ab:=I.far (p:=⟨gr,nd*m+c,bs⟩) (by have:=ae;exact this) (iV x);have an:fc wB.heap.size [W5.heap.size,W5.heap.size+1,g] W (W.setCell ⟨gr,nd*m+c,bs⟩ (iV x)):=fc.set (fc.rf _ _ W) _ _ ap zT;have ao:KeepsFrom U.heap.size W (W.setCell ⟨gr,nd*m+c,bs⟩ (iV x)):=(KeepsOthers.setCell W _ _).from _;have gK:=hide (And.intro ao (And.intro an (And.intro aa (And.intro s (And.intro ab (show W5.heap.size≤(W.setCell ⟨gr,nd*m+c,bs⟩ (iV x)).heap.size by simpa[World.setCell]using al))))));have bf:c<m:=zO;clear s H aa ab an ao Y d ar;have aq:cl (lF[x]?.getD 0).toNat=(c:Int):=by rw[←bP];exact hc
   rw[aq];clear aq hc aP aO;generalize nd*m=p at*;gi_wp2;exact gK.out
  case done2=>
   rintro D xs W hD rfl-⟨Y,d,I,al⟩ hK;gi_wp2;refine⟨by simp,.inl ⟨_,_,rfl,run_takeDeferred hK,?_⟩⟩;rw[az]at d;refine⟨.tuple #[],by simp[results,results120,go_sem],rfl,GS Y zO _,(World.putObj_heap_other zO).trans d⟩
  case stop2=>
   rintro D c' V W hD am-h hK;exact h.elim
end
theorem sI{m i j c:Nat}(h:c<m):i=j*m+c↔i/m=j∧i%m=c:=by
 have d:0<m:=zO;grind[Nat.mul_comm,Nat.mul_add_div,Nat.mul_add_mod,Nat.div_eq_of_lt,Nat.mod_eq_of_lt,Nat.div_add_mod]
def TF(L:LL)(f:Bool)(ws:LL)(m nd:Nat):Nat→Nat:=λi=>if i/m<nd then AB L f ws (i/m) (i%m)else 0
def GF(L:LL)(f:Bool)(ws:LL)(m nd x:Nat):Nat→Nat:=λi=>if i/m<nd then AB L f ws (i/m) (i%m)else if i/m=nd then ur L f ws nd x (i%m)else 0
section
variable {L ws:List (List UInt8)} {f:Bool} {m nd:Nat}
theorem QI(E:fV L)(I:1≤m)(J:0<nd→fH L nd<nd):(if nd=0 then TF L f ws m nd else sG (nd*m) (fH L nd*m) m (TF L f ws m nd))=GF L f ws m nd 1:=by
 funext i;have d:=Nat.mod_lt i (show m>0 by omega);have h:=(sI (i:=i) (j:=i/m) d).2 ⟨rfl,rfl⟩;unfold GF;rcases bO nd with h0|h0
 ·rw[if_pos h0];subst h0;unfold TF;rw[if_neg (Nat.not_lt_zero _),if_neg (Nat.not_lt_zero _)];split
  ·rw[CL E,if_pos rfl]
  ·rfl
 ·rw[if_neg zO];unfold sG;by_cases s:i/m=nd
  ·have H:nd*m≤i∧i<nd*m+m:=zG;rw[if_pos H,if_neg zO,if_pos s,CL E,if_neg zO];have e:i-nd*m=i%m:=zG;unfold TF;obtain⟨T,O⟩:=(sI (i:=fH L nd*m+(i-nd*m)) (j:=fH L nd) (c:=i%m) d).1 (by rw[e]);grind
  ·rw[if_neg (λH=>s (by
    have:=(sI (m:=m) (i:=i) (j:=nd) (c:=i-nd*m) zO).1 zO;omega))]
   unfold TF;grind
theorem QJ(s:fV L)(d:nd<L.length):GF L f ws m nd L.length=TF L f ws m (nd+1):=by
 funext i;unfold GF TF;by_cases h:i/m<nd
 ·grind
 ·rw[if_neg h];by_cases E:i/m=nd
  ·simp_all[L7]
  grind
theorem GU(V:eS f ws=cf)(W:fV L)(Y:∀x,x∈L↔x=[]∨∃w∈ws,x<+:w)(H:nd<L.length){up:List Int}{lF:L8}(T:(m:Int)=qO f ws)
  (d:∀i,0<i→i<L.length→∃p c x,p<i∧up[i]?=bm (p:Int)∧lF[i]?=bm c∧L[p]?=bm x∧L[i]?=bm (x++[c])) :
  ∀x,1≤x→x≤L.length→(ob up nd x).foldl (sF (nd*m) (fO f ws) lF) (GF L f ws m nd 1)=GF L f ws m nd x
 |0,h,_=>by omega
 |1,_,_=>by
  rfl
 |x+2,_,hx=>by
  have ih:=GU V W Y H T d (x+1) zO zO;rw[tx,bT,ih];obtain⟨p,b,y,ab,aa,ae,J,I⟩:=d (x+1) zO zO;have s:x+1<L.length:=zO;have O:p<L.length:=zO;rw[bE O]at J;rw[bE s]at I;have he:L[x+1]=L[p]++[b]:=zG;have E:up.getD (x+1) (-1)=(p:Int):=zG;have U:lF.getD (x+1) 0=b:=zG;rw[E];by_cases hp:p=nd
  ·subst hp;rw[if_pos ⟨by omega,rfl⟩];show sF _ _ _ _ _=_;funext i;unfold sF GF;rw[U];obtain⟨h1,h2⟩:=oP f ws b;obtain⟨c,hc⟩:∃c:Nat,fO f ws b.toNat=(c:Int):=⟨(fO f ws b.toNat).toNat,by omega⟩
   have ad:c<m:=zO;rw[hc,Int.toNat_natCast];by_cases hi:i=p*m+c
   ·simp_all[sI,CM]
   ·rw[if_neg hi];by_cases h3:i/m<p
    ·grind
    ·rw[if_neg h3,if_neg h3];by_cases h4:i/m=p
     ·rw[if_pos h4,if_pos h4,CM V W Y H s he,if_neg];grind[sI]
     grind
  ·rw[if_neg zO];show GF L f ws m nd (x+1)=_;grind[GF,Jh]
theorem Ml(J:eS f ws=cf)(s:fV L)(O:∀x,x∈L↔x=[]∨∃w∈ws,x<+:w)(d:nd<L.length){up:List Int}{lF:L8}(H:1≤m)(E:(m:Int)=qO f ws)
  (h:∀i,0<i→i<L.length→∃p c x,p<i∧up[i]?=bm (p:Int)∧lF[i]?=bm c∧L[p]?=bm x∧L[i]?=bm (x++[c])){lk:Nat}(I:lk=fH L nd) :
  (ob up nd L.length).foldl (sF (nd*m) (fO f ws) lF) (if nd=0 then TF L f ws m nd else sG (nd*m) (lk*m) m (TF L f ws m nd))=TF L f ws m (nd+1):=by
 rw[I,QI s H (λT=>nW s d T),GU J s O d E h L.length s.pos (bD _),QJ s d]
end
section
def eA(cl:Nat→Int)(m:Nat)(vr:bz):AV:=arr 258 λi=>if i<256 then iV (cl i)else if i=256 then iV m else vr
theorem PD:(prog.info? 150).bind (·.zero)=bm (.agg (eA (λ_=>0) 0 nS)):=by kernel_rfl
theorem SU:(prog.info? 244).bind (·.zero)=bm (.agg (dA (λ_=>0) 0 nS nS nS nS nS nS)):=by kernel_rfl
theorem QK(E s h d:bz)(A:Option Addr)(n c:Nat):prog.built 244 [(1,.agg #[E,s,h,d]),(2,.slice A n c)]=bm (dA (λ_=>0) 0 nS E s h d (.slice A n c)):=by kernel_rfl
section
variable {P:Program} {w:bB}
theorem sJ(w:bB)(g h:Nat)(t s:TypeId)(d cells:AV)(H:w.heap[g]?=bm (.cells d t (0,0)))(hi:(P.info? s).map (·.size)=bm cells.size)
  (E:h+cells.size≤d.size)(I:cells.all (·.oneCell')=cf) :
  (storeVar s ⟨g,h,bs⟩ (.agg cells)).run P w=.ok () (w.setRow g (d.toList.take h++cells.toList++d.toList.drop (h+cells.size)).toArray):=by
 have:=run_storeCells_at P g h t cells.toList 0 d w H zO (λv J=>(Array.all_eq_true_iff_forall_mem.1 I) v zG);cases O:P.info? s with
 |none=>grind
 |some i=>
  simp_all[Nat.add_zero,Array.length_toList,storeVar,sizeOf,typeInfo,Value.cells]
theorem eW{H:Array Oper}{E:List Oper}{o:Oper}{a:Act}{Q:Exit→Act→bB→Prop}(T:o.guard=bs)(O:TypeId)(x y:Operand)(W:o.op=.store O x y)
  (g s:Nat)(cells:AV)(V:a.eval x=.pointer (bm ⟨g,s,bs⟩))(U:a.eval y=.agg cells)
  (t:TypeId)(d:AV)(Y:Box w g t d)(hi:(P.info? O).map (·.size)=bm cells.size)(J:s+cells.size≤d.size)(h1:cells.all (·.oneCell')=cf)(new:AV)(I:(d.toList.take s++cells.toList++d.toList.drop (s+cells.size)).toArray=new)
  (h:wpList P H Q E (a.put o.dst undef) (w.setRow g new)):wpList P H Q (o::E) a w:=
 wpList_plain T λK hK=>by
  unfold Oper.wp execOp;simp only[W,V,U,Instr.storeAt,Instr.sureAddr,Sem.run_bind,Sem.run_pure,Result.andThen_ok,sJ w g s t O d cells Y hi J h1];rw[I];exact hK _ _ h
end
section
variable {P:Program} {Q:Exit→Act→bB→Prop} {ops:Array Oper} {M m:Nat} {a0:Act} {w0:bB} {K:List Oper→List VP→Prop} {o:Oper} {rest:List Oper} {env:List VP}
theorem ed.AE{i j:Nat}{h d:bz}{cells:AV}(t:TypeId)(x y:Operand)(T:o.op=.build t #[(i,x),(j,y)])(H:Want ops M a0 w0 env o cf)(E:fu ops M a0 w0 env o x (eC h))(s:fu ops M a0 w0 env o y (eC d))(J:P.built t [(i,h),(j,d)]=bm cells)
  (I:ed P Q ops M a0 w0 K m rest (eC (.agg cells)::env)):ed P Q ops M a0 w0 K (m+1) (o::rest) env:=
 .iu x y H E s (λO w _ W V=>by
  have U:=run_build (P:=P) w t #[(i,h),(j,d)] cells J;unfold execOp;simp_all) I
end
theorem wP(q:Nat)(F:Nat→bz):(arr q F).toList=(bH q).map F:=by
 apply bS;intro i;rw[b8,bA];grind[fw,bC,bW,iJ,b9]
theorem QL(cl:Nat→Int)(m:Nat)(vr H E s h d:bz):((dA (λ_=>0) m vr H E s h d).toList.take 0++(iL cl).toList++(dA (λ_=>0) m vr H E s h d).toList.drop (0+(iL cl).size)).toArray=dA cl m vr H E s h d:=by
 apply cm;unfold dA iL;rw[wP,wP,wP,iJ];rfl
theorem CW(cl:Nat→Int):(iL cl).all (·.oneCell')=true:=nt λ_ _=>rfl
theorem CX(cl:Nat→Int)(m I:Nat)(vr H E s h d:bz):(dA cl m vr H E s h d).setIfInBounds 256 (iV I)=dA cl I vr H E s h d:=by
 unfold dA;rw[nq];rfl
theorem E7(cl:Nat→Int)(m:Nat)(vr d I H E s h:bz):(dA cl m vr I H E s h).setIfInBounds 257 d=dA cl m d I H E s h:=by
 unfold dA;rw[nq];rfl
theorem uC(cl:Nat→Int)(m:Nat)(vr H E s h d:bz):(dA cl m vr H E s h d).size=263:=iJ _ _
theorem QM(cl:Nat→Int)(m:Nat){vr I H E s d:bz}(h:vr.oneCell'=cf)(W:I.oneCell'=cf)(V:H.oneCell'=cf)(U:E.oneCell'=cf)(T:s.oneCell'=cf)(O:d.oneCell'=cf):(dA cl m vr I H E s d).all (·.oneCell')=true:=nt λi J=>by
 split
 ·rfl
 ·split
  ·rfl
  grind
theorem Mm{cl:Nat→Int}{m:Nat}{vr I H E s d:bz}{j:Nat}{v:bz}(h:(eA cl m vr)[j]?=bm v):(dA cl m vr I H E s d)[j]?=bm v:=by
 by_cases J:j<258
 ·unfold eA at h;rw[fw J]at h;unfold dA;rw[fw zO];grind
 grind[eA,se]
theorem Oz(q:Nat):madeCells (iV 0).cells (q*1)=fA q (λ_=>0):=by
 rw[tp];grind[cm,AD,sx,List.map_replicate,List.map_const',bG]
theorem l7(cl:Nat→Int)(m:Nat)(vr:bz):(eA cl m vr).size=258:=iJ _ _
theorem Mn(cl:Nat→Int)(m:Nat){vr:bz}(h:vr.oneCell'=cf):(eA cl m vr).all (·.oneCell')=true:=nt λi d=>by
 split
 ·rfl
 ·split
  ·rfl
  ·exact h
theorem OA(L:LL)(f:Bool)(ws:LL)(m:Nat):TF L f ws m 0=λ_=>0:=by
 rfl
def Mo(f:Bool)(ws:LL):VP:=⟨λv w=>∃(m d:Nat),(m:Int)=qO f ws∧v=.agg (eA (fO f ws) m (.slice (bm ⟨d,0,bs⟩) ((ey ws).length*m) ((ey ws).length*m)))∧Box w d 3 (fA ((ey ws).length*m) (TF (ey ws) f ws m (ey ws).length)),
 λ_ _ _ ⟨m,d,H,E,h⟩ s=>⟨m,d,H,E,(s.same h.lt).trans h⟩⟩
attribute [local irreducible] ew ed in
theorem Jj(f:Bool)(ws:LL)(u:bz)(w:bB)(hS:jj f ws u w)(av:ws.flatten.length≤1000000)(hn:ws.length≤1000000)(hr:eS f ws=cf):b6 ch 73 #[u] w (eB w (eR [Mo f ws,eC (iV 0)])):=by
 have a1:=hS;obtain⟨sl,rfl,hP⟩:=hS;obtain⟨A,c,rfl,-⟩:=eD.form hP;clear hP;have hX:Ext w ((w.alloc (.cells #[.bool f,.slice A ws.length c] 24)).alloc (.cells (eA (λ_=>0) 0 nS) 150)):=(ek _ _).tr (ek _ _);have E:=(Box.new w 24 #[.bool f,.slice A ws.length c]).alloc (.cells (eA (λ_=>0) 0 nS) 150);have H:=Box.new (w.alloc (.cells #[.bool f,.slice A ws.length c] 24)) 150 (eA (λ_=>0) 0 nS);rw[bI]at H;go_enter func73,ntmps73;go_upto_region 1 with(refine qL rfl 150 rfl _ PD ?_)
 generalize((w.alloc (.cells #[.bool f,.slice A ws.length c] 24)).alloc (.cells (eA (λ_=>0) 0 nS) 150))=w1 at*;have aa:=E.at_ 0 rfl;have Y:=E.at_ 1 rfl;have aN:=hide (vW f ws _ w1 (VP.st _ _ _ _ a1 hX) av hn hr);go_wp2_with fail;refine aN.out.mono ?_;rintro _ w2 ⟨v,rfl,ar,hu⟩;obtain⟨tv,_,rfl,hT,rfl⟩:=eR.inv2 hu;have aZ:=hT;obtain⟨u0,u1,u2,u3,rfl,p0,p1,p2,p3⟩:=hT;obtain⟨A0,b0,c0,rfl⟩:=jY.slice p0;obtain⟨A1,b1,c1,rfl⟩:=jY.slice p1;obtain⟨A2,b2,c2,rfl⟩:=jY.slice p2;obtain⟨A3,b3,c3,rfl⟩:=jY.slice p3;have E:=E.ext ar;have H:=H.ext ar;have O:=hX.tr ar;clear aa Y aN hX ar hu;go_upto_region 4 with(fail)
 have ai:Ext w2 (w2.alloc (.cells #[.slice A0 b0 c0,.slice A1 b1 c1,.slice A2 b2 c2,.slice A3 b3 c3] 154)):=ek _ _;have s:=Box.new w2 154 #[.slice A0 b0 c0,.slice A1 b1 c1,.slice A2 b2 c2,.slice A3 b3 c3];obtain⟨s4,aK⟩:∃s4,w2.heap.size=s4:=⟨_,rfl⟩
 rw[aK]at s ⊢;change Code.wp _ _ _ _ (w2.alloc (.cells #[.slice A0 b0 c0,.slice A1 b1 c1,.slice A2 b2 c2,.slice A3 b3 c3] 154));generalize w2.alloc (.cells #[.slice A0 b0 c0,.slice A1 b1 c1,.slice A2 b2 c2,.slice A3 b3 c3] 154)=w4 at*;have aI:=VP.st _ _ _ _ aZ ai;have E:=E.ext ai;have H:=H.ext ai;have O:=O.tr ai;have hm:=ti hr;have aP:=hide (yW ws _ w4 aI hm);have aa:=s.at_ 0 rfl;have Y:=s.at_ 1 rfl;have aG:=s.at_ 2 rfl;have aF:=s.at_ 3 rfl;clear ai p0 p1 p2 p3 aZ aK;go_wp2_with fail;refine aP.out.mono ?_;rintro _ w5 ⟨v,rfl,af,hu⟩;obtain⟨lv,_,rfl,hL,rfl⟩:=eR.inv2 hu;obtain⟨AL,cL,rfl,bk,bj,-⟩:=eT.form hL;have E:=E.ext af;have H:=H.ext af;have s:=s.ext af;have aY:=VP.st _ _ _ _ aI af;have O:=O.tr af;have aA:=hm.ok.n2;have aD:(jk (ey ws)).length=(ey ws).length:=by unfold jk;simp
 obtain⟨n,ae⟩:∃n,(ey ws).length=n:=⟨_,rfl⟩
 rw[aD,ae]at hL bk ⊢;unfold maxLen at bj;rw[ae]at aA aD;clear aa Y aG aF aP hu af aI;have aa:=E.at_ 0 rfl;have Y:=E.at_ 1 rfl;have aT:=hide (LX f ws _ w5 (VP.st _ _ _ _ a1 O) av hn);go_upto_region 7 with(fail)
 go_wp2_with fail;refine aT.out.mono ?_;rintro _ w6 ⟨v,rfl,ab,hu⟩;obtain⟨m,aB⟩:∃m:Nat,(m:Int)=qO f ws:=⟨(qO f ws).toNat,by have:=oQ f ws;omega⟩
 obtain⟨aO,a7⟩:1≤m∧m≤257:=by have:=oQ f ws;omega
 have e:As f ws=(fO f ws,(m:Int),0):=by unfold As;rw[if_pos hr,aB];rfl
 rw[e]at hu;obtain⟨_,_,_,rfl,rfl,rfl,rfl⟩:=eR.Ss hu;have E:=E.ext ab;have H:=H.ext ab;have s:=s.ext ab;have aX:=VP.st _ _ _ _ aY ab;have a3:=VP.st _ _ _ _ hL ab;have O:=O.tr ab;have Up:=hide aB;clear aa Y aT hu ab aY hL e aB;go_upto_region 8 with(first|refine qL rfl 148 rfl _ PB ?_|refine bV rfl 148 _ _ rfl w6.heap.size (iL (fO f ws)) rfl rfl 148 (iL λ_=>0) (Box.new _ _ _) (by rw[fo];kernel_rfl) (by rw[fo,fo]) (CW _) ?_)
 have aq:Box ((w6.alloc (.cells (iL λ_=>0) 148)).setRow w6.heap.size (iL (fO f ws))) w6.heap.size 148 (iL (fO f ws)):=bU _ _ _ _ _ _ (Box.new _ _ _);have U:Ext w6 ((w6.alloc (.cells (iL λ_=>0) 148)).setRow w6.heap.size (iL (fO f ws))):=below_setRow (ek _ _) (bD _) _;obtain⟨s7,aJ⟩:∃s7,w6.heap.size=s7:=⟨_,rfl⟩
 rw[aJ]at aq U ⊢;generalize(w6.alloc (.cells (iL λ_=>0) 148)).setRow s7 (iL (fO f ws))=w7 at*;have E:=E.ext U;have H:=H.ext U;have s:=s.ext U;have bi:=VP.st _ _ _ _ aX U;have a2:=VP.st _ _ _ _ a3 U;have O:=O.tr U;clear U aJ aX a3;have aa:=s.at_ 0 rfl;have Y:=s.at_ 1 rfl;have aG:=s.at_ 2 rfl;have aF:=s.at_ 3 rfl;go_upto_region 10 with(fail)
 clear aa Y aG aF;refine KU 3 ?_;refine ed.eU 154 _ rfl wA oA underlying154 rfl zK s (Ext.rf _) (.g ?_);refine ed.AE 244 _ _ rfl wA oA oA (QK _ _ _ _ _ _ _) (.g ?_);intro Ci ao;have s:=s.ext ao;refine qL rfl 244 rfl _ SU ?_;refine bV rfl 244 _ _ rfl Ci.heap.size (dA (λ_=>0) 0 nS (.slice A0 b0 c0) (.slice A1 b1 c1) (.slice A2 b2 c2) (.slice A3 b3 c3) (.slice AL n cL)) rfl rfl 244 (dA (λ_=>0) 0 nS nS nS nS nS nS) (Box.new _ _ _) (by rw[uC];kernel_rfl) (by rw[uC,uC]) (QM _ _ rfl rfl rfl rfl rfl rfl) ?_;have ak:=ao;simp only[Act.put,List.setIfInBounds_toArray,List.set_cons_zero,List.set_cons_succ];have d:Box ((Ci.alloc (.cells (dA (λ_=>0) 0 nS nS nS nS nS nS) 244)).setRow Ci.heap.size (dA (λ_=>0) 0 nS (.slice A0 b0 c0) (.slice A1 b1 c1) (.slice A2 b2 c2) (.slice A3 b3 c3) (.slice AL n cL))) Ci.heap.size 244 (dA (λ_=>0) 0 nS (.slice A0 b0 c0) (.slice A1 b1 c1) (.slice A2 b2 c2) (.slice A3 b3 c3) (.slice AL n cL)):=bU _ _ _ _ _ _ (Box.new _ _ _);have I:Ext Ci ((Ci.alloc (.cells (dA (λ_=>0) 0 nS nS nS nS nS nS) 244)).setRow Ci.heap.size (dA (λ_=>0) 0 nS (.slice A0 b0 c0) (.slice A1 b1 c1) (.slice A2 b2 c2) (.slice A3 b3 c3) (.slice AL n cL))):=below_setRow (ek _ _) (bD _) _;have bw:=O.size;have aR:=ak.size;obtain⟨g,hg⟩:∃g,Ci.heap.size=g:=⟨_,rfl⟩
 rw[hg]at d I ⊢;generalize(Ci.alloc (.cells (dA (λ_=>0) 0 nS nS nS nS nS nS) 244)).setRow g (dA (λ_=>0) 0 nS (.slice A0 b0 c0) (.slice A1 b1 c1) (.slice A2 b2 c2) (.slice A3 b3 c3) (.slice AL n cL))=w8 at*;have aH:=ak.tr I;have aq:=aq.ext aH;have aE:w7.heap.size≤g:=zO;clear ak I ao hg aR;go_upto_region 11 with(fail)
 refine KU 4 ?_;refine ed.eU 148 _ rfl wA oA underlying148 rfl (by rw[fo];kernel_rfl) aq (Ext.rf _) (.g ?_);intro PA an;have I:=aH.tr an;have d:=d.ext an;refine eW rfl 148 _ _ rfl g 0 (iL (fO f ws)) rfl rfl 244 _ d (by rw[fo];kernel_rfl) (by rw[fo,uC];omega) (CW _) _ (QL _ _ _ _ _ _ _ _) ?_;have d:Box (PA.setRow g (dA (fO f ws) 0 nS (.slice A0 b0 c0) (.slice A1 b1 c1) (.slice A2 b2 c2) (.slice A3 b3 c3) (.slice AL n cL))) g 244 (dA (fO f ws) 0 nS (.slice A0 b0 c0) (.slice A1 b1 c1) (.slice A2 b2 c2) (.slice A3 b3 c3) (.slice AL n cL)):=bU _ _ _ _ _ _ d;have I:Ext w7 (PA.setRow g (dA (fO f ws) 0 nS (.slice A0 b0 c0) (.slice A1 b1 c1) (.slice A2 b2 c2) (.slice A3 b3 c3) (.slice AL n cL))):=below_setRow I aE _;generalize PA.setRow g (dA (fO f ws) 0 nS (.slice A0 b0 c0) (.slice A1 b1 c1) (.slice A2 b2 c2) (.slice A3 b3 c3) (.slice AL n cL))=w9 at*;have bf:=(d.cell 256).trans GO;have bd:=d.frozen 256;have J:=d.eL 256 (iV m);rw[CX]at J;have aV:=I.setCell (p:=⟨g,256,bs⟩) aE (iV m);have kx:=hide J;have VX:=hide aV;clear J aV I aH an d;go_upto_region 12 with(fail)
 clear bf bd;have d:=kx.out;have V:=VX.out;clear kx VX;generalize w9.setCell ⟨g,256,bs⟩ (iV m)=bu at*;have bv:n*m≤102800:=bJ (cg m aA) zO;have e1:((m:Int)*(n:Int))=((n*m:Nat):Int):=by rw[Int.natCast_mul,Int.mul_comm]
 obtain⟨i0,hi,ba,a9,a8⟩:=info_parts Tryz.oG;refine KU 5 ?_;refine ed.tN _ _ _ _ rfl wA oA oA (by rw[e1];omega) ?_;refine ed.kD e1 ?_;refine ed.newRow 28 3 _ _ i0 (iV 0) 1 (n*m) rfl bK hi ba a9 (by rw[a8];omega) wA (od 3 48 0 rfl) (od 3 48 0 rfl) zO (.g ?_);intro VY am;refine .any λa5 ap=>?_;refine .e ?_;obtain⟨T,rfl,bb,ad⟩:=ap;rw[Oz,←OA (ey ws) f ws m]at ad;have d:=d.ext am;have bp:=V.size;have V:Ext w7 VY:=Ext.tr V am;have aw:w7.heap.size≤T:=zO;have be:=(d.cell 257).trans L9;have bc:=d.frozen 257;have aS:=ql d ad;have J:=d.eL 257 (.slice (bm ⟨T,0,bs⟩) (n*m) (n*m));rw[E7]at J;have kx:=hide J;have HX:=hide (V.setCell (p:=⟨g,257,bs⟩) aE (.slice (bm ⟨T,0,bs⟩) (n*m) (n*m)));have Hr:=hide (ad.far (p:=⟨g,257,bs⟩) (λe=>aS e.symm) (.slice (bm ⟨T,0,bs⟩) (n*m) (n*m)));clear J d V ad am bb e1;go_upto_region 13 with(fail)
 clear be bc;generalize VY.setCell ⟨g,257,bs⟩ (.slice (bm ⟨T,0,bs⟩) (n*m) (n*m))=bt at*;obtain⟨_,_,_,_,e7,q0,q1,q2,q3⟩:=bi;simp only[Value.agg.injEq,Array.mk.injEq,List.cons.injEq,and_true]at e7;obtain⟨rfl,rfl,rfl,rfl⟩:=e7;have hN:=ic ws;have ay:∀i,i<256→0≤fO f ws i∧fO f ws i<(m:Int):=λi hi=>by
  have:=oP f ws (UInt8.ofNat i);rw[byte_toNat hi]at this;rw[Up.out];exact this
 have PE:=hide (λ(k:Nat) (hk:k<n) (W:bB) (bh:Ext w7 W) (bg:Box W g 244 (dA (fO f ws) m (.slice (bm ⟨T,0,bs⟩) (n*m) (n*m)) (.slice A0 b0 c0) (.slice A1 b1 c1) (.slice A2 b2 c2) (.slice A3 b3 c3) (.slice AL n cL))) (a6:Box W T 3 (fA (n*m) (TF (ey ws) f ws m k)))=>
  Mj g T n m k (fO f ws) _ _ _ _ _ (fF ws).up (fF ws).byte (jk (ey ws)) _ w7 W bh q0 q3 a2 (hm.ok.up.trans ae) (hm.ok.byte.trans hm.ok.up.symm) aD bg a6 aw hk aO a7 aA (λh0=>by rw[←oO,jh zO,if_pos zO];exact nW hN zO h0) ay)
 have SV:=hide (λ(k:Nat) (hk:k<n)=>Ml (m:=m) (up:=(fF ws).up) (lF:=(fF ws).byte) hr hN (λx=>iK x ws) (nd:=k) zO aO Up.out hm.ok.edge (lk:=(jk (ey ws)).getD k 0) (by rw[←oO,jh zO,if_pos zO]));clear q0 q1 q2 q3 a2 ay;go_upto_region 14 with(fail)
 go_loopw [10,54] (λy i wr=>∃k:Nat,k≤n∧i=iV k∧Hid (Ext w7 wr)∧Hid (Box wr g 244 (dA (fO f ws) m (.slice (bm ⟨T,0,bs⟩) (n*m) (n*m)) (.slice A0 b0 c0) (.slice A1 b1 c1) (.slice A2 b2 c2) (.slice A3 b3 c3) (.slice AL n cL)))∧Hid (Box wr T 3 (fA (n*m) (TF (ey ws) f ws m k)))) (λ_ i _=>n-(intOf i).toNat)
 case atStart=>exact⟨0,Nat.zero_le _,rfl,HX,kx,Hr⟩
 case round=>
  clear HX kx Hr;obtain⟨k,hk,rfl,HX,kx,Hr⟩:=hrel;by_cases aC:k<n
  ·have au:(k:Int)<(n:Int):=zO;go_wp2_with fail;refine(PE.out k aC _ HX.out kx.out Hr.out).mono ?_;rintro _ br ⟨rfl,hO,az⟩;have ag:=SV.out k aC;rw[ae]at ag;rw[ag]at az;have bo:=hide (sq HX.out hO aw (HX.out.size));have bl:=hide (Cq kx.out hO aS);have bn:=hide az;clear hO az ag HX kx Hr;go_wp2_with fail;refine⟨⟨_,_,_,_,_,_,_,⟨k+1,by omega,?hnum,bo,bl,bn⟩,rfl⟩,?SX⟩;case hnum=>go_num
   case SX=>simp[intOf];omega
  ·have au:¬(k:Int)<(n:Int):=zO;have aQ:k=n:=zO;go_upto_region 18 with(fail)
   rw[aQ]at Hr;have d:=kx.out;have aL:=Hr.out;have aW:=HX.out;clear aC au aQ kx Hr HX PE SV;refine KU 2 ?_;refine ed.loadAt (cs:=eA (fO f ws) m (.slice (bm ⟨T,0,bs⟩) (n*m) (n*m))) 150 _ rfl wA oA underlying150 rfl (by rw[l7];kernel_rfl) d.lt (λj v h=>by rw[bZ,d.cell];exact Mm h) (Ext.rf _) (.g ?_);intro SY al;have aj:=aW.tr al;have ah:=H.ext aj;have bq:=H.lt;refine bV rfl 150 _ _ rfl (w.heap.size+1) (eA (fO f ws) m (.slice (bm ⟨T,0,bs⟩) (n*m) (n*m))) rfl rfl 150 (eA (λ_=>0) 0 nS) ah (by rw[l7];kernel_rfl) (by rw[l7,l7]) (Mn _ _ rfl) ?_;have aU:Box (SY.setRow (w.heap.size+1) (eA (fO f ws) m (.slice (bm ⟨T,0,bs⟩) (n*m) (n*m)))) (w.heap.size+1) 150 (eA (fO f ws) m (.slice (bm ⟨T,0,bs⟩) (n*m) (n*m))):=bU _ _ _ _ _ _ ah;have a4:Ext w (SY.setRow (w.heap.size+1) (eA (fO f ws) m (.slice (bm ⟨T,0,bs⟩) (n*m) (n*m)))):=below_setRow (O.tr aj) zO _;have aM:Box (SY.setRow (w.heap.size+1) (eA (fO f ws) m (.slice (bm ⟨T,0,bs⟩) (n*m) (n*m)))) T 3 (fA (n*m) (TF (ey ws) f ws m n)):=(bX SY (w.heap.size+1) T _ zO).trans (aL.ext al);generalize SY.setRow (w.heap.size+1) (eA (fO f ws) m (.slice (bm ⟨T,0,bs⟩) (n*m) (n*m)))=W9 at*;clear ah d aL aW aj al;have Hf:Hid (eB w (eR [Mo f ws,eC (iV 0)]) (.returned (.tuple #[.agg (eA (fO f ws) m (.slice (bm ⟨T,0,bs⟩) (n*m) (n*m))),iV 0])) W9):=eB.mk a4 (eR.two ⟨m,T,Up.out,by rw[ae],by rw[ae];exact aM⟩ rfl);clear a4 aM;go_wp2;exact bodyPost_ret (gI results73 _ _ (w.heap.size+1) 150 _ _ rfl aU underlying150 rfl (by rw[l7];kernel_rfl) rfl) rfl Hf.out
end
section
attribute [local go_sem] Oper.semAt_some
theorem Jk(n:Nat)(hn:1≤n)(l T bx bt N:Nat)(a0 a1 a2 a3 vn:bz)(nx:List Nat)(wd:List Int)(nd:Nat)(w0:bB)(aH:w0.heap.size=N)(J Jx:List Nat→bB→Prop)
  (hJ:∀d W1 W2,J d W1→oM T W1 W2→J d W2)
  (hY:∀d (x:Nat) W,J d W→d++[x]<+:jl nx wd nd nd→YieldAt bL (n-1) ch l #[iV (wd.getD x (-1))] W λe W'=>
   fc N [T,bx,bt] W W'∧((e=.returned (.bool cf)∧J (d++[x]) W')∨(e=.returned (.bool false)∧Jx (d++[x]) W')))
  (hL:eT nx vn w0)(aB:eQ wd a2 w0)(au:wd.length=nx.length)(hD:Down nx)(aI:nd<nx.length)
  (W:bB)(hE:Ext w0 W)(aA:Box W T 3 #[iV nd])(az:Box W bx 28 #[vn])(al:Box W bt 154 #[a0,a1,a2,a3])(aq:T≠bx)(ar:T≠bt)(aV:N≤T)(h0:J [] W) :
  CallsIn bL n ch 127 #[.func (.yield l) #[] #[],gP T,gP bx,gP bt] W λe W'=>(∃v,e=.returned v)∧
   ((∃xs,xs=jl nx wd nd nd∧True∧J xs W')∨(∃d,d<+:jl nx wd nd nd∧True∧Jx d W')):=by
 obtain⟨A,c,rfl,aU,aN,hx⟩:=eT.form hL;obtain⟨b,ak,rfl,hb,ae⟩:=hx zO;obtain⟨A2,c3,rfl,aM,aL,ap⟩:=eQ.form aB;obtain⟨b2,V,rfl,aO,ah⟩:=ap zO;unfold maxLen at aN aL;rw[au]at al aM;have gV:=hide ae;have EO:=hide (λj (hj:j<nx.length)=>show w0.cell? ⟨b2,V+j,bs⟩=bm (iV (wd.getD j (-1))) by
  grind)
 have HD:=hide hD;have HW0:=hide aH;clear hL hx ae ah hD aB ap;refine callsIn_of_wp func127 rfl trivial ?_ rfl;simp only[ntmps127,List.size_toArray,List.length_cons,List.length_nil,Nat.reduceAdd,Nat.reduceSub,ca,cb,List.push_toArray,cj,b7,List.cons_append];have HE:=hide hE;gi_wp2
 gi_loopw [] (λwr=>∃(x f:Nat) (d:List Nat),x≤f∧x<nx.length∧Hid (d++jl nx wd f x=jl nx wd nd nd)∧Hid (J d wr)∧Hid (Ext w0 wr)∧Box wr T 3 #[iV x]∧Box wr bx 28 #[.slice (bm ⟨b,ak,bs⟩) nx.length c]∧Box wr bt 154 #[a0,a1,.slice (bm ⟨b2,V,bs⟩) nx.length c3,a3])
  (λwr=>match wr.cell? ⟨T,0,bs⟩with|some (.int _ n)=>n.toNat|_=>0)
 case atStart=>exact⟨nd,nd,[],bD _,aI,rfl,h0,HE,aA,az,al⟩
 case round=>
  clear aA az al HE;obtain⟨x,f,d,aF,ag,Hp,HJ,HE,O,U,af⟩:=hrel;have hd:=O.at_ 0 rfl;have Hd:=hide hd;by_cases aG:x=0
  ·have aj:d=jl nx wd nd nd:=by rw[←Hp.out,aG,tq,List.append_nil]
   have kJ:=hide aj;clear aj;gi_wp2
   go_end0
   exact⟨⟨_,rfl⟩,.inl ⟨_,kJ.out,trivial,HJ.out⟩⟩
  ·have aS:¬(x:Int)=0:=zO;obtain⟨f',av,ad⟩:=wD (nx:=nx) (wd:=wd) aF zO;have aT:=HD.out x zO ag;have aK:=(HE.out.cell (p:=⟨b2,V+x,bs⟩) aO).trans (EO.out x ag);have ay:=(HE.out.cell (p:=⟨b,ak+x,bs⟩) hb).trans (gV.out x ag);have aw:=U.at_ 0 rfl;have aJ:=af.at_ 2 rfl;have Px:Hid (nx.getD x 0≤f'):=zG;have ao:nx.getD x 0<nx.length:=zO;by_cases hw:0≤wd.getD x (-1)
   ·rw[if_pos hw]at ad;have Y:d++[x]<+:jl nx wd nd nd:=by
     rw[←Hp.out,ad,←List.append_assoc];grind
    obtain⟨fn,aQ,aE,aR,hy,hR⟩:=hY d x wr HJ.out Y;have lB:=hide Y;have Hn:Hid ((d++[x])++jl nx wd f' (nx.getD x 0)=jl nx wd nd nd):=zG;clear Y ad;generalize wd.getD x (-1)=z at*;gi_wp2;refine hR.mono ?_;rintro e W3 ⟨aa,(⟨rfl,aD⟩|⟨rfl,aC⟩)⟩
    ·have O:=fc.box aa O zS;have U:=fc.box aa U zS;have af:=fc.box aa af zS;have ai:Ext w0 W3:=Below.trans HE.out (by rw[HW0.out];exact aa.1);clear hd aw aJ aK ay;have hd:=O.at_ 0 rfl;have aw:=U.at_ 0 rfl;have hf:=O.frozen 0;have ay:=(ai.cell (p:=⟨b,ak+x,bs⟩) hb).trans (gV.out x ag);have ss:=hide aD;have mS:=hide ai;have aP:N≤W3.heap.size:=by have:=ai.size;omega
     clear aa hy hR aD ai av;generalize nx.getD x 0=y at*;have s:=O.eL 0 (iV y);have I:=U.far (p:=⟨T,0,bs⟩) (λe=>aq e.symm) (iV y);have H:=af.far (p:=⟨T,0,bs⟩) (λe=>ar e.symm) (iV y);have E:oM T W3 (W3.setCell ⟨T,0,bs⟩ (iV y)):=eM (bN W3 _) 0 _;have am:=hide (hJ _ _ _ ss.out E);have an:=hide (sq mS.out E zO zO);have kx:=hide s;have Hb2:=hide I;have Hb3:=hide H;have ab:=s.at_ 0 rfl;have SZ:=hide ab;clear E ss mS s I H ab;gi_wp2
     go_roundw
     case rel=>exact⟨y,f',d++[x],Px.out,ao,Hn,am,an,kx.out,Hb2.out,Hb3.out⟩
     case measure=>rw[SZ.out,Hd.out];grind
    ·have ss:=hide aC;gi_wp2;exact bodyPost_ret (results_none results127 _ _ _) rfl ⟨⟨_,rfl⟩,.inr ⟨_,lB.out,trivial,ss.out⟩⟩
   ·rw[if_neg hw,b7]at ad;have Hn:Hid (d++jl nx wd f' (nx.getD x 0)=jl nx wd nd nd):=zG;have hf:=O.frozen 0;have aP:N≤wr.heap.size:=by have:=HE.out.size;omega
    clear ad av;generalize wd.getD x (-1)=z at*;generalize nx.getD x 0=y at*;have s:=O.eL 0 (iV y);have I:=U.far (p:=⟨T,0,bs⟩) (λe=>aq e.symm) (iV y);have H:=af.far (p:=⟨T,0,bs⟩) (λe=>ar e.symm) (iV y);have E:oM T wr (wr.setCell ⟨T,0,bs⟩ (iV y)):=eM (bN wr _) 0 _;have am:=hide (hJ _ _ _ HJ.out E);have an:=hide (sq HE.out E zO zO);have kx:=hide s;have Hb2:=hide I;have Hb3:=hide H;have ab:=s.at_ 0 rfl;have SZ:=hide ab;clear E HJ HE s I H ab;gi_wp2;refine⟨λ_ h=>(by cases h),?_⟩;gi_wp2
    go_roundw
    case rel=>exact⟨y,f',d,Px.out,ao,Hn,am,an,kx.out,Hb2.out,Hb3.out⟩
    case measure=>rw[SZ.out,Hd.out];grind
theorem Jl(a0 s h d:bz)(A:Option Addr)(n c:Nat)(nd:Nat)(w:bB):b6 ch 80 #[.agg #[a0,s,h,d],.slice A n c,iV nd] w λe E=>e=.returned (.func (.func 127) #[] #[gP (w.heap.size+2),gP (w.heap.size+1),gP w.heap.size])∧E=((w.alloc (.cells #[a0,s,h,d] 154)).alloc (.cells #[.slice A n c] 28)).alloc (.cells #[iV nd] 3):=by
 go_enter func80,ntmps80;go_wp2;go_ret;simp_all
theorem rB{L ws:LL}{t:vH}(I:j1 t L ws)(s:fV L)(d:∀x∈ws,x∈L):∀(f i:Nat),i≤f→i<L.length→(jl (nextL L ws) t.word f i).map (λk=>t.word.getD k (-1))=(ju ws (L.getD i [])).map λk:Nat=>(k:Int):=by
 intro f
 induction f with
 |zero=>
  intro i E h;obtain rfl:i=0:=zO;rw[yU s];rfl
 |succ f H=>
  intro i E h;rcases bO i with rfl|h0
  ·grind[tq,yU]
  ·obtain⟨g,T,J⟩:=wD (nx:=nextL L ws) (wd:=t.word) E h0;obtain rfl:g=f:=zO;rw[J,IW s d h h0,List.map_append,List.map_append,wy h,H _ (by have:=wx s d h h0;omega) (tj s d i)];congr 1;have O:=GD I s h;grind
theorem Jm(n:Nat)(hn:1≤n)(d E H:Nat)(a0 a1 a2 a3 O:bz)(nx:List Nat)(wd:List Int)(nd:Nat)(w0 w:bB)
  (hL:eT nx O w0)(ad:eQ wd a2 w0)(s:wd.length=nx.length)(hD:Down nx)(V:nd<nx.length)(af:Ext w0 w)(ab:Box w d 3 #[iV nd])(Y:Box w E 28 #[O])(aa:Box w H 154 #[a0,a1,a2,a3])(T:d≠E)(U:d≠H)(ae:w0.heap.size≤d) :
  oD bL n ch 127 #[gP d,gP E,gP H] (λx:Nat=>#[iV (wd.getD x (-1))]) (fc w0.heap.size [d,E,H]) (oM d) (λ_ _=>True) (λxs=>xs=jl nx wd nd nd) (λh=>h<+:jl nx wd nd nd) (λh=>h<+:jl nx wd nd nd) w:=λl J Jx W I hJ hY h0=>
 Jk n hn l d E H _ a0 a1 a2 a3 O nx wd nd w0 rfl J Jx hJ hY hL ad s hD V W (af.tr I) (ab.ext I) (Y.ext I) (aa.ext I) T U ae h0
end
section
def mA(cl:Nat→Int)(m n:Nat)(vr:bz)(f:Bool)(vs:bz)(lo h:Int)(d:bz):AV:=arr 264 λi=>
 if i<256 then iV (cl i)else if i=256 then iV m else if i=257 then iV n else if i=258 then vr else if i=259 then .bool f else if i=260 then vs else if i=261 then iV lo else if i=262 then iV h else d
section
variable {cl:Nat→Int} {m n:Nat} {vr:bz} {f:Bool} {vs:bz} {lo mo:Int} {vw:bz}
theorem QN{i:Nat}(h:i<256):(mA cl m n vr f vs lo mo vw)[i]?=bm (iV (cl i)):=by unfold mA;rw[fw zO,if_pos h]
theorem OB:(mA cl m n vr f vs lo mo vw)[256]?=bm (iV m):=by grind[mA,fw]
theorem qm:(mA cl m n vr f vs lo mo vw)[257]?=bm (iV n):=by grind[mA,fw]
theorem QO:(mA cl m n vr f vs lo mo vw)[258]?=bm vr:=by grind[mA,fw]
theorem OC:(mA cl m n vr f vs lo mo vw)[259]?=bm (.bool f):=by grind[mA,fw]
theorem QP:(mA cl m n vr f vs lo mo vw)[260]?=bm vs:=by grind[mA,fw]
theorem OD:(mA cl m n vr f vs lo mo vw)[261]?=bm (iV lo):=by grind[mA,fw]
theorem wQ:(mA cl m n vr f vs lo mo vw)[263]?=bm vw:=by grind[mA,fw]
variable {g:Nat} {w:bB}
theorem zi(d:Box w g 166 (mA cl m n vr f vs lo mo vw)):b6 ch 82 #[gP g] w (eB w (eC (iV lo))):=by
 have h:=(d.cell 261).trans OD;go_enter func82,ntmps82;go_wp2;go_ret;exact eB.mk (Ext.rf _) rfl
theorem CY(d:Box w g 166 (mA cl m n vr f vs lo mo vw)):b6 ch 286 #[gP g] w (eB w (eC (iV n))):=by
 have h:=(d.cell 257).trans qm;go_enter func286,ntmps286;go_wp2;go_ret;exact eB.mk (Ext.rf _) rfl
theorem GV(h:Box w g 166 (mA cl m n vr f vs lo mo vw))(z:Int):b6 ch 288 #[gP g,iV z] w λe d=>e=.returned (.bool (decide (0≤z)&&decide (z<n)))∧d=w:=by
 have H:=(h.cell 257).trans qm;by_cases E:0≤z
 ·by_cases s:z<n
  ·have e:=hide (show(decide (0≤z)&&decide (z<(n:Int)))=cf by grind);go_enter func288,ntmps288;rw[e.out];go_wp2;go_ret;simp_all
  ·have e:=hide (show(decide (0≤z)&&decide (z<(n:Int)))=false by simp[s]);go_enter func288,ntmps288;rw[e.out];go_wp2;go_ret;simp_all
 ·have e:=hide (show(decide (0≤z)&&decide (z<(n:Int)))=false by simp[E]);go_enter func288,ntmps288;rw[e.out];go_wp2;go_ret;simp_all
attribute [local irreducible] ew ed in
theorem OE{gr j k:Nat}{F:Nat→Nat}{c:UInt8}(s:Box w g 166 (mA cl m n (.slice (bm ⟨gr,0,bs⟩) (n*m) (n*m)) f vs lo mo vw))(d:Box w gr 3 (fA (n*m) F))(hj:j<n)(J:1≤m)(Y:m≤257)(W:n≤400)(U:cl c.toNat=(k:Int))(aa:k<m) :
  b6 ch 289 #[gP g,iV j,.int .u8 (c.toNat:Int)] w (eB w (eC (iV ((F (j*m+k):Nat):Int)))):=by
 obtain⟨I,H⟩:=sE hj J;have E:j*m+m≤n*m:=zG;have V:n*m≤102800:=bJ (cg m W) zO;have h:c.toNat<256:=cd c;have hr:=(s.cell 258).trans QO;have hm:=(s.cell 256).trans OB;have hc:w.cell? ⟨g,0+c.toNat,bs⟩=bm (iV k):=by rw[bZ,s.cell,QN h,U]
 have hx:w.cell? ⟨gr,0+(j*m+k),bs⟩=bm (iV ((F (j*m+k):Nat):Int)):=by rw[bZ,d.cell];grind[wJ]
 have e1:((j:Int)*(m:Int))=((j*m:Nat):Int):=by rfl
 have e2:(((j*m:Nat):Int)+(k:Int))=((j*m+k:Nat):Int):=by rfl
 have O:j*m+k<n*m:=zO;clear s d U I H E;go_enter func289,ntmps289;go_upto_region 1 with(fail)
 refine vQ 19 (.g ?_);refine ed.tN _ _ _ _ rfl wA oA oA zO ?_;refine ed.kD e1 (.g ?_);refine ed.zf 148 3 _ _ rfl underlying148 zR h zD wA oA oA (.g ?_);refine ed.ko _ _ _ _ rfl wA oA oA zO ?_;refine ed.kD e2 ?_;refine ed.fD (i:=(j*m+k)) 28 3 _ _ rfl bK zR O wA oA oA (.g ?_);intro W1 T;go_wp2;go_ret;exact eB.mk ((eh _).tr T) rfl
theorem Jn{gr j k:Nat}{F:Nat→Nat}{c:UInt8}(J:Box w g 166 (mA cl m n (.slice (bm ⟨gr,0,bs⟩) (n*m) (n*m)) f vs lo mo vw))(d:Box w gr 3 (fA (n*m) F))(W:j<n)(I:1≤m)(H:m≤257)(V:n≤400)(T:cl c.toNat=(k:Int))(h:k<m) :
  b6 ch 254 #[gP g,iV j,.int .u8 (c.toNat:Int)] w (eB w (eR [eC (iV ((F (j*m+k):Nat):Int)),eC (.bool cf)])):=by
 have s:=hide (GV J (j:Int));have E:=hide (OE (F:=F) (c:=c) J d W I H V T h);have U:(decide (0≤(j:Int))&&decide ((j:Int)<(n:Int)))=true:=zG;rw[U]at s;clear J d T h U;go_enter func254,ntmps254;go_wp2_with fail;refine s.out.mono ?_;rintro _ _ ⟨rfl,rfl⟩;go_wp2_with fail;refine E.out.mono ?_;rintro _ Y ⟨u,rfl,O,rfl⟩;go_wp2_with fail;exact bodyPost_ret (results_tmp2 results254 _ _ _) rfl (eB.mk O (eR.two rfl rfl))
theorem E8(cl:Nat→Int)(n m:Nat)(A:Option Addr)(w:bB)(I:1≤m)(H:m≤257)(V:n≤400):b6 ch 76 #[.agg (eA cl m (.slice A (n*m) (n*m)))] w (eB w (eC (iV n))):=by
 have T:=ek w (.cells (eA cl m (.slice A (n*m) (n*m))) 150);have s:=Box.new w 150 (eA cl m (.slice A (n*m) (n*m)));have h:(eA cl m (.slice A (n*m) (n*m)))[256]?=bm (iV m):=by grind[eA,fw]
 have d:(eA cl m (.slice A (n*m) (n*m)))[257]?=bm (.slice A (n*m) (n*m)):=by grind[eA,fw]
 have W:=(s.cell 256).trans h;have O:=(s.cell 257).trans d;clear h d s;have E:wrap64 (((n:Int)*(m:Int)).tdiv m)=(n:Int):=by grind[Int.mul_tdiv_cancel,ck]
 have U:=hide E;clear E;have J:¬(m:Int)<1:=zO;go_enter func76,ntmps76;go_wp2;rw[U.out];go_ret;exact eB.mk T rfl
end
end
section
section
variable {cl:Nat→Int} {m n:Nat} {vr:bz} {f:Bool} {vs:bz} {lo mo:Int} {g:Nat} {w:bB}
attribute [local irreducible] ew ed in
theorem E9{gw j:Nat}{c:Nat}{v:bz}{l:List Nat}(T:Box w g 166 (mA cl m n vr f vs lo mo (.slice (bm ⟨gw,0,bs⟩) n c)))(hj:j<n)(_:n≤400)(V:w.cell? ⟨gw,j,bs⟩=bm v)(E:eT l v w)(hl:l.length≤1000000) :
  b6 ch 290 #[gP g,iV j] w (eB w (eT l)):=by
 have h:=hide (GV T (j:Int));have U:(decide (0≤(j:Int))&&decide ((j:Int)<(n:Int)))=true:=zG;rw[U]at h;have hw:=(T.cell 263).trans wQ;obtain⟨i0,hi,O,J,I⟩:=info_parts Tryz.oG;have d:=Src.ints E;obtain⟨A,cc,rfl,-⟩:=eQ.form E;rw[bF]at d V;have OF:=hide d;clear T U E d;go_enter func290,ntmps290;go_wp2_with fail;refine h.out.mono ?_;rintro _ Y ⟨rfl,e⟩;subst e;have aa:Y.cell? ⟨gw,0+j,bs⟩=bm (.slice A l.length cc):=zG;clear h V;go_upto_region 3 with(fail)
 refine KU 7 ?_;refine ed.fD (i:=j) 164 28 _ _ rfl underlying164 zR zO wA oA oA (.g ?_);intro W s;refine eJ rfl _ _ 28 rfl W.heap.size 3 i0 (iV 0) 1 8 bK hi O J I rfl zO _ _ 0 l.length [] ((l.map λn:Nat=>(n:Int)).map (.int .i64)) rfl (World.ownsRow_nil _ _ _ _) zS rfl (Src.st OF.out s) (by intro y hy;obtain⟨z,-,rfl⟩:=List.mem_map.1 hy;rfl) zO (bD _) ?_;intro v' w' ho hg ab;go_wp2;go_ret;have H:lP w' W.heap.size 3 v' (l.map λn:Nat=>(n:Int)):=by
  grind[lP,bF]
 exact eB.mk (s.tr (gA hg rfl)) (lP.ints H)
end
end
def OG(s:List (Int×Int))(u:bz)(w:bB):Prop:=∃A c,u=.slice A s.length c∧s.length≤c∧c≤maxLen∧
 (0<s.length→∃b d,A=bm ⟨b,d,bs⟩∧b<w.heap.size∧∀j (h:j<s.length),w.cell? ⟨b,d+j*2,bs⟩=bm (iV s[j].1)∧w.cell? ⟨b,d+j*2+1,bs⟩=bm (iV s[j].2))
def eP(I:List (Int×Int)):VP:=⟨OG I,λu w Y ⟨A,c,W,V,U,T⟩ E=>⟨A,c,W,V,U,λJ=>by
 obtain⟨b,d,O,s,H⟩:=T J;exact⟨b,d,O,Nat.lt_of_lt_of_le s E.size,λj h=>⟨(E.cell s).trans (H j h).1,(E.cell s).trans (H j h).2⟩⟩⟩⟩
theorem eP.form{d:List (Int×Int)}{u:bz}{w:bB}(h:eP d u w):∃A c,u=.slice A d.length c∧d.length≤c∧c≤maxLen∧
 (0<d.length→∃b s,A=bm ⟨b,s,bs⟩∧b<w.heap.size∧∀j (h:j<d.length),w.cell? ⟨b,s+j*2,bs⟩=bm (iV d[j].1)∧w.cell? ⟨b,s+j*2+1,bs⟩=bm (iV d[j].2)):=h
def fz(hs:List (Int×Int)):List Value:=hs.flatMap λh=>[iV h.1,iV h.2]
theorem j5(a b:List (Int×Int)):fz (a++b)=fz a++fz b:=by simp[fz,List.flatMap_append]
theorem oR(hs:List (Int×Int)):(fz hs).length=hs.length*2:=by
 unfold fz
 induction hs with
 |nil=>rfl
 |cons h hs d=>grind
theorem oS(hs:List (Int×Int)):∀y∈fz hs,y.oneCell'=true:=by
 intro y d;unfold fz at d;obtain⟨h,_,s⟩:=List.mem_flatMap.1 d;rcases List.mem_cons.1 s with rfl|h3
 ·rfl
 ·rw[List.mem_singleton]at h3;subst h3;rfl
theorem mm:∀(d:List (Int×Int)) (j:Nat) (h:j<d.length),(fz d)[j*2]?=bm (iV d[j].1)∧(fz d)[j*2+1]?=bm (iV d[j].2)
 |[],j,h=>by simp at h
 |x::d,0,h=>⟨rfl,rfl⟩
 |x::d,j+1,h=>by
  have:=mm d j zG;grind[fz]
theorem Fa(hs:List (Int×Int))(j:Nat)(x:bz)(h:(fz hs)[j]?=bm x):∃i,∃d:i<hs.length,(j=i*2∧x=iV hs[i].1)∨(j=i*2+1∧x=iV hs[i].2):=by
 have s:j<hs.length*2:=by grind[oR,bR]
 have d:j/2<hs.length:=zO;obtain⟨H,E⟩:=mm hs (j/2) d;grind
def mT(w:bB)(base:Nat)(v:bz)(hs:List (Int×Int)):Prop:=w.ownsRow base 50 2 v hs.length (fz hs)
theorem mT.nil(w:bB)(base:Nat):mT w base nS []:=World.ownsRow_nil w base _ 2
theorem mT.pairs{w:bB}{base:Nat}{v:bz}{hs:List (Int×Int)}(h:mT w base v hs):eP hs v w:=by
 obtain⟨_,⟨rfl,O⟩|⟨g,T,s,rfl,hb,d,J,I,H,E⟩⟩:=h
 ·obtain rfl:hs=[]:=List.eq_nil_of_length_eq_zero O;exact⟨bs,0,rfl,bD _,by decide,λh=>by simp at h⟩
 ·refine⟨_,_,rfl,J,I,λW=>⟨g,0,rfl,(Array.getElem?_eq_some_iff.1 d).1,λj Y=>?_⟩⟩;have U:∀i x,i<hs.length*2→(fz hs)[i]?=bm x→w.cell? ⟨g,0+i,bs⟩=bm x:=λi x hi V=>by
   rw[bZ,(show Box w g _ s from d).cell i];grind
  grind[mm]
theorem Src.pairs{hs:List (Int×Int)}{A:Option Addr}{c m lo:Nat}{w:bB}(h:eP hs (.slice A hs.length c) w)(A':Option Addr)(c':Nat)(T:lo+m≤hs.length)(J:0<m→∀b d,A=bm ⟨b,d,bs⟩→A'=bm ⟨b,d+lo*2,bs⟩):Src w (.slice A' m c') m (fz ((hs.drop lo).take m)):=by
 obtain⟨A2,c2,e,h1,h2,O⟩:=h;cases e;refine⟨A',c',rfl,λH=>?_⟩;obtain⟨b,d,e,W,I⟩:=O zO;refine⟨b,d+lo*2,J H b d e,λj x E=>?_⟩;obtain⟨i,U,h4⟩:=Fa _ j x E;have s:lo+i<hs.length:=zG;have V:((hs.drop lo).take m)[i]=hs[lo+i]:=by simp
 obtain⟨h5,Y⟩:=I (lo+i) s;grind
theorem Tryz.pN:(prog.info? 50).map (λi=>(i.zero,i.size,i.bytes))=bm (bm (.agg #[iV 0,iV 0]),2,16):=by rfl
def iS(d:Int)(l:List Nat):List (Int×Int):=l.map λk:Nat=>(d,(k:Int))
theorem Fb(d:Int)(l:List Nat)(k:Nat)(h:k<l.length):iS d (l.take (k+1))=iS d (l.take k)++[(d,((l.getD k 0:Nat):Int))]:=by
 grind[iS,List.take_succ_eq_append_getElem,bE]
section
variable {cl:Nat→Int} {m n:Nat} {vr:bz} {f:Bool} {vs:bz} {lo mo:Int} {g:Nat} {w:bB}
theorem Jo{gw j:Nat}{c:Nat}{v:bz}{l:List Nat}(d:Int)(hb:Box w g 166 (mA cl m n vr f vs lo mo (.slice (bm ⟨gw,0,bs⟩) n c)))(hj:j<n)(hn:n≤400)(hc:w.cell? ⟨gw,j,bs⟩=bm v)(hv:eT l v w)(hl:l.length≤1000000) :
  b6 ch 255 #[gP g,iV j,iV d] w (eB w (eP (iS d l))):=by
 have T:=hide (E9 hb hj hn hc hv hl);obtain⟨i0,hi,af,ae,ad⟩:=info_parts Tryz.pN;clear hb hc hv;go_enter func255,ntmps255;go_wp2_with fail;refine T.out.mono ?_;rintro _ I ⟨u,rfl,ah,hu⟩;obtain⟨A,cc,rfl,al,ak,hx⟩:=eT.form hu;have Hx:=hide hx;clear T hu hx;go_upto_region 3 with(fail)
 go_loopw [7,9,14] (λs y i wr=>∃(k:Nat) (A5:Option Addr) (c5:Nat),k≤l.length∧i=iV k∧s=.slice A5 k c5∧Hid (Ext I wr)∧Hid (mT wr I.heap.size (.slice A5 k c5) (iS d (l.take k)))) (λ_ _ i _=>l.length-(intOf i).toNat)
 case atStart=>exact⟨0,bs,0,Nat.zero_le _,rfl,rfl,Ext.rf _,mT.nil _ _⟩
 case round=>
  obtain⟨k,A5,c5,hk,rfl,rfl,HE,HO⟩:=hrel;by_cases J:k<l.length
  ·have V:(k:Int)<(l.length:Int):=zO;obtain⟨b,aa,rfl,hb,H⟩:=Hx.out zO;have aj:=(HE.out.cell (p:=⟨b,aa+k,bs⟩) hb).trans (H k J);have Y:(iS d (l.take k)).length=k:=by grind[iS]
   have E:(iS d (l.take (k+1))).length=k+1:=by grind[iS]
   have hO:wr.ownsRow I.heap.size 50 2 (.slice A5 k c5) k (fz (iS d (l.take k))):=by have:=HO.out;grind[mT]
   have QQ:=hide (λ(W:bB) (v':bz) (h:W.ownsRow I.heap.size 50 2 v' (k+1) (fz (iS d (l.take k))++[iV d,iV ((l.getD k 0:Nat):Int)]))=>show mT W I.heap.size v' (iS d (l.take (k+1))) by
    unfold mT;rw[E,Fb d l k J,j5];exact h)
   have ai:=HE.out.size;clear H Y E HO;generalize l.getD k 0=y at*;generalize fz (iS d (l.take k))=cs at*;go_wp2_with(at_builtin;refine eJ rfl _ _ 38 rfl I.heap.size 50 i0 (.agg #[iV 0,iV 0]) 2 16 underlying38 hi af ae ad rfl zO _ _ k 1 cs [iV d,iV y] rfl (fy hO (ek _ _)) rfl rfl (Src.new _ _ _ _) (oS [(d,(y:Int))]) zO zT ?_;intro va wa U O ag;clear ag)
   have am:=hide (QQ.out _ _ U);have an:Hid (Ext I wa):=jB HE.out O (λj hj=>fk hO j hj);grind[eI,intOf]
  ·have V:¬(k:Int)<(l.length:Int):=zO;have ab:k=l.length:=zO;have hO:=HO.out;have e:l.take k=l:=zG;rw[e]at hO;clear e;have hf:=ah.tr HE.out;clear J ab HO HE;go_wp2_with fail;go_ret;exact eB.mk hf (mT.pairs hO)
end
section
section
attribute [local irreducible] ew ed
section
variable {cl:Nat→Int} {m n:Nat} {vr:bz} {f:Bool} {vs:bz} {lo mo:Int} {vw:bz} {g:Nat} {w:bB}
theorem x7(hb:Box w g 166 (mA cl m n vr f vs lo mo vw))(H st s:Int)(A:Option Addr)(l c:Nat)(h1:0≤st)(h2:st≤4611686020574871551)(h3:0≤s)(h4:s≤lo-1)(h5:s≤st)(h6:1≤(l:Int)-s)(h7:(l:Int)-s≤256)(h8:1≤lo)(h9:lo≤1000000) :
  b6 ch 285 #[gP g,.agg #[iV H,iV st,iV s,.slice A l c]] w (eB w (eC (.bool cf))):=by
 have T:=ek w (.cells #[iV H,iV st,iV s,.slice A l c] 107);have d:=Box.new w 107 #[iV H,iV st,iV s,.slice A l c];have I:=hide (λ(W:bB) (V:Ext (w.alloc (.cells #[iV H,iV st,iV s,.slice A l c] 107)) W)=>zi (hb.ext (T.tr V)));have e1:¬st<0:=zO;have e2:¬4611686020574871551<st:=zO;clear hb;go_enter func285,ntmps285;go_upto_region 1 with(fail)
 generalize w.alloc (.cells #[iV H,iV st,iV s,.slice A l c] 107)=w1 at*;have U:=d.at_ 1 rfl;have O:=d.at_ 2 rfl;have J:=d.at_ 3 rfl;go_upto_region 3 with(fail)
 refine vQ 18 (.g ?_);refine ed.xT _ _ _ _ rfl wA oA (eE _) zO (.g ?_);refine ed.gz 82 _ _ rfl (enters_of func82 zK rfl) (tO 3 21 3) oA (λ_ W T h=>by cases h;exact I.out W ((eh _).tr T)) ?_;refine ed.kC _ _ _ _ rfl (tO 3 21 4) oA (eE _) zO ?_;refine ed.Ei _ _ _ _ rfl (tO 3 21 5) oA oA zO (.g ?_);refine ed.Ei _ _ _ _ rfl (tO 11 29 4) oA oA zO (.g ?_);intro W3 E;have Y:Ext w W3:=T.tr ((eh _).tr E);have d:=d.ext ((eh _).tr E);clear U O J I E T;have O:=d.at_ 2 rfl;have J:=d.at_ 3 rfl;have e3:wrap64 ((l:Int)-s)=(l:Int)-s:=ck _ zO;clear e1 e2;go_wp2;go_ret;exact eB.mk Y rfl
theorem Fc(Y:Box w g 166 (mA cl m n vr f vs lo mo vw))(s st d:Int)(A:Option Addr)(l c nd E:Nat)(h1:0≤st)(T:st≤4611686020574871551)(h3:0≤d)(h4:d≤lo-1)(h5:d≤st)(h6:1≤(l:Int)-d)(h7:(l:Int)-d≤256)(h8:1≤lo)(h9:lo≤1000000)(ag:nd<n)(af:E≤l) :
  b6 ch 252 #[gP g,.agg #[iV s,iV st,iV d,.slice A l c],.agg #[iV nd,iV E]] w (eB w (eC (.bool cf))):=by
 have J:Ext w ((w.alloc (.cells #[iV s,iV st,iV d,.slice A l c] 107)).alloc (.cells #[iV nd,iV E] 266)):=(ek _ _).tr (ek _ _);have O:=(Box.new w 107 #[iV s,iV st,iV d,.slice A l c]).alloc (.cells #[iV nd,iV E] 266);have H:=Box.new (w.alloc (.cells #[iV s,iV st,iV d,.slice A l c] 107)) 266 #[iV nd,iV E];rw[bI]at H;have V:=hide (λ(W:bB) (I:Ext ((w.alloc (.cells #[iV s,iV st,iV d,.slice A l c] 107)).alloc (.cells #[iV nd,iV E] 266)) W)=>x7 (Y.ext (J.tr I)) s st d A l c h1 T h3 h4 h5 h6 h7 h8 h9);have U:=hide (λ(W:bB) (I:Ext ((w.alloc (.cells #[iV s,iV st,iV d,.slice A l c] 107)).alloc (.cells #[iV nd,iV E] 266)) W)=>CY (Y.ext (J.tr I)));clear Y h1 T h3 h4 h5 h6 h7 h8 h9;go_enter func252,ntmps252;go_upto_region 1 with(fail)
 generalize((w.alloc (.cells #[iV s,iV st,iV d,.slice A l c] 107)).alloc (.cells #[iV nd,iV E] 266))=w1 at*;have ae:=O.at_ 3 rfl;have ad:=H.at_ 0 rfl;have ab:=H.at_ 1 rfl;refine vQ 28 (.g ?_);refine ed.eU 107 _ rfl wA oA underlying107 rfl zR O (eh _) ?_;refine ed.call2 285 _ _ _ rfl (enters_of func285 zR rfl) wA oA oA (λ_ _ W J h T=>by cases h;cases T;exact V.out W ((eh _).tr J)) (.g ?_);refine ed.Eh _ _ _ _ rfl wA oA (eE _) zO (.g ?_);refine ed.gz 286 _ _ rfl (enters_of func286 zR rfl) wA oA (λ_ W J h=>by cases h;exact U.out W ((eh _).tr J)) ?_;refine ed.qw _ _ _ _ rfl wA oA oA zO (.g ?_);refine ed.Eh _ _ _ _ rfl wA oA (eE _) zO (.g ?_);refine ed.Sr _ _ _ _ rfl wA oA oA zO (.g ?_);intro W1 aa;go_wp2;go_ret;exact eB.mk (J.tr ((eh _).tr aa)) rfl
end
end
end
end Go.Proofs.YtofgfpffcegioaaGreat
