/- A part of the proof. -/
import Derived.Test.YtofgfpffcegioaaGreatZf40
import Derived.Deep.RegionHeld3
import Derived.Deep.AppendLies
set_option maxRecDepth 100000
set_option maxHeartbeats 8000000
namespace Go.Proofs.YtofgfpffcegioaaGreat
open Go.RowKit Go.Shelf Go.Sort iT jH fq Go.Proofs.Tryz
open _root_.Array renaming getElem?_setIfInBounds_ne → dg,getElem?_eq_some_iff → cF,replicate_succ → dj,replicate_zero → dk,range → dn
open Bool renaming false → cI
open _root_.Go renaming wpAnyH_take → cS,World → db,wpAnyH_ready → ds,Value → cz,info_parts → cG,Calls → cP,bodyPost_ret → cW,callsIn_wide → dc,size_madeCells → df,TypeId → dh
open Go.Act renaming put → c7
open Go.AllReadyH renaming cons → da,nil → dr
open Go.Instr renaming makeSlice → c0
open Go.Operand renaming tmp → du
open Go.Proofs.Tryz renaming prog → cQ,underlying43 → dw,underlying22 → dx
open Go.RowKit.Below renaming heap_setCell → cX
open Go.Value renaming bool → cZ,ownBlock → dy,agg → dm
open Go.World renaming size_alloc → cw
open Go.World.grownBy renaming refl → cv
open Int renaming toNat_natCast → cO
open List renaming setIfInBounds_toArray → cx,length_append → cU,replicate → cY,length_singleton → cy,take_of_length_le → cC,set_cons_zero → cE,set_cons_succ → cL,range → cD,length_map → cJ,mem_map → cH,take_succ_eq_append_getElem → cN,length_nil → de,append_toArray → dp
open Nat renaming le_refl → cA,le_trans → cM,lt_of_lt_of_le → cR,zero_le → cT,zero_add → dv,add_zero → dq
open Option renaming none → bm,some → cV
open Option.some renaming injEq → di
open Or renaming inl → dt
section
variable {i g R size:Nat} {b:Buf} {w:db} {t:ez}
theorem ft.row(h:ft i g R size b w t)(n:Nat)(J:n<R):∃v,eu (b.data.getD n []) v w∧∃d,w.cell? ⟨g,3,bm⟩=cV (.slice (cV ⟨d,0,bm⟩) R R)∧w.cell? ⟨d,n,bm⟩=cV v:=by
 obtain⟨gu,d,Y,s,T,hf,hu,O,U,-⟩:=h;obtain⟨v,E,H⟩:=U.it n J;exact⟨v,H.bytes,d,T.2.at_ 3 rfl,(O.2.cell n).trans E⟩
theorem JL(h:ft i g R size b w t)(n:Nat)(Y:n<R)(hu:b.used.getD n cI=true)(hl:(b.data.getD n []).length≤1000):cP cQ 193 #[gP g,iV n] w (eY w λv w'=>OwnB w' w.heap.size 5 v (b.data.getD n [])):=by
 have O:=wZ h n Y;rw[hu]at O;have hP:=hide O;have H:=hide (λW (hE:Ext w W)=>(ft.keeps.ext h hE).row n Y);have ab:(n:Int)<(R:Int):=zO;have aa:¬(n:Int)<0:=zO;clear h O hu;go_enter func193,ntmps193;go_wp2_with fail;refine hP.out.mono ?_;rintro _ U ⟨u,rfl,d,rfl⟩;obtain⟨v,s,gd,J,E⟩:=H.out U d;have HC:=hide (Fq v _ _ U zS (Src.bytes s) (by intro y hy;obtain⟨q,-,rfl⟩:=cH.1 hy;rfl) zO);obtain⟨A,c,rfl,-⟩:=eu.form s;clear hP H s;go_wp2_with fail;refine HC.out.mono ?_;rintro _ w3 ⟨v3,rfl,T,ho⟩;clear HC J E;go_wp2;go_ret;exact eY.mk (d.tr T) (iY ho d.size)
theorem C8(_:i≠0)(h:ft i g R size b w t)(n:Nat)(hn:n<R)(hu:b.used.getD n cI=true)(bs:L8)(u:cz)(ad:eu bs u w)(a1:size≤1000)(aF:(b.data.getD n []).length+bs.length≤size) :
  cP cQ 189 #[gP g,iV n,u] w λe w'=>(∃u,e=.returned u)∧∃t',ft i g R size (b.put n bs) w' t'∧Turn i w t w' t':=by
 obtain⟨i0,aS,aM,aL,aK⟩:=cG Tryz.tB;have hH:=λW (hE:Ext w W)=>wZ (ft.keeps.ext h hE) n hn;rw[hu]at hH;have H:=hide h;obtain⟨gu,gd,vf,ay,hb,hf,s,hd,E,T,Y,hr⟩:=h;obtain⟨v,hv,J⟩:=E.it n hn;have aN:=J.bytes;obtain⟨A,c,rfl⟩:=J.form;have aH:=hb.2.at_ 1 rfl;have aa:=hb.2.at_ 3 rfl;have ab:w.cell? ⟨gd,0+n,bm⟩=cV (.slice A (b.data.getD n []).length c):=by rw[dv,hd.2.cell n];exact hv
 have aO:=hd.lt;have HX:=hide (And.intro hb (And.intro hf (And.intro s (And.intro hd (And.intro E (And.intro T (And.intro Y (And.intro hr (And.intro hv J)))))))));obtain⟨m,hm⟩:∃m,(b.data.getD n []).length=m:=⟨_,rfl⟩
 have Hm:=hide hm;rw[hm]at ab aF;have aA:=hide (show((size:Int)-(m:Int))=((size-m:Nat):Int) by omega);have aB:¬((bs.length:Int)>((size-m:Nat):Int)):=zO;obtain⟨A1,c1,rfl,-⟩:=eu.form ad;clear hb hf s hd E T Y hr hv J aN hu hm;go_enter func189,ntmps189;go_upto_region 1 with(fail)
 refine vQ 22 ?_;refine .rn 0 ?_;refine .rn 1 ?_;refine ed.call2 244 _ _ _ rfl (enters_of func244 zK rfl) wA oA oA (λ_ _ W hX h1 h2=>by cases h1;cases h2;exact hH W ((eh _).tr hX)) ?_;refine ed.BN _ _ rfl wA oA rfl ?_;refine .rm 3 10 0 ?_;refine ed.move _ rfl (tO 4 11 0) (fU 2 rfl ad (eh _) zK) ?_;refine ed.rS 43 5 _ rfl dw (tO 4 11 1) oA ?_;refine ed.move _ rfl (tO 4 11 2) oA ?_;refine ed.nilCheck _ rfl (tO 4 11 3) oA ?_;refine ed.gF (du 15) (tO 4 11 4) oA (λρ w hE h1=>by simp[execOp,h1,go_sem];rfl) ?_;refine ed.gG 3 _ rfl (tO 4 11 5) oA (λ_=>by kernel_rfl) aH (eh _) ?_;refine ed.move _ rfl (tO 4 11 6) oA ?_;refine ed.nilCheck _ rfl (tO 4 11 7) oA ?_;refine ed.gF (du 19) (tO 4 11 8) oA (λρ w hE h1=>by simp[execOp,h1,go_sem];rfl) ?_;refine ed.gG 22 _ rfl (tO 4 11 9) oA (λ_=>by kernel_rfl) aa (eh _) ?_;refine ed.move _ rfl (tO 4 11 10) oA ?_;refine ed.fD (i:=n) 22 43 _ _ rfl dx zK hn (tO 4 11 11) oA oA ?_;refine ed.gG 43 _ rfl (tO 4 11 12) oA (λ_=>by kernel_rfl) ab (eh _) ?_;refine ed.gF (du 24) (tO 4 11 13) oA (λρ w hE h1=>by simp[h1,go_sem];rfl) ?_;refine ed.kC _ _ _ _ rfl (tO 4 11 14) oA oA zO ?_;refine ed.kD aA.out ?_;refine ed.Ei _ _ _ _ rfl (tO 4 11 15) oA oA aB ?_;refine ed.Gq _ _ _ rfl wA oA oA ?_;refine⟨rfl,λW1 av=>?_⟩;iterate 5 refine ew.eq ?_
 refine ew.any λaX ap=>?_;iterate 3 refine ew.eq ?_
 simp only[c7,cx,cE,cL];iterate 10 refine ew.eq ?_
 simp only[c7,cx,cE,cL];iterate 2 refine ew.eq ?_
 simp only[c7,cx,cE,cL];refine ew.eq ?_;refine ew.nil ?_;simp only[c7,cx,cE,cL];clear ap;have ad:=VP.st _ _ _ _ ad ((eh _).tr av);have hE:=(eh w).tr av;clear hH aH aA aB av;have aa:=(hE.cell (p:=⟨g,3,bm⟩) (World.block_lt_of_cell? w _ aa)).trans aa;have ab:=(hE.cell (p:=⟨gd,0+n,bm⟩) aO).trans ab;rw[dv]at ab;have hE:=hE.tr (eh _);obtain⟨hb,hf,s,hd,E,T,Y,hr,hv,J⟩:=HX.out;have hb:=eG.keeps _ _ _ _ |>.ext hb hE
 have hf:=eO.keeps _ _ _ _ _ _ |>.ext hf hE
 have s:=eG.keeps _ _ _ _ |>.ext s hE
 have hd:=eG.keeps _ _ _ _ |>.ext hd hE
 have E:=qA.keeps.ext E hE;have J:=eO.keeps _ _ _ _ _ _ |>.ext J hE
 have HR:=hide (And.intro hb (And.intro hf (And.intro s (And.intro hd (And.intro E (And.intro T (And.intro Y (And.intro hr hv))))))));have HT:=hide (Turn.ext i t hE);have aR:m≤1000:=zO;have aQ:bs.length≤1000:=zO;have al:=Src.bytes ad;have hm:=Hm.out;rw[hm]at J;have HO:=hide J;have HS:=hide al;have aI:cV g≠dy (.slice A m c):=λe=>eH hb J zD e.symm;have an:cV gd≠dy (.slice A m c):=λe=>eH hd J zD e.symm;have aC:=hb.lt;have ah:=hd.lt;have aT:=hd.2.frozen n;have aD:=hb.far' hd (.inr zD);have aY:=aD.symm;clear HX hb hf s hd E T Y hr hv J al hm hE ad;have aW:∀y∈bs.map ff,y.oneCell'=true:=by intro y hy;obtain⟨q,-,rfl⟩:=cH.1 hy;rfl
 have aP:(bs.map ff).length=bs.length*1:=by simp
 have a2:(0:Int)≤(n:Int):=zO;have a3:(n:Int)<(R:Int):=zO;go_upto_region 3 with(fail)
 refine wp_region_held_drew (S:=λw'=>w'.cell? ⟨g,3,bm⟩=cV (.slice (cV ⟨gd,0,bm⟩) R R)) zK aa (λhS=>?_);refine cS (i:=0) (v:=?wN) rfl zK zK zK (λ_ _ _ h=>h) (dt ⟨by rfl,?UQ⟩) hS ?UR;case UQ=>intro V hV;go_simp;first|done|with_reducible rfl|rfl
 case UR=>
 simp only[c7,cx];refine cS (i:=1) (v:=?Xu) rfl zK zK zK (λ_ _ _ h=>h) (dt ⟨by rfl,?US⟩) hS ?UT;case US=>intro V hV;go_simp;first|done|with_reducible rfl|rfl
 case UT=>
 simp only[c7];refine cS (i:=2) (v:=?Xv) rfl zK zK zK (λ_ _ _ h=>h) (dt ⟨by rfl,?UU⟩) hS ?UW;case UU=>intro V hV;go_simp;first|done|with_reducible rfl|rfl
 case UW=>
 simp only[c7];refine cS (i:=3) (v:=?Xw) rfl zK zK zK (λ_ _ _ h=>h) (dt ⟨by rfl,?UX⟩) hS ?UY;case UX=>intro V hV;go_simp;first|done|with_reducible rfl|rfl
 case UY=>
 simp only[c7];refine cS (i:=4) (v:=?Xx) rfl zK zK zK (λ_ _ _ h=>h) (dt ⟨by rfl,?UZ⟩) hS ?U0;case UZ=>intro V hV;go_simp;first|done|with_reducible rfl|rfl
 case U0=>
 simp only[c7];refine cS (i:=5) (v:=?Xy) rfl zK zK zK (λ_ _ _ h=>h) (dt ⟨by rfl,?U1⟩) hS ?U2;case U1=>intro V hV;go_simp;first|done|with_reducible rfl|rfl
 case U2=>
 simp only[c7];refine cS (i:=6) (v:=?Xz) rfl zK zK zK (λ_ _ _ h=>h) (dt ⟨by rfl,?U3⟩) hS ?U5;case U3=>intro V hV;go_simp;first|done|with_reducible rfl|rfl
 case U5=>
 simp only[c7];refine cS (i:=7) (v:=?XA) rfl zK zK zK (λ_ _ _ h=>h) (dt ⟨by rfl,?U6⟩) hS ?U7;case U6=>intro V hV;go_simp;first|done|with_reducible rfl|rfl
 case U7=>
 simp only[c7];refine cS (i:=8) (v:=?XB) rfl zK zK zK (λ_ _ _ h=>h) (dt ⟨by rfl,?U8⟩) hS ?U9;case U8=>intro V hV;go_simp;first|done|with_reducible rfl|rfl
 case U9=>
 simp only[c7];refine cS (i:=9) (v:=?Wh) rfl zK zK zK (λ_ _ _ h=>h) (dt ⟨by rfl,?Tw⟩) hS ?Tx;case Tw=>intro V hV;go_simp;first|done|with_reducible rfl|rfl
 case Tx=>
 simp only[c7];refine cS (i:=10) (v:=?xF) rfl zK zK zK (λ_ _ _ h=>h) (dt ⟨by rfl,?ld⟩) hS ?mN;case ld=>intro V hV;go_simp;first|done|with_reducible rfl|rfl
 case mN=>
 simp only[c7];refine cS (i:=12) (v:=?yJ) rfl zK zK zK (λ_ _ _ h=>h) (dt ⟨by rfl,?n7⟩) hS ?pM;case n7=>intro V hV;go_simp;first|done|with_reducible rfl|rfl
 case pM=>
 simp only[c7];refine ds (rs:=[11]) zK zS ?_;refine da rfl (λK hK=>?_) dr
 go_simp
 refine hK.out _ _ hS (λ_=>?_);clear hK K;refine ds (rs:=[13]) zK zS ?_;refine da rfl (λK hK=>?_) dr;refine kK zR _ _ 43 zR i t 5 i0 (.int .u8 0) 1 1 dw aS aM aL aK rfl zO (.slice A m c) (.slice A1 bs.length c1) m bs.length ((b.data.getD n []).map ff) (bs.map ff) zR HO.out aP zR HS.out aW zO ?_;intro A4 c4 w' t' am ht d au;have aU:=(d.frozen_far ⟨gd,n,bm⟩ ah an).trans aT;have aZ:=(d.cell_far ⟨gd,n,bm⟩ ah an).trans ab;have ao:=(d.cell_far ⟨g,3,bm⟩ aC aI).trans aa;refine hK.out _ _ ao (λ_=>?_);clear hK K;refine cS (i:=14) (v:=?Vg) rfl zK zK zK (λ_ _ _ h=>h) (dt ⟨by rfl,?RC⟩) ao ?RD;case RC=>intro V hV;go_simp;first|done|with_reducible rfl|rfl
 case RD=>
 simp only[c7,cx];refine ds (rs:=[15]) zK zS ?_;refine da rfl (λK hK=>?_) dr
 go_simp
 refine hK.out _ _ ?s15 (λ_=>?_);case s15=>show(w'.setCell ⟨gd,n,bm⟩ _).cell? ⟨g,3,bm⟩=_;go_keep
 refine wpAnyH_done zK ?_ _;obtain⟨hb,hf,s,hd,E,T,Y,hr,hv⟩:=HR.out;have J:=HO.out;have hm:=Hm.out;rw[hm]at hv;have hT:=HT.out.tr (Turn.lG (i:=i) d (λk U=>(J.at_ U).1) ht);have ak:=hb.grown d (eH hb J zD) ht;have aq:=s.grown d (eH s J zD) ht;have O:=hd.grown d (eH hd J zD) ht;have ar:=hf.grown d (λk U e=>wW hf J zD k U e) ht;have aw:qA i R (b.put n bs).data (ay.setIfInBounds n (.slice A4 (m+bs.length) c4)) w' t':=by
  have aj:=E.ud;refine⟨by simpa using aj,by simpa[Buf.put]using E.len,λk U=>?_,λj k x y hj U ai hx hy q hq=>?_⟩
  ·show∃v,_∧eO i _ 1 v ((b.data.set n (b.data.getD n []++bs)).getD k []).length _ _ _;have e2:(b.put n bs).data=b.data.set n (b.data.getD n []++bs):=rfl;rw[e2,my _ _ _ _ _ (by rw[E.len];exact hn)];by_cases e:k=n
   ·subst e;rw[if_pos rfl];refine⟨.slice A4 (m+bs.length) c4,by simp[aj,U],?_⟩;rw[cU,List.map_append,hm];exact am
   ·rw[if_neg e,dg (Ne.symm e)];obtain⟨x,hx,ag⟩:=E.it k U;exact⟨x,hx,ag.grown d (λq hq e2=>E.sep n k _ x hn U (Ne.symm e) hv hx q e2 hq) ht⟩
  ·by_cases e:j=n
   ·subst e;rw[dg ai]at hy;have hx:x=.slice A4 (m+bs.length) c4:=by simp[aj,hj]at hx;exact hx.symm
    subst hx;obtain⟨x2,ae,ag⟩:=E.it k U;rw[hy]at ae;cases ae;rcases au with e3|e3
    ·rw[e3]at hq;exact E.sep j k _ y hj U ai hv hy q hq
    ·intro af;have:=ag.lt af;have:=e3 q hq;omega
   ·rw[dg (Ne.symm e)]at hx;by_cases e2:k=n
    ·subst e2;have hy:y=.slice A4 (m+bs.length) c4:=by simp[aj,U]at hy;exact hy.symm
     subst hy;obtain⟨x2,ae,ag⟩:=E.it j hj;rw[hx]at ae;cases ae;intro af;rcases au with e3|e3
     ·rw[e3]at af;exact E.sep j k x _ hj U ai hx hv q hq af
     ·have:=ag.lt hq;have:=e3 q af;omega
    ·rw[dg (Ne.symm e2)]at hy;exact E.sep j k x y hj U ai hx hy q hq
 have aE:=ak.far' O (.inr zD);have az:=aq.far' O (.inr zD);have aJ:=aw.grown (row:=cV gd) (eM (cv w' _) n (.slice A4 (m+bs.length) c4)) (λk v U hv b aV e=>by
  obtain⟨v',h1,h2⟩:=aw.it k U;rw[hv]at h1;cases h1;cases e;exact eH O h2 zD aV) (λ_ _=>rfl)
 have aG:=ar.grown (row:=cV gd) (eM (cv w' _) n (.slice A4 (m+bs.length) c4)) (λk U e=>eH O ar zD (by cases e;exact U)) (λ_ _=>rfl);have a4:w'.cell? ⟨gd,n,bm⟩=cV (.slice A m c):=(O.2.cell n).trans hv;have aa:=ak.2.at_ 3 rfl;have aU:=O.2.frozen n;have HF:=hide (show∃t',ft i g R size (b.put n bs) (w'.setCell ⟨gd,n,bm⟩ (.slice A4 (m+bs.length) c4)) t'∧Turn i w t (w'.setCell ⟨gd,n,bm⟩ (.slice A4 (m+bs.length) c4)) t' from
  ⟨t',⟨gu,gd,vf,_,ak.pP aE n _,aG,aq.pP az n _,O.gU n _ _ rfl,aJ,T,Y,hr⟩,hT.gU O.1 n _⟩)
 clear ak aq O ar aw hT am d au hb hf s hd E T Y hr hv J HR HT HO HS aE az aJ aG hm ht;go_wp2;go_ret;exact⟨⟨_,rfl⟩,HF.out⟩
end
section
attribute [local go_sem] Oper.semAt_some
def pd(d:List Bool)(k:Nat):List Int:=((cD k).filter λn=>d.getD n cI).map λn:Nat=>(n:Int)
theorem xb(d:List Bool)(k:Nat):pd d (k+1)=pd d k++if d.getD k cI then [(k:Int)]else []:=by
 grind[pd,List.range_succ]
theorem zu(d:List Bool):∀{k R:Nat},k≤R→pd d k<+:pd d R
 |k,0,h=>by grind
 |k,R+1,h=>by
  rcases Nat.lt_or_ge k (R+1)with h1|h1
  ·exact(zu d (show k≤R by omega)).trans (by rw[xb];exact List.prefix_append _ _)
  ·obtain rfl:k=R+1:=zO;exact List.prefix_rfl
theorem JM(d:List Bool)(k:Nat):(pd d k).length≤k:=by
 grind[pd,cJ,cM,List.length_filter_le]
theorem Fw(b:Buf):pd b.used b.used.length=b.live.map λn:Nat=>(n:Int):=rfl
theorem JN(i g R size b1:Nat)(b:Buf)(w0:db)(t:ez)(h:ft i g R size b w0 t)(ab:Box w0 b1 96 #[gP g]) :
    Quiet 154 #[gP b1] (λx:Int=>#[iV x]) (pd b.used R) w0:=by
  intro l J Jx W hE hJ hY h0;obtain⟨gu,gd,vf,al,hb,-,hu,-,-,ag,-,-,ap⟩:=h;have I1:=hide (λ(x:Nat) (hx:x<R)=>(show w0.cell? ⟨gu,x,bm⟩=cV (.bool (b.used.getD x cI)) by
    rw[hu.2.cell x];grind))
  have E:=hide hE;have ai:=hu.lt;clear hE ag hu;refine callsIn_of_wp func154 rfl trivial ?_ rfl;simp only[ntmps154,List.size_toArray,List.length_cons,de,Nat.reduceAdd,Nat.reduceSub,dj,dk,List.push_toArray,dp,List.nil_append,List.cons_append];have ak:=(hb.2.ext E.out).at_ 2 rfl;have aj:=(ab.ext E.out).at_ 0 rfl;gi_wp2;clear ak aj hb ab
  gi_loopw [10] (λv wr=>∃(x:Nat),x≤R∧v=iV x∧Hid (J (pd b.used x) wr)∧Hid (Ext w0 wr))
    (λv _=>R-(intOf v).toNat)
  case atStart=>exact⟨0,cT _,rfl,h0,E⟩
  case round=>
    clear E h0;obtain⟨x,ao,rfl,HJ,E⟩:=hrel;by_cases ah:x<R
    · have Y:(x:Int)<(R:Int):=zO
      have GQ:=hide (xb b.used x);have H:=(E.out.cell (p:=⟨gu,x,bm⟩) ai).trans (I1.out x ah);cases U:b.used.getD x cI
      · rw[U]at H
        have T:=HJ.out;have d:=GQ.out;rw[U,if_neg zS,List.append_nil]at d;rw[←d]at T;have ae:=hide T;clear d GQ T U;gi_wp2;first
        | (go_roundw
           case rel=>exact⟨x+1,by omega,by go_num,ae,E⟩
           case measure=>simp[intOf];omega)
        | (refine⟨λ_ h=>(by cases h),?_⟩
           gi_wp2
           go_roundw
           case rel=>grind
           case measure=>grind[intOf])
      · rw[U]at H
        have d:=GQ.out;rw[U,if_pos rfl]at d;have s:pd b.used x++[(x:Int)]<+:pd b.used R:=by grind[zu]
        obtain⟨fn,am,af,an,hy,hR⟩:=hY _ _ wr HJ.out s;have lB:=hide s;have SR:=hide d;clear d GQ U s;gi_wp2;refine hR.mono ?_;rintro e W4 ⟨aa,(⟨rfl,O⟩|⟨rfl,ad⟩)⟩
        · have aq:Hid (Ext w0 W4):=by show Ext w0 W4;exact Below.trans E.out aa
          rw[←SR.out]at O;have uc:=hide O;clear aa hy hR O H;gi_wp2
          go_roundw
          case rel=>grind
          case measure=>grind[intOf]
        · have uc:=hide ad
          gi_wp2;exact cW (results_none results154 _ _ _) rfl ⟨⟨_,rfl⟩,.inr ⟨_,lB.out,trivial,uc.out⟩⟩
    · have Y:¬(x:Int)<(R:Int):=zO
      obtain rfl:x=R:=zO;have ae:=HJ.out;gi_wp2
      go_end0
      grind
theorem Fy(g:Nat)(w:db):cP cQ 94 #[gP g] w λe d=>e=.returned (.func (.func 154) #[] #[gP w.heap.size])∧d=w.alloc (.cells #[gP g] 96):=by
 go_enter func94,ntmps94;go_wp2;go_ret;simp_all
section
variable {i g R size:Nat} {b:Buf} {w:db} {t:ez}
theorem JO(h:ft i g R size b w t):cP cQ 47 #[gP g] w (eY w λv T=>jv T w.heap.size v (b.live.map λn:Nat=>(n:Int))):=by
 have H:=ek w (.cells #[gP g] 96);have E:=JN i g R size w.heap.size b _ t (ft.keeps.ext h H) (Box.new w _ _);have J:b.used.length=R:=by obtain⟨_,_,_,_,_,_,_,_,_,h,_⟩:=h;exact h
 have Y:R≤16:=by obtain⟨_,_,_,_,_,_,_,_,_,_,_,_,h⟩:=h;exact h
 have s:=zl 154 _ (enters_of func154 zR rfl) _ _ _ E (Ext.rf _) (by grind[JM]);rw[←J,Fw,C3]at s;have O:=hide s;clear E h s J;go_enter func47,ntmps47;go_wp2_with(go_at_call 94;refine(Fy _ _).mono ?_;rintro _ _ ⟨rfl,rfl⟩)
 refine O.out.mono ?_;rintro _ w4 ⟨v,rfl,d,U⟩;clear O;go_wp2;go_ret;exact eY.mk (H.tr d) (iY U zS)
theorem Tryz.MB:(prog.info? 43).map (λi=>(i.zero,i.size,i.bytes))=cV (cV nS,1,24):=by rfl
theorem AH{R k:Nat}(h:k<R):((cD R).reverse).take (k+1)=((cD R).reverse).take k++[R-1-k]:=by
 grind[cN]
theorem MC(w:db)(o d:Obj)(T:dh)(cs:AV):Box (((w.alloc o).alloc d).alloc (.cells cs T)) (w.heap.size+1+1) T cs:=by
 grind[Box.new,cw]
theorem ft.start{g gu gd:Nat}(T:eG i g 207 #[nS,iV size,.slice (cV ⟨gu,0,bm⟩) R R,.slice (cV ⟨gd,0,bm⟩) R R] w t)(hu:eG i gu 4 (madeCells #[.bool cI] R) w t)(U:eG i gd 43 (madeCells #[nS] R) w t)(hl:1≤R)(O:R≤16) :
  ft i g R size ⟨[],cY R cI,cY R []⟩ w t:=by
 have e1:(((cY R cI).map cZ).toArray)=madeCells #[.bool cI] R:=by
  apply Array.ext_getElem?;intro k;rcases Nat.lt_or_ge k R with h|h
  ·simp_all[gX,Nat.mod_one]
  grind[Array.getElem?_eq_none,df]
 refine⟨gu,gd,_,_,T,eO.nil _ _ _ _ _,by grind,U,⟨df _ _,by simp,λk d=>⟨nS,by rw[gX d];grind,?_⟩,λj k v u J d H s E b Y=>?_⟩,by simp,by simp,hl,O⟩
 ·grind[cY,eO.nil]
 ·rw[gX J]at s;have:v=nS:=by simp_all[Nat.mod_one]
  subst this;cases Y
theorem ft.fresh(h:ft i g R size b w t){n:Nat}(hn:n<R)(av:b.data.getD n []=[])(aq:size≤1000):∃(s:Nat) (v:cz),w.cell? ⟨g,3,bm⟩=cV (.slice (cV ⟨s,0,bm⟩) R R)∧w.cell? ⟨s,n,bm⟩=cV v∧w.frozen? ⟨s,n,bm⟩=cI∧s<w.heap.size∧g≠s∧
  ∀W,Ext w W→ft i g R size b ((W.alloc (.cells (madeCells #[.int .u8 0] size) 5)).setCell ⟨s,n,bm⟩ (.slice (cV ⟨W.heap.size,0,bm⟩) 0 size)) (t.up W.heap.size i)∧
   Turn i w t ((W.alloc (.cells (madeCells #[.int .u8 0] size) 5)).setCell ⟨s,n,bm⟩ (.slice (cV ⟨W.heap.size,0,bm⟩) 0 size)) (t.up W.heap.size i):=by
 obtain⟨gu,s,vf,ap,hb,hf,hu,J,hD,ae,ak,hr⟩:=h;obtain⟨v,hv,-⟩:=hD.it n hn;have aa:=hb.far' J (.inr zD);have af:=hu.far' J (.inr zD);refine⟨s,v,hb.2.at_ 3 rfl,(J.2.cell n).trans hv,J.2.frozen n,J.lt,aa,λW hE=>?_⟩;have O:=hE.tr (ek W (.cells (madeCells #[.int .u8 0] size) 5));have ar:=hE.size;have d:∀k,k<w.heap.size→t.up W.heap.size i k=t k:=λk Y=>ez.fB zO;have am:=eG.keeps _ _ _ _ |>.ext' hb O d
 have ab:=eO.keeps _ _ _ _ _ _ |>.ext' hf O d
 have ah:=eG.keeps _ _ _ _ |>.ext' hu O d
 have E:=eG.keeps _ _ _ _ |>.ext' J O d
 have ao:=qA.keeps.ext' hD O d;have U:eO i 5 1 (.slice (cV ⟨W.heap.size,0,bm⟩) 0 size) 0 [] (W.alloc (.cells (madeCells #[.int .u8 0] size) 5)) (t.up W.heap.size i):=
  ⟨rfl,.inr ⟨_,0,size,_,rfl,ez.fJ (cA _),Box.new W _ _,cT _,by grind[maxLen],by rw[df];omega,by simp⟩⟩
 have H:=ao.set hn [] _ U (λk u Y au ai b ad ag=>by
  cases ad;obtain⟨v2,T,aj⟩:=hD.it k Y;rw[ai]at T;cases T;have:W.heap.size<w.heap.size:=aj.lt ag;omega)
 have e:b.data.set n []=b.data:=by
  apply List.ext_getElem?;grind
 rw[e]at H;have an:=H.grown (row:=cV s) (eM (cv _ _) n (.slice (cV ⟨W.heap.size,0,bm⟩) 0 size)) (λk v Y hv b ad e=>by
  obtain⟨v',h1,h2⟩:=H.it k Y;grind[eH]) (λ_ _=>rfl)
 have al:=ab.grown (row:=cV s) (eM (cv _ _) n (.slice (cV ⟨W.heap.size,0,bm⟩) 0 size)) (λk Y e=>eH E ab zD zG) (λ_ _=>rfl);exact⟨⟨gu,s,vf,_,am.pP aa n _,al,ah.pP af n _,E.gU n _ _ rfl,an,ae,ak,hr⟩,(Turn.ext' i O d).gU E.1 n _⟩
theorem MD(i:Nat)(_:i≠0)(t:ez)(hl:1≤R)(hh:R≤16)(aw:1≤size)(av:size≤288):cP cQ 83 #[.int .i64 (R:Int),.int .i64 (size:Int)] w λe J=>∃g t',e=.returned (.tuple #[.pointer (cV ⟨g,0,bm⟩),.int .i64 0])∧w.heap.size≤g∧ft i g R size ⟨(cD R).reverse,cY R cI,cY R []⟩ J t'∧Turn i w t J t':=by
  obtain⟨ib,ag,aj,ai,au⟩:=cG Tryz.MA;obtain⟨ir,af,Y,U,am⟩:=cG Tryz.MB;obtain⟨iy,ae,T,O,al⟩:=cG Tryz.tB;have ao:∀w:db,(c0 27 (.int .i64 (R:Int)) (.int .i64 (R:Int))).run cQ w=.ok (.slice (cV ⟨w.heap.size,0,bm⟩) R R) (w.alloc (.cells (madeCells #[.bool cI] (R*1)) 4)):=λw=>by
    have h:=run_make (P:=cQ) w 27 4 ib _ underlying27 ag aj .i64 .i64 R R zO (Int.le_refl _) zG zO;rw[ai]at h;simp only[cO]at h;exact h
  have an:∀w:db,(c0 22 (.int .i64 (R:Int)) (.int .i64 (R:Int))).run cQ w=.ok (.slice (cV ⟨w.heap.size,0,bm⟩) R R) (w.alloc (.cells (madeCells #[.slice bm 0 0] (R*1)) 43)):=λw=>by
    have h:=run_make (P:=cQ) w 22 43 ir _ dx af Y .i64 .i64 R R zO (Int.le_refl _) zG zO;rw[U]at h;simp only[cO]at h;exact h
  have ay:∀w:db,(c0 43 (.int .i64 0) (.int .i64 (size:Int))).run cQ w=.ok (.slice (cV ⟨w.heap.size,0,bm⟩) 0 size) (w.alloc (.cells (madeCells #[.int .u8 0] (size*1)) 5)):=λw=>by
    have h:=run_make (P:=cQ) w 43 5 iy _ dw ae T .i64 .i64 0 size zO zO zG zO;rw[O]at h;simp only[cO]at h;exact h
  have h1:¬(R:Int)<1:=zO;have h2:¬(16:Int)<R:=zO;have h3:¬(size:Int)<1:=zO;have h4:¬(288:Int)<size:=zO;clear aj ai au ag Y U am af T O al ae;go_enter func83,ntmps83;go_upto_region 3 with(fail)
  go_region_held3 (λJ=>True) (trivial) (fail)
  all_goals
    generalize hW:World.drew _=W;have hS:ft i (w.heap.size+1+1) R size ⟨[],cY R cI,cY R []⟩ W (t.up w.heap.size i)∧Turn i w t W (t.up w.heap.size i):=by
      subst hW;constructor
      · first
        | (refine(ft.keeps.ext (ft.start (gu:=w.heap.size) (gd:=w.heap.size+1) ⟨ez.fJ zO,?_⟩ ⟨ez.fJ zO,?_⟩ ⟨ez.fJ zO,?_⟩ hl hh) (eh _))
           · grind[MC]
           · exact((Box.new w _ _).alloc _).alloc _
           · have:=(Box.new (w.alloc (.cells (madeCells #[.bool cI] R) 4)) 43 (madeCells #[.slice bm 0 0] R)).alloc (.cells #[.slice bm 0 0,.int .i64 (size:Int),.slice (cV ⟨w.heap.size,0,bm⟩) R R,.slice (cV ⟨w.heap.size+1,0,bm⟩) R R] 207)
             simp_all)
        | (refine(ft.keeps.ext (ft.start (gu:=w.heap.size+1) (gd:=w.heap.size) ⟨ez.fJ zO,?_⟩ ⟨ez.fJ zO,?_⟩ ⟨ez.fJ zO,?_⟩ hl hh) (eh _))
           · grind[MC]
           · have:=(Box.new (w.alloc (.cells (madeCells #[.slice bm 0 0] R) 43)) 4 (madeCells #[.bool cI] R)).alloc (.cells #[.slice bm 0 0,.int .i64 (size:Int),.slice (cV ⟨w.heap.size+1,0,bm⟩) R R,.slice (cV ⟨w.heap.size,0,bm⟩) R R] 207)
             simp_all
           · exact((Box.new w _ _).alloc _).alloc _)
      · exact Turn.up i t i ((((ek _ _).tr (ek _ _)).tr (ek _ _)).tr (eh _))
    clear hW ao an;have HS:=hide hS;clear hS;go_wp2_with fail
    go_loopw [30] (λv wr=>∃(k:Nat) (tr:ez),k≤R∧v=.int .i64 (k:Int)∧Hid (ft i (w.heap.size+1+1) R size ⟨((cD R).reverse).take k,cY R cI,cY R []⟩ wr tr∧Turn i w t wr tr)) (λv _=>R-(intOf v).toNat)
    case atStart=>exact⟨0,_,cT _,rfl,by rw[List.take_zero];exact HS⟩
    case round=>
      clear HS;obtain⟨k,tr,hk,rfl,HB⟩:=hrel;by_cases ad:k<R
      · have ab:(k:Int)<(R:Int):=zO
        have e0:(cY R ([]:List UInt8)).getD k []=[]:=zG;obtain⟨gd,v,ar,aq,ap,H,E,HW⟩:=HB.out.1.fresh ad e0 zO;have ah:=E.symm;have HW:=hide HW;have HT:=hide HB.out.2;have az:(0:Int)≤(k:Int):=zO;clear e0 HB;go_upto_region 7 with(fail)
        go_region_held3 (λJ=>J.cell? ⟨w.heap.size+1+1,3,bm⟩=cV (.slice (cV ⟨gd,0,bm⟩) R R)) (go_keep) (fail)
        obtain⟨s,d⟩:=HW.out wr (Ext.rf _);rw[World.setCell_alloc_past _ _ _ _ H]at s d;have s:=ft.keeps.ext s (eh _);have d:=d.drew;have HP:=hide (zn s (R-1-k) zG);have HT2:=hide (HT.out.tr d);have He:=hide (show((R:Int)-1-(k:Int))=((R-1-k:Nat):Int) by omega);clear ar aq ap H HW HT s d E ah;go_wp2_with(go_at_call 128;rw[He.out];refine HP.out.mono ?_;rintro _ w5 ⟨⟨u,rfl⟩,t5,aa,ak⟩)
        have aA:Hid (ft i (w.heap.size+1+1) R size ⟨((cD R).reverse).take (k+1),cY R cI,cY R []⟩ w5 t5∧Turn i w t w5 t5):=by
          show _∧_;rw[AH ad];exact⟨aa,HT2.out.tr ak⟩
        clear HP HT2 He aa ak;go_wp2
        go_roundw
        case rel=>grind
        case measure=>grind[intOf]
      · have ab:¬(k:Int)<(R:Int):=zO
        obtain rfl:k=R:=zO;have s:=HB.out;rw[cC zS]at s;have HQ:=hide s;clear s HB;go_wp2;exact cW (results_tmp2 results83 _ _ _) rfl ⟨w.heap.size+1+1,rfl,by omega,_,HQ.out⟩
end
end
section
structure mV(reads:LL)(vs:List cz)(w:db)(t:ez):Prop where
 len:vs.length=reads.length
 it:∀k (h:k<reads.length),∃v,vs[k]?=cV v∧Held (eu reads[k]) v w t
theorem mV.keeps{i:Nat}{d:LL}{vs:List cz}:fh i (mV d vs):=λw t s E h H O=>
 ⟨h.len,λk J=>by obtain⟨v,U,T⟩:=h.it k J;exact⟨v,U,Held.keeps (eX _) i v w t s E T H O⟩⟩
theorem mV.drop{b:L8}{l:LL}{vs:List cz}{w:db}{t:ez}(h:mV (b::l) vs w t):mV l (vs.drop 1) w t:=
 ⟨by rw[List.length_drop,h.len];simp,λk d=>by
  obtain⟨v,E,s⟩:=h.it (k+1) zG;grind⟩
theorem mV.head{b:L8}{l:LL}{vs:List cz}{w:db}{t:ez}(h:mV (b::l) vs w t):∃v,vs[0]?=cV v∧Held (eu b) v w t:=by
 obtain⟨v,s,d⟩:=h.it 0 zS;grind
theorem mV.set{b d:L8}{l:LL}{vs:List cz}{v:cz}{w:db}{t:ez}(h:mV (b::l) vs w t)(hv:Held (eu d) v w t):mV (d::l) (vs.set 0 v) w t:=
 ⟨by rw[List.length_set,h.len];simp,λk E=>by
  have s:=h.len;cases k with
  |zero=>grind
  |succ k=>
   obtain⟨u,J,H⟩:=h.it (k+1) zO;grind⟩
def gD(i g:Nat)(d:Bool)(s:fq.Src)(w:db)(t:ez):Prop:=
 ∃(H:cz) (E:List cz),eG i g 190 #[H,.bool d,iV (s.told:Int)] w t∧eO i 43 1 H s.reads.length E w t∧mV s.reads E w t
theorem gD.keeps{i g:Nat}{d:Bool}{s:fq.Src}:fh i (gD i g d s):=by
 rintro w t E H ⟨U,T,h1,h2,Y⟩ J O;exact⟨U,T,eG.keeps _ _ _ _ w t E H h1 J O,eO.keeps _ _ _ _ _ _ w t E H h2 J O,mV.keeps (i:=i) w t E H Y J O⟩
theorem C9{i q d n c:Nat}{e:dh}{xs:List cz}{w:db}{t:ez}(h:eO i e 1 (.slice (cV ⟨q,d,bm⟩) n c) n xs w t)(k:Nat)(hk:k<n)(u:cz):eO i e 1 (.slice (cV ⟨q,d,bm⟩) n c) n (xs.set k u) (w.setCell ⟨q,d+k,bm⟩ u) t:=by
 obtain⟨h1,⟨E,-⟩|⟨g,H,aa,s,E,J,O,Y,U,h5,T⟩⟩:=h
 ·cases E
 ·cases E;refine⟨by grind,.inr ⟨q,d,c,s.setIfInBounds (d+k) u,rfl,J,(show Box w q e s from O).eL (d+k) u,Y,U,by grind,?_⟩⟩;rw[←T];apply List.ext_getElem?;grind
section
variable {P:Program} {Q:Exit→Act→db→Prop} {ops:Array Oper} {M m:Nat} {a0:Act} {w0:db} {K:List Oper→List VP→Prop} {o:Oper} {rest:List Oper} {env:List VP}
theorem ed.ME{q d n c lo:Nat}(t e:dh)(x y:Operand)(k:IntKind)(Y:o.op=.slice t x (cV y) bm bm)(hu:P.underlying t=cV (.slice e))(s:(P.info? e).map (·.size)=cV 1)
  (T:Want ops M a0 w0 env o true)(hx:fu ops M a0 w0 env o x (eC (.slice (cV ⟨q,d,bm⟩) n c)))(O:fu ops M a0 w0 env o y (eC (.int k (lo:Int))))(hl:lo<c)(hn:lo≤n)(_:n≤c)
  (U:ed P Q ops M a0 w0 K m rest (eC (.slice (cV ⟨q,d+lo,bm⟩) (n-lo) (c-lo))::env)):ed P Q ops M a0 w0 K (m+1) (o::rest) env:=
 .iu x y T hx O (λρ w _ h1 h2=>by
  cases E:P.info? e with
  |none=>grind
  |some ie=>
   simp only[E,Option.map_some,di]at s;have H:¬c=lo:=zO;unfold execOp;simp[Y,h1,h2,Instr.sliceAt,Instr.slice,Instr.sliceBounds,Instr.sliceBound,asIntOf,run_underlying hu,sizeOf,typeInfo,E,s,hn,H,addr_add]) U
end
theorem Held.cutFrom{bs:L8}{q d n c k:Nat}{w:db}{t:ez}(h:Held (eu bs) (.slice (cV ⟨q,d,bm⟩) n c) w t)(E:k<n):Held (eu (bs.drop k)) (.slice (cV ⟨q,d+k,bm⟩) (n-k) (c-k)) w t:=by
 obtain⟨A,O,U,e,s,T,-,J⟩:=eu.cut h.1;cases e;have H:=J k n zO (cA _);rw[if_neg zO,s,cC (cA _)]at H;rw[s];exact⟨by grind[addr_add],λk E=>by cases E;exact h.2 q rfl⟩
theorem Held.S2{bs:L8}{q d n c k:Nat}{w:db}{t:ez}(h:Held (eu bs) (.slice (cV ⟨q,d,bm⟩) n c) w t)(s:k≤n):Held (eu (bs.take k)) (.slice (cV ⟨q,d,bm⟩) k c) w t:=by
 obtain⟨A,H,U,e,J,T,-,E⟩:=eu.cut h.1;cases e;have O:=E 0 k (cT _) s;refine⟨?_,λk s=>by cases s;exact h.2 q rfl⟩;grind[addr_add]
section
variable {i g:Nat} {broken:Bool} {s:fq.Src} {w:db} {t:ez}
theorem Da(h:gD i g broken s w t):cP cQ 56 #[gP g] w (eB w (eC (.bool broken))):=by
 obtain⟨J,H,d,-,-⟩:=h;have E:=d.2.at_ 1 rfl;clear d;go_enter func56,ntmps56;go_wp2;go_ret;exact eB.mk (Ext.rf _) rfl
theorem Db(h:gD i g broken s w t):cP cQ 245 #[gP g] w (eB w (eC (.bool s.reads.isEmpty))):=by
 obtain⟨U,T,H,E,-⟩:=h;obtain⟨A,c,rfl⟩:=E.form;have J:=H.2.at_ 0 rfl;have e:s.reads.isEmpty=decide (s.reads.length=0):=zG;rw[e];clear H E e;generalize s.reads.length=n at*;by_cases d:n=0
 ·subst d;go_enter func245,ntmps245;go_wp2;go_ret;exact eB.mk (Ext.rf _) rfl
 ·have Y:((n:Int)==0)=false:=zG;have O:=hide (decide_eq_false d);rw[O.out];clear d;go_enter func245,ntmps245;go_wp2;go_ret;exact eB.mk (Ext.rf _) rfl
attribute [local irreducible] ew ed in
theorem MF(hi:i≠0)(h:gD i g broken s w t)(b:L8)(l:LL)(hr:s.reads=b::l)(m:Nat)(hm:1≤m)(aM:m≤1000000) :
  cP cQ 246 #[gP g,iV m] w λe w'=>∃v,e=.returned v∧Held (eu (b.take m)) v w' t∧gD i g broken ⟨if b.length≤m then l else b.drop m::l,s.told⟩ w' t∧Turn i w t w' t:=by
 obtain⟨vr,vs,U,T,hS⟩:=h;rw[hr]at T hS;obtain⟨v,ab,hv⟩:=hS.head;obtain⟨A,c,rfl⟩:=T.form;have af:(b::l).length=l.length+1:=by simp
 rw[af]at T U;obtain⟨q,d,rfl,aO,aF⟩:∃q d,A=cV ⟨q,d,bm⟩∧l.length+1≤c∧c≤maxLen:=by
  rcases T.addr with⟨-,h,-⟩|h
  ·omega
  ·exact h
 unfold maxLen at aF;have hq:=T.at_ (k:=q) rfl;have an:g≠q:=λe=>eH U T zD (by rw[e];rfl);have aG:=U.2.at_ 0 rfl;have ap:w.cell? ⟨q,d+0,bm⟩=cV v:=T.cell 0 _ ab;have ao:w.frozen? ⟨q,d+0,bm⟩=false:=by obtain⟨-,aj,aq⟩:=hq;exact(show Box w q _ aj from aq).frozen (d+0)
 obtain⟨A1,c1,rfl,aI,aH,ai⟩:=eu.form hv.1;unfold maxLen at aH;by_cases ag:b.length≤m
 ·rw[if_pos ag,cC ag];have am:(b.length:Int)≤(m:Int):=zO;have ae:=C9 T 0 zO nS;have E:=Turn.set (w:=w) hq.1 (d+0) nS;have J:=U.pP an (d+0) nS;have aa:=mV.keeps (i:=i+1) |>.turn zO hi hS E
  have Y:=Held.keeps (eX b) (i+1) _ |>.turn zO hi hv E
  have aw:mV l (vs.drop 1) _ t:=aa.drop;have ad:=ae.cut (k:=1) zO;rw[Nat.one_mul,show(vs.set 0 nS).drop 1=vs.drop 1 by cases vs<;>rfl,Nat.add_sub_cancel]at ad;have aE:=J.2.at_ 0 rfl;have aN:=J.2.frozen 0;have H:∀x,eG i g _ #[x,.bool broken,iV (s.told:Int)] ((w.setCell ⟨q,d+0,bm⟩ nS).setCell ⟨g,0,bm⟩ x) t:=λx=>J.gU 0 x _ rfl;have au:=λx=>E.gU U.1 0 x;have av:=λx=>mV.keeps (i:=i+1) |>.turn zO hi aw (Turn.set (w:=w.setCell ⟨q,d+0,bm⟩ nS) U.1 0 x)
  have ak:=λx=>Held.keeps (eX b) (i+1) _ |>.turn zO hi Y (Turn.set (w:=w.setCell ⟨q,d+0,bm⟩ nS) U.1 0 x)
  have aA:=λx=>ad.grown (row:=cV g) (eM (cv _ _) 0 x) (λk hk e=>by
   grind[eH]) (λ_ _=>rfl)
  have HF:=hide (λx (hx:x=Value.slice (if c=1 then cV ⟨q,d,bm⟩else cV ⟨q,d+1,bm⟩) l.length (c-1))=>show Held (eu b) _ _ t∧gD i g broken ⟨l,s.told⟩ ((w.setCell ⟨q,d+0,bm⟩ nS).setCell ⟨g,0,bm⟩ x) t∧Turn i w t _ t from
   ⟨ak x,⟨x,vs.drop 1,H x,by grind[addr_add],av x⟩,au x⟩)
  clear U T hS ab hv hq J aa Y aw ae ad H au av ak aA E hr af ai;rw[dq]at*;by_cases ar:c=1
  ·subst ar;obtain ah:l.length=0:=zO;have HF2:=hide (HF.out _ rfl);rw[if_pos rfl,ah]at HF2;rw[ah]at aG aE;clear HF ah;go_enter func246,ntmps246;go_wp2;go_ret;exact⟨_,rfl,HF2.out⟩
  ·have HF2:=hide (HF.out _ rfl);rw[if_neg ar]at HF2;clear HF;go_enter func246,ntmps246;go_wp2;go_ret;exact⟨_,rfl,HF2.out⟩
 ·rw[if_neg ag];have am:¬(b.length:Int)≤(m:Int):=zO;obtain⟨q1,o1,rfl,aL,-⟩:=ai zO;have HF:=hide (λW (O:Ext w W)=>by
   have aJ:=eG.keeps _ _ _ _ |>.ext U O
   have aB:=eO.keeps _ _ _ _ _ _ |>.ext T O
   have aK:=mV.keeps (i:=i) |>.ext hS O
   have al:=Held.keeps (eX b) i _ |>.ext hv O
   have H:=al.cutFrom (k:=m) zO;have az:=al.S2 (k:=m) zO;have E:=Turn.set (w:=W) hq.1 (d+0) (.slice (cV ⟨q1,o1+m,bm⟩) (b.length-m) (c1-m));have aa:=mV.keeps (i:=i+1) |>.turn zO hi (aK.set H) E
   have Y:=Held.keeps (eX _) (i+1) _ |>.turn zO hi az E
   have ae:=C9 aB 0 zO (.slice (cV ⟨q1,o1+m,bm⟩) (b.length-m) (c1-m));exact(show Held (eu (b.take m)) _ _ t∧gD i g broken ⟨b.drop m::l,s.told⟩ (W.setCell ⟨q,d+0,bm⟩ (.slice (cV ⟨q1,o1+m,bm⟩) (b.length-m) (c1-m))) t∧Turn i w t (W.setCell ⟨q,d+0,bm⟩ (.slice (cV ⟨q1,o1+m,bm⟩) (b.length-m) (c1-m))) t from
    ⟨Y,⟨_,_,aJ.pP an _ _,by omega,aa⟩,(Turn.ext i t O).tr E⟩))
  have V4:=hide (λW (O:Ext w W)=>And.intro ((O.cell (p:=⟨q,d+0,bm⟩) (hq.2.elim λaj h=>(cF.1 h).1)).trans ap) ((O.frozen (p:=⟨q,d+0,bm⟩) (hq.2.elim λaj h=>(cF.1 h).1)).trans ao));have aC:m<c1:=zO;have aD:m≤b.length:=zO;clear U T hS ab hv hq hr af ai;rw[dq]at*;go_enter func246,ntmps246;go_upto_region 6 with(fail)
  refine vQ 7 (.g ?_);refine ed.ME 43 5 _ _ .i64 rfl dw zR wA oA oA aC aD aI (.g ?_);intro W6 ay;have O:=(eh w).tr ay;have HF2:=hide (HF.out W6 O);obtain⟨ap,ao⟩:=V4.out W6 O;clear HF V4 O ay;go_wp2;go_ret;exact⟨_,rfl,HF2.out⟩
end
end
section
theorem Held.own{bs:L8}{v:cz}{w s:db}(h:s.ownsRow w.heap.size 5 1 v bs.length (bs.map ff))(t:ez):Held (eu bs) v s (t.up w.heap.size 0):=
 ⟨OwnB.bytes (e:=5) (base:=w.heap.size) h,λk d=>by
  have E:=fk h k d;refine⟨?_,ez.fJ E⟩;obtain⟨-,⟨rfl,-⟩|⟨g,J,H,rfl,-,O,-⟩⟩:=h
  ·cases d
  ·cases d;grind⟩
theorem Turn.S3{i:Nat}{w d:db}{t t':ez}(h:Turn i w t d t')(E:∀k,k<w.heap.size→t k≠i):Ext w d:=⟨h.os,h.tape,h.output,h.size,λk s=>(h.block k s (E k s)).1⟩
def Dc(B:Nat)(bs:L8):VP:=⟨λv w=>eu bs v w∧∀k,v.ownBlock=cV k→B≤k∧k<w.heap.size,λv w E h s=>⟨(eu bs).wk v w E h.1 s,λk d=>⟨(h.2 k d).1,cR (h.2 k d).2 s.size⟩⟩⟩
theorem Dd(B:Nat)(bs:L8):OneCell (Dc B bs):=λv w d=>by obtain⟨A,c,rfl,-⟩:=eu.form d.1;rfl
theorem Dc.own{B:Nat}{bs:L8}{v:cz}{w:db}(h:w.ownsRow B 5 1 v bs.length (bs.map ff)):Dc B bs v w:=
 ⟨OwnB.bytes (e:=5) (base:=B) h,λk d=>by
  have s:=fk h k d;refine⟨s,?_⟩;obtain⟨-,⟨rfl,-⟩|⟨g,H,E,rfl,-,J,-⟩⟩:=h
  ·cases d
  ·cases d;grind⟩
theorem Dc.held{B:Nat}{bs:L8}{v:cz}{w:db}(h:Dc B bs v w){t:ez}(s:∀k,B≤k→k<w.heap.size→t k=0):Held (eu bs) v w t:=⟨h.1,λk d=>⟨(h.2 k d).2,s k (h.2 k d).1 (h.2 k d).2⟩⟩
section
variable {i g:Nat} {broken:Bool} {s:fq.Src} {w:db} {t:ez}
theorem Fz(h:gD i g broken s w t)(hs:s.reads=[])(m:Int):cP cQ 190 #[gP g,iV m] w (eB w (eR [eC nS,eC (.bool true)])):=by
 have d:=Db h;rw[hs]at d;have Kv:=hide d;clear d h hs;go_enter func190,ntmps190;go_wp2_with fail;refine Kv.out.mono ?_;rintro _ H ⟨u,rfl,E,rfl⟩;have e:([]:LL).isEmpty=true:=rfl;clear Kv;go_wp2;exact cW (results_tmp2 results190 _ _ _) rfl (eB.mk E (eR.two rfl rfl))
theorem FA(hi:i≠0)(h:gD i g broken s w t)(m:Nat)(hm:1≤m)(ah:m≤1000000)(b:L8)(s':fq.Src)(hs:s.next m=cV (b,s'))(ht:s.told≤1000000000) :
  cP cQ 190 #[gP g,iV m] w λe w'=>∃v,e=.returned (.tuple #[v,.bool cI])∧∃E,Held (eu b) v w' E∧gD i g broken s' w' E∧Turn i w t w' E∧b.length≤m:=by
 obtain⟨x,l,hr⟩:∃x l,s.reads=x::l:=by
  grind[fq.Src.next]
 have ai:b=x.take m∧s'=⟨if x.length≤m then l else x.drop m::l,s.told+b.length⟩:=by
  unfold fq.Src.next at hs;rw[hr]at hs;simp only at hs;split at hs
  ·rename_i aj;cases hs;simp_all[cC]
  grind
 obtain⟨d,ab⟩:=ai;have HS:=hide ab;have ae:b.length≤m:=zG;have U:=Db h;have he:s.reads.isEmpty=false:=zG;rw[he]at U;have Kv:=hide U;have H:=hide h;have HR:=hide hr;have Hb:=hide d;have Ur:=hide ae;have am:b.length≤1000000:=zO;clear U h hr he hs d ab ae;go_enter func190,ntmps190;go_wp2_with fail;refine Kv.out.mono ?_;rintro _ w2 ⟨u,rfl,T,rfl⟩;have HC:=hide (MF hi (gD.keeps.ext H.out T) x l HR.out m hm ah);clear Kv;go_wp2_with fail;refine HC.out.mono ?_;rintro _ w3 ⟨v,rfl,hv,hq,hT⟩;rw[←Hb.out]at hv;have HT:=hide ((Turn.ext i t T).tr hT);have HQ:=hide hq;have HB:=hide (xa v b.length (b.map ff) w3 zS (Src.bytes hv.1) (by intro y hy;obtain⟨q,-,rfl⟩:=cH.1 hy;rfl) zO);obtain⟨A,c,rfl,-⟩:=eu.form hv.1;clear HC hT hq hv T H;go_wp2_with fail;refine HB.out.mono ?_;rintro _ w4 ⟨v4,rfl,O,ho⟩;have aa:∀k,k<w3.heap.size→t.up w3.heap.size 0 k=t k:=λk hk=>ez.fB hk;have Y:=Held.own ho t;have ag:=gD.keeps.ext' HQ.out O aa;have af:=HT.out.tr (Turn.up i t 0 O);obtain⟨vr,vs,d,ad,hS⟩:=ag;have al:=d.2.at_ 2 rfl;have ak:=d.2.frozen 2;obtain⟨A4,c4,rfl⟩:=eI ho;have HF:=hide (show∃E,Held (eu b) (.slice A4 b.length c4) (w4.setCell ⟨g,2,bm⟩ (iV ((s.told:Int)+(b.length:Int)))) E∧gD i g broken s' (w4.setCell ⟨g,2,bm⟩ (iV ((s.told:Int)+(b.length:Int)))) E∧Turn i w t (w4.setCell ⟨g,2,bm⟩ (iV ((s.told:Int)+(b.length:Int)))) E∧b.length≤m from by
  have J:=Turn.set (w:=w4) d.1 2 (iV ((s.told:Int)+(b.length:Int)));rw[HS.out];refine⟨t.up w3.heap.size 0,Held.keeps (eX b) (i+1) _ |>.turn zO hi Y J,⟨vr,vs,d.gU 2 _ _ zR,ad.grown (row:=cV g) (eM (cv _ _) 2 _) (λk hk e=>by grind[eH]) (λ_ _=>rfl),mV.keeps (i:=i+1) |>.turn zO hi hS J⟩,af.tr J,Ur.out⟩)
 clear HT HQ HB ho O aa Y af d ad hS Hb HR HS Ur;go_wp2;exact cW (results_tmp2 results190 _ _ _) rfl ⟨_,rfl,HF.out⟩
attribute [local irreducible] ew ed in
theorem MG(i:Nat)(hi:i≠0)(t:ez)(ar:∀k,k<w.heap.size→t k≠i)(broken:Bool)(d:LL)(u:cz)(hu:eD d u w)(hn:d.length≤100000)(hlen:∀b∈d,b.length≤1000000) :
  cP cQ 40 #[.bool broken,u] w λe w'=>∃g t',e=.returned (gP g)∧w.heap.size≤g∧gD i g broken ⟨d,0⟩ w' t'∧Turn i w t w' t':=by
 obtain⟨i0,aL,aI,aH,aG⟩:=cG Tryz.MB;obtain⟨A,c,rfl,aY,aM,hx⟩:=eD.form hu;unfold maxLen at aM;have hX:=ek w (.cells #[nS,.bool broken,iV 0] 190);have aD:gD i w.heap.size broken ⟨[],0⟩ (w.alloc (.cells #[nS,.bool broken,iV 0] 190)) (t.up w.heap.size i):=
  ⟨_,[],⟨ez.fJ (cA _),Box.new w _ _⟩,eO.nil _ _ _ _ _,⟨rfl,λk h=>by simp at h⟩⟩
 have HS:=hide (And.intro aD (Turn.up i t i hX));have Xl:=hide ar;clear hu aD hX ar;go_enter func40,ntmps40;go_wp2;generalize w.alloc (.cells #[nS,.bool broken,iV 0] 190)=w1 at*
 go_loopw [13] (λv wr=>∃(k:Nat) (tr:ez),k≤d.length∧v=iV k∧Hid (gD i w.heap.size broken ⟨d.take k,0⟩ wr tr∧Turn i w t wr tr)) (λv _=>d.length-(intOf v).toNat)
 case atStart=>exact⟨0,_,cT _,rfl,by rw[List.take_zero];exact HS⟩
 case round=>
  clear HS;obtain⟨k,tr,hk,rfl,HB⟩:=hrel;have HE:=hide (HB.out.2.S3 Xl.out);by_cases aj:k<d.length
  ·have au:(k:Int)<(d.length:Int):=zO;obtain⟨b,aF,rfl,aO,ab⟩:=hx zO;obtain⟨x,al,ad⟩:=ab k aj;have al:=(HE.out.cell (p:=⟨b,aF+k,bm⟩) aO).trans al;have ad:=VP.st _ _ _ _ ad HE.out;obtain⟨A1,c1,rfl,-⟩:=eu.form ad;have aZ:=hlen _ (List.getElem_mem aj);have aq:d.take (k+1)=d.take k++[d[k]]:=cN aj;have GZ:=hide aq;clear aq ab;generalize d[k]=bs at*;obtain⟨⟨vr,vs,hb,ho,hS⟩,hT⟩:=HB.out;obtain⟨A2,c2,rfl⟩:=ho.form;have av:(d.take k).length=k:=by rw[List.length_take];omega
   have aN:=hb.2.at_ 0 rfl;have aV:=hb.lt;have aJ:=eH hb ho zD;have ap:=ho.1;rw[show(d.take k).length=k from av]at ho hb aN aJ ap;have HQ:=hide (And.intro hb (And.intro ho (And.intro hS hT)));have E:∀j,j<wr.heap.size→tr.up wr.heap.size 0 j=tr j:=λj hj=>ez.fB hj;have HO:=hide (λ(W:db) (hE:Ext wr W)=>(eO.keeps i 43 1 _ k vs).ext' ho hE E);have aU:=HE.out.size;have Us:=hide E;clear hb ho hS hT HB av ap E hx;go_upto_region 5 with(fail)
   have HC:=hide (λW (hE:Ext wr W)=>(xa _ bs.length (bs.map ff) W zS ((Src.bytes ad).st hE) (by intro y hy;obtain⟨q,-,rfl⟩:=cH.1 hy;rfl) zO).mono (show∀e w',_→eB W (Dc wr.heap.size bs) e w' from λe w' ⟨v,he,h1,h2⟩=>⟨v,he,h1,Dc.own (iY h2 hE.size)⟩));clear ad;refine vR 9 ?_ (fl:=[0]);refine ed.gz 91 _ _ rfl (enters_of func91 zK rfl) wA oA (λ_ W hX h1=>by cases h1;exact HC.out W ((eh wr).tr hX)) ?_;refine ed.lit (Fs:=[_]) [du 24] 22 43 1 _ rfl rfl zD zD rfl dx zK zK ⟨Dd _ _,trivial⟩ wA ⟨oA,trivial⟩ (.g ?_);intro W5 aE;refine .any λaS ai=>?_;refine .any λaR ah=>?_;refine .e ?_;clear ai;obtain⟨A3,c3,rfl,az,-,ao⟩:=ah;obtain⟨q3,o3,rfl,aT,ag⟩:=ao zS;obtain⟨x3,af,Y⟩:=ag 0 _ rfl;have H:=(eh wr).tr aE;have E:=Us.out;have O:=HO.out W5 H;have HR:=hide (And.intro H Y);obtain⟨A5,c5,rfl,-⟩:=eu.form Y.1;have aa:Src W5 (.slice (cV ⟨q3,o3,bm⟩) 1 c3) 1 [.slice A5 bs.length c5]:=⟨_,_,rfl,λ_=>⟨q3,o3,rfl,λj y hj=>by
    cases j with
    |zero=>simp at hj;subst hj;exact af
    |succ j=>simp at hj⟩⟩
   have V6:=hide aa;have Ut:=hide O;clear az ao ag af Y aa O H aE HC HO E al;go_wp2_with(at_builtin;apply fi rfl _ _ 22 rfl i (tr.up wr.heap.size 0) 43 i0 nS 1 24 dx aL aI aH aG rfl zO (.slice A2 k c2) (.slice (cV ⟨q3,o3,bm⟩) 1 c3) k 1 vs [.slice A5 bs.length c5])
   all_goals try rfl
   case hown=>exact Ut.out
   case hx=>exact V6.out
   all_goals try(intro y hy;rw[List.mem_singleton]at hy;subst hy;rfl)
   case hlen=>omega
   case h=>
    intro v' w6 t6 hown ht J aP;obtain⟨A6,c6,rfl⟩:=hown.form;obtain⟨H,Y⟩:=HR.out;obtain⟨hb,ho,hS,hT⟩:=HQ.out;have E:=Us.out;have ay:=Dc.held Y (t:=tr.up wr.heap.size 0) (λk hk _=>ez.fJ hk);have am:=(eG.keeps _ _ _ _).ext' hb H E;have aC:=(mV.keeps (i:=i)).ext' hS H E;have aA:=hT.tr (Turn.up i tr 0 H);have O:=Ut.out;have ae:=Turn.lG (i:=i) J (λk hk=>(O.at_ hk).1) ht;have T:=am.grown J (eH am O zD) ht;have U:=mV.keeps (i:=i+1) |>.turn zO hi aC ae
    have aw:=Held.keeps (eX bs) (i+1) _ |>.turn zO hi ay ae
    have aX:=T.2.at_ 0 rfl;have aW:=T.2.frozen 0;have an:=Turn.set (w:=w6) T.1 0 (.slice A6 (k+1) c6);have aB:mV (d.take (k+1)) (vs++[.slice A5 bs.length c5]) w6 t6:=by
     rw[GZ.out];refine⟨by rw[cU,cU,U.len];rfl,λj hj=>?_⟩;by_cases ak:j<(d.take k).length
     ·obtain⟨v,h1,h2⟩:=U.it j ak;exact⟨v,by rw[List.getElem?_append_left (by rw[U.len];exact ak)];exact h1,by rw[List.getElem_append_left ak];exact h2⟩
     ·have aK:j=(d.take k).length:=by simp only[cU,cy]at hj;omega
      subst aK;exact⟨_,by rw[List.getElem?_append_right (by rw[U.len];exact cA _),U.len,Nat.sub_self];rfl,by rw[List.getElem_append_right (cA _)];simpa using aw⟩
    have aQ:=hide (show gD i w.heap.size broken ⟨d.take (k+1),0⟩ (w6.setCell ⟨w.heap.size,0,bm⟩ (.slice A6 (k+1) c6)) t6∧Turn i w t (w6.setCell ⟨w.heap.size,0,bm⟩ (.slice A6 (k+1) c6)) t6 from
     ⟨⟨_,vs++[.slice A5 bs.length c5],T.gU 0 _ _ rfl,by
      rw[show(d.take (k+1)).length=k+1 by rw[List.length_take];omega];exact hown.grown (row:=cV w.heap.size) (eM (cv _ _) 0 _) (λj hj e=>by cases e;exact eH T hown zD hj) (λ_ _=>rfl),mV.keeps (i:=i+1) |>.turn zO hi aB an⟩,(aA.tr ae).tr an⟩)
    clear T U aw an aB am aC aA O ae ay hb ho hS hT H Y hown J aP ht E HR HQ Us Ut V6 HE;go_wp2
    go_roundw
    case rel=>exact⟨k+1,t6,by omega,by go_num,aQ⟩
    case measure=>simp[intOf];omega
  ·have au:¬(k:Int)<(d.length:Int):=zO;obtain rfl:k=d.length:=zO;have hq:=HB.out;rw[cC (cA _)]at hq;have HQ:=hide hq;clear hq HB;go_wp2;go_ret;exact⟨w.heap.size,rfl,cA _,_,HQ.out⟩
end
end
section
section
attribute [local irreducible] ew ed
section
variable {P:Program} {Q:Exit→Act→db→Prop} {ops:Array Oper} {M m:Nat} {a0:Act} {w0:db} {K:List Oper→List VP→Prop} {o:Oper} {rest:List Oper} {env:List VP}
theorem ed.OH(cs:AV)(z:cz)(t e:dh)(x:Operand)(ho:o.op=.buildSlice t 1 #[(0,x)])(hu:P.underlying t=cV (.slice e))(d:(P.info? e).map (λi=>(i.zero,i.size))=cV (cV z,cs.size))(H:0<cs.size)(J:cs.size≤65536)
  (E:Instr.fill (λi=>cV (i*cs.size,cs.size)) ((dn (1*cs.size)).map (z.cells[· %z.cells.size]!)) [(0,.agg cs)]=cV cs)
  (U:Want ops M a0 w0 env o true)(hx:fu ops M a0 w0 env o x (eC (.agg cs)))
  (hr:ed P Q ops M a0 w0 K m rest (VM w0.heap.size e 1 cs::env)):ed P Q ops M a0 w0 K (m+1) (o::rest) env:=
 .new U (λa w O hC hD=>by
  have hX:a.eval x=.agg cs:=hx a w O hC hD;cases s:P.info? e with
  |none=>grind
  |some ie=>
   simp only[s,Option.map_some,di,Prod.mk.injEq]at d;obtain⟨T,Y⟩:=d;refine⟨.slice (cV ⟨w.heap.size,0,bm⟩) 1 1,w.alloc (.cells cs e),?_,(Below.refl _ _).alloc (cA _) _,w.heap.size,rfl,O.size,Box.new w e cs⟩;grind[execOp,Sem.run_bind,run_buildSlice,Sem.run_pure,Result.andThen_ok]) hr
end
def iZ(bs:List Bool):VP:=jY (bs.map λb=>eC (.bool b))
theorem mq(bs:List Bool):Loc (iZ bs):=uD λF d x w s h=>by
 obtain⟨b,_,rfl⟩:=cH.1 d;exact h
theorem iZ.form{bs:List Bool}{u:cz}{w:db}(h:iZ bs u w):∃A c,u=.slice A bs.length c∧bs.length≤c∧c≤maxLen∧
  (0<bs.length→∃b d,A=cV ⟨b,d,bm⟩∧b<w.heap.size∧∀j,j<bs.length→w.cell? ⟨b,d+j,bm⟩=cV (.bool (bs.getD j cI))):=by
 obtain⟨A,c,J,H,Y,E⟩:=h;simp only[cJ]at J H E;refine⟨A,c,J,H,Y,λO=>?_⟩;obtain⟨b,d,e,U,T⟩:=E O;refine⟨b,d,e,U,λj hj=>?_⟩;obtain⟨x,hx,s⟩:=T j (eC (.bool bs[j])) zG;have s:x=.bool bs[j]:=s;grind
def gB(i g:Nat)(ans:List Bool)(s:Snk)(w:db)(t:ez):Prop:=
 ∃(E d:cz),eG i g 121 #[E,d,iV (s.offers:Int)] w t∧Held (iZ ans) E w t∧eO i 50 2 d s.took.length (fz s.took) w t
theorem gB.keeps{i g:Nat}{ans:List Bool}{s:Snk}:fh i (gB i g ans s):=by
 rintro w t d E ⟨O,T,h1,Y,U⟩ H J;exact⟨O,T,eG.keeps _ _ _ _ w t d E h1 H J,Held.keeps (mq ans) i O w t d E Y H J,eO.keeps _ _ _ _ _ _ w t d E U H J⟩
section
variable {i g:Nat} {ans:List Bool} {s:Snk} {w:db} {t:ez}
theorem AI(h:gB i g ans s w t)(Y:s.offers≤1000000000)(hk:s.took.length≤1000000000):cP cQ 64 #[gP g] w (eB w (eC (iV ((s.offers:Int)-(s.took.length:Int))))):=by
 obtain⟨U,T,d,-,H⟩:=h;obtain⟨A,c,rfl⟩:=H.form;have O:=d.2.at_ 2 rfl;have J:=d.2.at_ 1 rfl;clear d H;go_enter func64,ntmps64;go_upto_region 3 with(fail)
 refine vQ 10 (.g ?_);refine ed.kC _ _ _ _ rfl wA oA oA zO (.g ?_);intro W3 E;go_wp2;go_ret;exact eB.mk ((eh _).tr E) rfl
theorem Df(h:gB i g ans s w t)(n:Nat)(hn:n≤4000000000):cP cQ 260 #[gP g,iV n] w (eB w (eC (.bool (Snk.says ans n)))):=by
 obtain⟨va,vt,Y,ha,-⟩:=h;obtain⟨A,c,rfl,ad,O,J⟩:=iZ.form ha.1;unfold maxLen at O;have ae:=Y.2.at_ 0 rfl;clear Y ha;by_cases T:ans=[]
 ·subst T;have e:=hide (show Snk.says [] n=true from rfl);rw[e.out];clear J;rw[show([]:List Bool).length=0 from rfl]at*;go_enter func260,ntmps260;go_upto_region 1 with(fail)
  refine vQ 21 (.g ?_);refine ed.Qi _ _ _ _ rfl wA oA (eE _) rfl (.g ?_);intro W1 H;go_wp2;go_ret;exact eB.mk ((eh _).tr H) rfl
 ·have d:0<ans.length:=List.length_pos_iff.2 T;obtain⟨b,aa,rfl,af,E⟩:=J d;have U:n%ans.length<ans.length:=Nat.mod_lt _ d;have ab:=E _ U;have e:Snk.says ans n=ans.getD (n%ans.length) false:=by
   grind[Snk.says,absurd]
  have He:=hide e;rw[He.out];clear e J E T;generalize ans.getD (n%ans.length) cI=q at*;generalize ans.length=L at*;go_enter func260,ntmps260;go_upto_region 1 with(fail)
  refine vQ 21 (.g ?_);refine ed.zQ _ _ _ _ rfl wA oA (eE _) zO (.g ?_);refine ed.ue (c:=n%L) _ _ _ _ rfl d zO rfl wA oA oA ?_;refine ed.fD (i:=n%L) 27 4 _ _ rfl underlying27 zR U wA oA oA (.g ?_);intro W1 H;go_wp2;go_ret;exact eB.mk ((eh _).tr H) rfl
end
end
end
section
theorem xc(a b:Int):Instr.fill (λi=>cV (i*(#[iV a,iV b]:AV).size,(#[iV a,iV b]:AV).size)) ((dn (1*(#[iV a,iV b]:AV).size)).map ((dm #[iV 0,iV 0]).cells[· %(dm #[iV 0,iV 0]).cells.size]!)) [(0,.agg #[iV a,iV b])]=cV #[iV a,iV b]:=by
 have e:∃x y,((dn (1*(#[iV a,iV b]:AV).size)).map ((dm #[iV 0,iV 0]).cells[· %(dm #[iV 0,iV 0]).cells.size]!))=#[x,y]:=⟨iV 0,iV 0,by kernel_rfl⟩
 obtain⟨x,y,e⟩:=e;rw[e];rfl
theorem AJ{w:db}{base:Nat}{e:dh}{n:Nat}{v:cz}{xs:List cz}(h:w.ownsRow base e 1 v n xs)(O:xs.length=n):jY (xs.map eC) v w:=by
 obtain⟨h1,⟨rfl,rfl⟩|⟨g,E,s,rfl,Y,H,h3,T,h5,h6⟩⟩:=h
 ·have:xs=[]:=List.eq_nil_of_length_eq_zero O;subst this;exact⟨bm,0,rfl,cA _,by decide,λh=>by simp at h⟩
 ·refine⟨_,E,by grind,by grind,T,λU=>⟨g,0,rfl,(cF.1 H).1,λj F d=>?_⟩⟩;rw[List.getElem?_map]at d;cases J:xs[j]? with
  |none=>grind
  |some x=>
   rw[J]at d;cases d;refine⟨x,?_,rfl⟩;rw[dv,(show Box w g e s from H).cell j];grind
section
variable {i g:Nat} {ans:List Bool} {s:Snk} {w:db} {t:ez}
theorem gB.more(hi:i≠0)(h:gB i g ans s w t){H:db}(J:Ext w H):gB i g ans ⟨s.took,s.offers+1⟩ (H.setCell ⟨g,2,bm⟩ (iV ((s.offers:Int)+1))) t∧Turn i w t (H.setCell ⟨g,2,bm⟩ (iV ((s.offers:Int)+1))) t:=by
 obtain⟨O,Y,hb,ha,hr⟩:=h;have d:=eG.keeps _ _ _ _ |>.ext hb J
 have U:=Held.keeps (mq ans) i O |>.ext ha J
 have T:=eO.keeps _ _ _ _ _ _ |>.ext hr J
 have E:=Turn.set (w:=H) d.1 2 (iV ((s.offers:Int)+1));exact⟨⟨O,Y,d.gU 2 _ _ zR,Held.keeps (mq ans) (i+1) O |>.turn zO hi U E,T.grown (row:=cV g) (eM (cv _ _) 2 _) (λk hk e=>by grind[eH]) (λ_ _=>rfl)⟩,(Turn.ext i t J).tr E⟩
attribute [local irreducible] ew ed in
theorem FB(hi:i≠0)(h:gB i g ans s w t)(x:Int×Int)(hn:s.offers≤1000000000)(hk:s.took.length≤1000000000) :
  cP cQ 207 #[gP g,.agg #[iV x.1,iV x.2]] w λe w'=>e=.returned (.bool (Snk.offer ans s x).1)∧∃t',gB i g ans (Snk.offer ans s x).2 w' t'∧Turn i w t w' t':=by
 obtain⟨i0,ay,aw,av,au⟩:=cG Tryz.pN;obtain⟨Y,U⟩:=x;have hX:=ek w (.cells #[iV Y,iV U] 50);have h1:=gB.keeps.ext h hX;have O:=Box.new w 50 #[iV Y,iV U];have hA:=hide (λW (hE:Ext (w.alloc (.cells #[iV Y,iV U] 50)) W)=>Df (gB.keeps.ext h1 hE) s.offers zO);have H:=hide h;have aa:(w.alloc (.cells #[iV Y,iV U] 50)).cell? ⟨g,2,bm⟩=cV (iV (s.offers:Int)):=by
  obtain⟨va,vt,T,-,-⟩:=h1;exact T.2.at_ 2 rfl
 have am:g<w.heap.size:=by obtain⟨va,vt,T,-,-⟩:=h;exact T.lt
 clear h h1;cases hq:Snk.says ans s.offers
 ·have eo:Snk.offer ans s (Y,U)=(cI,⟨s.took,s.offers+1⟩):=by grind[Snk.offer]
  have Ho:=hide eo;rw[Ho.out];rw[hq]at hA;have HF:=hide (λW (hE:Ext w W)=>show∃t',gB i g ans ⟨s.took,s.offers+1⟩ (W.setCell ⟨g,2,bm⟩ (iV ((s.offers:Int)+1))) t'∧Turn i w t (W.setCell ⟨g,2,bm⟩ (iV ((s.offers:Int)+1))) t' from⟨t,H.out.more hi hE⟩);clear eo hq H;go_enter func207,ntmps207;go_upto_region 3 with(fail)
  generalize w.alloc (.cells #[iV Y,iV U] 50)=w1 at*;refine vQ 8 (.g ?_);refine ed.call2 260 _ _ _ rfl (enters_of func260 zR rfl) wA oA oA (λ_ _ W ah h1 h2=>by cases h1;cases h2;exact hA.out W ((eh _).tr ah)) (.g ?_);intro W3 E;have hE:=hX.tr ((eh _).tr E);have aa:=(((eh w1).tr E).cell (p:=⟨g,2,bm⟩) (cR am hX.size)).trans aa;have an:W3.frozen? ⟨g,2,bm⟩=false:=by
   obtain⟨t',⟨va,vt,T,-,-⟩,-⟩:=HF.out W3 hE;have:=T.2.frozen 2;simp_all
  have HF2:=hide (HF.out W3 hE);clear HF hA E hE hX O;go_wp2;go_ret;exact⟨rfl,HF2.out⟩
 ·have eo:Snk.offer ans s (Y,U)=(true,⟨s.took++[(Y,U)],s.offers+1⟩):=by grind[Snk.offer]
  have Ho:=hide eo;rw[Ho.out];rw[hq]at hA;have HF:=hide (λW (hE:Ext w W)=>H.out.more hi hE);clear eo hq H;go_enter func207,ntmps207;go_upto_region 3 with(fail)
  generalize w.alloc (.cells #[iV Y,iV U] 50)=w1 at*;refine vQ 8 (.g ?_);refine ed.call2 260 _ _ _ rfl (enters_of func260 zR rfl) wA oA oA (λ_ _ W ah h1 h2=>by cases h1;cases h2;exact hA.out W ((eh _).tr ah)) (.g ?_);intro W3 E;have O:=O.drew.ext E;have hE:=hX.tr ((eh _).tr E);have aa:=(((eh w1).tr E).cell (p:=⟨g,2,bm⟩) (cR am hX.size)).trans aa;have an:W3.frozen? ⟨g,2,bm⟩=false:=by
   obtain⟨⟨va,vt,T,-,-⟩,-⟩:=HF.out W3 hE;have:=T.2.frozen 2;simp_all
  have al:w.heap.size≠g:=zO;have O:Box (W3.setCell ⟨g,2,bm⟩ (iV ((s.offers:Int)+1))) w.heap.size _ _:=O.far (p:=⟨g,2,bm⟩) al _;have HF2:=hide (HF.out W3 hE);clear HF hA E hE hX;go_upto_region 6 with(fail)
  generalize W3.setCell ⟨g,2,bm⟩ (iV ((s.offers:Int)+1))=W4 at*;obtain⟨⟨va,vt,T,ha,hr⟩,hT⟩:=HF2.out;obtain⟨A,c,rfl⟩:=hr.form;have az:=T.2.at_ 1 rfl;have HR:=hide (And.intro T (And.intro ha (And.intro hr hT)));clear aa an HF2 T ha hr hT al;refine fK 7 [0] zR zK (λ_ _ _ _ _ h=>h) (.g ?_);refine ed.eU 50 _ rfl wA oA underlying50 rfl zR O (eh _) ?_;refine ed.OH #[iV Y,iV U] (.agg #[iV 0,iV 0]) 38 50 (du 29) rfl underlying38 zR zG zG (xc _ _) wA oA (.g ?_);intro W6 d;refine .any λaB ae=>?_;refine .e ?_;obtain⟨q,rfl,hq,ao⟩:=ae;have d:=(eh W4).tr d;have ak:=eO.keeps _ _ _ _ _ _ |>.ext HR.out.2.2.1 d
  have HO:=hide ak;have ad:Src W6 (.slice (cV ⟨q,0,bm⟩) 1 1) 1 [iV Y,iV U]:=⟨_,_,rfl,λ_=>⟨q,0,rfl,λj y hj=>by rw[dv,ao.cell j];grind⟩⟩
  have HS:=hide ad;have JP:=hide d;clear ak ad d ao az O;go_wp2_with(at_builtin;apply fi rfl _ _ 38 rfl i t 50 i0 (.agg #[iV 0,iV 0]) 2 16 underlying38 ay aw av au rfl zO (.slice A s.took.length c) (.slice (cV ⟨q,0,bm⟩) 1 1) s.took.length 1 (fz s.took) [iV Y,iV U])
  all_goals try rfl
  case hown=>exact HO.out
  case hx=>exact HS.out
  all_goals try(exact⟨rfl,rfl⟩)
  case hlen=>omega
  case h=>
   intro v' w' t' hown ht J aA;obtain⟨A4,c4,rfl⟩:=hown.form;obtain⟨T,ha,hr,hT⟩:=HR.out;have d:=JP.out;have af:=HO.out;have ag:=eG.keeps _ _ _ _ |>.ext T d
   have aq:=Held.keeps (mq ans) i va |>.ext ha d
   have ar:=hT.tr (Turn.ext i t d);have aj:=Turn.lG (i:=i) J (λk hk=>(af.at_ hk).1) ht;have ab:=ag.grown J (eH ag af zD) ht;have ap:=Held.keeps (mq ans) (i+1) va |>.turn zO hi aq aj
   have ai:=Turn.set (w:=w') ab.1 1 (.slice A4 (s.took.length+1) c4);have aD:=ab.2.at_ 1 rfl;have aC:=ab.2.frozen 1;have HZ:=hide (show∃t',gB i g ans ⟨s.took++[(Y,U)],s.offers+1⟩ (w'.setCell ⟨g,1,bm⟩ (.slice A4 (s.took.length+1) c4)) t'∧Turn i w t (w'.setCell ⟨g,1,bm⟩ (.slice A4 (s.took.length+1) c4)) t' from
    ⟨t',⟨va,_,ab.gU 1 _ _ rfl,Held.keeps (mq ans) (i+1) va |>.turn zO hi ap ai,by
     rw[cU,j5];exact hown.grown (row:=cV g) (eM (cv _ _) 1 _) (λk hk e=>by grind[eH]) (λ_ _=>rfl)⟩,(ar.tr aj).tr ai⟩)
   clear ag aq ar aj ab ap ai hown J aA ht T ha hr hT d af JP HO HS HR;go_wp2;go_ret;exact⟨rfl,HZ.out⟩
theorem MH(i:Nat)(t:ez)(ans:List Bool)(u:cz)(hu:iZ ans u w)(hn:ans.length≤1000000):cP cQ 38 #[u] w λe w'=>∃g E,e=.returned (gP g)∧w.heap.size≤g∧gB i g ans ⟨[],0⟩ w' E∧Ext w w'∧(∀k,k<w.heap.size→E k=t k):=by
 have hs:Src w u ans.length (ans.map cZ):=by
  have h2:jY ((ans.map cZ).map eC) u w:=by rw[List.map_map];exact hu
  grind[Src.vals,cJ]
 have HC:=hide (Fv u ans.length (ans.map cZ) w zS hs (by intro y hy;obtain⟨q,-,rfl⟩:=cH.1 hy;rfl) zO);obtain⟨A,c,rfl,-⟩:=iZ.form hu;clear hs hu;go_enter func38,ntmps38;go_wp2_with fail;refine HC.out.mono ?_;rintro _ d ⟨v,rfl,J,ho⟩;obtain⟨T,O,rfl⟩:=eI ho;have hX:=J.tr (ek d (.cells #[.slice T ans.length O,nS,iV 0] 121));have U:iZ ans (.slice T ans.length O) d:=by
  have h1:jY ((ans.map cZ).map eC) (.slice T ans.length O) d:=by
   grind[AJ]
  rw[List.map_map]at h1;exact h1
 have Y:∀k,(Value.slice T ans.length O).ownBlock=cV k→w.heap.size≤k∧k<d.heap.size:=λk H=>by
  refine⟨fk ho k H,?_⟩;obtain⟨-,⟨hv,-⟩|⟨g,ad,ab,hv,-,hg,-⟩⟩:=ho
  ·rw[hv]at H;cases H
  ·rw[hv]at H;cases H;grind
 have aa:=J.size;have HF:=hide (show∃E,gB i d.heap.size ans ⟨[],0⟩ (d.alloc (.cells #[.slice T ans.length O,nS,iV 0] 121)) E∧Ext w (d.alloc (.cells #[.slice T ans.length O,nS,iV 0] 121))∧(∀k,k<w.heap.size→E k=t k)from
  ⟨(t.up w.heap.size 0).one d.heap.size i,⟨_,_,⟨ez.pO,Box.new d _ _⟩,⟨VP.st _ _ _ _ U (ek _ _),λk H=>by
   grind[cw,ez.jn,ez.fJ]⟩,eO.nil _ _ _ _ _⟩,hX,λk H=>by grind[ez.jn,ez.fB]⟩)
 clear HC ho U Y hX J;go_wp2;go_ret;obtain⟨E,h1,h2,h3⟩:=HF.out;exact⟨d.heap.size,E,rfl,aa,h1,h2,h3⟩
end
end
section
attribute [local go_sem] Oper.semAt_some
theorem xd{P:Program}{U:Func}{t u x:Tmp}{H s:dh}(h:U.results=#[.cell t H,.cell u s,.tmp x])(tmps:AV)(w:db)(g:Nat)(T:dh)(cs:AV)(d:TypeDesc)(ht:tmps.getD t undef=gP g)(hb:Box w g T cs)(hu:P.underlying H=cV d)
  (hd:(match d with|.struct _|.array _ _=>true|_=>cI)=true)(hi:(P.info? H).map (·.size)=cV cs.size)(a:Addr)(v:cz)(Y:tmps.getD u undef=.pointer (cV a))(hv:(loadVar s a).run P w=.ok v w){y:cz}(hx:tmps.getD x undef=y):(results U tmps).run P w=.ok (.tuple #[.agg cs,v,y]) w:=by
 have O:tmps[t]?.getD undef=gP g:=by simp_all
 have E:tmps[u]?.getD undef=.pointer (cV a):=by simp_all
 have J:tmps[x]?.getD undef=y:=by simp_all
 simp[results,h,O,E,J,asAddr,run_loadVar_row w g T H cs (0,0) d hb hu hd hi,hv]
theorem JQ{M:Mc}{b:BB}{nd d0 k:Nat}(h:d0+k<b.data.length):scan M b (k+1) nd d0 []=(M.step (scan M b k nd d0 []).1 (b.data.getD (d0+k) 0),d0+k+1,(scan M b k nd d0 []).2.2++ni M b (M.step (scan M b k nd d0 []).1 (b.data.getD (d0+k) 0)) (d0+k)):=by
 have d:(scan M b k nd d0 []).2.1=d0+k:=by grind[ma]
 rw[nL,d,gY,if_pos h];rfl
theorem MI{M:Mc}{b:BB}{nd d0 n:Nat}(h:d0≤b.data.length):scan M b n nd d0 []=scan M b (min n (b.data.length-d0)) nd d0 []:=by
 rcases Nat.le_total n (b.data.length-d0)with h1|h1
 ·grind
 ·rw[Nat.min_eq_right h1];have e:n=(b.data.length-d0)+(n-(b.data.length-d0)):=zO;have d:(scan M b (b.data.length-d0) nd d0 []).2.1=b.data.length:=by grind[ma]
  rw[e,nL,d,yu _ _ _ _ (cA _)];grind
theorem G0{M:Mc}{b:BB}(hs:∀j c,j<M.states→M.step j c<M.states):∀(n k d:Nat) (h:Hits),k<M.states→(scan M b n k d h).1<M.states
 |0,k,d,h,hk=>hk
 |n+1,k,d,h,hk=>by
  rw[gY];split
  ·exact G0 hs n _ _ _ (hs _ _ hk)
  omega
theorem Dg{M:Mc}{b:BB}(hs:∀j c,j<M.states→M.step j c<M.states)(s:∀j,j<M.states→(M.words j).length≤64):∀(n k d:Nat) (h:Hits),k<M.states→(scan M b n k d h).2.2.length≤h.length+64*n
 |0,k,d,h,hk=>by show h.length≤_;omega
 |n+1,k,d,h,hk=>by
  rw[gY];split
  ·refine cM (Dg hs s n _ _ _ (hs _ _ hk)) ?_;have E:=s _ (hs k (b.data.getD d 0) hk);have H:(ni M b (M.step k (b.data.getD d 0)) d).length≤64:=by
    unfold ni;split
    ·rw[cJ];exact E
    ·simp
   rw[cU];omega
  ·show h.length≤_;omega
theorem JR{pre:List Nat}{x m:Nat}(h:pre++[x]<+:cD m):x=pre.length∧x<m:=by
 have d:=h.length_le;rw[cU,cy,List.length_range]at d;have s:=h.getElem (i:=pre.length) zS;grind
def MJ(w:db)(B g E:Nat)(s:Nat→Nat→AV)(M:Mc)(b:BB)(nd d0:Nat)(pre:List Nat)(W:db):Prop:=
 ∃(d:Nat) (v:cz),Box W w.heap.size 88 #[gP g]∧Box W (w.heap.size+1+1+1) 266 #[iV 0,iV 0]∧Box W (w.heap.size+1+1+1+1) 38 #[v]∧
  W.ownsRow B 50 2 v (scan M b pre.length nd d0 []).2.2.length (fz (scan M b pre.length nd d0 []).2.2)∧Box W E 380 (s (scan M b pre.length nd d0 []).1 d)∧Below w.heap.size w W∧B≤W.heap.size
section
variable {w:db} {B g gs nd d0:Nat} {sc:Nat→Nat→Array cz} {M:Mc} {b:BB}
theorem MJ.own(T:w.heap.size≤B):OwnFrom B (MJ w B g gs sc M b nd d0):=λ_ _ _ _ ⟨d,v,h1,h2,h3,h4,Y,H,U⟩ s E=>
 ⟨d,v,jc h1 s E,jc h2 s E,jc h3 s E,rE h4 s (λr e=>(E r e).2),jc Y s E,mI H s T E H.size,cM U s.size⟩
theorem FC{w E:db}{base:Nat}{e:dh}{size n:Nat}{v:cz}{xs:List cz}(h:w.ownsRow base e size v n xs)(J:∀k,v.ownBlock=cV k→E.heap[k]?=w.heap[k]?):E.ownsRow base e size v n xs:=by
 obtain⟨H,Y|⟨g,s,d,rfl,U,T,O⟩⟩:=h
 ·exact⟨H,.inl Y⟩
 ·exact⟨H,.inr ⟨g,s,d,rfl,U,(J g rfl).trans T,O⟩⟩
theorem MJ.turn{J:Nat}(h1:J<B)(h2:gs<B)(hn:w.heap.size+1+1+1+1<gs)(aa:w.heap.size+1+1+1+1<J)(pre:List Nat)(W W':db)(h:MJ w B g gs sc M b nd d0 pre W)(E:pb J gs sc W W'):MJ w B g gs sc M b nd d0 pre W':=by
 obtain⟨d,v,a1,Y,U,T,a5,a6,a7⟩:=h;have H:∀k,k<W.heap.size→k≠J→k≠gs→W'.heap[k]?=W.heap[k]?:=E.1.2.2.2.2;obtain⟨d',O⟩:=E.2 _ d a5;exact⟨d',v,(H _ a1.lt zO zO).trans a1,(H _ Y.lt zO zO).trans Y,(H _ U.lt zO zO).trans U,
  FC T (λk s=>by
   have h3:=fk T k s;refine H k ?_ zO zO;obtain⟨-,⟨rfl,-⟩|⟨q,ad,ab,rfl,-,hq,-⟩⟩:=T
   ·cases s
   ·cases s;grind),O,E.below a6 zO zO zO,cM a7 E.1.2.2.2.1⟩
end
section
variable {M:Mc} {g:Nat} {w:db}
theorem JS(hM:iM M g w)(b:BB)(A:Option Addr)(c:Nat)(hD:eu b.data (.slice A b.data.length c) w)(nd d0 n0:Nat)(aY:b.start≤4611686020574871551)(bj:b.eZ+1≤M.long)(bi:b.eZ≤b.start)(hown:b.eZ+1≤b.data.length)(az:b.data.length≤b.eZ+256)(aZ:nd<M.states)(bp:d0≤b.data.length)(ch:n0≤1000) :
  cP cQ 198 #[gP g,.agg #[iV (b.num:Int),iV (b.start:Int),iV (b.eZ:Int),.slice A b.data.length c],.agg #[iV nd,iV d0],iV n0] w
   (eY w λv w'=>∃v2,v=.tuple #[.agg #[iV ((scan M b n0 nd d0 []).1:Int),iV ((scan M b n0 nd d0 []).2.1:Int)],v2,.bool (decide ((scan M b n0 nd d0 []).2.1=b.data.length))]∧mT w' w.heap.size v2 (scan M b n0 nd d0 []).2.2):=by
 have hR:=hide (λ(W:db) (hE:Ext w W)=>(hM.ext hE).Jp (b.num:Int) (b.start:Int) (b.eZ:Int) A b.data.length c nd d0 zO (Int.ofNat_le.2 aY) zO zO zO zO zO aZ bp);have HM:=hide hM;have HD:=hide hD;have HS:=hide aY;have bX:b.data.length≤1000:=by have:=hM.uG;omega
 obtain⟨L,hL⟩:∃L,b.data.length=L:=⟨_,rfl⟩
 obtain⟨st,ab⟩:∃st,b.start=st:=⟨_,rfl⟩
 obtain⟨wm,ah⟩:∃wm,b.eZ=wm:=⟨_,rfl⟩
 obtain⟨nm,aq⟩:∃nm,b.num=nm:=⟨_,rfl⟩
 have Hn:=hide (And.intro hL (And.intro ab (And.intro ah aq)));rw[hL,ab,ah,aq]at hR;rw[ab]at HS;rw[hL]at HD hown az bp bX;rw[ah]at bj bi hown az;rw[ab]at bi;rw[hL,ab,ah,aq];clear hM hD aY hL ab ah aq;refine(dc (n:=9)).1 ?_;have h1:1≤9:=zO;refine callsIn_of_wp_marks func198 rfl trivial ?_ rfl;simp only[ntmps198,List.size_toArray,List.length_cons,de,Nat.reduceAdd,Nat.reduceSub,dj,dk,List.push_toArray,dp,List.nil_append,List.cons_append];gi_wp2_with (first
  |(refine⟨trivial,?_⟩;gi_at_call 252;refine(dc.2 (hR.out _ (((((ek _ _).tr (ek _ _)).tr (ek _ _)).tr (ek _ _)).tr (ek _ _)))).mono ?_;rintro e s ⟨u,rfl,ao,rfl⟩;obtain⟨bW,bT⟩:=ao.rules)
  |(refine⟨trivial,?_⟩;gi_at_call 253;refine(dc.2 (Fe _ _ _)).mono ?_;rintro e w3 ⟨rfl,rfl⟩))
 obtain⟨W0,an⟩:∃W0,(((s.alloc (.cells #[iV nm,iV st,iV wm,.slice A L c,iV nd,iV d0] 380)).alloc (.cells #[gP s.heap.size] 420)).alloc (.cells #[iV n0] 3))=W0:=⟨_,rfl⟩
 have aL:=((((Box.new w 88 #[gP g]).alloc (.cells #[iV nm,iV st,iV wm,.slice A L c] 107)).alloc (.cells #[iV nd,iV d0] 266)).alloc (.cells #[iV 0,iV 0] 266)).alloc (.cells #[nS] 38);have aG:=(Box.new (((w.alloc (.cells #[gP g] 88)).alloc (.cells #[iV nm,iV st,iV wm,.slice A L c] 107)).alloc (.cells #[iV nd,iV d0] 266)) 266 #[iV 0,iV 0]).alloc (.cells #[nS] 38);have aF:=Box.new ((((w.alloc (.cells #[gP g] 88)).alloc (.cells #[iV nm,iV st,iV wm,.slice A L c] 107)).alloc (.cells #[iV nd,iV d0] 266)).alloc (.cells #[iV 0,iV 0] 266)) 38 #[nS];rw[cw,cw,cw]at aG;rw[cw,cw,cw,cw]at aF;have al:Ext s W0:=by rw[←an];exact((ek _ _).tr (ek _ _)).tr (ek _ _)
 have U:Box W0 s.heap.size 380 (rK nm st wm (.slice A L c) nd d0):=by rw[←an];exact((Box.new _ _ _).alloc _).alloc _
 have bu:Box W0 (s.heap.size+1) 420 #[gP s.heap.size]:=by
  rw[←an];have:=(Box.new (s.alloc (.cells #[iV nm,iV st,iV wm,.slice A L c,iV nd,iV d0] 380)) 420 #[gP s.heap.size]).alloc (.cells #[iV n0] 3)
  rwa [cw]at this
 have bw:Box W0 (s.heap.size+1+1) 3 #[iV n0]:=by
  rw[←an];exact MC _ _ _ _ _
 have cg:s.heap.size+3≤W0.heap.size:=by rw[←an];simp
 have cf:w.heap.size+5≤s.heap.size:=by have:=ao.size;simp at this;omega
 have aL:=(aL.ext ao).ext al;have aG:=(aG.ext ao).ext al;have aF:=(aF.ext ao).ext al;have bA:Ext w W0:=((((((ek _ _).tr (ek _ _)).tr (ek _ _)).tr (ek _ _)).tr (ek _ _)).tr ao).tr al;rw[an];clear ao al an bW bT;obtain⟨aN,aC⟩:∃aN:Nat→Int,aN=λx=>(st:Int)-(wm:Int)+((d0+x+1:Nat):Int):=⟨_,rfl⟩
 obtain⟨aO,aE⟩:∃aO:Nat→UInt8,aO=λx=>b.data.getD (d0+x) 0:=⟨_,rfl⟩
 have aQ:oD Fence.wide 8 cQ 287 #[gP (s.heap.size+1+1),gP (s.heap.size+1)] (λx:Nat=>#[iV (aN x),Value.int .u8 ((aO x).toNat:Int)])
   (nH w.heap.size (s.heap.size+1+1) (s.heap.size+1) s.heap.size (rK nm st wm (.slice A L c))) (pb (s.heap.size+1+1) s.heap.size (rK nm st wm (.slice A L c))) (λE W=>∃nd,Box W s.heap.size 380 (rK nm st wm (.slice A L c) nd (d0+E.length)))
   (λxs=>xs=cD (min n0 (L-d0))) (λE=>E<+:cD (min n0 (L-d0))) (λE=>E<+:cD (min n0 (L-d0))) W0:=λl J Jx W hE hJ hY h0=>by
  obtain⟨hL,-⟩:=Hn.out;have h:=Mp 8 zO l (s.heap.size+1+1) (s.heap.size+1) s.heap.size w.heap.size nm st wm A c b.data d0 n0 w rfl J Jx (by rw[hL];exact hJ) (by rw[hL];subst aC aE;exact hY) (by rw[hL];exact HD.out) zO zO zO zO (Int.ofNat_le.2 HS.out) zO zO W (bA.tr hE) (bw.ext hE) (bu.ext hE) nd (by rw[hL];exact U.ext hE) zO zO h0;rw[hL]at h;exact h
 have bz:MJ w W0.heap.size g s.heap.size (rK nm st wm (.slice A L c)) M b nd d0 [] W0:=⟨d0,_,aL,aG,aF,World.ownsRow_nil _ _ _ _,U,bA,cA _⟩
 have S4:=hide aQ;have HI0:=hide bz;have Uu:=hide aC;have Uv:=hide aE;clear aQ bz aC aE aL aG aF U bu bw;refine je (F:=Fence.wide) rfl h1 (gf:=287) (lb:=#[gP (s.heap.size+1+1),gP (s.heap.size+1)]) rfl trivial (enters_of func287 zK rfl) S4.out nH.t
  (λW l o' hl=>⟨fc.put (M:=W0.heap.size) zO zT W l o' hl,λnd d hb=>⟨nd,(World.putObj_heap_other zO).trans hb⟩⟩)
  (λW W' k hO hk bR=>hO.1.2.2.2.2 k bR zO zO)
  (λE W l o' hl h=>by obtain⟨nd,h⟩:=h;exact⟨nd,(World.putObj_heap_other zO).trans h⟩) (λ_=>rfl)
  (MJ w W0.heap.size g s.heap.size (rK nm st wm (.slice A L c)) M b nd d0) (λ_ _ _=>False) (MJ.own zO) (λ_ _ _ _ _ h _ _=>h.elim) (MJ.turn zO zO zO zO)
  HI0.out ?a1 ?assign ?body ?done ?stop
 case assign=>
  intro l x W K' Y;gi_wp2;exact Y
 case body=>
  rintro l E x W ⟨d,v,a1,a2,a3,a4,a5,a6,a7⟩ ap;obtain⟨hx,bh⟩:=JR ap;have bg:=HM.out.ext a6;have aA:=G0 (b:=b) (λj c hj=>HM.out.uF hj c) E.length nd d0 [] aZ;have aJ:=JQ (M:=M) (b:=b) (nd:=nd) (d0:=d0) (k:=E.length) (by rw[Hn.out.1,←hx];omega);obtain⟨nk,am⟩:∃nk,(scan M b E.length nd d0 []).1=nk:=⟨_,rfl⟩
  obtain⟨O,aj⟩:∃O,(scan M b E.length nd d0 []).2.2=O:=⟨_,rfl⟩
  obtain⟨c1,bd⟩:∃c1,aO x=c1:=⟨_,rfl⟩
  have bt:b.data.getD (d0+x) 0=c1:=by rw[←bd,Uv.out]
  have a8:=Dg (b:=b) (λj c hj=>HM.out.uF hj c) (λj hj=>HM.out.wV hj) E.length nd d0 [] aZ;rw[aj,←hx]at a8;have aS:O.length≤100000:=by simp only[de]at a8;omega
  have Xm:=hide aS;clear a8 aS;rw[am]at aA a5;rw[aj]at a4;rw[am,aj,←hx,bt]at aJ;have aw:=hide (bg.wz nk aA c1);have ar:=HM.out.uF aA c1;have aT:=hide (λW2 (hE:Ext W W2) en=>(bg.ext hE).C0 (M.step nk c1) ar en);have bk:=HM.out.wV ar;obtain⟨H,bO⟩:∃H,M.step nk c1=H:=⟨_,rfl⟩
  rw[bO]at aw ar aT aJ bk;have DW:=hide aJ;have bV:=a1.at_ 0 rfl;have ba:=a5.at_ 4 rfl;have a9:=a5.frozen 4;have bZ:=a4;obtain⟨A1,q1,rfl⟩:=eI a4;have aB:=fk a4;have kJ:=hide (λW2 (hE:Ext W W2)=>by
   have e:∀nn dd,(rK nm st wm (.slice A L c) nn dd).setIfInBounds 4 (iV H)=rK nm st wm (.slice A L c) H dd:=λ_ _=>rfl;have g5:=(a5.ext hE).eL 4 (iV H);rw[e]at g5;have gl:=a1.lt;have g1:=(a1.ext hE).far (p:=⟨s.heap.size,4,bm⟩) (by show w.heap.size≠s.heap.size;omega) (iV H);have g2:=(a2.ext hE).far (p:=⟨s.heap.size,4,bm⟩) (by show w.heap.size+1+1+1≠s.heap.size;omega) (iV H);have g3:=(a3.ext hE).far (p:=⟨s.heap.size,4,bm⟩) (by show w.heap.size+1+1+1+1≠s.heap.size;omega) (iV H);have g4:=iX (fy a4 hE) ⟨s.heap.size,4,bm⟩ (λe2=>by have:=aB _ e2;simp only at this;omega) (iV H);have g6:=((show Ext w W from a6).tr hE).setCell (p:=⟨s.heap.size,4,bm⟩) (by show w.heap.size≤s.heap.size;omega) (iV H);have g7:W0.heap.size≤(W2.setCell ⟨s.heap.size,4,bm⟩ (iV H)).heap.size:=by have:=hE.size;simp[World.setCell];omega
   have g8:nH w.heap.size (s.heap.size+1+1) (s.heap.size+1) s.heap.size (rK nm st wm (.slice A L c)) W (W2.setCell ⟨s.heap.size,4,bm⟩ (iV H)):=
    ⟨(fc.ext (fc.rf _ _ W) hE zO zT).set 4 _ zO zT,λnn dd hb=>⟨H,by have h:=(hb.ext hE).eL 4 (iV H);rwa [e]at h⟩⟩
   have g9:KeepsOthers W (W2.setCell ⟨s.heap.size,4,bm⟩ (iV H)):=(KeepsOthers.of_grownBy (gZ hE) (λj o e _=>by cases e)).trans (KeepsOthers.setCell _ _ _);exact And.intro g1 (And.intro g2 (And.intro g3 (And.intro g4 (And.intro g5 (And.intro g6 (And.intro g7 (And.intro g8 g9))))))))
  have bv:=a5.at_ 1 rfl;have aU:=a5.lt;clear bg am aj a1 a2 a3 a4 a5 a6 a7 aJ;have Hx:=hide hx;have cu:=hide bh;have Hw:=hide bj;have cc:=hide ap;obtain⟨en,aD⟩:∃en,aN x=en:=⟨_,rfl⟩
  have bo:(st:Int)-(wm:Int)+((d0+x+1:Nat):Int)=en:=by rw[←aD,Uu.out]
  rw[bd,aD];have Xn:=hide bo;have aK:wm<d0+x+1↔(st:Int)<en:=zO;have V7:=hide aK;clear hx bh ap bo aK bd bt aD
  gi_upto_region 8 with(refine⟨trivial,?_⟩;gi_at_call 254;refine(CallsIn.inRound l (dc.2 aw.out)).mono ?_;rintro e w6 ⟨u6,rfl,aI,bx⟩;obtain⟨u7,u8,rfl,bK,bJ⟩:=eR.inv2 bx;cases bK;cases bJ;have ba:=(aI.cell (p:=⟨s.heap.size,4,bm⟩) aU).trans ba;have a9:=(aI.frozen (p:=⟨s.heap.size,4,bm⟩) aU).trans a9)
  obtain⟨g1,g2,g3,g4,g5,g6,g7,g8,g9⟩:=kJ.out w6 aI;have ct:=aI;clear kJ aw ba a9 aI bV bZ bv bx;have bn:∀W2,Ext w6 W2→True:=λ_ _=>trivial;clear bn;have bf:∀W2,Ext (w6.setCell ⟨s.heap.size,4,bm⟩ (iV H)) W2→∀en,cP cQ 255 #[gP g,iV H,iV en] W2 (eB W2 (eP (iS en (M.words H)))):=λW2 hE en=>((HM.out.ext g6).ext hE).C0 H ar en;have bf:=hide bf;clear aT;generalize w6.setCell ⟨s.heap.size,4,bm⟩ (iV H)=W7 at*;have bv:=g5.at_ 1 rfl;by_cases au:wm<d0+x+1
  ·have aK:(st:Int)<en:=V7.out.1 au;have Xo:=hide au;have bc:=g3.at_ 0 rfl;have br:=g1.at_ 0 rfl;have bq:=g5.at_ 4 rfl;clear au
   gi_upto_region 9 with(fail)
   refine fR (gJ l) (λ⟨_,_,h⟩=>h.elim) zK 7 zK zK ?_;refine .rk 38 9 bc (eh _) ?_;refine .rk 88 4 br (eh _) ?_;refine .re 11 ?_;refine .rd 2 45 0 ?_;refine .rl 3 3 46 0 bq (eh _) ?_;refine .rn 12 ?_;refine ed.call3 255 _ _ _ _ rfl (enters_of func255 zK rfl) wA oA oA oA (λ_ _ _ W hX h1 h2 h3=>by cases h1;cases h2;cases h3;exact bf.out W ((eh _).tr hX) en) ?_;refine⟨rfl,λW9 bB=>?_⟩;iterate 6 refine ew.eq ?_
   refine ew.any λb1 av=>?_;refine ew.nil ?_;simp only[c7,cx,cE,cL];have ak:=(eh W7).tr bB;have bP:(iS en (M.words H)).length≤64:=by unfold iS;rw[cJ];exact bk
   have aX:=av;clear av;have aP:=aX;obtain⟨A9,c9,rfl,-⟩:=eP.form aP;have ay:=Src.pairs (lo:=0) (m:=(iS en (M.words H)).length) aX A9 c9 zO (λ_ b cd e=>by rw[Nat.zero_mul,dq];exact e);rw[List.drop_zero,List.take_length]at ay;have bl:=fy g4 ak;have bQ:=Xm.out;have SD:=hide ay;have TW:=hide bl;have bD:=g3.ext ak;have V8:=hide bD;have bN:(fz (iS en (M.words H))).length=(iS en (M.words H)).length*2:=oR _;have b5:=ak.size;clear ay bl bD bc br bq aX aP bB;generalize b0:(iS en (M.words H)).length=LL at*;obtain⟨i0,bS,bG,bF,bE⟩:=cG Tryz.pN;go_wp2_with(at_builtin;apply eJ rfl _ _ 38 rfl W0.heap.size 50 i0 (.agg #[iV 0,iV 0]) 2 16 underlying38 bS bG bF bE rfl zO (.slice A1 O.length q1) (.slice A9 LL c9) O.length LL (fz O) (fz (iS en (M.words H))))
   all_goals try rfl
   case V=>exact TW.out
   case hl=>exact bN
   case hx=>exact SD.out
   case h1=>exact oS _
   case W=>omega
   case I=>omega
   case h=>
    intro v' w8 ad T bY;obtain⟨A4,c4,rfl⟩:=eI ad;have ai:=fk TW.out;have aM:=V8.out.grows T (λe=>absurd (ai _ e) zO);have cr:=aM.at_ 0 rfl;have cq:=aM.frozen 0;have aa:∀k,k<W0.heap.size→k≠w.heap.size+1+1+1+1→(w8.setCell ⟨w.heap.size+1+1+1+1,0,bm⟩ (.slice A4 (O.length+LL) c4)).heap[k]?=W7.heap[k]?:=λk hk bM=>
     (cX w8 ⟨w.heap.size+1+1+1+1,0,bm⟩ _ k bM).trans ((T.block k zO (λe=>absurd (ai _ e.symm) zO)).trans (ak.block k zO))
    have bC:Below w.heap.size w (w8.setCell ⟨w.heap.size+1+1+1+1,0,bm⟩ (.slice A4 (O.length+LL) c4)):=
     Below.setCell (p:=⟨w.heap.size+1+1+1+1,0,bm⟩) (((show Ext w W7 from g6).tr ak).grown T (by have:=g6.size;omega) (λk hk=>cM zO (ai k hk))) (by show w.heap.size≤w.heap.size+1+1+1+1;omega) _
    have aV:Below w.heap.size W7 (w8.setCell ⟨w.heap.size+1+1+1+1,0,bm⟩ (.slice A4 (O.length+LL) c4)):=
     Below.setCell (p:=⟨w.heap.size+1+1+1+1,0,bm⟩) ((ak.mono zO).grown T zO (λk hk=>cM zO (ai k hk))) (by show w.heap.size≤w.heap.size+1+1+1+1;omega) _
    have aR:dy (.slice A4 (O.length+LL) c4)≠cV (w.heap.size+1+1+1+1):=λe=>absurd (fk ad _ e) zO;have bL:=T.size;have HF:=hide (show KeepsFrom W0.heap.size W (w8.setCell ⟨w.heap.size+1+1+1+1,0,bm⟩ (.slice A4 (O.length+LL) c4))∧nH w.heap.size (s.heap.size+1+1) (s.heap.size+1) s.heap.size (rK nm st wm (.slice A L c)) W (w8.setCell ⟨w.heap.size+1+1+1+1,0,bm⟩ (.slice A4 (O.length+LL) c4))∧MJ w W0.heap.size g s.heap.size (rK nm st wm (.slice A L c)) M b nd d0 (E++[x]) (w8.setCell ⟨w.heap.size+1+1+1+1,0,bm⟩ (.slice A4 (O.length+LL) c4))from by
     refine⟨(g9.trans ((KeepsOthers.of_grownBy (gZ ak) (λj o e _=>by cases e)).trans ((KeepsOthers.of_grownBy T (qn TW.out)).trans (KeepsOthers.setCell _ _ _)))).from _,
      g8.t ⟨⟨aV,λk hk=>by simp at hk;exact aa k zO zO⟩,λnn dd hb=>⟨nn,(aa _ zO zO).trans hb⟩⟩,
      d,_,(aa _ zO zO).trans g1,(aa _ zO zO).trans g2,aM.eL 0 _,?_,?_,bC,by simp only[World.setCell,Array.size_modify];first|omega|(simp;omega)⟩
     ·rw[cU,cy,←Hx.out,DW.out];have hh:ni M b H (d0+x)=iS en (M.words H):=by
       unfold ni iS;obtain⟨-,e1,e2,-⟩:=Hn.out;rw[if_pos (by rw[e2];exact Xo.out),e1,e2,Xn.out]
      rw[hh];show World.ownsRow _ _ _ _ _ (O++iS en (M.words H)).length (fz (O++iS en (M.words H)));rw[cU,j5,b0];exact iX ad ⟨w.heap.size+1+1+1+1,0,bm⟩ aR _
     ·rw[cU,cy,←Hx.out,DW.out];exact(aa _ zO zO).trans g5)
    clear aa bC aV aR bL ad T bY aM g1 g2 g3 g4 g5 g6 g7 g8 g9 TW SD V8 ak ai;go_wp2;exact HF.out
  ·have aK:¬(st:Int)<en:=λh=>au (V7.out.2 h);have HF:=hide (show KeepsFrom W0.heap.size W W7∧nH w.heap.size (s.heap.size+1+1) (s.heap.size+1) s.heap.size (rK nm st wm (.slice A L c)) W W7∧MJ w W0.heap.size g s.heap.size (rK nm st wm (.slice A L c)) M b nd d0 (E++[x]) W7 from by
    refine⟨g9.from _,g8,d,_,g1,g2,g3,?_,?_,g6,g7⟩
    ·rw[cU,cy,←Hx.out,DW.out];have hh:ni M b H (d0+x)=[]:=by
      unfold ni;obtain⟨-,e1,e2,-⟩:=Hn.out;rw[if_neg (by rw[e2];exact au)]
     rw[hh,List.append_nil];exact g4
    ·rw[cU,cy,←Hx.out,DW.out];exact g5)
   clear au g1 g2 g3 g4 g5 g6 g7 g8 g9;gi_wp2;exact HF.out
 case done=>
  rintro D xs W hD rfl ⟨nT,hT⟩ ⟨d,v,b4,b8,b9,ho,U,hB,ce⟩ Y;rw[List.length_range]at hT ho U;have aH:=MI (M:=M) (b:=b) (nd:=nd) (n:=n0) (d0:=d0) (by rw[Hn.out.1];omega);rw[Hn.out.1]at aH;rw[←aH]at ho U;have bb:(scan M b n0 nd d0 []).2.1=d0+min n0 (L-d0):=by rw[ma _ _ _ _ (by rw[Hn.out.1];omega),Hn.out.1];omega
  have bU:d=d0+min n0 (L-d0):=by
   have h1:=U.at_ 5 rfl;have h2:=hT.at_ 5 rfl;rw[h1]at h2;simp at h2;omega
  subst bU;obtain⟨k,hk⟩:∃k,d0+min n0 (L-d0)=k:=⟨_,rfl⟩
  have cj:k≤L:=zO;rw[hk]at U bb;obtain⟨nk,am⟩:∃nk,(scan M b n0 nd d0 []).1=nk:=⟨_,rfl⟩
  obtain⟨O,aj⟩:∃O,(scan M b n0 nd d0 []).2.2=O:=⟨_,rfl⟩
  have HEq:=hide (And.intro bb (And.intro am aj));rw[am]at U;rw[aj]at ho;obtain⟨A1,q1,rfl⟩:=eI ho;have aB:=fk ho;have bc:=b9.at_ 0 rfl;have cp:=b9.frozen 0;have cm:=U.at_ 5 rfl;have cn:=U.at_ 3 rfl;have ci:=U.at_ 4 rfl;have ck:=U.lt;have HF:=hide (show∃Wf,Wf=(((W.setCell ⟨w.heap.size+1+1+1,0,bm⟩ (iV nk)).setCell ⟨w.heap.size+1+1+1,1,bm⟩ (iV k)).setCell ⟨w.heap.size+1+1+1+1,0,bm⟩ (.slice A1 O.length q1)).drew∧Box Wf (w.heap.size+1+1+1) 266 #[iV nk,iV k]∧Box Wf (w.heap.size+1+1+1+1) 38 #[.slice A1 O.length q1]∧Wf.heap[D]?=cV (.deferred (cV []))∧Wf.ownsRow W0.heap.size 50 2 (.slice A1 O.length q1) O.length (fz O)∧Ext w Wf from by
   refine⟨_,rfl,?_,?_,?_,?_,?_⟩
   ·exact((((b8.eL 0 (iV nk)).eL 1 (iV k)).far (p:=⟨w.heap.size+1+1+1+1,0,bm⟩) (by show w.heap.size+1+1+1≠w.heap.size+1+1+1+1;omega) _).ext (eh _):Box _ _ _ #[iV nk,iV k])
   ·exact((((b9.far (p:=⟨w.heap.size+1+1+1,0,bm⟩) (by show w.heap.size+1+1+1+1≠w.heap.size+1+1+1;omega) _).far (p:=⟨w.heap.size+1+1+1,1,bm⟩) (by show w.heap.size+1+1+1+1≠w.heap.size+1+1+1;omega) _).eL 0 (.slice A1 O.length q1)).ext (eh _):Box _ _ _ #[.slice A1 O.length q1])
   ·exact(cX _ ⟨w.heap.size+1+1+1+1,0,bm⟩ _ D (by show D≠w.heap.size+1+1+1+1;omega)).trans ((cX _ ⟨w.heap.size+1+1+1,1,bm⟩ _ D (by show D≠w.heap.size+1+1+1;omega)).trans ((cX _ ⟨w.heap.size+1+1+1,0,bm⟩ _ D (by show D≠w.heap.size+1+1+1;omega)).trans Y))
   ·exact fy (iX (iX (iX ho ⟨w.heap.size+1+1+1,0,bm⟩ (λe=>absurd (aB _ e) (by show¬_≤w.heap.size+1+1+1;omega)) _) ⟨w.heap.size+1+1+1,1,bm⟩ (λe=>absurd (aB _ e) (by show¬_≤w.heap.size+1+1+1;omega)) _) ⟨w.heap.size+1+1+1+1,0,bm⟩ (λe=>absurd (aB _ e) (by show¬_≤w.heap.size+1+1+1+1;omega)) _) (eh _)
   ·exact Ext.tr ((((show Ext w W from hB).setCell (p:=⟨w.heap.size+1+1+1,0,bm⟩) (by show w.heap.size≤w.heap.size+1+1+1;omega) _).setCell (p:=⟨w.heap.size+1+1+1,1,bm⟩) (by show w.heap.size≤w.heap.size+1+1+1;omega) _).setCell (p:=⟨w.heap.size+1+1+1+1,0,bm⟩) (by show w.heap.size≤w.heap.size+1+1+1+1;omega) _) (eh _))
  clear hT aH bb hB HI0 S4 U hk am aj Y ho
  gi_upto_region 10 with(fail)
  have cb:=b8.at_ 0 rfl;have ca:=b8.at_ 1 rfl;have b7:=b8.frozen 0;have b6:=b8.frozen 1;clear b8 b9 b4;have bI:s.heap.size≠w.heap.size+1+1+1:=zO;have bH:s.heap.size≠w.heap.size+1+1+1+1:=zO;have b3:=bI.symm;have b2:=bH.symm;refine wpIn_wide.2 ?_;refine wp_region_noPanic ?_;refine wp_region_held_drew (S:=λw'=>w'.cell? ⟨s.heap.size,4,bm⟩=cV (iV nk)∧w'.cell? ⟨s.heap.size,5,bm⟩=cV (iV k)∧w'.cell? ⟨s.heap.size,3,bm⟩=cV (.slice A L c)) zK ?s0 (λhS=>?_);case s0=>exact⟨by assumption,by assumption,by assumption⟩
  refine cS (i:=0) (v:=?wN) rfl zK zK zK (λ_ _ _ h=>h) (dt ⟨by rfl,?UQ⟩) hS ?UR;case UQ=>intro V hV;obtain⟨ag,af,ae⟩:=hV;go_simp;first|done|with_reducible rfl|rfl
  case UR=>
  simp only[c7,cx];refine cS (i:=1) (v:=?Xu) rfl zK zK zK (λ_ _ _ h=>h) (dt ⟨by rfl,?US⟩) hS ?UT;case US=>intro V hV;obtain⟨ag,af,ae⟩:=hV;go_simp;first|done|with_reducible rfl|rfl
  case UT=>
  simp only[c7];refine cS (i:=3) (v:=?XR) rfl zK zK zK (λ_ _ _ h=>h) (dt ⟨by rfl,?DJ⟩) hS ?El;case DJ=>intro V hV;obtain⟨ag,af,ae⟩:=hV;go_simp;first|done|with_reducible rfl|rfl
  case El=>
  simp only[c7];refine cS (i:=4) (v:=?XS) rfl zK zK zK (λ_ _ _ h=>h) (dt ⟨by rfl,?Hg⟩) hS ?Ke;case Hg=>intro V hV;obtain⟨ag,af,ae⟩:=hV;go_simp;first|done|with_reducible rfl|rfl
  case Ke=>
  simp only[c7];refine cS (i:=5) (v:=?XT) rfl zK zK zK (λ_ _ _ h=>h) (dt ⟨by rfl,?Ku⟩) hS ?N2;case Ku=>intro V hV;obtain⟨ag,af,ae⟩:=hV;go_simp;first|done|with_reducible rfl|rfl
  case N2=>
  simp only[c7];refine cS (i:=6) (v:=?XU) rfl zK zK zK (λ_ _ _ h=>h) (dt ⟨by rfl,?Ps⟩) hS ?Pt;case Ps=>intro V hV;obtain⟨ag,af,ae⟩:=hV;go_simp;first|done|with_reducible rfl|rfl
  case Pt=>
  simp only[c7];refine cS (i:=7) (v:=?XV) rfl zK zK zK (λ_ _ _ h=>h) (dt ⟨by rfl,?Sj⟩) hS ?VH;case Sj=>intro V hV;obtain⟨ag,af,ae⟩:=hV;go_simp;first|done|with_reducible rfl|rfl
  case VH=>
  simp only[c7];refine cS (i:=8) (v:=?XW) rfl zK zK zK (λ_ _ _ h=>h) (dt ⟨by rfl,?Xd⟩) hS ?XN;case Xd=>intro V hV;obtain⟨ag,af,ae⟩:=hV;go_simp;first|done|with_reducible rfl|rfl
  case XN=>
  simp only[c7];refine cS (i:=9) (v:=?XX) rfl zK zK zK (λ_ _ _ h=>h) (dt ⟨by rfl,?XO⟩) hS ?XP;case XO=>intro V hV;obtain⟨ag,af,ae⟩:=hV;go_simp;first|done|with_reducible rfl|rfl
  case XP=>
  simp only[c7];refine cS (i:=10) (v:=?XQ) rfl zK zK zK (λ_ _ _ h=>h) (dt ⟨by rfl,?uj⟩) hS ?vE;case uj=>intro V hV;obtain⟨ag,af,ae⟩:=hV;go_simp;first|done|with_reducible rfl|rfl
  case vE=>
  simp only[c7];refine ds (rs:=[2,11]) zK zS ?_;refine da rfl (λK Y=>?_) (da rfl (λK Y=>?_) dr)
  ·go_simp
   refine Y.out _ _ (by refine⟨?_,?_,?_⟩<;>go_keep) (λhS=>?_);clear Y K;refine ds (rs:=[11]) zK zS ?_;refine da rfl (λK Y=>?_) dr
   go_simp
   refine Y.out _ _ (by refine⟨?_,?_,?_⟩<;>go_keep) (λhS=>?_);clear Y K;refine ds (rs:=[12]) zK zS ?_;refine da rfl (λK Y=>?_) dr
   go_simp
   refine Y.out _ _ (by refine⟨?_,?_,?_⟩<;>go_keep) (λhS=>?_);clear Y K;refine ds (rs:=[13]) zK zS ?_;refine da rfl (λK Y=>?_) dr
   go_simp
   refine Y.out _ _ (by refine⟨?_,?_,?_⟩<;>go_keep) (λhS=>?_);clear Y K;refine wpAnyH_done zK (NoPanic.normal ?_) _;gi_wp2;obtain⟨Wf,be,c8,c9,cK,co,cB⟩:=HF.out;rw[←be];refine⟨by simp,.inl ⟨_,_,rfl,run_takeDeferred cK,?_⟩⟩;have p8:Box (Wf.putObj D (.deferred bm)) (w.heap.size+1+1+1) 266 #[iV nk,iV k]:=(World.putObj_heap_other zO).trans c8;have p9:Box (Wf.putObj D (.deferred bm)) (w.heap.size+1+1+1+1) 38 #[.slice A1 O.length q1]:=(World.putObj_heap_other zO).trans c9;have aW:=p9.at_ 0 rfl;refine⟨.tuple #[.agg #[iV nk,iV k],.slice A1 O.length q1,.bool ((k:Int)==(L:Int))],xd results198 _ _ (w.heap.size+1+1+1) 266 _ _ rfl p8 underlying266 rfl zK ⟨w.heap.size+1+1+1+1,0,bm⟩ _ rfl (by simp[go_sem,aW]) rfl,?_⟩;refine eY.mk (fx cB zO _) ⟨.slice A1 O.length q1,?_,?_⟩
   ·obtain⟨e1,e2,-⟩:=HEq.out;have e4:((k:Int)==(L:Int))=decide (k=L):=by rw[Bool.eq_iff_iff];simp;omega
    rw[e1,e2,e4]
   ·obtain⟨-,-,e3⟩:=HEq.out;rw[e3];exact iY (rE co (grownBy_putObj' Wf D _) (λr e=>by cases e;exact⟨_,cK,rfl⟩)) zO
  ·go_simp
   refine Y.out _ _ (by refine⟨?_,?_,?_⟩<;>go_keep) (λhS=>?_);clear Y K;refine ds (rs:=[2]) zK zS ?_;refine da rfl (λK Y=>?_) dr
   go_simp
   refine Y.out _ _ (by refine⟨?_,?_,?_⟩<;>go_keep) (λhS=>?_);clear Y K;refine ds (rs:=[12]) zK zS ?_;refine da rfl (λK Y=>?_) dr
   go_simp
   refine Y.out _ _ (by refine⟨?_,?_,?_⟩<;>go_keep) (λhS=>?_);clear Y K;refine ds (rs:=[13]) zK zS ?_;refine da rfl (λK Y=>?_) dr
   go_simp
   refine Y.out _ _ (by refine⟨?_,?_,?_⟩<;>go_keep) (λhS=>?_);clear Y K;refine wpAnyH_done zK (NoPanic.normal ?_) _;gi_wp2;obtain⟨Wf,be,c8,c9,cK,co,cB⟩:=HF.out;rw[←be];refine⟨by simp,.inl ⟨_,_,rfl,run_takeDeferred cK,?_⟩⟩;have p8:Box (Wf.putObj D (.deferred bm)) (w.heap.size+1+1+1) 266 #[iV nk,iV k]:=(World.putObj_heap_other zO).trans c8;have p9:Box (Wf.putObj D (.deferred bm)) (w.heap.size+1+1+1+1) 38 #[.slice A1 O.length q1]:=(World.putObj_heap_other zO).trans c9;have aW:=p9.at_ 0 rfl;refine⟨.tuple #[.agg #[iV nk,iV k],.slice A1 O.length q1,.bool ((k:Int)==(L:Int))],xd results198 _ _ (w.heap.size+1+1+1) 266 _ _ rfl p8 underlying266 rfl zK ⟨w.heap.size+1+1+1+1,0,bm⟩ _ rfl (by simp[go_sem,aW]) rfl,?_⟩;refine eY.mk (fx cB zO _) ⟨.slice A1 O.length q1,?_,?_⟩
   ·obtain⟨e1,e2,-⟩:=HEq.out;have e4:((k:Int)==(L:Int))=decide (k=L):=by rw[Bool.eq_iff_iff];simp;omega
    rw[e1,e2,e4]
   ·obtain⟨-,-,e3⟩:=HEq.out;rw[e3];exact iY (rE co (grownBy_putObj' Wf D _) (λr e=>by cases e;exact⟨_,cK,rfl⟩)) zO
 case stop=>
  rintro D c' E W hD ap-h Y;exact h.elim
end
end
end Go.Proofs.YtofgfpffcegioaaGreat
