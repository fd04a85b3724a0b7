/- A part of the proof. -/
import Derived.Test.YtofgfpffcegioaaGreatZf06
import Derived.Test.YtofgfpffcegioaaGreatZf17
set_option maxRecDepth 100000
set_option maxHeartbeats 8000000
namespace Go.Proofs.YtofgfpffcegioaaGreat
open Go.RowKit iT Go.Proofs.Tryz
theorem vF(d:Bool)(text:L8)(ws:LL)(k:Nat)(h:k<ws.length)(s:which d text ws=jd d text k (ws.drop k)) :
  (gM d text ws[k]=true→which d text ws=(k:Int))∧(gM d text ws[k]=false→which d text ws=jd d text (k+1) (ws.drop (k+1))):=by
 rw[s,List.drop_eq_getElem_cons h];simp_all[jd]
theorem Er(h:Bool)(text:L8)(ws:LL)(u v:Value)(w:World)(hT:eu text u w)(hP:eD ws v w)(aa:text.length≤1000000)(Y:∀b∈ws,b.length≤1000000):Calls prog 101 #[.bool h,u,v] w (eB w (eC (iV (which h text ws)))):=by
 obtain⟨A,c,rfl,ai,ab,hx⟩:=eD.form hP;obtain⟨B,d,rfl,-⟩:=eu.form hT;clear hP;unfold maxLen at ab;go_enter func101,ntmps101;go_wp2
 go_loopw [7] (λi wr=>∃k:Nat,k≤ws.length∧i=iV k∧Hid (which h text ws=jd h text k (ws.drop k))∧Below w.heap.size w wr)
  (λi _=>ws.length-(intOf i).toNat)
 case atStart=>exact⟨0,by omega,rfl,rfl,Below.refl _ _⟩
 case round=>
  obtain⟨k,hk,rfl,Ho,I⟩:=hrel;by_cases H:k<ws.length
  ·obtain⟨b,W,rfl,hb,s⟩:=hx zO;obtain⟨x,O,J⟩:=s k H;have ah:=(I.cell (p:=⟨b,W+k,none⟩) hb).trans O;have E:=VP.st _ _ _ _ J I;have ae:=VP.st _ _ _ _ hT I;obtain⟨A2,c2,rfl,-⟩:=eu.form E;have T:=vF h text ws k H Ho.out;have rq:=hide T;have ad:ws[k].length≤1000000:=Y _ (List.getElem_mem H);have Hx:=hide E;clear s hx O J E T Ho;generalize ws[k]=bs at*;go_wp2_with fail;refine(Il h text bs _ _ wr ae Hx.out aa ad).mono ?_;rintro e w2 ⟨v,rfl,ag,rfl⟩;have af:=I.trans (ag.mono I.size);cases U:gM h text bs
   ·have V:=hide (rq.out.2 U);clear rq U;go_wp2;grind[intOf]
   ·have V:=hide (rq.out.1 U);clear rq U;go_wp2;go_ret;exact eB.mk af (congrArg (Value.int .i64) V.out.symm)
  ·obtain rfl:k=ws.length:=zO;have V:Hid (which h text ws=-1):=by show which h text ws=-1;rw[Ho.out,List.drop_length];rfl
   go_wp2;go_ret;exact eB.mk I (congrArg (Value.int .i64) V.out.symm)
end Go.Proofs.YtofgfpffcegioaaGreat
namespace Go.Proofs.YtofgfpffcegioaaGreat
open Go.RowKit iT jH Go.Proofs.Tryz
open Bool renaming false → bz
open Go renaming World → bD,Calls → bE,Value → bF,execOp → bG
open Go.Operand renaming tmp → bm
open Go.Proofs.Tryz renaming underlying43 → bk,underlying22 → bl,underlying5 → bA,underlying9 → bB
open Go.RowKit renaming Below → bu,intOf → bw
open Go.Value renaming int → bC,bool → bH
open List renaming drop_eq_getElem_cons → bn,take_succ_eq_append_getElem → bo,getElem_mem → bp,mem_iff_getElem → br,length_append → bt,length_take → bx
open Nat renaming le_refl → bq
section
theorem B4(d:Bool)(bs:L8)(v:bF)(w:bD)(E:eu bs v w)(s:bs.length≤1000000):bE prog 102 #[.bool d,v] w (eY w (λv V=>OwnB V w.heap.size 5 v (textF d bs))):=by
 obtain⟨i0,hi,J,I,H⟩:=info_parts Tryz.BU;have O:=tP bs v w E s;have T:=E;obtain⟨A,c,rfl,-⟩:=eu.form E;unfold textF;clear E;cases d
 ·rw[if_neg zD];clear O;go_enter func102,ntmps102;go_wp2_with(at_builtin;refine gC rfl _ _ 43 rfl w.heap.size 5 i0 (.int .u8 0) bk hi J I H rfl (.slice (some ⟨w.heap.size,0,none⟩) 0 0) _ [] bs rfl (OwnB.made w _ _ (bq _)) rfl (VP.st _ _ _ _ T (ek _ _)) zG zS ?_;intro v' V W h aa)
  go_ret;refine eY.mk (jB (Ext.rf w) h (λk hk=>OwnB.ge (OwnB.made w w.heap.size 5 (bq _)) k hk)) ?_;simp_all
 ·rw[if_pos rfl];go_enter func102,ntmps102;go_wp2_with fail;refine O.mono ?_;rintro e w2 ⟨u,rfl,U,Y⟩;clear O;have HO:=hide Y;clear Y;go_wp2;go_ret;exact eY.mk U HO.out
section
variable {w0:bD}
theorem K9(d:Bool)(bs:L8)(h:bs.length≤1000000):∀u v w,Ext w0 w→eC (.bool d) u w→eu bs v w→bE prog 102 #[u,v] w (eB w (eu (textF d bs))):=λu v w _ E s=>by
 rw[show u=_ from E];exact(B4 d bs v w s h).mono λ_ _ ⟨u,J,I,H⟩=>⟨u,J,I,OwnB.bytes H⟩
end
attribute [local irreducible] ew ed in
theorem Es(xs T:L8)(u v:bF)(w:bD)(Y:eu xs u w)(hY:eu T v w):bE prog 210 #[u,v] w (eB w (eC (iV (fN xs T:Int)))):=by
 have an:=Y;have am:=hY;obtain⟨A,c,rfl,av,ap,hx⟩:=eu.form Y;obtain⟨B,d,rfl,au,ao,hy⟩:=eu.form hY;unfold maxLen at ap ao;clear Y hY;go_enter func210,ntmps210;go_wp2
 go_loopw [5] (λi wr=>∃k:Nat,k≤xs.length∧k≤T.length∧i=iV k∧Hid (∀(i:Nat) (h1:i<xs.length) (h2:i<T.length),i<k→xs[i]=T[i])∧Hid (bu w.heap.size w wr)) (λi _=>xs.length-(bw i).toNat)
 case atStart=>grind[hide,Ext.rf]
 case round=>
  obtain⟨k,al,ak,rfl,HS,HE⟩:=hrel;have hE:Ext w wr:=HE.out;have Y:=VP.st _ _ _ _ an hE;have hY:=VP.st _ _ _ _ am hE;clear hx hy an am;by_cases ad:k<xs.length
  ·by_cases ab:k<T.length
   ·by_cases ae:xs[k]=T[k]
    ·have aq:Hid (∀(i:Nat) (h1:i<xs.length) (h2:i<T.length),i<k+1→xs[i]=T[i]):=λi h1 h2 h3=>by
      by_cases e:i=k
      ·grind
      ·exact HS.out i h1 h2 zO
     have V:(xs[k].toNat:Int)=(T[k].toNat:Int):=by rw[ae]
     go_upto_region 2 with(fail)
     refine vQ 21 ?_;refine ed.move _ rfl wA oA ?_;refine ed.move _ rfl wA (fU 0 rfl Y (eh _) zR) ?_;refine ed.rS 43 5 _ rfl bk wA oA ?_;refine ed.qw _ _ _ _ rfl wA oA oA zO (.h 1 ?_);refine ed.move _ rfl wA oA ?_;refine ed.move _ rfl wA (fU 1 rfl hY (eh _) zR) ?_;refine ed.rS 43 5 _ rfl bk wA oA ?_;refine ed.qw _ _ _ _ rfl wA oA oA zO (.h 2 ?_);refine ed.move _ rfl wA (fU 0 rfl Y (eh _) zR) ?_;refine ed.move _ rfl wA oA ?_;refine ed.indexB 43 5 _ _ .i64 k rfl bk zR wA oA oA ad ?_;refine ed.jM 5 _ rfl wA oA (λ_=>by rfl) ?_;refine ed.move _ rfl wA (fU 1 rfl hY (eh _) zR) ?_;refine ed.move _ rfl wA oA ?_;refine ed.indexB 43 5 _ _ .i64 k rfl bk zR wA oA oA ab ?_;refine ed.jM 5 _ rfl wA oA (λ_=>by rfl) ?_;refine ed.Qi _ _ _ _ rfl wA oA oA V (.g ?_);intro W2 W;refine ew.any λaa s=>?_;refine .e ?_;refine ew.any λaf E=>?_;refine .e ?_;refine ew.any λaj O=>?_;refine .e ?_;refine ew.any λai J=>?_;refine .e ?_;refine ew.any λah I=>?_;refine .e ?_;refine ew.any λag H=>?_;refine .e ?_;clear s E O J I H;have hE:=hE.tr ((eh _).tr W);clear V ae Y hY;have ar:Hid (bu w.heap.size w W2):=hide hE;go_wp2;exact⟨⟨k+1,by omega,by omega,by go_num,aq,ar⟩,by grind[bw]⟩
    ·have U:Hid (fN xs T=k):=oq xs T k HS.out al ak (λ_ _=>ae);have V:¬(xs[k].toNat:Int)=(T[k].toNat:Int):=λe=>ae (UInt8.toNat_inj.1 zO);go_upto_region 2 with(fail)
     refine vQ 21 ?_;refine ed.move _ rfl wA oA ?_;refine ed.move _ rfl wA (fU 0 rfl Y (eh _) zR) ?_;refine ed.rS 43 5 _ rfl bk wA oA ?_;refine ed.qw _ _ _ _ rfl wA oA oA zO (.h 1 ?_);refine ed.move _ rfl wA oA ?_;refine ed.move _ rfl wA (fU 1 rfl hY (eh _) zR) ?_;refine ed.rS 43 5 _ rfl bk wA oA ?_;refine ed.qw _ _ _ _ rfl wA oA oA zO (.h 2 ?_);refine ed.move _ rfl wA (fU 0 rfl Y (eh _) zR) ?_;refine ed.move _ rfl wA oA ?_;refine ed.indexB 43 5 _ _ .i64 k rfl bk zR wA oA oA ad ?_;refine ed.jM 5 _ rfl wA oA (λ_=>by rfl) ?_;refine ed.move _ rfl wA (fU 1 rfl hY (eh _) zR) ?_;refine ed.move _ rfl wA oA ?_;refine ed.indexB 43 5 _ _ .i64 k rfl bk zR wA oA oA ab ?_;refine ed.jM 5 _ rfl wA oA (λ_=>by rfl) ?_;refine ed.zQ _ _ _ _ rfl wA oA oA V (.g ?_);intro W2 W;refine ew.any λaa s=>?_;refine .e ?_;refine ew.any λaf E=>?_;refine .e ?_;refine ew.any λaj O=>?_;refine .e ?_;refine ew.any λai J=>?_;refine .e ?_;refine ew.any λah I=>?_;refine .e ?_;refine ew.any λag H=>?_;refine .e ?_;clear s E O J I H;have hE:=hE.tr ((eh _).tr W);clear V ae Y hY;go_wp2;go_ret;exact eB.mk hE (congrArg (λn:Nat=>iV n) U.out.symm)
   ·have U:Hid (fN xs T=k):=oq xs T k HS.out al ak (λ_ h=>absurd h ab);go_upto_region 2 with(fail)
    refine vQ 21 ?_;refine ed.move _ rfl wA oA ?_;refine ed.move _ rfl wA (fU 0 rfl Y (eh _) zR) ?_;refine ed.rS 43 5 _ rfl bk wA oA ?_;refine ed.qw _ _ _ _ rfl wA oA oA zO (.h 1 ?_);refine ed.move _ rfl wA oA ?_;refine ed.move _ rfl wA (fU 1 rfl hY (eh _) zR) ?_;refine ed.rS 43 5 _ rfl bk wA oA ?_;refine ed.xT _ _ _ _ rfl wA oA oA zO (.h 2 ?_);refine ed.skip wA ?_;refine ed.skip wA ?_;refine ed.skip wA ?_;refine ed.skip wA ?_;refine ed.skip wA ?_;refine ed.skip wA ?_;refine ed.skip wA ?_;refine ed.skip wA ?_;refine ed.skip wA (.g ?_);intro W2 W;refine ew.any λaa s=>?_;refine .e ?_;refine ew.any λaf E=>?_;refine .e ?_;clear s E;have hE:=hE.tr ((eh _).tr W);clear Y hY;go_wp2;go_ret;exact eB.mk hE (congrArg (λn:Nat=>iV n) U.out.symm)
  ·have U:Hid (fN xs T=k):=oq xs T k HS.out al ak (λh _=>absurd h ad);go_upto_region 2 with(fail)
   refine vQ 21 ?_;refine ed.move _ rfl wA oA ?_;refine ed.move _ rfl wA (fU 0 rfl Y (eh _) zR) ?_;refine ed.rS 43 5 _ rfl bk wA oA ?_;refine ed.xT _ _ _ _ rfl wA oA oA zO (.h 1 ?_);refine ed.skip wA ?_;refine ed.skip wA ?_;refine ed.skip wA ?_;refine ed.skip wA (.h 2 ?_);refine ed.skip wA ?_;refine ed.skip wA ?_;refine ed.skip wA ?_;refine ed.skip wA ?_;refine ed.skip wA ?_;refine ed.skip wA ?_;refine ed.skip wA ?_;refine ed.skip wA ?_;refine ed.skip wA (.g ?_);intro W2 W;refine ew.any λaa s=>?_;refine .e ?_;clear s;have hE:=hE.tr ((eh _).tr W);clear Y hY;go_wp2;go_ret;exact eB.mk hE (congrArg (λn:Nat=>iV n) U.out.symm)
end
section
theorem B5:∀{d:LL} {w:L8},w∈d→w.length≤d.flatten.length
 |u::us,w,h=>by
  rw[List.flatten_cons,bt];rcases List.mem_cons.1 h with rfl|h
  ·omega
  ·have:=B5 h;omega
theorem Aa{ws:LL}{k:Nat}(h:k<ws.length):ws[k].length≤ws.flatten.length:=B5 (bp h)
theorem Et(d:Bool)(ws:LL)(k m:Nat)(h:k<ws.length):ga d m (ws.take k) (ws.drop k)=ga d (m+(ws[k].length-jy d ws[k] (ws.take k))) (ws.take (k+1)) (ws.drop (k+1)):=by
 grind[bn,bo,ga]
theorem La(d:Bool)(w:L8)(s:LL)(j q:Nat)(h:j<s.length):mY d w q (s.drop j)=mY d w (max q (fN (textF d w) (textF d s[j]))) (s.drop (j+1)):=by
 grind[bn,mY]
attribute [local irreducible] ew ed in
theorem IA(d:Bool)(ws:LL)(v:bF)(w:bD)(H:eD ws v w)(aL:ws.flatten.length≤1000000):bE prog 157 #[.bool d,v] w (eB w (eC (iV (fj d ws:Int)))):=by
 have aB:=H;obtain⟨A,c,rfl,aO,aA,-⟩:=eD.form H;unfold maxLen at aA;clear H;go_enter func157,ntmps157;go_wp2
 go_loopw [5,6] (λn i wr=>∃k m:Nat,k≤ws.length∧i=iV k∧n=iV m∧m≤1000001∧Hid (ga d m (ws.take k) (ws.drop k)=fj d ws)∧Hid (bu w.heap.size w wr)) (λ_ i _=>ws.length-(bw i).toNat)
 case atStart=>exact⟨0,1,by omega,rfl,rfl,by omega,hide rfl,hide (Ext.rf w)⟩
 case round=>
  obtain⟨k,m,hk,rfl,rfl,hm,HN,HE⟩:=hrel;generalize wr=wa at*;have aa:Ext w wa:=HE.out;by_cases W:k<ws.length
  ·have aN:=Aa W;have HP:=hide (VP.st _ _ _ _ aB aa);go_wp2
   go_loopw [7,8] (λq j wr=>∃x y:Nat,x≤k∧j=iV x∧q=iV y∧y≤ws[k].length∧Hid (mY d ws[k] y ((ws.take k).drop x)=jy d ws[k] (ws.take k))∧Hid (bu wa.heap.size wa wr)) (λ_ j _=>k-(bw j).toNat)
   case atStart=>exact⟨0,0,by omega,rfl,rfl,by omega,hide (by simp[tF,List.drop_zero]),hide (Ext.rf wa)⟩
   case round=>
    obtain⟨x,y,hx,rfl,rfl,hy,HO,HX⟩:=hrel;have E:Ext wa wr:=HX.out;by_cases aK:x<k
    ·have al:x<ws.length:=zO;have aM:=Aa al;have H:=VP.st _ _ _ _ HP.out E;have s:=La d ws[k] (ws.take k) x y (by simp_all);rw[HO.out,List.getElem_take]at s;obtain⟨cm,Y⟩:∃cm,fN (textF d ws[k]) (textF d ws[x])=cm:=⟨_,rfl⟩
     have az:=(uM (textF d ws[k]) (textF d ws[x])).1;rw[kz,Y]at az;have an:∀u v w,eu (textF d ws[k]) u w→eu (textF d ws[x]) v w→bE prog 210 #[u,v] w (eB w (eC (iV cm))):=λu v w hu hv=>by rw[←Y];exact Es _ _ u v w hu hv
     obtain⟨mx,ai⟩:∃mx,max y cm=mx:=⟨_,rfl⟩
     rw[Y,ai]at s;have aj:mx≤ws[k].length:=zO;have WS:=hide ai;have ak:=hide s.symm;have hE:=aa.tr E;clear s ai HO Y;go_upto_region 9 with(fail)
     refine vQ 15 (.h 2 ?_);refine ed.move _ rfl wA (fU 1 rfl H (eh _) zK) (.h 1 ?_);refine ed.kf 22 43 _ _ .i64 k rfl bl zK wA oA oA W ?_;refine ed.jM 43 _ rfl wA oA (λ_=>by kernel_rfl) ?_;refine ed.call2 102 _ _ _ rfl (enters_of func102 zK rfl) wA oA oA (K9 d _ zO) (.h 1 ?_);refine ed.move _ rfl wA (fU 1 rfl H (eh _) zK) (.h 1 ?_);refine ed.kf 22 43 _ _ .i64 x rfl bl zK wA oA oA al ?_;refine ed.jM 43 _ rfl wA oA (λ_=>by kernel_rfl) ?_;refine ed.call2 102 _ _ _ rfl (enters_of func102 zK rfl) wA oA oA (K9 d _ zO) ?_;refine ed.call2 210 _ _ _ rfl (enters_of func210 zK rfl) wA oA oA (λu v w _ hu hv=>an u v w hu hv) ?_;refine ed.iu (r:=iV mx) (bm 20) (bm 33) wA oA oA (λρ w hE h1 h2=>by simp[h1,h2,go_sem];have:=WS.out;split<;>omega) (.g ?_);intro W9 aC;refine ew.any λaJ ah=>?_;refine .e ?_;refine ew.any λaI ag=>?_;refine ew.any λaH af=>?_;refine ew.any λaG ae=>?_;refine .e ?_;refine ew.any λaF ad=>?_;refine .e ?_;refine ew.any λau O=>?_;refine ew.any λar J=>?_;refine ew.any λaq I=>?_;refine .e ?_;clear ah ag af ae ad O J I;have aE:Hid (bu wa.heap.size wa W9):=hide (E.tr ((eh _).tr aC));clear an hE H;go_wp2;exact⟨⟨x+1,mx,by omega,by go_num,rfl,aj,ak,aE⟩,by simp[bw];omega⟩
    ·obtain rfl:x=k:=zO;have ab:Hid (jy d ws[x] (ws.take x)=y):=by
      have:=HO.out;rw[List.drop_of_length_le (by rw[bx];omega)]at this;exact this.symm
     have H:=VP.st _ _ _ _ HP.out E;have s:=Et d ws x m W;rw[ab.out,HN.out]at s;have ak:=hide s.symm;have aj:m+(ws[x].length-y)≤1000001:=by
      have h1:=rL d (ws.drop (x+1)) (ws.take (x+1)) (m+(ws[x].length-y));have h2:=ot d ws [] 1;unfold fj at s;omega
     have hE:=aa.tr E;clear s HO ab HN;go_upto_region 10 with(fail)
     refine Qk 9 (.h 1 ?_);refine ed.move _ rfl wA (fU 1 rfl H (Ext.rf _) zK) (.h 1 ?_);refine ed.kf 22 43 _ _ .i64 x rfl bl zK wA oA oA W ?_;refine ed.jM 43 _ rfl wA oA (λ_=>by kernel_rfl) ?_;refine ed.rS 43 5 _ rfl bk wA oA ?_;refine ed.ko _ _ _ _ rfl wA oA oA zO (.h 1 ?_);refine ed.kC _ _ _ _ rfl wA oA oA zO (.g ?_);intro aD ao;refine ew.any λay V=>?_;refine .e ?_;refine ew.any λaw U=>?_;refine ew.any λav T=>?_;refine .e ?_;clear V U T;have hE:=hE.tr ao;have ap:Hid (bu w.heap.size w aD):=hide hE;clear hE H;go_wp2;exact⟨⟨x+1,m+(ws[x].length-y),by omega,by go_num,by go_num,aj,ak,ap⟩,by simp[bw];omega⟩
  ·obtain rfl:k=ws.length:=zO;have am:Hid (fj d ws=m):=by
    have:=HN.out;rw[List.drop_length]at this;exact this.symm
   go_wp2;go_ret;exact eB.mk aa (congrArg (λn:Nat=>iV n) am.out.symm)
end
section
theorem yK(ws:LL)(k:Nat)(h:k<ws.length):(ws.take (k+1)).flatten.length=(ws.take k).flatten.length+ws[k].length:=by
 grind[bo,List.flatten_append,bt]
theorem vG:∀(d:LL),(∀w∈d,w.length≤32)→d.flatten.length≤32*d.length
 |[],_=>by simp
 |w::d,h=>by
  have H:=h w zS;have E:=vG d λu s=>h u (by simp[s]);rw[List.flatten_cons,bt,List.length_cons];omega
attribute [local irreducible] ew ed in
theorem check_any(d:Bool)(ws:LL)(v:bF)(w:bD)(E:eD ws v w):bE prog 100 #[.bool d,v] w (eB w (eC (iV (fX d ws)))):=by
 have af:=E;obtain⟨A,c,rfl,aG,aA,-⟩:=eD.form E;unfold maxLen at aA;clear E;obtain⟨z,hz⟩:∃z,fX d ws=z:=⟨_,rfl⟩
 have Hz:=hide hz;rw[hz];unfold fX at hz;by_cases h1:ws.length=0
 ·rw[if_pos h1]at hz;subst hz;have aB:(ws.length:Int)=0:=zO;clear h1 af;go_enter func100,ntmps100;go_wp2;go_ret;exact eB.mk (Ext.rf w) rfl
 have aB:((ws.length:Int)==0)=false:=zG;rw[if_neg h1]at hz;by_cases h2:64<ws.length
 ·rw[if_pos h2]at hz;subst hz;clear af h1;go_enter func100,ntmps100;go_wp2;go_ret;exact eB.mk (Ext.rf w) rfl
 rw[if_neg h2]at hz;have HZ:=hide hz;have aH:ws.length≤64:=zO;clear hz h2;go_enter func100,ntmps100;clear h1;go_wp2
 go_loopw [6] (λi wr=>∃k:Nat,k≤ws.length∧i=iV k∧Hid (∀(i:Nat) (h:i<ws.length),i<k→ws[i]≠[])∧Hid (bu w.heap.size w wr)) (λi _=>ws.length-(bw i).toNat)
 case atStart=>grind[hide,Ext.rf]
 case round=>
  obtain⟨k,hk,rfl,HN,HE⟩:=hrel;have s:Ext w wr:=HE.out;have E:=VP.st _ _ _ _ af s;by_cases O:k<ws.length
  ·by_cases he:ws[k]=[]
   ·have ae:(ws[k].length:Int)=0:=zG;have gK:Hid (z=52):=by
     have:=HZ.out;rw[if_pos ⟨ws[k],bp O,he⟩]at this;grind
    have T:=s;clear he HZ HN;go_upto_region 9 with(fail)
    refine Qk 6 ?_;refine ed.move _ rfl wA (fU 1 rfl E (Ext.rf _) zR) ?_;refine ed.move _ rfl wA oA ?_;refine ed.kf 22 43 _ _ .i64 k rfl bl zR wA oA oA O ?_;refine ed.jM 43 _ rfl wA oA (λ_=>by rfl) ?_;refine ed.rS 43 5 _ rfl bk wA oA ?_;refine ed.Qi _ _ _ _ rfl wA oA (eE _) ae (.g ?_);intro W9 aj;refine ew.any λam W=>?_;refine .e ?_;refine ew.any λal V=>?_;refine ew.any λak U=>?_;refine .e ?_;clear W V U;have T:=T.tr aj;clear E;go_wp2;go_ret;exact eB.mk T (congrArg (bC .i64) gK.out.symm)
   ·have ae:¬(ws[k].length:Int)=0:=λh=>he (List.eq_nil_of_length_eq_zero zO);have IB:Hid (∀(i:Nat) (h:i<ws.length),i<k+1→ws[i]≠[]):=λi h h3=>by
     by_cases e:i=k
     ·grind
     ·exact HN.out i h zO
    have T:=s;clear he HZ HN;go_upto_region 9 with(fail)
    refine Qk 6 ?_;refine ed.move _ rfl wA (fU 1 rfl E (Ext.rf _) zR) ?_;refine ed.move _ rfl wA oA ?_;refine ed.kf 22 43 _ _ .i64 k rfl bl zR wA oA oA O ?_;refine ed.jM 43 _ rfl wA oA (λ_=>by rfl) ?_;refine ed.rS 43 5 _ rfl bk wA oA ?_;refine ed.zQ _ _ _ _ rfl wA oA (eE _) ae (.g ?_);intro W9 aj;refine ew.any λam W=>?_;refine .e ?_;refine ew.any λal V=>?_;refine ew.any λak U=>?_;refine .e ?_;clear W V U;have T:=T.tr aj;have av:Hid (bu w.heap.size w W9):=hide T;clear E ae;go_wp2;exact⟨⟨k+1,by omega,by go_num,IB,av⟩,by grind[bw]⟩
  ·obtain rfl:k=ws.length:=zO;have HZ2:Hid ((if∃w∈ws,32<w.length then(53:Int)else if 600<ws.flatten.length then 54 else if 400<fj d ws then 55 else 0)=z):=by
    have:=HZ.out;rw[if_neg (λ⟨u,hu,e⟩=>by obtain⟨i,hi,rfl⟩:=br.1 hu;exact HN.out i hi hi e)]at this;exact this
   clear HZ HN E;generalize wr=wa at*;go_wp2
   go_loopw [5,7] (λn i wr=>∃k m:Nat,k≤ws.length∧i=iV k∧n=iV m∧m≤2048∧Hid (m=(ws.take k).flatten.length)∧Hid (∀(i:Nat) (h:i<ws.length),i<k→ws[i].length≤32)∧Hid (bu w.heap.size w wr)) (λ_ i _=>ws.length-(bw i).toNat)
   case atStart=>exact⟨0,0,by omega,rfl,rfl,by omega,hide zS,hide (λi _ h=>by omega),HE⟩
   case round=>
    clear HE s;obtain⟨k,m,hk,rfl,rfl,hm,HM,HN,HE⟩:=hrel;have s:Ext w wr:=HE.out;have E:=VP.st _ _ _ _ af s;by_cases O:k<ws.length
    ·by_cases he:32<ws[k].length
     ·have gK:Hid (z=53):=by
       have:=HZ2.out;rw[if_pos ⟨ws[k],bp O,he⟩]at this;grind
      have T:=s;clear HZ2 HN HM;go_upto_region 14 with(fail)
      refine Qk 6 ?_;refine ed.move _ rfl wA (fU 1 rfl E (Ext.rf _) zR) ?_;refine ed.move _ rfl wA oA ?_;refine ed.kf 22 43 _ _ .i64 k rfl bl zR wA oA oA O ?_;refine ed.jM 43 _ rfl wA oA (λ_=>by rfl) ?_;refine ed.rS 43 5 _ rfl bk wA oA ?_;refine ed.KS _ _ _ _ rfl wA oA (eE _) zO (.g ?_);intro aD Y;refine ew.any λai J=>?_;refine .e ?_;refine ew.any λah I=>?_;refine ew.any λag H=>?_;refine .e ?_;clear J I H;have T:=T.tr Y;clear E;go_wp2;go_ret;exact eB.mk T (congrArg (bC .i64) gK.out.symm)
     ·have IB:Hid (∀(i:Nat) (h:i<ws.length),i<k+1→ws[i].length≤32):=λi h h3=>by
       by_cases e:i=k
       ·grind
       ·exact HN.out i h zO
      have Nr:Hid (m+ws[k].length=(ws.take (k+1)).flatten.length):=by show _=_;rw[yK ws k O,←HM.out]
      have aF:m+ws[k].length≤2048:=by
       have:=vG (ws.take (k+1)) λu hu=>by
        obtain⟨i,hi,rfl⟩:=br.1 hu;rw[bx]at hi;rw[List.getElem_take];exact IB.out i zO zO
       rw[←Nr.out,bx]at this;omega
      have T:=s;clear HZ2 HN HM;go_upto_region 14 with(fail)
      refine Qk 6 ?_;refine ed.move _ rfl wA (fU 1 rfl E (Ext.rf _) zR) ?_;refine ed.move _ rfl wA oA ?_;refine ed.kf 22 43 _ _ .i64 k rfl bl zR wA oA oA O ?_;refine ed.jM 43 _ rfl wA oA (λ_=>by rfl) ?_;refine ed.rS 43 5 _ rfl bk wA oA ?_;refine ed.Ei _ _ _ _ rfl wA oA (eE _) zO (.g ?_);intro aD Y;refine ew.any λai J=>?_;refine .e ?_;refine ew.any λah I=>?_;refine ew.any λag H=>?_;refine .e ?_;clear J I H;have E:=VP.st _ _ _ _ E Y;have T:=T.tr Y;clear s;go_upto_region 16 with(fail)
      refine Qk 7 ?_;refine ed.move _ rfl wA oA ?_;refine ed.move _ rfl wA (fU 1 rfl E (Ext.rf _) zR) ?_;refine ed.move _ rfl wA oA ?_;refine ed.kf 22 43 _ _ .i64 k rfl bl zR wA oA oA O ?_;refine ed.jM 43 _ rfl wA oA (λ_=>by rfl) ?_;refine ed.rS 43 5 _ rfl bk wA oA ?_;refine ed.ko _ _ _ _ rfl wA oA oA zO (.g ?_);intro aC ar;refine ew.any λaz ad=>?_;refine .e ?_;refine ew.any λay ab=>?_;refine ew.any λaw aa=>?_;refine .e ?_;clear ad ab aa;have T:=T.tr ar;have av:Hid (bu w.heap.size w aC):=hide T;clear E;go_wp2;grind[bw]
    ·obtain rfl:k=ws.length:=zO;have hM:=HM.out;rw[List.take_length]at hM;have au:Hid ((if 600<ws.flatten.length then(54:Int)else if 400<fj d ws then 55 else 0)=z):=by
      have:=HZ2.out;rw[if_neg (λ⟨u,hu,e⟩=>by obtain⟨i,hi,rfl⟩:=br.1 hu;have:=HN.out i hi hi;omega)]at this;exact this
     clear HZ2 HN HM;by_cases h6:600<m
     ·have gK:Hid (z=54):=by
       grind
      clear au hM E;go_wp2;go_ret;exact eB.mk s (congrArg (bC .i64) gK.out.symm)
     ·have aI:Hid ((if 400<fj d ws then(55:Int)else 0)=z):=by
       grind
      have ao:=IA d ws _ _ E zO;have an:=ot d ws [] 1;change fj d ws≤_ at an;have aE:fj d ws≤601:=zO;clear au hM an E;generalize fj d ws=nd at*;go_wp2_with fail;refine ao.mono ?_;rintro e w2 ⟨u,rfl,aq,rfl⟩;have ap:=s.tr aq;clear ao s aq;by_cases h7:400<nd
      ·have gK:Hid (z=55):=by
        grind
       go_wp2;go_ret;exact eB.mk ap (congrArg (bC .i64) gK.out.symm)
      ·have gK:Hid (z=0):=by
        grind
       go_wp2;go_ret;exact eB.mk ap (congrArg (bC .i64) gK.out.symm)
end
section
theorem Tryz.Eu:(prog.info? 43).map (λi=>(i.zero,i.size,i.bytes))=some (some nS,1,24):=by rfl
theorem yL(d:Bool)(ws s:LL)(k:Nat)(h:k<ws.length):fp d s (ws.drop k)=fp d (if which d ws[k] s<0 then s++[textF d ws[k]]else s) (ws.drop (k+1)):=by
 grind[bn,fp]
theorem iB{P:Program}{E:Func}{t u:Tmp}{s:TypeId}(h:E.results=#[.cell t s,.tmp u])(tmps:AV)(w:bD)(g:Nat)(T:TypeId)(cs:AV)(d:TypeDesc)(O:tmps.getD t undef=gP g)(J:Box w g T cs)(H:P.underlying s=some d)(I:(match d with|.struct _|.array _ _=>true|_=>bz)=true)(hi:(P.info? s).map (·.size)=some cs.size) :
  (results E tmps).run P w=.ok (.tuple #[.agg cs,tmps.getD u undef]) w:=by
 have U:=run_loadVar_row w g T s cs (0,0) d J H I hi;simp_all[Array.getD_eq_getD_getElem?,results,asAddr]
theorem Lb(d:Bool)(bs:L8)(base:Nat)(u v:bF)(w:bD)(s:u=.bool d)(H:eu bs v w)(h:bs.length≤1000000)(E:base≤w.heap.size):bE prog 102 #[u,v] w (eB w (jZ base 5 (textF d bs))):=by
 subst s;exact(B4 d bs v w H h).mono λ_ _ ⟨u,O,J,I⟩=>⟨u,O,J,jZ.low (OwnB.Sx I) E⟩
attribute [local irreducible] ew ed in
theorem Lc(d:Bool)(ws:LL)(v:bF)(w:bD)(hP:eD ws v w):bE prog 58 #[.bool d,v] w (eY w λr w'=>∃sv,r=.tuple #[.agg #[.bool (iF d ws).1,sv],iV (iF d ws).2.2]∧fE w' w.heap.size 43 5 sv (iF d ws).2.1):=by
 have ak:=λW hP=>check_any d ws v W hP;have al:=hP;obtain⟨A,c,rfl,aU,aT,-⟩:=eD.form hP;obtain⟨i0,hi,aI,aH,aG⟩:=info_parts Tryz.Eu;unfold maxLen at aT;clear hP;by_cases hz:fX d ws=0;case neg=>
  have hm:iF d ws=(bz,[],fX d ws):=by unfold iF;grind
  rw[hm];dsimp only;have ba:(fX d ws==0)=false:=zG;clear hm hi aI aH aG;generalize fX d ws=z at*;go_enter func58,ntmps58;go_wp2_with fail;have U:=Box.new w 24 #[.bool bz,nS];refine(ak _ (VP.st _ _ _ _ al (ek _ _))).mono ?_;rintro e V ⟨u,rfl,ae,rfl⟩;have J:=U.ext ae;have I:=(ek w (.cells #[.bool bz,nS] 24)).tr ae;have be:=J.frozen 0;have bd:=J.frozen 1;have hs:=J.eL 0 (.bool bz);have aQ:=hs.eL 1 nS;have aV:=J.at_ 0 rfl;have a9:=J.at_ 1 rfl;have aX:=(I.setCell (p:=⟨w.heap.size,0,none⟩) (bq _) (.bool bz)).setCell (p:=⟨w.heap.size,1,none⟩) (bq _) nS;clear ak U ae I hs al;go_wp2;exact bodyPost_ret (iB results58 _ _ w.heap.size 24 #[.bool bz,nS] _ rfl aQ underlying24 rfl zR) rfl (eY.mk aX ⟨_,rfl,fE.nil _ _ _ _⟩)
 have hm:iF d ws=(d,fp d [] ws,0):=by unfold iF;grind
 rw[hm];dsimp only;obtain⟨q0,q1,q2,q3,q4,-⟩:=nJ hz;have Qr:=hide q3;rw[hz]at ak;clear hm hz q0 q2 q4 q3;go_enter func58,ntmps58;go_wp2_with fail;have U:=Box.new w 24 #[.bool bz,nS];refine(ak _ (VP.st _ _ _ _ al (ek _ _))).mono ?_;rintro e V ⟨u,rfl,ae,rfl⟩;have J:=U.ext ae;have I:=(ek w (.cells #[.bool bz,nS] 24)).tr ae;clear ak U ae;go_wp2;have az:Ext V (V.alloc (.cells #[.bool d,nS] 24)):=ek _ _;have aS:w.heap.size<V.heap.size:=J.lt
 go_loopw [8] (λi wr=>∃(k:Nat) (s:LL) (sv:bF),k≤ws.length∧i=iV k∧s.length≤k∧Hid (fp d s (ws.drop k)=fp d [] ws)∧Hid (∀a∈s,a.length≤32)∧Hid (Box wr V.heap.size 24 #[.bool d,sv])∧Hid (fE wr (V.heap.size+1) 43 5 sv s)∧Hid (Box wr w.heap.size 24 #[.bool bz,nS])∧Hid (bu w.heap.size w wr)) (λi _=>ws.length-(bw i).toNat)
 case atStart=>exact⟨0,[],_,by omega,rfl,by simp,hide rfl,hide (λa h=>by simp at h),Box.new V _ _,fE.nil _ _ _ _,J.ext az,I.tr az⟩
 case round=>
  clear az J I;obtain⟨k,s,sv,hk,rfl,bj,HM,HA,HB,HO,HR,HE⟩:=hrel;have aA:Ext w wr:=HE.out;by_cases aj:k<ws.length
  ·have hP:=VP.st _ _ _ _ al aA;have E:=HB.out;have ay:=fE.parts HO.out;have bb:ws[k].length≤32:=Qr.out _ (bp aj);have ag:=λW (hX:Ext wr W) u (hu:eu ws[k] u W)=>Er d ws[k] s u sv W hu (VP.st _ _ _ _ ay hX) zO (λb U=>by have:=HA.out b U;omega);have T:=yL d ws s k aj;rw[HM.out]at T;obtain⟨x,hx⟩:∃x,which d ws[k] s=x:=⟨_,rfl⟩
   rw[hx]at T ag;have I:=aA;by_cases aJ:x<0
   ·rw[if_pos aJ]at T;go_upto_region 8 with(fail)
    refine vQ 9 ?_;refine ed.move _ rfl wA oA ?_;refine ed.move _ rfl wA (fU 1 rfl hP (eh _) zR) ?_;refine ed.move _ rfl wA oA ?_;refine ed.kf 22 43 _ _ .i64 k rfl bl zR wA oA oA aj ?_;refine ed.jM 43 _ rfl wA oA (λ_=>by rfl) ?_;refine ed.gF (bm 7) wA oA (λρ w I h1=>by simp[bG,h1,go_sem];rfl) ?_;refine ed.gG 22 _ rfl wA oA (λ_=>by rfl) (E.at_ 1 rfl) (eh _) ?_;refine ed.call3 101 _ _ _ _ rfl (enters_of func101 zR rfl) wA oA oA oA (λa b c W hX ha U hc=>by rw[show a=_ from ha,show c=_ from hc];exact ag W ((eh _).tr hX) b U) ?_;refine ed.qw _ _ _ _ rfl wA oA (eE _) zO (.g ?_);intro W8 O;refine ew.any λaF ab=>?_;refine .e ?_;refine ew.any λaE aa=>?_;refine ew.any λaD Y=>?_;refine .e ?_;clear ab aa Y;have hP:=VP.st _ _ _ _ hP ((eh _).tr O);have E:=E.drew.ext O;have I:=I.tr ((eh _).tr O);go_upto_region 9 with(fail)
    refine vQ 9 ?_;refine ed.gF (bm 7) wA oA (λρ w I h1=>by simp[bG,h1,go_sem];rfl) ?_;refine ed.gG 22 _ rfl wA oA (λ_=>by rfl) (E.at_ 1 rfl) (eh _) ?_;refine ed.move _ rfl wA oA ?_;refine ed.move _ rfl wA (fU 1 rfl hP (eh _) zR) ?_;refine ed.move _ rfl wA oA ?_;refine ed.kf 22 43 _ _ .i64 k rfl bl zR wA oA oA aj ?_;refine ed.jM 43 _ rfl wA oA (λ_=>by rfl) ?_;refine ed.call2 102 _ _ _ rfl (enters_of func102 zR rfl) wA oA oA (λa b W hX ha U=>Lb d ws[k] W8.heap.size a b W ha U zO hX.size) ?_;refine ed.lit (Fs:=[_]) [bm 40] 22 43 1 _ rfl rfl zD zD rfl bl zR zR ⟨pC _ _ _,trivial⟩ wA ⟨oA,trivial⟩ (.g ?_);intro W9 aB;refine ew.any λa6 av=>?_;refine .e ?_;refine ew.any λa5 au=>?_;refine ew.any λa4 ar=>?_;refine ew.any λa3 aq=>?_;refine ew.any λa2 ah=>?_;refine .e ?_;clear av au ar aq;have E:=E.drew.ext aB;have I:=I.tr ((eh _).tr aB);obtain⟨xv,ao,am⟩:=Src.one ah;have ad:Ext wr W9:=((eh _).tr O).tr ((eh _).tr aB);obtain⟨xs,af,aN,aM⟩:=fE.st HO.out ad;have am:=jZ.low am (show V.heap.size+1≤W8.heap.size from Nat.le_trans HB.out.lt ((eh wr).tr O).size);have aR:=HR.out.ext ad;have bc:V.heap.size<W9.heap.size:=E.lt;clear ah ad ay ag HB HO;refine eJ rfl _ _ 22 rfl (V.heap.size+1) 43 i0 nS 1 24 bl hi aI aH aG rfl zO sv _ s.length 1 xs [xv] rfl af rfl rfl ao (λy hy=>by grind[List.mem_singleton,jZ.cell1]) zO zO ?_;intro v' w' ai H aW;have aO:sv.ownBlock≠some V.heap.size:=λe=>by have:=fk af _ e;omega
    have ap:sv.ownBlock≠some w.heap.size:=λe=>by have:=fk af _ e;omega
    have aK:=fE.snoc zD af aN aM am ai H;have an:=Box.grows E H aO;have aL:=Box.grows aR H ap;have aP:bu w.heap.size w w':=I.grown H I.size (λj hj=>by have:=fk af j hj;omega);obtain⟨A4,c4,aw⟩:=eI ai;subst aw;have a8:=an.at_ 1 rfl;have a7:=an.frozen 1;have HB:=hide (an.eL 1 (.slice A4 (s.length+1) c4));have HO:=hide (fE.set aK ⟨V.heap.size,1,none⟩ (Nat.lt_succ_self _) (.slice A4 (s.length+1) c4));have HR:=hide (show Box (w'.setCell ⟨V.heap.size,1,none⟩ (.slice A4 (s.length+1) c4)) w.heap.size _ _ from(Below.heap_setCell w' ⟨V.heap.size,1,none⟩ _ w.heap.size zG).trans aL);have HE:=hide (aP.setCell (p:=⟨V.heap.size,1,none⟩) (Nat.le_of_lt aS) (.slice A4 (s.length+1) c4));have a1:Hid (∀a∈s++[textF d ws[k]],a.length≤32):=λa ha=>by
     rcases List.mem_append.1 ha with h|h
     ·exact HA.out a h
     grind[List.mem_singleton,kz]
    have aC:=hide T.symm;clear an aL aP aK ai H aW aO ap af aN aM am ao E hP I T;go_wp2;exact⟨⟨k+1,s++[textF d ws[k]],_,by omega,by go_num,by grind,aC,a1,HB,HO,HR,HE⟩,by grind[bw]⟩
   ·rw[if_neg aJ]at T;go_upto_region 8 with(fail)
    refine vQ 9 ?_;refine ed.move _ rfl wA oA ?_;refine ed.move _ rfl wA (fU 1 rfl hP (eh _) zR) ?_;refine ed.move _ rfl wA oA ?_;refine ed.kf 22 43 _ _ .i64 k rfl bl zR wA oA oA aj ?_;refine ed.jM 43 _ rfl wA oA (λ_=>by rfl) ?_;refine ed.gF (bm 7) wA oA (λρ w I h1=>by simp[bG,h1,go_sem];rfl) ?_;refine ed.gG 22 _ rfl wA oA (λ_=>by rfl) (E.at_ 1 rfl) (eh _) ?_;refine ed.call3 101 _ _ _ _ rfl (enters_of func101 zR rfl) wA oA oA oA (λa b c W hX ha U hc=>by rw[show a=_ from ha,show c=_ from hc];exact ag W ((eh _).tr hX) b U) ?_;refine ed.xT _ _ _ _ rfl wA oA (eE _) zO (.g ?_);intro W8 O;refine ew.any λaF ab=>?_;refine .e ?_;refine ew.any λaE aa=>?_;refine ew.any λaD Y=>?_;refine .e ?_;clear ab aa Y;have E:=E.drew.ext O;have I:=I.tr ((eh _).tr O);have ad:Ext wr W8:=(eh _).tr O;have Bs:=hide (fE.st HO.out ad);have aY:=hide (HR.out.ext ad);have aZ:=hide E;have HE2:Hid (bu w.heap.size w W8):=hide I;have aC:=hide T.symm;clear HB HO HR ad ay ag E hP I T;go_wp2;exact⟨⟨k+1,s,sv,by omega,by go_num,by omega,aC,HA,aZ,Bs,aY,HE2⟩,by grind[bw]⟩
  ·obtain rfl:k=ws.length:=zO;have hm:=HM.out;rw[List.drop_length]at hm;have Hm:=hide (show fp d [] ws=s from hm.symm);clear HM hm;obtain⟨A4,c4,aw⟩:=fE.form HO.out;subst aw;have U:=HB.out;have hr:=HR.out;have aV:=U.at_ 0 rfl;have aU:=U.at_ 1 rfl;have bi:=hr.at_ 0 rfl;have bh:=hr.at_ 1 rfl;have bg:=hr.frozen 0;have bf:=hr.frozen 1;have HS:=hide ((hr.eL 0 (.bool d)).eL 1 (.slice A4 s.length c4));have HE2:=hide ((aA.setCell (p:=⟨w.heap.size,0,none⟩) (bq _) (.bool d)).setCell (p:=⟨w.heap.size,1,none⟩) (bq _) (.slice A4 s.length c4));have Bs:=hide (fE.set (fE.set HO.out ⟨w.heap.size,0,none⟩ zG (.bool d)) ⟨w.heap.size,1,none⟩ zG (.slice A4 s.length c4));clear HO HB HR U hr al;go_wp2;refine bodyPost_ret (iB results58 _ _ w.heap.size 24 #[.bool d,.slice A4 s.length c4] _ rfl HS.out underlying24 rfl zR) rfl (eY.mk HE2.out ⟨_,rfl,?_⟩);rw[Hm.out];exact fE.low Bs.out zO
end
section
theorem Ad(f:Bool)(ws:LL)(u:bF)(w:bD)(J:jj f ws u w):bE prog 27 #[u] w (eB w (Ep ws)):=by
 obtain⟨I,rfl,d⟩:=J;have H:=λW d=>Iz ws I W d;have h:=d;obtain⟨A,c,rfl,-⟩:=eD.form d;clear d;go_enter func27,ntmps27;go_wp2_with fail;refine(H _ (VP.st _ _ _ _ h (ek _ _))).mono ?_;rintro e T ⟨u,rfl,s,E⟩;clear H;have O:=hide E;clear E;go_wp2;go_ret;exact eB.mk ((ek _ _).tr s) O.out
attribute [local irreducible] ew ed in
theorem B6(fa fb:Bool)(xs E:LL)(u v:bF)(w:bD)(hA:jj fa xs u w)(hB:jj fb E v w):bE prog 59 #[u,v] w (eB w (eC (.bool (decide (fa=fb∧xs=E))))):=by
 obtain⟨sa,rfl,hP⟩:=hA;obtain⟨sb,rfl,hR⟩:=hB;have ae:=hP;have ad:=hR;obtain⟨A,c,rfl,aB,ap,-⟩:=eD.form hP;obtain⟨B,d,rfl,aA,ao,-⟩:=eD.form hR;unfold maxLen at ap ao;clear hP hR;obtain⟨z,hz⟩:∃z,decide (fa=fb∧xs=E)=z:=⟨_,rfl⟩
 rw[hz];have hX:Ext w ((w.alloc (.cells #[.bool fa,.slice A xs.length c] 24)).alloc (.cells #[.bool fb,.slice B E.length d] 24)):=(ek _ _).tr (ek _ _);have s:=(Box.new w 24 #[.bool fa,.slice A xs.length c]).alloc (.cells #[.bool fb,.slice B E.length d] 24);have h:=Box.new (w.alloc (.cells #[.bool fa,.slice A xs.length c] 24)) 24 #[.bool fb,.slice B E.length d];rw[World.size_alloc]at h;have HX:=hide hX;have ag:=hide s;have af:=hide h;clear hX s h;by_cases hf:fa=fb;case neg=>
  obtain rfl:z=false:=zG;have az:(fa==fb)=false:=zG;clear hz hf ae ad ag af;go_enter func59,ntmps59;go_wp2;go_ret;exact eB.mk HX.out rfl
 subst hf;by_cases hl:xs.length=E.length;case neg=>
  obtain rfl:z=false:=zG;have ay:((xs.length:Int)==(E.length:Int))=false:=zG;clear hz hl ae ad ag af;go_enter func59,ntmps59;go_wp2;go_ret;exact eB.mk HX.out rfl
 have Hz:Hid (decide (xs=E)=z):=by show _=_;grind
 have Hl:=hide hl;have aw:(xs.length:Int)=(E.length:Int):=zO;clear hz hl;go_enter func59,ntmps59;go_wp2
 go_loopw [5] (λi wr=>∃k:Nat,k≤xs.length∧i=iV k∧Hid (∀(i:Nat) (W:i<xs.length) (h2:i<E.length),i<k→xs[i]=E[i])∧Hid (bu w.heap.size w wr)∧Hid (Box wr w.heap.size 24 #[.bool fa,.slice A xs.length c])∧Hid (Box wr (w.heap.size+1) 24 #[.bool fa,.slice B E.length d])) (λi _=>xs.length-(bw i).toNat)
 case atStart=>grind[hide]
 case round=>
  clear HX ag af;obtain⟨k,hk,rfl,HS,HE,HA,HB⟩:=hrel;have V:Ext w wr:=HE.out;have s:=HA.out;have h:=HB.out;have an:=s.at_ 1 rfl;by_cases am:k<xs.length
  ·have aa:k<E.length:=zO;have hP:=VP.st _ _ _ _ ae V;have hR:=VP.st _ _ _ _ ad V;clear HA HB;by_cases he:xs[k]=E[k]
   ·have aq:Hid (∀(i:Nat) (W:i<xs.length) (h2:i<E.length),i<k+1→xs[i]=E[i]):=λi W h2 h3=>by
     by_cases e:i=k
     ·grind
     ·exact HS.out i W h2 zO
    have hs:(⟨xs[k].toArray⟩:ByteArray)=⟨E[k].toArray⟩:=by rw[he]
    clear HS he;go_upto_region 6 with(fail)
    refine vQ 13 ?_;refine ed.gF (bm 2) wA oA (λρ w V W=>by simp[bG,W,go_sem];rfl) ?_;refine ed.jQ (F:=eD xs) 22 _ rfl wA oA (λ_=>by rfl) (s.at_ 1 rfl) hP (eh _) ?_;refine ed.move _ rfl wA oA ?_;refine ed.kf 22 43 _ _ .i64 k rfl bl zR wA oA oA am ?_;refine ed.jM 43 _ rfl wA oA (λ_=>by rfl) ?_;refine ed.string 43 9 5 _ rfl bk bA bB wA oA ?_;refine ed.gF (bm 3) wA oA (λρ w V W=>by simp[bG,W,go_sem];rfl) ?_;refine ed.jQ (F:=eD E) 22 _ rfl wA oA (λ_=>by rfl) (h.at_ 1 rfl) hR (eh _) ?_;refine ed.move _ rfl wA oA ?_;refine ed.kf 22 43 _ _ .i64 k rfl bl zR wA oA oA aa ?_;refine ed.jM 43 _ rfl wA oA (λ_=>by rfl) ?_;refine ed.string 43 9 5 _ rfl bk bA bB wA oA ?_;refine ed.Ub _ _ _ _ rfl wA oA oA hs (.g ?_);intro W6 Y;refine ew.any λal U=>?_;refine .e ?_;refine ew.any λak T=>?_;refine ew.any λaj O=>?_;refine .e ?_;refine ew.any λai J=>?_;refine .e ?_;refine ew.any λah I=>?_;refine ew.any λab H=>?_;refine .e ?_;clear U T O J I H;have s:=s.drew.ext Y;have h:=h.drew.ext Y;have V:=V.tr ((eh _).tr Y);have ar:Hid (bu w.heap.size w W6):=hide V;have av:=hide s;have au:=hide h;clear s h an V hP hR hs;go_wp2;exact⟨⟨k+1,by omega,by go_num,aq,ar,av,au⟩,by grind[bw]⟩
   ·have hs:xs[k]≠E[k]:=he;have gK:Hid (z=bz):=by show _=_;rw[←Hz.out];grind
    clear HS he;go_upto_region 6 with(fail)
    refine vQ 13 ?_;refine ed.gF (bm 2) wA oA (λρ w V W=>by simp[bG,W,go_sem];rfl) ?_;refine ed.jQ (F:=eD xs) 22 _ rfl wA oA (λ_=>by rfl) (s.at_ 1 rfl) hP (eh _) ?_;refine ed.move _ rfl wA oA ?_;refine ed.kf 22 43 _ _ .i64 k rfl bl zR wA oA oA am ?_;refine ed.jM 43 _ rfl wA oA (λ_=>by rfl) ?_;refine ed.string 43 9 5 _ rfl bk bA bB wA oA ?_;refine ed.gF (bm 3) wA oA (λρ w V W=>by simp[bG,W,go_sem];rfl) ?_;refine ed.jQ (F:=eD E) 22 _ rfl wA oA (λ_=>by rfl) (h.at_ 1 rfl) hR (eh _) ?_;refine ed.move _ rfl wA oA ?_;refine ed.kf 22 43 _ _ .i64 k rfl bl zR wA oA oA aa ?_;refine ed.jM 43 _ rfl wA oA (λ_=>by rfl) ?_;refine ed.string 43 9 5 _ rfl bk bA bB wA oA ?_;refine ed.Sw _ _ _ _ rfl wA oA oA hs (.g ?_);intro W6 Y;refine ew.any λal U=>?_;refine .e ?_;refine ew.any λak T=>?_;refine ew.any λaj O=>?_;refine .e ?_;refine ew.any λai J=>?_;refine .e ?_;refine ew.any λah I=>?_;refine ew.any λab H=>?_;refine .e ?_;clear U T O J I H;have V:=V.tr ((eh _).tr Y);clear s h an hP hR hs;go_wp2;go_ret;exact eB.mk V (congrArg bH gK.out.symm)
  ·obtain rfl:k=xs.length:=zO;have gK:Hid (z=true):=by
    show _=_;rw[←Hz.out];exact decide_eq_true (List.ext_getElem Hl.out λi W h2=>HS.out i W h2 W)
   clear HS HA HB s h;go_wp2;go_ret;exact eB.mk V (congrArg bH gK.out.symm)
theorem Af(f:Bool)(ws:LL)(u:bF)(w:bD)(hS:jj f ws u w):bE prog 28 #[u] w (eB w (eC (.bool (eS f ws)))):=by
 obtain⟨sl,rfl,T⟩:=hS;have O:=λW T=>Lc f ws sl W T;have h:=T;obtain⟨A,c,rfl,-⟩:=eD.form T;clear T;obtain⟨z,hz⟩:∃z,eS f ws=z:=⟨_,rfl⟩
 have Hz:=hide hz;rw[hz];clear hz;have hb:=Box.new w 24 #[.bool f,.slice A ws.length c];go_enter func28,ntmps28;go_wp2_with fail;refine(O _ (VP.st _ _ _ _ h (ek _ _))).mono ?_;rintro e V ⟨u,rfl,I,sv,rfl,hO⟩;have E:=hb.ext I;have U:=(ek w (.cells #[.bool f,.slice A ws.length c] 24)).tr I;clear O hb I;obtain⟨A4,c4,aa⟩:=fE.form hO;subst aa;have d:=fE.parts hO;clear hO;by_cases hc:fX f ws=0
 ·have Y:iF f ws=(f,fp f [] ws,0):=by unfold iF;grind
  have Qs:Hid (decide (f=f∧fp f [] ws=ws)=z):=by grind[eS]
  rw[Y]at d ⊢;dsimp only at*;clear Y hc Hz;generalize fp f [] ws=ms at*;have H:Ext V (V.alloc (.cells #[.bool f,.slice A4 ms.length c4] 24)):=ek _ _;have J:=B6 f f ms ws _ _ (V.alloc (.cells #[.bool f,.slice A4 ms.length c4] 24)) ⟨_,rfl,VP.st _ _ _ _ d H⟩ ⟨_,rfl,VP.st _ _ _ _ h (U.tr H)⟩;have s:=E.ext H;have ad:=s.at_ 0 rfl;have ab:=s.at_ 1 rfl;have ae:=U.tr H;clear d E s H U h;go_wp2_with fail;refine J.mono ?_;rintro e w3 ⟨u,rfl,af,rfl⟩;clear J ad ab;rw[Qs.out];go_wp2;go_ret;exact eB.mk (ae.tr af) rfl
 ·have Y:iF f ws=(bz,[],fX f ws):=by unfold iF;grind
  have Qs:Hid (z=bz):=by grind[eS,decide_eq_false]
  rw[Y];dsimp only;have ag:(fX f ws==0)=false:=zG;have H:Ext w (V.alloc (.cells #[.bool bz,.slice A4 0 c4] 24)):=U.tr (ek _ _);clear hc Hz d E U h;generalize fX f ws=q at*;go_wp2;go_ret;exact eB.mk H (congrArg bH Qs.out.symm)
end
end Go.Proofs.YtofgfpffcegioaaGreat
