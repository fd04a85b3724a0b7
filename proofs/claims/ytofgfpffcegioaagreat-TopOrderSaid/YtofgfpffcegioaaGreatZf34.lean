/- A part of the proof. -/
import Derived.Test.YtofgfpffcegioaaGreatZf11
import Derived.Test.YtofgfpffcegioaaGreatZf23
import Derived.Test.YtofgfpffcegioaaGreatZf33
set_option maxRecDepth 100000
set_option maxHeartbeats 8000000
namespace Go.Proofs.YtofgfpffcegioaaGreat
open Go.RowKit iT jH Go.Proofs.Tryz
open Bool renaming true → aP,false → aQ
open Go.Ending renaming returned → aR
open Option renaming none → aT
open UInt8 renaming toNat_lt → aS
def fZ(c:Nat):Bool:=decide (97≤c)&&decide (c≤122)
theorem CD(c:UInt8)(w:World):Calls prog 232 #[.int .u8 (c.toNat:Int)] w (λe d=>e=.returned (.bool (fZ c.toNat))∧d=w):=by
 have h:=aS c;unfold fZ;generalize c.toNat=x at*;go_enter func232,ntmps232;by_cases E:(97:Int)≤x
 ·by_cases s:(x:Int)≤122
  ·go_wp2;go_ret;exact⟨congrArg (λb=>aR (.bool b)) zG,rfl⟩
  ·go_wp2;go_ret;exact⟨congrArg (λb=>aR (.bool b)) zG,rfl⟩
 ·go_wp2;go_ret;exact⟨congrArg (λb=>aR (.bool b)) zG,rfl⟩
theorem CE(c:UInt8)(h:fZ c.toNat=aP)(w:World):Calls prog 234 #[.int .u8 (c.toNat:Int)] w (λe d=>e=.returned (.int .u8 ((c.toNat-32:Nat):Int))∧d=w):=by
 have s:=aS c;unfold fZ at h;simp only[Bool.and_eq_true,decide_eq_true_eq]at h;have e:((c.toNat-32:Nat):Int)=(c.toNat:Int)-32:=zO;rw[e];generalize c.toNat=x at*;go_enter func234,ntmps234;go_wp2;go_ret;simp_all
theorem ET(c:UInt8)(w:World):Calls prog 232 #[.int .u8 (c.toNat:Int)] w (eB w (eC (.bool (fZ c.toNat)))):=(CD c w).mono λ_ _ ⟨h,d⟩=>by subst h;subst d;exact eB.mk (Ext.rf _) rfl
theorem EU(c:UInt8)(h:fZ c.toNat=aP)(w:World):Calls prog 234 #[.int .u8 (c.toNat:Int)] w (eB w (eC (.int .u8 ((c.toNat-32:Nat):Int)))):=(CE c h w).mono λ_ _ ⟨s,d⟩=>by subst s;subst d;exact eB.mk (Ext.rf _) rfl
def hasB(d:Bool)(bs:L8)(i:Nat):Bool:=bs.any λc=>i==c.toNat||(d&&fZ c.toNat&&i==c.toNat-32)
theorem yY(d:Bool)(bs:L8)(c:UInt8)(i:Nat):hasB d (bs++[c]) i=(hasB d bs i||(i==c.toNat||(d&&fZ c.toNat&&i==c.toNat-32))):=by simp[hasB]
def jm(h:Nat→Bool):AV:=arr 256 λi=>.bool (h i)
theorem sA(h:Nat→Bool)(i:Nat)(b:Bool):(jm h).setIfInBounds i (.bool b)=jm λj=>if j=i then b else h j:=by
 simp_all[jm,nq]
theorem nY(h:Nat→Bool):(jm h).size=256:=iJ _ _
theorem nZ(h:Nat→Bool){i:Nat}(hi:i<256):(jm h)[i]?=some (.bool (h i)):=fw hi
theorem wE{h g:Nat→Bool}(e:∀i,h i=g i):jm h=jm g:=by rw[show h=g from funext e]
theorem I9{d:Bool}{pre:L8}{c:UInt8}(h:(d&&fZ c.toNat)=aQ):(jm (hasB d pre)).setIfInBounds c.toNat (.bool aP)=jm (hasB d (pre++[c])):=by
 rw[sA];refine wE λi=>?_;rw[yY,h,Bool.false_and,Bool.or_false];grind
theorem Ja{d:Bool}{pre:L8}{c:UInt8}(h:(d&&fZ c.toNat)=aP):((jm (hasB d pre)).setIfInBounds c.toNat (.bool aP)).setIfInBounds (c.toNat-32) (.bool aP)=jm (hasB d (pre++[c])):=by
 rw[sA,sA];refine wE λi=>?_;rw[yY,h,Bool.true_and];grind
theorem SL:(prog.info? 367).bind (·.zero)=some (.agg (jm λ_=>aQ)):=by kernel_rfl
theorem Ol(f:Bool)(ws:LL)(u:Value)(w:World)(hS:jj f ws u w):Calls prog 231 #[u] w (eB w (eC (.agg (jm (hasB f ws.flatten))))):=by
 obtain⟨sl,rfl,hP⟩:=hS;obtain⟨A,c,rfl,aM,av,hx⟩:=eD.form hP;unfold maxLen at av;clear hP;have al:=Box.new w 24 #[.bool f,.slice A ws.length c];go_enter func231,ntmps231;go_wp2_with(refine qL rfl 367 rfl _ SL ?_)
 have aa:=Box.new ((w.alloc (.cells #[.bool f,.slice A ws.length c] 24)).alloc (.cells (jm λ_=>aQ) 367)) 367 (jm λ_=>aQ);have ab:=(Box.new (w.alloc (.cells #[.bool f,.slice A ws.length c] 24)) 367 (jm λ_=>aQ)).alloc (.cells (jm λ_=>aQ) 367);have ad:=(al.alloc (.cells (jm λ_=>aQ) 367)).alloc (.cells (jm λ_=>aQ) 367);have hX:Below w.heap.size w (((w.alloc (.cells #[.bool f,.slice A ws.length c] 24)).alloc (.cells (jm λ_=>aQ) 367)).alloc (.cells (jm λ_=>aQ) 367)):=((ek _ _).tr (ek _ _)).tr (ek _ _);simp only[World.size_alloc]at aa ab ad;generalize((w.alloc (.cells #[.bool f,.slice A ws.length c] 24)).alloc (.cells (jm λ_=>aQ) 367)).alloc (.cells (jm λ_=>aQ) 367)=W0 at*;have LW:=hide ad;have HG2:=hide ab;have Aq:Hid (Box W0 (w.heap.size+1+1) 367 (jm (hasB f (ws.take 0).flatten))):=aa;have HX:=hide hX;clear al ad ab aa hX
 go_loopw [5,7,11] (λ_ _ i wr=>∃k:Nat,k≤ws.length∧i=iV k∧Hid (Below w.heap.size w wr)∧Hid (Box wr w.heap.size 24 #[.bool f,.slice A ws.length c])∧Hid (Box wr (w.heap.size+1) 367 (jm λ_=>aQ))∧Hid (Box wr (w.heap.size+1+1) 367 (jm (hasB f (ws.take k).flatten)))) (λ_ _ i _=>ws.length-(intOf i).toNat)
 case atStart=>grind
 case round=>
  clear HX LW HG2 Aq;obtain⟨k,hk,rfl,HX,LW,HG2,Aq⟩:=hrel;have hE:Ext w wr:=HX.out;by_cases ai:k<ws.length
  ·obtain⟨b,af,rfl,aw,V⟩:=hx zO;obtain⟨z,hz,ag⟩:=V k ai;have ao:=(hE.cell (p:=⟨b,af+k,aT⟩) aw).trans hz;obtain⟨A2,c2,rfl,aI,au,hy⟩:=eu.form ag;unfold maxLen at au;have DW:Hid ((ws.take (k+1)).flatten=(ws.take k).flatten++ws[k]):=vO ws k ai;clear V hx hz ag;generalize ap:ws[k]=E at*;have an:Hid (Box wr (w.heap.size+1+1) 367 (jm (hasB f ((ws.take k).flatten++E.take 0)))):=zG;clear ap Aq;go_wp2
   go_loopw [7,17] (λ_ i wq=>∃j:Nat,j≤E.length∧i=iV j∧Hid (Below w.heap.size w wq)∧Hid (Box wq w.heap.size 24 #[.bool f,.slice (some ⟨b,af,aT⟩) ws.length c])∧Hid (Box wq (w.heap.size+1) 367 (jm λ_=>aQ))∧Hid (Box wq (w.heap.size+1+1) 367 (jm (hasB f ((ws.take k).flatten++E.take j))))) (λ_ i _=>E.length-(intOf i).toNat)
   case atStart=>grind
   case round=>
    clear HX LW HG2 an hE ao;obtain⟨j,hj,rfl,HX,LW,HG2,Aq⟩:=hrel;have hE:Ext w wr:=HX.out;by_cases I:j<E.length
    ·obtain⟨b2,ae,rfl,aj,J⟩:=hy zO;have aE:=(hE.cell (p:=⟨b2,ae+j,aT⟩) aj).trans (J j I);have aN:Hid (E.take (j+1)=E.take j++[E[j]]):=List.take_succ_eq_append_getElem I;have aG:=LW.out.at_ 0 rfl;have s:=λW=>ET E[j] W;have U:∀_:fZ (E[j]'I).toNat=aP,∀W,_:=λh W=>EU (E[j]'I) h W;clear J hy;generalize E[j]=d at*;have aJ:=aS d;have aD:(d.toNat:Int)<256:=zO;have aC:((d.toNat:Int).toNat:Nat)=d.toNat:=zO;have ah:=(Aq.out.cell d.toNat).trans (nZ _ zO);have ar:=Aq.out.frozen d.toNat;have Hq:Hid (Below w.heap.size w (wr.setCell ⟨w.heap.size+1+1,d.toNat,aT⟩ (.bool aP))):=hide (Below.setCell hE (p:=⟨w.heap.size+1+1,d.toNat,aT⟩) zG _);have SM:=hide (LW.out.far (p:=⟨w.heap.size+1+1,d.toNat,aT⟩) zG (.bool aP));have TT:=hide (HG2.out.far (p:=⟨w.heap.size+1+1,d.toNat,aT⟩) zS (.bool aP));have Qr:=hide (Aq.out.eL d.toNat (.bool aP));have aq:=SM.out.at_ 0 rfl;have lB:Hid ((ws.take k).flatten++E.take (j+1)=((ws.take k).flatten++E.take j)++[d]):=by simp_all
     by_cases hf:(f&&fZ d.toNat)=aP
     ·obtain⟨rfl,O⟩:f=aP∧fZ d.toNat=true:=zG;have s:=s (wr.setCell ⟨w.heap.size+1+1,d.toNat,aT⟩ (.bool aP));have U:=U O;rw[O]at s;have Hf:=hide hf;have aB:=of_decide_eq_true (by grind[fZ]:decide (97≤d.toNat∧d.toNat≤122)=aP);have aL:(((d.toNat-32:Nat):Int).toNat:Nat)=d.toNat-32:=zO;have aK:((d.toNat-32:Nat):Int)<256:=zO;clear HX LW HG2 Aq hE hf O;go_wp2_with fail;refine s.mono ?_;rintro _ w2 ⟨u,rfl,H,rfl⟩;clear s ah ar;go_wp2_with fail;refine(U w2).mono ?_;rintro _ w3 ⟨u,rfl,am,rfl⟩;clear U;have Y:=H.tr am;have T:=Qr.out.ext Y;have aF:w3.cell? ⟨w.heap.size+1+1,d.toNat-32,aT⟩=some _:=(T.cell (d.toNat-32)).trans (by rw[sA];exact nZ _ zO);have aH:=T.frozen (d.toNat-32);have Hn:Hid (Box (w3.setCell ⟨w.heap.size+1+1,d.toNat-32,aT⟩ (.bool aP)) (w.heap.size+1+1) 367 (jm (hasB aP ((ws.take k).flatten++E.take (j+1))))):=by
       have h:=T.eL (d.toNat-32) (.bool aP)
       rwa [Ja Hf.out,←lB.out]at h
      have Hm:Hid (Below w.heap.size w (w3.setCell ⟨w.heap.size+1+1,d.toNat-32,aT⟩ (.bool aP))):=hide (Below.setCell (Ext.tr Hq.out Y) (p:=⟨w.heap.size+1+1,d.toNat-32,aT⟩) zT _);have aA:=hide ((SM.out.ext Y).far (p:=⟨w.heap.size+1+1,d.toNat-32,aT⟩) zT (.bool aP));have az:=hide ((TT.out.ext Y).far (p:=⟨w.heap.size+1+1,d.toNat-32,aT⟩) zS (.bool aP));clear H am Y T Hq SM TT Qr aq Hf lB;generalize((d.toNat-32:Nat):Int)=ci at*;go_wp2;grind[intOf]
     ·have hf:(f&&fZ d.toNat)=false:=zG;have Hn:Hid (Box (wr.setCell ⟨w.heap.size+1+1,d.toNat,aT⟩ (.bool aP)) (w.heap.size+1+1) 367 (jm (hasB f ((ws.take k).flatten++E.take (j+1))))):=by
       have h:=Qr.out
       rwa [I9 hf,←lB.out]at h
      clear HX LW HG2 Aq hE lB;cases f
      ·clear hf;go_wp2_with fail;grind[intOf]
      ·have O:fZ d.toNat=false:=zG;have s:=s (wr.setCell ⟨w.heap.size+1+1,d.toNat,aT⟩ (.bool aP));rw[O]at s;clear hf O U;go_wp2_with fail;refine s.mono ?_;rintro _ w2 ⟨u,rfl,H,rfl⟩;have Hm:=hide (Ext.tr Hq.out H);have aA:=hide (SM.out.ext H);have az:=hide (TT.out.ext H);have aO:=hide (Hn.out.ext H);clear s;go_wp2;grind[intOf]
    ·obtain rfl:j=E.length:=zO;have Hn:Hid (Box wr (w.heap.size+1+1) 367 (jm (hasB f (ws.take (k+1)).flatten))):=by
      have h:=Aq.out
      rwa [List.take_length,←DW.out]at h
     clear Aq hE;go_wp2_with fail;grind[intOf]
  ·obtain rfl:k=ws.length:=zO;have Hn:Hid (Box wr (w.heap.size+1+1) 367 (jm (hasB f ws.flatten))):=by
    grind
   clear Aq;have T:=Hn.out;have ak:=HG2.out;go_wp2_with(first|(refine o9 rfl 367 _ rfl (w.heap.size+1+1) rfl _ T underlying367 rfl (by rw[nY];rfl) ?_)|(refine wpList_store_row rfl 367 _ _ rfl (w.heap.size+1) (jm (hasB f ws.flatten)) rfl rfl 367 (jm λ_=>aQ) ak (by rw[nY];rfl) (by grind[nY]) (nt λ_ _=>rfl) ?_))
   have ay:Box (wr.setRow (w.heap.size+1) (jm (hasB f ws.flatten))) (w.heap.size+1) 367 (jm (hasB f ws.flatten)):=ak.gR;refine bodyPost_ret (results_cell_row results231 _ _ (w.heap.size+1) 367 _ (0,0) _ rfl ay underlying367 rfl (by rw[nY];rfl)) rfl ?_;exact eB.mk (below_setRow hE zO _) rfl
end Go.Proofs.YtofgfpffcegioaaGreat
