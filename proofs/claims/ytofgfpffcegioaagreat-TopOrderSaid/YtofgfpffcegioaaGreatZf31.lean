/- A part of the proof. -/
import Derived.Test.YtofgfpffcegioaaGreatZf05
import Derived.Test.YtofgfpffcegioaaGreatZf30
set_option maxRecDepth 100000
set_option maxHeartbeats 8000000
namespace Go.Proofs.YtofgfpffcegioaaGreat
open Go.RowKit Go.Shelf Go.Sort iT jH fq Go.Proofs.Tryz
open _root_.Go renaming Value → aD,Calls → aE
open Go.Proofs.Tryz renaming ntmps221 → ay,func221 → aC
open List renaming length_pos_iff → al,getD_eq_getElem?_getD → an,take_succ_eq_append_getElem → ao,getElem?_eq_getElem → aq,getElem_cons_succ → av,take_succ_cons → az
open Option renaming getD_some → ar,none → au,some → aw,isSome_none → aA,isSome_some → aB
theorem I3{l:List Nat}{k:Nat}(s:1≤k)(h:k<l.length):minL (l.take (k+1))=min (minL (l.take k)) (l.getD k 0):=by
 rw[ao h,an,aq h];cases l with
 |nil=>simp at h
 |cons x l=>
  obtain⟨j,rfl⟩:∃j,k=j+1:=⟨k-1,by omega⟩
  simp only[az,List.cons_append,av,ar];have d:j<l.length:=zG;show(List.take j l++[l[j]'d]).foldl min x=_;rw[List.foldl_append];rfl
theorem yX(l:List Nat)(hl:l≠[])(v:aD)(w:World)(hv:eT l v w)(hn:l.length≤1000000):aE prog 265 #[v] w (eB w (eC (iV (minL l:Int)))):=by
 obtain⟨A,c,rfl,ab,aa,hx⟩:=eT.form hv;have T:=al.2 hl;obtain⟨b,V,rfl,ad,d⟩:=hx T;obtain⟨n,J⟩:∃n,l.length=n:=⟨_,rfl⟩
 have h0:=d 0 T;rw[Nat.add_zero]at h0;have H:=hide (λk (h1:1≤k) (h:k<n)=>I3 (l:=l) h1 zO);have gV:=hide (λj (hj:j<n)=>d j zO);have s:=hide (show minL (l.take n)=minL l by grind);have I:=hide (show minL (l.take 1)=l.getD 0 0 by
  cases l with
  |nil=>rfl
  |cons x l=>rfl)
 rw[J]at T hn ⊢;have ae:¬(n:Int)<1:=zO;have ag:0<n:=T;clear hv hx d hl J ab aa;go_enter func265,ntmps265;go_wp2_with fail
 go_loopw [3,4] (λm i wr=>∃(k:Nat),1≤k∧k≤n∧i=iV k∧m=iV ((minL (l.take k):Nat):Int)∧Hid (Ext w wr)) (λ_ i _=>n-(intOf i).toNat)
 case atStart=>exact⟨1,Nat.le_refl _,by omega,rfl,by rw[I.out,an],Ext.rf _⟩
 case round=>
  obtain⟨k,Y,hk,rfl,rfl,U⟩:=hrel;by_cases E:k<n
  ·have O:(k:Int)<(n:Int):=zO;have af:=(U.out.cell (p:=⟨b,V+k,au⟩) ad).trans (gV.out k E);have hs:=hide (H.out k Y E);generalize minL (l.take k)=m0 at*;generalize l.getD k 0=y at*;go_wp2_with fail;exact⟨⟨k+1,by omega,by omega,rfl,by rw[hs.out];grind,U⟩,show n-(k+1)<n-k by omega⟩
  ·have O:¬(k:Int)<(n:Int):=zO;have W:k=n:=zO;subst W;rw[s.out];have hf:=U.out;clear E U H gV s;go_wp2_with fail;go_ret;exact eB.mk hf rfl
theorem I4{l:List Nat}{k:Nat}(s:1≤k)(h:k<l.length):maxL (l.take (k+1))=max (maxL (l.take k)) (l.getD k 0):=by
 rw[ao h,an,aq h];cases l with
 |nil=>simp at h
 |cons x l=>
  obtain⟨j,rfl⟩:∃j,k=j+1:=⟨k-1,by omega⟩
  simp only[az,List.cons_append,av,ar];have d:j<l.length:=zG;show(List.take j l++[l[j]'d]).foldl max x=_;rw[List.foldl_append];rfl
theorem I5(l:List Nat)(hl:l≠[])(v:aD)(w:World)(hv:eT l v w)(hn:l.length≤1000000):aE prog 266 #[v] w (eB w (eC (iV (maxL l:Int)))):=by
 obtain⟨A,c,rfl,ab,aa,hx⟩:=eT.form hv;have T:=al.2 hl;obtain⟨b,V,rfl,ad,d⟩:=hx T;obtain⟨n,J⟩:∃n,l.length=n:=⟨_,rfl⟩
 have h0:=d 0 T;rw[Nat.add_zero]at h0;have H:=hide (λk (h1:1≤k) (h:k<n)=>I4 (l:=l) h1 zO);have gV:=hide (λj (hj:j<n)=>d j zO);have s:=hide (show maxL (l.take n)=maxL l by grind);have I:=hide (show maxL (l.take 1)=l.getD 0 0 by
  cases l with
  |nil=>rfl
  |cons x l=>rfl)
 rw[J]at T hn ⊢;have ae:¬(n:Int)<1:=zO;have ag:0<n:=T;clear hv hx d hl J ab aa;go_enter func266,ntmps266;go_wp2_with fail
 go_loopw [3,4] (λm i wr=>∃(k:Nat),1≤k∧k≤n∧i=iV k∧m=iV ((maxL (l.take k):Nat):Int)∧Hid (Ext w wr)) (λ_ i _=>n-(intOf i).toNat)
 case atStart=>exact⟨1,Nat.le_refl _,by omega,rfl,by rw[I.out,an],Ext.rf _⟩
 case round=>
  obtain⟨k,Y,hk,rfl,rfl,U⟩:=hrel;by_cases E:k<n
  ·have O:(k:Int)<(n:Int):=zO;have af:=(U.out.cell (p:=⟨b,V+k,au⟩) ad).trans (gV.out k E);have hs:=hide (H.out k Y E);generalize maxL (l.take k)=m0 at*;generalize l.getD k 0=y at*;go_wp2_with fail;exact⟨⟨k+1,by omega,by omega,rfl,by rw[hs.out];grind,U⟩,show n-(k+1)<n-k by omega⟩
  ·have O:¬(k:Int)<(n:Int):=zO;have W:k=n:=zO;subst W;rw[s.out];have hf:=U.out;clear E U H gV s;go_wp2_with fail;go_ret;exact eB.mk hf rfl
def tY(p:Pn):AV:=#[.int .u8 (p.kind:Int),.int .u32 (p.seed:Int),iV p.last]
theorem EP(last:Int){l:List Nat}{k:Nat}(h:k<l.length):(l.take (k+1)).foldl (fT last) au=fT last ((l.take k).foldl (fT last) au) (l.getD k 0):=by
 grind[ao,aq]
section
variable {w:World} {g:Nat} {p:Pn}
theorem ER(hb:Box w g 353 (tY p))(l:List Nat)(hl:l≠[])(v:aD)(hv:eT l v w)(hn:l.length≤1000000):aE prog 267 #[gP g,v] w (eB w (eC (iV (ji p.last l:Int)))):=by
 have hM:=hide (yX l hl v w hv hn);obtain⟨A,c,rfl,ag,af,hx⟩:=eT.form hv;have hp:=al.2 hl;obtain⟨b,aa,rfl,ah,E⟩:=hx hp;obtain⟨n,T⟩:∃n,l.length=n:=⟨_,rfl⟩
 obtain⟨d,V⟩:∃d,d=p.last:=⟨_,rfl⟩
 have H:w.cell? ⟨g,2,au⟩=aw (iV d):=by rw[V];exact hb.at_ 2 rfl
 have ae:=hb.lt;have O:=hide (λk (h:k<n)=>EP d (l:=l) (k:=k) zO);have gV:=hide (λj (hj:j<n)=>E j zO);have s:=hide (show ji d l=match(l.take n).foldl (fT d) au with|some n=>n|none=>minL l by rw[←T,List.take_length];rfl);rw[T]at hp hn hM ⊢;rw[←V];clear hv hx E hl T ag af hb V hp;go_enter func267,ntmps267;go_wp2_with fail;refine hM.out.mono ?_;rintro _ w2 ⟨_,rfl,Y,rfl⟩;have ai:=hide Y;clear hM Y;go_wp2_with fail
 go_loopw [6,7,9,14] (λs6 s7 s9 i wr=>∃(k:Nat),k≤n∧i=iV k∧s6=iV (((((l.take k).foldl (fT d) au).getD 0:Nat)):Int)∧s7=.bool ((l.take k).foldl (fT d) au).isSome∧Hid (Ext w wr)) (λ_ _ _ i _=>n-(intOf i).toNat)
 case atStart=>grind
 case round=>
  obtain⟨k,hk,rfl,rfl,rfl,J⟩:=hrel;by_cases U:k<n
  ·have W:(k:Int)<(n:Int):=zO;have aj:=(J.out.cell (p:=⟨b,aa+k,au⟩) ah).trans (gV.out k U);have ak:=(J.out.cell (p:=⟨g,2,au⟩) ae).trans H;have hs:=hide (O.out k U);clear O s H gV;generalize(l.take k).foldl (fT d) au=o at*;generalize l.getD k 0=y at*;by_cases hy:d<(y:Int)
   ·cases o with
    |none=>
     have e:=hide (show(l.take (k+1)).foldl (fT d) au=aw y by rw[hs.out];unfold fT;grind);simp only[aA,Option.getD_none];go_wp2_with fail;exact⟨⟨k+1,by omega,rfl,by rw[e.out];rfl,by rw[e.out];rfl,J⟩,show n-(k+1)<n-k by omega⟩
    |some m=>
     simp only[aB,ar];by_cases hm:y<m
     ·have ab:(y:Int)<(m:Int):=zO;have e:=hide (show(l.take (k+1)).foldl (fT d) au=aw y by rw[hs.out];simp_all[fT]);go_wp2_with fail;exact⟨⟨k+1,by omega,rfl,by rw[e.out];rfl,by rw[e.out];rfl,J⟩,show n-(k+1)<n-k by omega⟩
     ·have ab:¬(y:Int)<(m:Int):=zO;have e:=hide (show(l.take (k+1)).foldl (fT d) au=aw m by rw[hs.out];simp_all[fT,if_neg]);go_wp2_with fail;exact⟨⟨k+1,by omega,rfl,by rw[e.out];rfl,by rw[e.out];rfl,J⟩,show n-(k+1)<n-k by omega⟩
   ·have e:=hide (show(l.take (k+1)).foldl (fT d) au=o by rw[hs.out];unfold fT;grind);go_wp2_with fail;exact⟨⟨k+1,by omega,rfl,by rw[e.out],by rw[e.out],J⟩,show n-(k+1)<n-k by omega⟩
  ·have W:¬(k:Int)<(n:Int):=zO;have ad:k=n:=zO;subst ad;have hf:=J.out;have I:=s.out;clear U J O gV s H ai;generalize(l.take k).foldl (fT d) au=o at*;cases o with
   |none=>
    have HH:=hide I;simp only[aA,Option.getD_none];clear I;go_wp2_with fail;go_ret;exact eB.mk hf (by rw[HH.out];rfl)
   |some m=>
    have HH:=hide I;simp only[aB,ar];clear I;go_wp2_with fail;go_ret;exact eB.mk hf (by rw[HH.out];rfl)
end
section
variable {w w':World} {g:Nat} {p:Pn}
theorem mL(d:Ext w w')(row:Option Nat):w.grownBy w' row:=⟨d.os,d.tape,d.output,d.size,λk h _=>d.block k h⟩
theorem I6(H:Box w g 353 (tY p))(l:List Nat)(E:l≠[])(v:aD)(s:eT l v w)(I:l.length≤1000000)(J:p.kind=1) :
  aE prog 221 #[gP g,v] w λe w'=>e=.returned (.tuple #[iV (minL l:Int),.bool true])∧Box w' g 353 (tY { p with last:=(minL l:Int) })∧w.grownBy w' (aw g):=by
 have O:=hide (yX l E v w s I);obtain⟨A,c,rfl,-⟩:=eT.form s;have W:=al.2 E;have V:w.cell? ⟨g,0,au⟩=aw (.int .u8 1):=by rw[H.at_ 0 rfl,J];rfl
 have Y:¬((l.length:Nat):Int)=0:=zO;have U:=hide H;generalize minL l=m at*;generalize l.length=n at*;clear s E I J W H;go_enter aC,ay;go_wp2_with fail;refine O.out.mono ?_;rintro _ w2 ⟨_,rfl,h,rfl⟩;have d:=U.out.ext h;have c2:=d.at_ 2 rfl;have f2:=d.frozen 2;have T:=hide (And.intro (d.eL 2 (iV m)) (eM (mL h (aw g)) 2 (iV m)));clear O h d U V;go_wp2
 go_ret2
 exact⟨rfl,T.out.1,T.out.2⟩
theorem I7(H:Box w g 353 (tY p))(l:List Nat)(E:l≠[])(v:aD)(s:eT l v w)(I:l.length≤1000000)(J:p.kind=2) :
  aE prog 221 #[gP g,v] w λe w'=>e=.returned (.tuple #[iV (maxL l:Int),.bool true])∧Box w' g 353 (tY { p with last:=(maxL l:Int) })∧w.grownBy w' (aw g):=by
 have O:=hide (I5 l E v w s I);obtain⟨A,c,rfl,-⟩:=eT.form s;have W:=al.2 E;have V:w.cell? ⟨g,0,au⟩=aw (.int .u8 2):=by rw[H.at_ 0 rfl,J];rfl
 have Y:¬((l.length:Nat):Int)=0:=zO;have U:=hide H;generalize maxL l=m at*;generalize l.length=n at*;clear s E I J W H;go_enter aC,ay;go_wp2_with fail;refine O.out.mono ?_;rintro _ w2 ⟨_,rfl,h,rfl⟩;have d:=U.out.ext h;have c2:=d.at_ 2 rfl;have f2:=d.frozen 2;have T:=hide (And.intro (d.eL 2 (iV m)) (eM (mL h (aw g)) 2 (iV m)));clear O h d U V;go_wp2
 go_ret2
 exact⟨rfl,T.out.1,T.out.2⟩
theorem CB(s:Box w g 353 (tY p))(l:List Nat)(H:l≠[])(v:aD)(E:eT l v w)(I:l.length≤1000000)(J:p.kind=3) :
  aE prog 221 #[gP g,v] w λe w'=>e=.returned (.tuple #[iV (ji p.last l:Int),.bool true])∧Box w' g 353 (tY { p with last:=(ji p.last l:Int) })∧w.grownBy w' (aw g):=by
 have O:=hide (ER s l H v E I);obtain⟨A,c,rfl,-⟩:=eT.form E;have W:=al.2 H;have V:w.cell? ⟨g,0,au⟩=aw (.int .u8 3):=by rw[s.at_ 0 rfl,J];rfl
 have Y:¬((l.length:Nat):Int)=0:=zO;have U:=hide s;generalize ji p.last l=m at*;generalize l.length=n at*;clear E H I J W s;go_enter aC,ay;go_wp2_with fail;refine O.out.mono ?_;rintro _ w2 ⟨_,rfl,h,rfl⟩;have d:=U.out.ext h;have c2:=d.at_ 2 rfl;have f2:=d.frozen 2;have T:=hide (And.intro (d.eL 2 (iV m)) (eM (mL h (aw g)) 2 (iV m)));clear O h d U V;go_wp2
 go_ret2
 exact⟨rfl,T.out.1,T.out.2⟩
theorem I8(l:List Nat)(h:l=[])(v:aD)(d:eT l v w) :
  aE prog 221 #[gP g,v] w λe w'=>e=.returned (.tuple #[iV 0,.bool false])∧w'=w:=by
 subst h;obtain⟨A,c,rfl,-⟩:=eT.form d;clear d;go_enter aC,ay;go_wp2;refine bodyPost_ret (results_tmp2 rfl _ _ _) rfl ?_;simp_all
theorem CC(s:Box w g 353 (tY p))(l:List Nat)(h:l≠[])(v:aD)(d:eT l v w)(I:l.length≤1000000)(U:p.kind≠1)(T:p.kind≠2)(O:p.kind≠3)(J:p.kind≠4) :
  aE prog 221 #[gP g,v] w λe w'=>e=.returned (.tuple #[iV 0,.bool false])∧w'=w:=by
 obtain⟨A,c,rfl,-⟩:=eT.form d;have E:=al.2 h;have k0:w.cell? ⟨g,0,au⟩=aw (.int .u8 (p.kind:Int)):=s.at_ 0 rfl;have H:¬((l.length:Nat):Int)=0:=zO;have n1:¬(p.kind:Int)=1:=zO;have Y:¬(p.kind:Int)=2:=zO;have W:¬(p.kind:Int)=3:=zO;have V:¬(p.kind:Int)=4:=zO;generalize p.kind=kk at*;generalize l.length=n at*;clear d h I U T O J E s;go_enter aC,ay;go_wp2;refine bodyPost_ret (results_tmp2 rfl _ _ _) rfl ?_;simp_all
theorem ES(H:Box w g 353 (tY p))(l:List Nat)(W:l≠[])(v:aD)(hv:eT l v w)(hn:l.length≤1000000)(Y:p.kind=4)(h:v.ownBlock≠aw g) :
  aE prog 221 #[gP g,v] w λe w'=>∃s m,s=(p.seed*1664525+1013904223)%4294967296∧m=l.getD ((s/65536)%l.length) 0∧e=.returned (.tuple #[iV m,.bool true])∧Box w' g 353 (tY { p with seed:=s,last:=(m:Int) })∧w.grownBy w' (aw g):=by
 obtain⟨A,c,rfl,-,-,U⟩:=eT.form hv;have V:=al.2 W;obtain⟨b,I,rfl,ae,E⟩:=U V;have k0:w.cell? ⟨g,0,au⟩=aw (.int .u8 4):=by rw[H.at_ 0 rfl,Y];rfl
 have k1:w.cell? ⟨g,1,au⟩=aw (.int .u32 (p.seed:Int)):=H.at_ 1 rfl;have f1:=H.frozen 1;have ab:¬((l.length:Nat):Int)=0:=zO;have O:b≠g:=λe=>h (by rw[e];rfl);have J:(p.seed*1664525+1013904223)%4294967296/65536%l.length<l.length:=Nat.mod_lt _ V;have aa:0≤((p.seed:Int)*1664525+1013904223)%4294967296/65536%(l.length:Int)∧((p.seed:Int)*1664525+1013904223)%4294967296/65536%(l.length:Int)<(l.length:Int):=⟨Int.emod_nonneg _ zO,Int.emod_lt_of_pos _ zO⟩
 have ad:(w.setCell ⟨g,1,au⟩ (.int .u32 (((p.seed:Int)*1664525+1013904223)%4294967296))).cell? ⟨b,I+(p.seed*1664525+1013904223)%4294967296/65536%l.length,au⟩=aw (iV ((l.getD ((p.seed*1664525+1013904223)%4294967296/65536%l.length) 0:Nat):Int)):=by
  grind[Below.heap_setCell,World.cell?]
 have d:=H.eL 1 (.int .u32 (((p.seed:Int)*1664525+1013904223)%4294967296));have T:=d.eL 2 (iV ((l.getD ((p.seed*1664525+1013904223)%4294967296/65536%l.length) 0:Nat):Int));have k2:=d.at_ 2 rfl;have f2:=d.frozen 2;have HF:=hide (show∃s m,s=(p.seed*1664525+1013904223)%4294967296∧m=l.getD ((s/65536)%l.length) 0∧Ending.returned (.tuple #[iV ((l.getD ((p.seed*1664525+1013904223)%4294967296/65536%l.length) 0:Nat):Int),.bool true])=Ending.returned (.tuple #[iV m,.bool true])∧Box ((w.setCell ⟨g,1,au⟩ (.int .u32 (((p.seed:Int)*1664525+1013904223)%4294967296))).setCell ⟨g,2,au⟩ (iV ((l.getD ((p.seed*1664525+1013904223)%4294967296/65536%l.length) 0:Nat):Int))) g 353 (tY { p with seed:=s,last:=(m:Int) })∧w.grownBy ((w.setCell ⟨g,1,au⟩ (.int .u32 (((p.seed:Int)*1664525+1013904223)%4294967296))).setCell ⟨g,2,au⟩ (iV ((l.getD ((p.seed*1664525+1013904223)%4294967296/65536%l.length) 0:Nat):Int))) (aw g)from
  ⟨_,_,rfl,rfl,rfl,by
   grind[tY],eM (eM (World.grownBy.refl _ _) 1 _) 2 _⟩)
 clear d T H E O Y W hn h J U;go_enter aC,ay;go_wp2
 go_ret2
 exact HF.out
end
end Go.Proofs.YtofgfpffcegioaaGreat
