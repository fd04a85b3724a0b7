/- A part of the proof. -/
import Derived.Test.YtofgfpffcegioaaGreatZf10
import Derived.Test.YtofgfpffcegioaaGreatZf16
import Derived.Test.YtofgfpffcegioaaGreatZf19
set_option maxRecDepth 100000
set_option maxHeartbeats 8000000
namespace Go.Proofs.YtofgfpffcegioaaGreat
open Go.RowKit Go.Shelf iT jH Go.Proofs.Tryz
open Go.Fence renaming wide → aQ
open List renaming append_assoc → aP
section
attribute [local go_sem] Oper.semAt_some
theorem Ce{w d:World}(h:Ext w d):w.grownBy d none:=⟨h.os,h.tape,h.output,h.size,λk s _=>h.block k s⟩
def Li(x:Bool×UInt8):AV:=#[.bool x.1,.int .u8 (x.2.toNat:Int)]
theorem N7(n:Nat)(hn:1≤n)(l Bw Bf:Nat)(K:Nat→Prop)(aG:K Bf)(d:Bool)(O:LL)(v:Value)(H:World)(hP:kH K O v H)(J Jx:List (Bool×UInt8)→World→Prop)
  (hY:∀h x W,J h W→h.length<(qu d O).length→YieldAt aQ (n-1) prog l (Li x) W λe W'=>
   (e=.returned (.bool true)∧J (h++[x]) W'∧ia K W W')∨(e=.returned (.bool false)∧Jx (h++[x]) W'))
  (aH:∀h W W',J h W→Ext W W'→J h W')(hK:∀k,K k→k<H.heap.size)
  (W:World)(hW:ia K H W)(aO:W.cell? ⟨Bw,0,none⟩=some v)(aJ:H.cell? ⟨Bf,0,none⟩=some (.bool d))(h0:J [] W) :
  CallsIn aQ n prog 292 #[.func (.yield l) #[] #[],gP Bw,gP Bf] W λe W'=>(∃v,e=.returned v)∧
   ((∃ys,ys=qu d O∧J ys W')∨(∃h,h<+:qu d O∧Jx h W')):=by
 obtain⟨A,c,rfl,aM,aq,hx⟩:=hP;unfold maxLen at aq;refine callsIn_of_wp func292 rfl trivial ?_ rfl;simp only[ntmps292,List.size_toArray,List.length_cons,List.length_nil,Nat.reduceAdd,Nat.reduceSub,Array.replicate_succ,Array.replicate_zero,List.push_toArray,List.append_toArray,List.nil_append,List.cons_append];obtain⟨E,ar⟩:∃E,O.map (kj d)=E:=⟨_,rfl⟩
 have aN:E.length=O.length:=zG;have DX:Hid (qu d O=E.flatten):=by show _=_;grind[qu]
 have WT:=hide ar;clear ar;rw[DX.out]at hY;gi_wp2
 gi_loopw [10] (λi wr=>∃k:Nat,k≤O.length∧i=iV k∧J (E.take k).flatten wr∧ia K W wr)
  (λi _=>O.length-(intOf i).toNat)
 case atStart=>exact⟨0,Nat.zero_le _,rfl,by grind,ia.rf _ _⟩
 case round=>
  obtain⟨k,hk,rfl,aa,aC⟩:=hrel;by_cases aD:k<O.length
  ·obtain⟨b,aw,rfl,hb,T⟩:=hx zO;obtain⟨A2,c2,am,aK,aE,ay⟩:=T k aD;unfold maxLen at aE;have az:=(ia.cell (hW.t aC) hb (aw+k)).trans am;clear T hx am;have an:k<E.length:=zO;have aI:J ((E.take k).flatten++E[k].take 0) wr:=zG;have ad:=λj=>Aj E k j an;have ap:=vO E k an;have aA:E[k]=kj d O[k]:=by simp only[←WT.out,List.getElem_map]
   clear aa;generalize aB:O[k]=Y at*;generalize E[k]=bq at*;subst aA;have lB:=hide ad;have Qo:=hide ap;clear aB ad ap;gi_wp2;obtain⟨wo,rfl⟩:∃wo:World,wo=wr:=⟨_,rfl⟩
   gi_loopw [16] (λi wr=>∃j:Nat,j≤Y.length∧i=iV j∧J ((E.take k).flatten++(kj d Y).take j) wr∧ia K W wr)
    (λi _=>Y.length-(intOf i).toNat)
   case atStart=>grind
   case round=>
    obtain⟨j,hj,rfl,aa,s⟩:=hrel;by_cases ao:j<Y.length
    ·obtain⟨b2,al,rfl,aF,I⟩:=ay zO;have aq:=(ia.cell (hW.t s) aF (al+j)).trans (I j ao);have aL:=(ia.cell (hW.t s) aG 0).trans aJ;have ai:j<(kj d Y).length:=by grind[kA]
     have af:=Ex (kj d Y) j ai;rw[ym d Y j ai ao]at af;have ae:((E.take k).flatten++(kj d Y).take j).length<E.flatten.length:=by
      have h1:=(lB.out (j+1)).length_le;grind
     have Kt:=hide af;clear af I aI az ai;have U:=λW2 hE=>hY _ (j==0,gv d Y[j]) W2 (aH _ _ W2 aa hE) ae;have HK:=hide (λW2 (hE:Ext wr W2)=>ia.vP (K:=K) hE (λk hk=>Nat.lt_of_lt_of_le (hK k hk) (hW.t s).1));generalize Y[j]=y at*;clear aa ae;have ej:(j==0)=((j:Int)==0):=zG;rw[ej]at U Kt;clear ej;cases d
     ·have e1:gv false y=y:=rfl;rw[e1]at U Kt;obtain⟨fn,ak,ab,av,hy,hR⟩:=U wr (Ext.rf wr);have ah:=HK.out wr (Ext.rf wr);unfold Li at hy;dsimp only at hy;gi_wp2;refine hR.mono ?_;rintro e W3 (⟨rfl,aj,ag⟩|⟨rfl,V⟩)
      ·gi_wp2
       go_roundw
       case rel=>exact⟨j+1,by omega,by go_num,by rw[Kt.out,←aP];exact aj,(s.t ah).t ag⟩
       case measure=>grind[intOf]
      ·gi_wp2;refine bodyPost_ret (results_none rfl _ _ _) rfl ?_;refine⟨⟨_,rfl⟩,.inr ⟨_,?_,V⟩⟩;rw[DX.out];have h1:=lB.out (j+1)
       rwa [Kt.out,←aP]at h1
     ·have e1:gv true y=gy y:=rfl;rw[e1]at U Kt;gi_wp2_with (refine⟨trivial,?_⟩;gi_at_call 220;refine(callsIn_wide.2 (vj _ _)).mono ?_;rintro e w2 ⟨u,rfl,au,rfl⟩;obtain⟨fn,ak,ab,av,hy,hR⟩:=U w2 au;have ah:=HK.out w2 au;unfold Li at hy;dsimp only at hy;unfold ff)
      refine hR.mono ?_;rintro e W3 (⟨rfl,aj,ag⟩|⟨rfl,V⟩)
      ·gi_wp2
       go_roundw
       case rel=>exact⟨j+1,by omega,by go_num,by rw[Kt.out,←aP];exact aj,(s.t ah).t ag⟩
       case measure=>grind[intOf]
      ·gi_wp2;refine bodyPost_ret (results_none rfl _ _ _) rfl ?_;refine⟨⟨_,rfl⟩,.inr ⟨_,?_,V⟩⟩;rw[DX.out];have h1:=lB.out (j+1)
       rwa [Kt.out,←aP]at h1
    ·obtain rfl:j=Y.length:=zO;gi_wp2
     go_roundw
     case rel=>exact⟨k+1,by omega,by go_num,by rw[Qo.out];simp_all[kj,List.take_of_length_le],s⟩
     case measure=>grind[intOf]
  ·obtain rfl:k=O.length:=zO;gi_wp2
   go_end0
   exact⟨⟨_,rfl⟩,.inl ⟨_,DX.out.symm,by grind⟩⟩
theorem IF(n:Nat)(hn:1≤n)(O H:Nat)(K:Nat→Prop)(I:K H)(d:Bool)(E:LL)(v:Value)(w:World)(hP:kH K E v w)(T:w.cell? ⟨O,0,none⟩=some v)(hf:w.cell? ⟨H,0,none⟩=some (.bool d))(V:∀k,K k→k<w.heap.size) :
  SeqStopsK aQ n prog 292 #[gP O,gP H] Li (ia K) (λY=>Y=qu d E) (λs=>s<+:qu d E) (qu d E).length w:=λl J Jx W U hJ _ hY h0=>
 N7 n hn l O H K I d E v w hP J Jx hY (λs A B h hE=>hJ s A B none h (Ce hE) (λr e=>by cases e)) V W (ia.vP U V) ((U.cell (World.block_lt_of_cell? w _ T)).trans T) hf h0
theorem vS(d:Bool)(A:Option Addr)(n c:Nat)(w:World):Calls prog 262 #[.bool d,.slice A n c] w λe h=>e=.returned (.func (.func 292) #[] #[gP (w.heap.size+1),gP w.heap.size])∧h=(w.alloc (.cells #[.bool d] 4)).alloc (.cells #[.slice A n c] 22):=by
 go_enter func262,ntmps262;go_wp2;go_ret;simp_all
end
end Go.Proofs.YtofgfpffcegioaaGreat
