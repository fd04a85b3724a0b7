/- A part of the proof. -/
import Derived.Test.YtofgfpffcegioaaGreatZf46
set_option maxRecDepth 100000
set_option maxHeartbeats 8000000
namespace Go.Proofs.YtofgfpffcegioaaGreat
open Go.RowKit Go.Shelf Go.Sort iT jH fq uT Go.Proofs.Tryz
open _root_.Array renaming size_setIfInBounds → bn
open _root_.Go renaming World → bd,maxLen → bf,results_cell_row → bj,bodyPost_ret → bq,Value → br,Calls → bx
open Go.Oper renaming semAt_some → bk
open Go.Proofs.Tryz renaming underlying308 → bo
open Go.RowKit renaming intOf → bu
open Go.Value renaming ownBlock → bt
open Go.World renaming block_lt_of_cell? → bc,size_alloc → bg
open List renaming replicate → a6,take_succ_eq_append_getElem → a7,length_take → bb,getElem_mem → bh,length_cons → bp
open Nat renaming min_eq_left → bl,le_refl → bm
open Option renaming none → a8,some → ba
section
section
attribute [local irreducible] ew ed
def TA(p:Int×Int):Value:=.agg #[iV p.1,iV p.2]
theorem G4(n:Int)(w:bd):bx prog 169 #[iV n] w (eB w (eC (.bool (decide (0≤n)&&decide (n≤4611686018427387904))))):=by
 by_cases d:0≤n
 ·by_cases s:n≤4611686018427387904
  ·rw[decide_eq_true d,decide_eq_true s];go_enter func169,ntmps169;go_wp2;go_ret;exact eB.mk (Ext.rf _) rfl
  ·rw[decide_eq_true d,decide_eq_false s];go_enter func169,ntmps169;go_wp2;go_ret;exact eB.mk (Ext.rf _) rfl
 ·rw[decide_eq_false d,Bool.false_and];go_enter func169,ntmps169;go_wp2;go_ret;exact eB.mk (Ext.rf _) rfl
attribute [local go_sem] bk
theorem take_snoc{d:Type}(l:List d)(k:Nat)(h:k<l.length):l.take (k+1)=l.take k++[l[k]]:=a7 h
attribute [local go_sem] bk
attribute [local go_sem] bk
attribute [local go_sem] bk
section
variable {P:Program} {Q:Exit→Act→bd→Prop} {ops:Array Oper} {M m:Nat} {a0:Act} {w0:bd} {K:List Oper→List VP→Prop} {o:Oper} {rest:List Oper} {env:List VP}
theorem ed.P2{F:VP}{v:br}{p:Addr}{w:bd}(t:TypeId)(x:Operand)(Y:o.op=.load t x)(O:Want ops M a0 w0 env o true)(hx:fu ops M a0 w0 env o x (eC (.pointer (ba p))))
  (E:∀w:bd,(isAgg t).run P w=.ok false w)(s:w.cell? p=ba v)(hF:F v w)(H:Ext w w0)
  (T:ed P Q ops M a0 w0 K m rest (F::env)):ed P Q ops M a0 w0 K (m+1) (o::rest) env:=
 .KR t x Y O hx (λq J d U=>by
  obtain rfl:q=.pointer (ba p):=U;have h1:J.cell? p=ba v:=((H.tr d).cell (bc w p s)).trans s;exact⟨v,by simp_all[Instr.loadAt,Instr.sureAddr,loadVar,Sem.run_bind],VP.st _ _ _ _ hF (H.tr d)⟩) T
end
theorem DL(O:List Int)(x:Int)(k g1 g2:Nat)(v:br)(w:bd)(h1:w.cell? ⟨g1,0,a8⟩=ba v)(h2:w.cell? ⟨g2,0,a8⟩=ba (iV x))(hN:eQ O v w)(Y:k<O.length) :
  bx prog 271 #[iV k,gP g1,gP g2] w (eB w (eC (.bool (decide (x≤O[k]))))):=by
 go_enter func271,ntmps271;by_cases T:x≤O[k]
 ·rw[decide_eq_true T];go_upto_region 1 with(fail)
  refine vQ 6 ?_;refine ed.P2 28 _ rfl wA oA (λ_=>by rfl) h1 hN (eh _) ?_;refine ed.move _ rfl wA oA ?_;refine ed.KW 28 3 _ _ .i64 k rfl underlying28 zR wA oA oA Y ?_;refine ed.jM 3 _ rfl wA oA (λ_=>by rfl) ?_;refine ed.gG 3 _ rfl wA oA (λ_=>by rfl) h2 (eh _) ?_;refine ed.Eh _ _ _ _ rfl wA oA oA T (.g ?_);intro W1 E;refine ew.any λJ s=>?_;refine .e ?_;refine ew.any λH d=>?_;refine .e ?_;clear s d;have U:=((eh _).tr E)
  go_wp2;go_ret;exact eB.mk U rfl
 ·rw[decide_eq_false T];go_upto_region 1 with(fail)
  refine vQ 6 ?_;refine ed.P2 28 _ rfl wA oA (λ_=>by rfl) h1 hN (eh _) ?_;refine ed.move _ rfl wA oA ?_;refine ed.KW 28 3 _ _ .i64 k rfl underlying28 zR wA oA oA Y ?_;refine ed.jM 3 _ rfl wA oA (λ_=>by rfl) ?_;refine ed.gG 3 _ rfl wA oA (λ_=>by rfl) h2 (eh _) ?_;refine ed.Sq _ _ _ _ rfl wA oA oA zO (.g ?_);intro W1 E;refine ew.any λJ s=>?_;refine .e ?_;refine ew.any λH d=>?_;refine .e ?_;clear s d;have U:=((eh _).tr E)
  go_wp2;go_ret;exact eB.mk U rfl
theorem F7(d:List Int)(x:Int)(g1 g2:Nat)(v:br)(w:bd)(h1:w.cell? ⟨g1,0,a8⟩=ba v)(s:w.cell? ⟨g2,0,a8⟩=ba (iV x))(hN:eQ d v w)(r:Nat)(hr:r≤d.length)(E:∀j (h:j<d.length),j<r→d[j]<x)(J:∀j (h:j<d.length),r≤j→x≤d[j])(hlen:d.length≤2000000) :
  bx prog 270 #[iV (d.length:Int),.func (.func 271) #[] #[gP g1,gP g2]] w (eB w (eC (iV r))):=by
 have Y:=λ(k:Nat) w' h1 s h3=>DL d x k g1 g2 v w' h1 s h3;go_enter func270,ntmps270;go_wp2
 go_loopw [5,6] (λi j wr=>∃a b:Nat,a≤r∧r≤b∧b≤d.length∧i=iV a∧j=iV b∧Below w.heap.size w wr) (λi j _=>(bu j).toNat-(bu i).toNat)
 case atStart=>exact⟨0,d.length,by omega,hr,by omega,rfl,rfl,Below.refl _ _⟩
 case round=>
  obtain⟨a,b,ha,hb,aa,rfl,rfl,hR⟩:=hrel;have T:Ext w wr:=hR;by_cases af:a<b
  ·go_wp2_with fail;rw[show((a:Int)+b)/2=(((a+b)/2:Nat):Int) by omega];have hk:(a+b)/2<d.length:=zO;have ae:a≤(a+b)/2:=zO;have ad:(a+b)/2<b:=zO;generalize(a+b)/2=k at*;refine(Y k wr ((T.cell (bc w _ h1)).trans h1) ((T.cell (bc w _ s)).trans s) (VP.st _ _ _ _ hN T) hk).mono ?_;rintro e w2 ⟨u,rfl,ab,rfl⟩;have O:Below w.heap.size w w2:=T.tr ab;by_cases U:x≤d[k]
   ·have H:r≤k:=by
     grind
    rw[decide_eq_true U];clear Y h1 s E J U;go_wp2
    go_roundw
    case rel=>exact⟨a,k,ha,H,by omega,rfl,rfl,O⟩
    case measure=>grind[bu]
   ·have H:k<r:=by
     grind
    rw[decide_eq_false U];clear Y h1 s E J U;go_wp2
    go_roundw
    case rel=>exact⟨k+1,b,by omega,hb,aa,by go_num,rfl,O⟩
    case measure=>grind[bu]
  ·obtain rfl:a=r:=zO;go_wp2;go_ret;exact eB.mk T rfl
theorem xI(d:List Int)(x:Int)(v:br)(w:bd)(J:eQ d v w)(r:Nat)(hr:r≤d.length)(s:∀j (h:j<d.length),j<r→d[j]<x)(E:∀j (h:j<d.length),r≤j→x≤d[j])(hlen:d.length≤2000000) :
  bx prog 228 #[v,iV x] w (eB w (eC (iV r))):=by
 have T:=J;obtain⟨A,c,rfl,aa,O,-⟩:=eQ.form J;have H:Ext w ((w.alloc (.cells #[.slice A d.length c] 28)).alloc (.cells #[iV x] 3)):=(ek _ _).tr (ek _ _);have Y:=F7 d x w.heap.size (w.heap.size+1) _ ((w.alloc (.cells #[.slice A d.length c] 28)).alloc (.cells #[iV x] 3)) (((Box.new w 28 #[.slice A d.length c]).alloc _).at_ 0 rfl)
  (by simp_all) (VP.st _ _ _ _ J H) r hr s E hlen
 clear T J s E;unfold bf at O;go_enter func228,ntmps228;go_wp2_with fail;refine Y.mono ?_;rintro e w2 ⟨u,rfl,U,rfl⟩;go_wp2;go_ret;exact eB.mk (H.tr U) rfl
namespace uT
def jw:Int→L8→List Int
 |_,[]=>[]
 |off,b::bs=>if b.toNat=10 then(off+1)::jw (off+1) bs else jw (off+1) bs
def gh(bs:L8):List Int:=0::jw 0 bs
theorem um(d:Int)(xs s:L8):jw d (xs++s)=jw d xs++jw (d+xs.length) s:=by
 induction xs generalizing d with
 |nil=>simp[jw]
 |cons b xs E=>
  grind[jw,bp]
theorem xJ(d:Int)(bs:L8)(x:Int)(h:x∈jw d bs):d+1≤x∧x≤d+bs.length:=by
 induction bs generalizing d with
 |nil=>simp[jw]at h
 |cons b bs s=>
  grind[jw,bp]
theorem M9(d:Int)(bs:L8):(jw d bs).length≤bs.length:=by
 induction bs generalizing d with
 |nil=>simp[jw]
 |cons b bs s=>
  grind[jw,bp]
theorem Ki(d:Int)(bs:L8)(b:UInt8):jw d (bs++[b])=if b.toNat=10 then jw d bs++[d+bs.length+1]else jw d bs:=by
 grind[um,jw]
theorem xK(bs:L8):(gh bs).length≤bs.length+1:=by grind[gh,M9]
theorem F8(a l s:Int)(xs:L8):(lN (a,l,s) xs).2.1=l+(jw a xs).length∧(lN (a,l,s) xs).2.2=a+xs.length-((a-s)::jw a xs).getLast zS:=by
 induction xs generalizing a l s with
 |nil=>grind[lN,jw]
 |cons b xs d=>
  by_cases E:b.toNat=10
  ·have e:lN (a,l,s) (b::xs)=lN (a+1,l+1,0) xs:=by simp_all[lN,rQ]
   have f:jw a (b::xs)=(a+1)::jw (a+1) xs:=by simp_all[jw]
   have i:=d (a+1) (l+1) 0;rw[e];simp only[f];refine⟨by grind,?_⟩;grind
  ·have e:lN (a,l,s) (b::xs)=lN (a+1,l,s+1) xs:=by simp_all[lN,rQ]
   have f:jw a (b::xs)=jw (a+1) xs:=by simp_all[jw]
   grind
end uT
theorem Box.grown{w s:bd}{g:Nat}{t:TypeId}{cs:AV}{row:Option Nat}(h:Box w g t cs)(E:w.grownBy s row)(d:row≠ba g):Box s g t cs:=(E.block g h.lt (λe=>d e.symm)).trans h
theorem Tryz.P3:(prog.info? 3).map (λi=>(i.zero,i.size,i.bytes))=ba (ba (iV 0),1,8):=by rfl
theorem G5(bs:L8)(J:Int)(v:br)(w:bd)(hB:eu bs v w)(hlen:bs.length≤1000000):bx prog 170 #[v,iV J] w λe w'=>∃g sv,e=.returned (gP g)∧Ext w w'∧w.heap.size≤g∧Box w' g 361 #[iV J,iV (bs.length:Int),sv]∧lP w' w.heap.size 3 sv (gh bs):=by
 obtain⟨i0,hi,ak,aj,ai⟩:=info_parts Tryz.P3;obtain⟨A,c,rfl,ay,ao,hx⟩:=eu.form hB;clear hB;unfold bf at ao;go_enter func170,ntmps170;go_wp2;have af:Box ((w.alloc (.cells #[iV 0] 3)).alloc (.cells #[iV J,iV (bs.length:Int),.slice (ba ⟨w.heap.size,0,a8⟩) 1 1] 361)) (w.heap.size+1) 361 #[iV J,iV (bs.length:Int),.slice (ba ⟨w.heap.size,0,a8⟩) 1 1]:=by
  grind[Box.new,bg]
 have aa:((w.alloc (.cells #[iV 0] 3)).alloc (.cells #[iV J,iV (bs.length:Int),.slice (ba ⟨w.heap.size,0,a8⟩) 1 1] 361)).ownsRow w.heap.size 3 1 (.slice (ba ⟨w.heap.size,0,a8⟩) 1 1) 1 [iV 0]:=
  ⟨rfl,.inr ⟨w.heap.size,1,#[iV 0],rfl,bm _,(Box.new w 3 #[iV 0]).alloc _,by omega,by decide,rfl,rfl⟩⟩
 have ag:Below w.heap.size w ((w.alloc (.cells #[iV 0] 3)).alloc (.cells #[iV J,iV (bs.length:Int),.slice (ba ⟨w.heap.size,0,a8⟩) 1 1] 361)):=(ek _ _).tr (ek _ _);have E:w.heap.size+2≤((w.alloc (.cells #[iV 0] 3)).alloc (.cells #[iV J,iV (bs.length:Int),.slice (ba ⟨w.heap.size,0,a8⟩) 1 1] 361)).heap.size:=by simp
 go_loopw [16] (λi wr=>∃(k:Nat) (A1:Option Addr) (c1:Nat),k≤bs.length∧i=iV k∧Box wr (w.heap.size+1) 361 #[iV J,iV (bs.length:Int),.slice A1 (gh (bs.take k)).length c1]∧wr.ownsRow w.heap.size 3 1 (.slice A1 (gh (bs.take k)).length c1) (gh (bs.take k)).length ((gh (bs.take k)).map (.int .i64))∧bt (.slice A1 (gh (bs.take k)).length c1)≠ba (w.heap.size+1)∧Below w.heap.size w wr∧w.heap.size+2≤wr.heap.size) (λi _=>bs.length-(bu i).toNat)
 case atStart=>exact⟨0,_,_,by omega,rfl,af,aa,by simp[bt],ag,E⟩
 case round=>
  clear af aa ag E;obtain⟨k,A1,c1,hk,rfl,T,ho,ad,hR,E⟩:=hrel;have hE:Ext w wr:=hR;have aw:=T.at_ 2 rfl;by_cases ae:k<bs.length
  ·obtain⟨b,ah,rfl,ap,s⟩:=hx zO;have av:=(hE.cell (p:=⟨b,ah+k,a8⟩) ap).trans (s k ae);have Hs:=hide (Ki 0 (bs.take k) bs[k]);have GZ:=hide (take_snoc bs k ae);have an:=xK (bs.take k);rw[bb,bl zO]at an;clear s hx;generalize bs[k]=y at*;by_cases hy:(y.toNat:Int)=10
   ·have Hn:=hide (show gh (bs.take (k+1))=gh (bs.take k)++[(k:Int)+1] by unfold gh;rw[GZ.out,Hs.out,if_pos zO,bb,bl zO];simp);generalize gh (bs.take k)=O at*;have HB:=hide T;have U:=hide ho;have hX:Ext wr (wr.alloc (.cells #[iV ((k:Int)+1)] 3)):=ek _ _;go_wp2_with(at_builtin;refine eJ rfl _ _ 28 rfl w.heap.size 3 i0 (iV 0) 1 8 underlying28 hi ak aj ai rfl zO _ _ O.length 1 (O.map (.int .i64)) [iV ((k:Int)+1)] rfl (fy U.out hX) rfl rfl (Src.new _ _ _ _) (λy hy=>by rw[List.mem_singleton]at hy;subst hy;rfl) zO zT ?_;intro v' w' Y d aq;obtain⟨A4,c4,al⟩:=eI Y;subst al;have H:=(HB.out.alloc _).grown d ad;have au:=H.at_ 2 rfl;have ar:=H.frozen 2;have HB4:=hide H;clear H)
    have am:=d.size;rw[bg]at am;have ab:bt (.slice A4 (O.length+1) c4)≠ba (w.heap.size+1):=by
     rcases aq with h|h
     ·rw[h];exact ad
     grind[bg,Option.some.inj]
    go_roundw
    case rel=>
     refine⟨k+1,A4,c4,by omega,by go_num,?_,?_,?_,(jB hR d (λk hk=>fk U.out k hk)).setCell (p:=⟨w.heap.size+1,2,a8⟩) zS _,by grind[World.setCell,bn]⟩
     ·rw[show(gh (bs.take (k+1))).length=O.length+1 by rw[Hn.out];simp];exact HB4.out.eL 2 _
     ·rw[Hn.out,List.length_append,List.map_append];grind[iX]
     ·rw[show(gh (bs.take (k+1))).length=O.length+1 by rw[Hn.out];simp];exact ab
    case measure=>grind[bu]
   ·have Hn:=hide (show gh (bs.take (k+1))=gh (bs.take k) by unfold gh;rw[GZ.out,Hs.out,if_neg zO]);generalize gh (bs.take k)=O at*;have HB:=hide T;have U:=hide ho;clear T ho;go_wp2
    go_roundw
    case rel=>
     have e2:=Hn.out;exact⟨k+1,A1,c1,by omega,by go_num,by rw[e2];exact HB.out,by rw[e2];exact U.out,by grind,hR,E⟩
    case measure=>grind[bu]
  ·obtain rfl:k=bs.length:=zO;rw[List.take_length]at*;have HB:=hide T;have U:=hide ho;clear T ho hx;go_wp2;go_ret;exact⟨_,_,rfl,hE,by omega,HB.out,U.out⟩
namespace uT
def Bn(bs:L8)(d e l:Int):Int×Int:=if e<d then(0,0)else(VF bs (e-d-l)).1
theorem o4(bs:L8)(k:Nat)(d:k≤bs.length):gh bs=gh (bs.take k)++jw k (bs.drop k):=by
 grind[gh,List.take_append_drop,um,bb,bl]
theorem DM(bs:L8)(k:Nat)(s:k≤bs.length)(j:Nat)(h:j<(gh bs).length)(E:j<(gh (bs.take k)).length):(gh bs)[j]<(k:Int)+1:=by
 have e:=o4 bs k s;have:(gh bs)[j]=(gh (bs.take k))[j]:=zG;rw[this];have d:=bh E;unfold gh at d;rcases List.mem_cons.1 d with h1|h1
 ·grind[gh]
 ·have:=xJ _ _ _ h1;grind[bb,gh,min]
theorem Kj(bs:L8)(k:Nat)(d:k≤bs.length)(j:Nat)(h:j<(gh bs).length)(E:(gh (bs.take k)).length≤j):(k:Int)+1≤(gh bs)[j]:=by
 have e:=o4 bs k d;have s:j-(gh (bs.take k)).length<(jw k (bs.drop k)).length:=zG;have:(gh bs)[j]=(jw k (bs.drop k))[j-(gh (bs.take k)).length]:=zG;rw[this];exact(xJ _ _ _ (bh s)).1
theorem F9(bs:L8)(k:Nat)(hk:k<bs.length)(hlen:bs.length≤1000000):∃m:Nat,(gh (bs.take k)).length=m+1∧∃h:m<(gh bs).length,(0≤(gh bs)[m]∧(gh bs)[m]≤1000001)∧KO (lN (0,0,0) (bs.take k))=((m:Int)+1,(k:Int)-(gh bs)[m]+1):=by
 have e:=o4 bs k zO;have O:(gh (bs.take k)).length=(jw 0 (bs.take k)).length+1:=rfl;have d:(jw 0 (bs.take k)).length<(gh bs).length:=zG;have s:(gh bs)[(jw 0 (bs.take k)).length]=(gh (bs.take k)).getLast zG:=by
  grind
 have J:=DM bs k zO _ d zO;have T:0≤(gh bs)[(jw 0 (bs.take k)).length]:=by
  rw[s];have E:=List.getLast_mem (l:=gh (bs.take k)) zG;unfold gh at E;rcases List.mem_cons.1 E with h1|h1
  ·grind[gh]
  ·have:=(xJ _ _ _ h1).1;grind[gh]
 refine⟨_,O,d,⟨T,by omega⟩,?_⟩;have H:=zP (0,0,0) (bs.take k) zD zG;obtain⟨Y,U⟩:=F8 0 0 0 (bs.take k);unfold KO;rw[H,if_pos rfl,Y,U,s,bb,bl zO];grind[Prod.ext,jw,gh]
end uT
theorem zF(bs:L8)(s e l:Int)(g:Nat)(sv:br)(w:bd)(O:Box w g 361 #[iV s,iV (bs.length:Int),sv])(hV:eQ (gh bs) sv w)(hlen:bs.length≤1000000)
  (ay:0≤s)(aw:s≤4611686018427387904)(aA:-9223372036854775808≤e)(az:e≤9223372036854775807)(au:0≤l)(ar:l≤9223372036854775807) :
  bx prog 171 #[gP g,iV e,iV l] w (eB w (eC (TA (Bn bs s e l)))):=by
 have aE:=(O.alloc (.cells #[iV 0,iV 0] 308)).at_ 0 rfl;have aD:=(O.alloc (.cells #[iV 0,iV 0] 308)).at_ 1 rfl;have ai:=(O.alloc (.cells #[iV 0,iV 0] 308)).at_ 2 rfl;have Y:=Box.new w 308 #[iV 0,iV 0];have T:Ext w (w.alloc (.cells #[iV 0,iV 0] 308)):=ek _ _;unfold Bn TA;by_cases h1:e<s
 ·rw[if_pos h1];dsimp only;have HD:=hide Y;have HX0:=hide T;clear Y T O hV;go_enter func171,ntmps171;go_wp2;exact bq (bj rfl _ _ w.heap.size 308 #[iV 0,iV 0] (0,0) _ rfl HD.out bo rfl zR) rfl (eB.mk HX0.out rfl)
 rw[if_neg h1];unfold VF;by_cases h2:e-s-l<0∨(bs.length:Int)≤e-s-l
 ·rw[if_pos h2];dsimp only;have HD:=hide Y;have HX0:=hide T;clear Y T O hV;go_enter func171,ntmps171;by_cases h3:e-s-l<0
  ·clear h2;go_wp2;exact bq (bj rfl _ _ w.heap.size 308 #[iV 0,iV 0] (0,0) _ rfl HD.out bo rfl zR) rfl (eB.mk HX0.out rfl)
  ·have h4:(bs.length:Int)≤e-s-l:=zO;clear h2;go_wp2;exact bq (bj rfl _ _ w.heap.size 308 #[iV 0,iV 0] (0,0) _ rfl HD.out bo rfl zR) rfl (eB.mk HX0.out rfl)
 ·rw[if_neg h2];have h3:¬e-s-l<0:=zO;have h4:¬(bs.length:Int)≤e-s-l:=zO;clear h2;obtain⟨k,hk⟩:∃k:Nat,e-s-l=(k:Int):=⟨(e-s-l).toNat,by omega⟩
  have Hk:=hide hk;rw[hk,Int.toNat_natCast];obtain⟨m,hm,H,af,hq⟩:=F9 bs k zO hlen;rw[hq];dsimp only;have J:=λw' ak=>xI (gh bs) ((k:Int)+1) sv w' ak (m+1) zO (λj h hj=>DM bs k zO j h zO) (λj h hj=>Kj bs k zO j h zO) (by grind[xK]);have av:(k:Int)≤1000000:=zO;obtain⟨am,al⟩:=af;clear hk hq hm;have HV:=hide hV;obtain⟨A,c,rfl,aq,ag,aa⟩:=eQ.form hV;obtain⟨b,ae,rfl,aj,E⟩:=aa zO;have ah:=E m H;clear aa E hV;unfold bf at ag;generalize gh bs=ns at*;have Hm:=hide H;generalize ns[m]=x at*;have ab:((m+1:Nat):Int)=(m:Int)+1:=zO;rw[ab]at J;clear ab;go_enter func171,ntmps171;go_wp2_with fail;rw[Hk.out];refine(J _ (VP.st _ _ _ _ HV.out T)).mono ?_;rintro e2 w2 ⟨u,rfl,U,rfl⟩;have hE:Ext w w2:=T.tr U;have ad:=O.ext hE;have d:=Y.ext U;have ai:=ad.at_ 2 rfl;have aC:=d.at_ 0 rfl;have aB:=d.at_ 1 rfl;have ao:=d.frozen 0;have an:=d.frozen 1;have ap:=(hE.cell (p:=⟨b,ae+m,a8⟩) aj).trans ah;have HB:=hide (λu v=>(d.eL 0 u).eL 1 v);have HX:=hide (λu v=>(hE.setCell (p:=⟨w.heap.size,0,a8⟩) zS u).setCell (p:=⟨w.heap.size,1,a8⟩) zS v);clear O Y ad d hE U T HV J;go_wp2;exact bq (bj rfl _ _ w.heap.size 308 #[iV ((m:Int)+1),iV ((k:Int)-x+1)] (0,0) _ rfl (HB.out _ _) bo rfl zR) rfl (eB.mk (HX.out _ _) rfl)
namespace uT
def DN(d:Int):Bool:=decide (0≤d)&&decide (d≤4611686018427387904)
def G6(bs:L8)(d:Int)(hs:List (Int×Int)):List (Int×Int):=hs.map λh=>if DN d then Bn bs d h.1 1 else(0,0)
end uT
def qa(cs:AV)(xs:List (Int×Int)):Prop:=cs.size=xs.length*2∧∀j (h:j<xs.length),cs[j*2]?=ba (iV xs[j].1)∧cs[j*2+1]?=ba (iV xs[j].2)
theorem qa.set{cs:AV}{xs:List (Int×Int)}(h:qa cs xs)(k:Nat)(_:k<xs.length)(p:Int×Int):qa ((cs.setIfInBounds (k*2) (iV p.1)).setIfInBounds (k*2+1) (iV p.2)) (xs.set k p):=by
 refine⟨by simpa using h.1,λj H=>?_⟩;have d:j<xs.length:=zG;obtain⟨O,J⟩:=h.2 j d;have s:=h.1;simp only[Array.getElem?_setIfInBounds,bn,List.getElem_set];grind
theorem qa.pairs{cs:AV}{xs:List (Int×Int)}{w:bd}{g n:Nat}{t:TypeId}(h:qa cs xs)(d:Box w g t cs)(s:n=xs.length)(hm:n≤bf):eP xs (.slice (ba ⟨g,0,a8⟩) n n) w:=by
 subst s;refine⟨_,_,rfl,bm _,hm,λH=>⟨_,_,rfl,d.lt,λj E=>?_⟩⟩;rw[Nat.zero_add,d.cell,d.cell];exact h.2 j E
theorem own_ne{w:bd}{base:Nat}{e:TypeId}{v:br}{n:Nat}{xs:List br}(h:w.ownsRow base e 1 v n xs){k:Nat}(d:k<base):v.ownBlock≠ba k:=λe=>by have:=fk h k e;omega
theorem TB(d:List (Int×Int))(k n:Nat)(H:k<n)(E:d.length=n)(p:Int×Int)(h:d.take (k+1)=d.take k++[p]):(d.take k++a6 (n-k) ((0:Int),(0:Int))).set k p=d.take (k+1)++a6 (n-(k+1)) (0,0):=by
 have s:(d.take k).length=k:=zG;rw[List.set_append_right _ _ zO,s,Nat.sub_self,show n-k=(n-(k+1))+1 by omega,List.replicate_succ,List.set_cons_zero,h];simp
theorem Tryz.infoP:(prog.info? 308).map (λi=>(i.zero,i.size,i.bytes))=ba (ba (.agg #[iV 0,iV 0]),2,16):=by rfl
theorem qa.made(n:Nat)(d:AV)(h:d.size=n*2)(s:d.toList.take (n*2)=(madeCells (Value.agg #[iV 0,iV 0]).cells (n*2)).toList):qa d (a6 n (0,0)):=by
 have e:d=madeCells #[iV 0,iV 0] (n*2):=by
  apply Array.toList_inj.1;rw[←h,List.take_of_length_le zS]at s;rw[←h];exact s
 subst e;refine⟨by grind,λj E=>?_⟩;grind[madeCells]
theorem eP.made{E:bd}{base n g:Nat}(h:E.ownsRow base 308 2 (.slice (ba ⟨g,0,a8⟩) n n) n (madeCells (Value.agg #[iV 0,iV 0]).cells (n*2)).toList):∃H,Box E g 308 H∧qa H (a6 n (0,0)):=by
 obtain⟨_,⟨s,_⟩|⟨Y,U,d,s,_,T,_,_,O,J⟩⟩:=h
 ·cases s
 ·cases s;exact⟨d,T,qa.made n d O J⟩
theorem Kk(bs:L8)(E:Int)(hs:List (Int×Int))(v hv:br)(w:bd)(hB:eu bs v w)(hH:eP hs hv w)(hlen:bs.length≤1000000)(hn:hs.length≤1000000)(ae:∀h∈hs,-9223372036854775808≤h.1∧h.1≤9223372036854775807) :
  bx prog 113 #[v,iV E,hv] w (eB w (eP (G6 bs E hs))):=by
 obtain⟨i0,hi,an,am,aI⟩:=info_parts Tryz.infoP;have ag:=G4 E;obtain⟨d,J⟩:∃d,G6 bs E hs=d:=⟨_,rfl⟩
 rw[J];have gK:=hide J;clear J;have aH:=hB;obtain⟨A,c,rfl,-⟩:=eu.form hB;obtain⟨A2,c2,rfl,aL,aK,hx⟩:=eP.form hH;clear hB;unfold bf at aK;go_enter func113,ntmps113;obtain⟨w1,ao,af,O⟩:=run_make_full (P:=prog) w w.heap.size 78 308 i0 (.agg #[iV 0,iV 0]) 2 underlying78 hi an am .i64 .i64 hs.length zG (by grind[bf]) (bm _);have aG:Ext w w1:=gA O rfl;obtain⟨cs,aD,H⟩:=eP.made af;clear af O hi an am aI;go_wp2_with fail;clear ao;refine(ag _).mono ?_;rintro e w2 ⟨u,rfl,ak,rfl⟩;have ad:Ext w w2:=aG.tr ak;have s:=aD.ext ak;have hu:(decide (0≤E)&&decide (E≤4611686018427387904))=DN E:=rfl;rw[hu];clear ag aD aG ak hu;cases hf:DN E
 ·have aq:d=a6 hs.length (0,0):=by rw[←gK.out];simp_all[G6,Bool.false_eq_true,List.map_const']
  have Hr:=hide (qa.pairs (n:=hs.length) H s zS (by grind[bf]));rw[←aq]at Hr;clear gK;clear aq hf H s hx;go_wp2;go_ret;exact eB.mk ad Hr.out
 ·have az:0≤E∧E≤4611686018427387904:=by grind[DN]
  have gK:=hide (show hs.map (λh=>Bn bs E h.1 1)=d by rw[←gK.out];grind[G6]);clear hf;have HB:=hide (VP.st _ _ _ _ aH ad);have ah:=λw' hB=>G5 bs E (.slice A bs.length c) w' hB hlen;go_wp2_with fail;refine(ah _ HB.out).mono ?_;rintro e w3 ⟨g,sv,rfl,aj,ay,av,Y⟩;have aF:=ad.tr aj;have ai:=s.ext aj;have aM:w.heap.size<g:=Nat.lt_of_lt_of_le s.lt ay;have Y:lP w3 (w.heap.size+1) 3 sv (gh bs):=iY Y s.lt;clear ah HB s aj ad aH ay;have HL:=hide av;have HS:=hide Y;have HX:=hide aF;have HB:=hide ai;have HR:=hide H;clear av Y aF ai H;go_wp2
  go_loopw [23] (λi wr=>∃(k:Nat) (cs:AV),k≤hs.length∧i=iV k∧Hid (Box wr w.heap.size 308 cs)∧Hid (qa cs (d.take k++a6 (hs.length-k) (0,0)))∧Hid (Box wr g 361 #[iV E,iV (bs.length:Int),sv])∧Hid (lP wr (w.heap.size+1) 3 sv (gh bs))∧Hid (Below w.heap.size w wr)) (λi _=>hs.length-(bu i).toNat)
  case atStart=>exact⟨0,cs,by omega,rfl,HB,HR,HL,HS,HX⟩
  case round=>
   clear HL HS HX HB HR;obtain⟨k,cs,hk,rfl,HB,HR,HL,HS,HX⟩:=hrel;by_cases ab:k<hs.length
   ·obtain⟨b,al,rfl,hb,T⟩:=hx zO;obtain⟨aC,aB⟩:=T k ab;have aR:=(HX.out.cell (p:=⟨b,al+k*2,a8⟩) hb).trans aC;have aQ:=(HX.out.cell (p:=⟨b,al+k*2+1,a8⟩) hb).trans aB;have aJ:=ae hs[k] (bh ab);have Hk:=hide (show d.take (k+1)=d.take k++[Bn bs E hs[k].1 1] by rw[←gK.out,a7 zG];simp);obtain⟨p1,p2⟩:=aJ;generalize hs[k].1=x at*;generalize hs[k].2=y at*;clear T hx aC aB ae;have aa:=λw' hb hV=>zF bs E x 1 g sv w' hb hV hlen az.1 az.2 p1 p2 zO zO;have ap:d.length=hs.length:=by rw[←gK.out];simp
    have aA:(d.take k++a6 (hs.length-k) ((0:Int),(0:Int))).length=hs.length:=by
     grind
    obtain⟨z1,z2,au,ar⟩:∃z1 z2,cs[k*2]?=ba z1∧cs[k*2+1]?=ba z2:=⟨_,_,HR.out.2 k zO⟩
    have I1:=hide aA;have Hrl:=hide ap;clear aA ap;have kx:=hide (show(d.take k++a6 (hs.length-k) ((0:Int),(0:Int))).set k (Bn bs E x 1)=d.take (k+1)++a6 (hs.length-(k+1)) (0,0)from TB d k hs.length ab Hrl.out _ Hk.out);unfold TA at aa;generalize Bn bs E x 1=q at*;obtain⟨q1,q2⟩:=q;dsimp only at aa;go_wp2_with fail;refine(aa _ (HL.out.alloc _) (VP.st _ _ _ _ (lP.ints HS.out) (ek _ _))).mono ?_;rintro e w4 ⟨u,rfl,U,rfl⟩;have aE:Below w.heap.size w w4:=HX.out.trans (((ek _ _).tr U).mono HX.out.size);have HB4:=hide ((HB.out.alloc (.cells #[iV x,iV y] 50)).ext U);have Vq:=hide ((HL.out.alloc (.cells #[iV x,iV y] 50)).ext U);have P4:=hide (fy (fy HS.out (ek wr (.cells #[iV x,iV y] 50))) U);have aP:=(HB4.out.cell (k*2)).trans au;have aL:=(HB4.out.cell (k*2+1)).trans ar;have aO:=HB4.out.frozen (k*2);have aN:=HB4.out.frozen (k*2+1);have OZ:=hide aE;clear aE U aa au ar HX HL HS HB;go_wp2
    trace_state
    have aw:=own_ne P4.out (k:=w.heap.size) zO;refine⟨⟨k+1,_,by omega,by go_num,hide ((HB4.out.eL (k*2) (iV q1)).eL (k*2+1) (iV q2)),hide ?_,hide ((Vq.out.far (p:=⟨w.heap.size,k*2,a8⟩) zG _).far (p:=⟨w.heap.size,k*2+1,a8⟩) zG _),hide (iX (iX P4.out ⟨w.heap.size,k*2,a8⟩ aw _) ⟨w.heap.size,k*2+1,a8⟩ aw _),hide ((OZ.out.setCell (p:=⟨w.heap.size,k*2,a8⟩) (bm _) _).setCell (p:=⟨w.heap.size,k*2+1,a8⟩) (bm _) _)⟩,by grind[bu]⟩;rw[←kx.out];exact qa.set HR.out k (by rw[I1.out];exact ab) (q1,q2)
   ·obtain rfl:k=hs.length:=zO;have hl:d.length=hs.length:=by rw[←gK.out];simp
    have Ho:=hide (qa.pairs HR.out HB.out (n:=hs.length) (by simp[hl]) (by grind[bf]));have he:d.take hs.length++a6 (hs.length-hs.length) (0,0)=d:=zG;have Vr:Hid (eP d (.slice (ba ⟨w.heap.size,0,a8⟩) hs.length hs.length) wr):=hide (by have:=Ho.out;grind);clear he hl Ho hx;go_wp2;go_ret;exact eB.mk HX.out Vr.out
namespace uT
def qs(ws:LL)(i:Int):Int:=if h:i<0∨(ws.length:Int)≤i then 0 else(ws[i.toNat]'zO).length
def uJ(ws:LL)(bs:L8)(d:Int)(hs:List (Int×Int)):List (Int×Int):=hs.map λh=>if DN d then Bn bs d h.1 (qs ws h.2)else(0,0)
end uT
theorem Ga(f:Bool)(ws:LL)(i:Int)(u:br)(w:bd)(hS:jj f ws u w):bx prog 172 #[u,iV i] w (eB w (eC (iV (qs ws i)))):=by
 obtain⟨sl,rfl,hP⟩:=hS;obtain⟨A,c,rfl,ab,O,E⟩:=eD.form hP;clear hP;unfold bf at O;have H:Ext w (w.alloc (.cells #[.bool f,.slice A ws.length c] 24)):=ek _ _;have U:=Box.new w 24 #[.bool f,.slice A ws.length c];unfold qs;by_cases h1:i<0
 ·rw[dif_pos (Or.inl h1)];clear E U;go_enter func172,ntmps172;go_wp2;go_ret;exact eB.mk H rfl
 by_cases h2:(ws.length:Int)≤i
 ·rw[dif_pos (Or.inr h2)];clear E U;go_enter func172,ntmps172;go_wp2;go_ret;exact eB.mk H rfl
 rw[dif_neg zO];obtain⟨k,rfl⟩:∃k:Nat,i=(k:Int):=⟨i.toNat,by omega⟩
 have hk:k<ws.length:=zO;simp only[Int.toNat_natCast];obtain⟨b,J,rfl,T,d⟩:=E zO;obtain⟨z,Y,s⟩:=d k hk;have aa:=(H.cell (p:=⟨b,J+k,a8⟩) T).trans Y;obtain⟨A3,c3,rfl,-⟩:=eu.form s;clear E d Y s U;generalize ws[k].length=n at*;go_enter func172,ntmps172;go_wp2;go_ret;exact eB.mk H rfl
section
variable {P:Program} {Q:Exit→Act→bd→Prop} {ops:Array Oper} {M m:Nat} {a0:Act} {w0:bd} {K:List Oper→List VP→Prop} {o:Oper} {rest:List Oper} {env:List VP}
theorem ed.O0{H d n c:Nat}(t e:TypeId)(x y:Operand)(k:IntKind)(i:Nat)(ho:o.op=.indexAddr t x y)(hu:P.underlying t=ba (.slice e))(s:(P.info? e).map (·.size)=ba 2)
  (O:Want ops M a0 w0 env o true)(hx:fu ops M a0 w0 env o x (eC (.slice (ba ⟨H,d,a8⟩) n c)))(J:fu ops M a0 w0 env o y (eC (.int k (i:Int))))(U:i<n)
  (T:ed P Q ops M a0 w0 K m rest (eC (.pointer (ba ⟨H,d+i*2,a8⟩))::env)):ed P Q ops M a0 w0 K (m+1) (o::rest) env:=
 .iu x y O hx J (λY w _ hA hY=>by
  have he:P.elem t=e:=by grind[Program.elem]
  cases E:P.info? e with
  |none=>grind
  |some ie=>
   simp only[E,Option.map_some,Option.some.injEq]at s;simp_all[execOp,run_indexAt_slice,sizeOf,typeInfo,addr_add,Result.andThen]) T
end
theorem DO{ws:LL}{s:br}{w:bd}(h:eD ws s w)(i:Int):0≤qs ws i∧qs ws i≤9223372036854775807:=by
 unfold qs;split
 ·omega
 ·rename_i U;obtain⟨A,c,-,T,O,J⟩:=eD.form h;obtain⟨b,E,-,-,d⟩:=J zO;obtain⟨z,-,H⟩:=d i.toNat zO;grind[eu.form,bf]
theorem Gb(f:Bool)(ws:LL)(bs:L8)(H:Int)(hs:List (Int×Int))(u v hv:br)(w:bd)(hS:jj f ws u w)(hB:eu bs v w)(hH:eP hs hv w)(hlen:bs.length≤1000000)(hn:hs.length≤1000000)(al:∀h∈hs,-9223372036854775808≤h.1∧h.1≤9223372036854775807) :
  bx prog 112 #[u,v,iV H,hv] w (eB w (eP (uJ ws bs H hs))):=by
 obtain⟨sl,rfl,hP⟩:=hS;have aV:=DO hP;have aO:Ext w (w.alloc (.cells #[.bool f,sl] 24)):=ek _ _;have aM:=Box.new w 24 #[.bool f,sl];obtain⟨i0,hi,av,au,aT⟩:=info_parts Tryz.infoP;have am:=G4 H;obtain⟨d,O⟩:∃d,uJ ws bs H hs=d:=⟨_,rfl⟩
 rw[O];have gK:=hide O;clear O;have aS:=hB;obtain⟨A,c,rfl,-⟩:=eu.form hB;obtain⟨A2,c2,rfl,aX,aW,hx⟩:=eP.form hH;clear hB;unfold bf at aW;go_enter func112,ntmps112;obtain⟨w1,ak,T,aa⟩:=run_make_full (P:=prog) (w.alloc (.cells #[.bool f,sl] 24)) w.heap.size 78 308 i0 (.agg #[iV 0,iV 0]) 2 underlying78 hi av au .i64 .i64 hs.length zG (by grind[bf]) zS;have ad:=gA aa rfl;rw[bg]at ak T;have aR:Ext w w1:=aO.tr ad;have aL:=aM.ext ad;clear aM aO ad;obtain⟨cs,aK,J⟩:=eP.made T;clear T aa hi av au aT;go_wp2_with fail;clear ak;refine(am _).mono ?_;rintro e w2 ⟨u,rfl,aj,rfl⟩;have ah:Ext w w2:=aR.tr aj;have E:=aK.ext aj;have s:=aL.ext aj;clear aL;have hu:(decide (0≤H)&&decide (H≤4611686018427387904))=DN H:=rfl;rw[hu];clear am aK aR aj hu;cases hf:DN H
 ·have ay:d=a6 hs.length (0,0):=by rw[←gK.out];simp_all[uJ,Bool.false_eq_true,List.map_const']
  have Hr:=hide (qa.pairs (n:=hs.length) J E zS (by grind[bf]));rw[←ay]at Hr;clear gK;clear ay hf J E hx;go_wp2;go_ret;exact eB.mk ah Hr.out
 ·have aG:0≤H∧H≤4611686018427387904:=by grind[DN]
  have gK:=hide (show hs.map (λh=>Bn bs H h.1 (qs ws h.2))=d by rw[←gK.out];grind[uJ]);clear hf;have HB:=hide (VP.st _ _ _ _ aS ah);have an:=λw' hB=>G5 bs H (.slice A bs.length c) w' hB hlen;go_wp2_with fail;refine(an _ HB.out).mono ?_;rintro e w3 ⟨g,sv,rfl,ai,aF,aD,af⟩;have aN:=ah.tr ai;have ao:=E.ext ai;have HT:=hide (s.ext ai);clear s;have aY:w.heap.size+1<g:=Nat.lt_of_lt_of_le E.lt aF;have af:lP w3 (w.heap.size+2) 3 sv (gh bs):=iY af E.lt;clear an HB E ai ah aS aF;have HL:=hide aD;have HS:=hide af;have HX:=hide aN;have HB:=hide ao;have HR:=hide J;clear aD af aN ao J;go_wp2
  go_loopw [25] (λi wr=>∃(k:Nat) (cs:AV),k≤hs.length∧i=iV k∧Hid (Box wr (w.heap.size+1) 308 cs)∧Hid (qa cs (d.take k++a6 (hs.length-k) (0,0)))∧Hid (Box wr g 361 #[iV H,iV (bs.length:Int),sv])∧Hid (lP wr (w.heap.size+2) 3 sv (gh bs))∧Hid (Box wr w.heap.size 24 #[.bool f,sl])∧Hid (Below w.heap.size w wr)) (λi _=>hs.length-(bu i).toNat)
  case atStart=>exact⟨0,cs,by omega,rfl,HB,HR,HL,HS,HT,HX⟩
  case round=>
   clear HL HS HX HB HR HT;obtain⟨k,cs,hk,rfl,HB,HR,HL,HS,HT,HX⟩:=hrel;by_cases U:k<hs.length
   ·obtain⟨b,ar,rfl,hb,ab⟩:=hx zO;obtain⟨aJ,aI⟩:=ab k U;have a4:=(HX.out.cell (p:=⟨b,ar+k*2,a8⟩) hb).trans aJ;have a3:=(HX.out.cell (p:=⟨b,ar+k*2+1,a8⟩) hb).trans aI;have aU:=al hs[k] (bh U);have Hk:=hide (show d.take (k+1)=d.take k++[Bn bs H hs[k].1 (qs ws hs[k].2)] by rw[←gK.out,a7 zG];simp);obtain⟨p1,p2⟩:=aU;generalize hs[k].1=x at*;generalize hs[k].2=y at*;clear ab hx aJ aI al;have aB:=aV y;have ag:=λw' hb hV=>zF bs H x (qs ws y) g sv w' hb hV hlen aG.1 aG.2 p1 p2 aB.1 aB.2;have aC:=λu w' hS=>Ga f ws y u w' hS;have aw:d.length=hs.length:=by rw[←gK.out];simp
    have aH:(d.take k++a6 (hs.length-k) ((0:Int),(0:Int))).length=hs.length:=by
     grind
    obtain⟨z1,z2,aA,az⟩:∃z1 z2,cs[k*2]?=ba z1∧cs[k*2+1]?=ba z2:=⟨_,_,HR.out.2 k zO⟩
    have I1:=hide aH;have Hrl:=hide aw;clear aH aw;have kx:=hide (show(d.take k++a6 (hs.length-k) ((0:Int),(0:Int))).set k (Bn bs H x (qs ws y))=d.take (k+1)++a6 (hs.length-(k+1)) (0,0)from TB d k hs.length U Hrl.out _ Hk.out);unfold TA at ag;generalize Bn bs H x (qs ws y)=q at*;obtain⟨q1,q2⟩:=q;dsimp only at ag;generalize qs ws y=ly at*;have ae:=ek wr (.cells #[iV x,iV y] 50);have Y:=Box.new wr 50 #[iV x,iV y];have s:=HT.out.alloc (.cells #[iV x,iV y] 50);have aQ:eD ws sl (wr.alloc (.cells #[iV x,iV y] 50)):=VP.st _ _ _ _ hP (Ext.tr (show Ext w wr from HX.out) ae);have ap:=HL.out.alloc (.cells #[iV x,iV y] 50);have aP:eQ (gh bs) sv (wr.alloc (.cells #[iV x,iV y] 50)):=VP.st _ _ _ _ (lP.ints HS.out) ae;go_upto_region 8 with(fail)
    refine vQ 11 (.g ?_);refine ed.gG 3 _ rfl wA oA (λ_=>by rfl) (Y.at_ 0 rfl) (eh _) ?_;refine ed.eU 24 _ rfl wA oA underlying24 rfl zR s (eh _) (.g ?_);refine ed.gG 3 _ rfl wA oA (λ_=>by rfl) (Y.at_ 1 rfl) (eh _) ?_;refine ed.call2 172 _ _ _ rfl (enters_of func172 zR rfl) wA oA oA (λu v W hX hu hv=>by rw[show u=_ from hu,show v=_ from hv];exact aC _ W ⟨_,rfl,VP.st _ _ _ _ aQ ((eh _).tr hX)⟩) ?_;refine ed.call3 171 _ _ _ _ rfl (enters_of func171 zR rfl) wA oA oA oA (λa b c W hX ha hb hc=>by rw[show a=_ from ha,show b=_ from hb,show c=_ from hc];exact ag W (ap.ext ((eh _).tr hX)) (VP.st _ _ _ _ aP ((eh _).tr hX))) ?_;refine ed.O0 78 308 _ _ .i64 k rfl underlying78 zR wA oA oA U (.g ?_);intro W8 aq;have s:=s.drew.ext aq;have hE:=((eh _).tr aq)
    try simp only[Nat.zero_add]
    have OZ:Hid (Below w.heap.size w W8):=hide (HX.out.trans ((ae.tr hE).mono HX.out.size));have HB4:=hide ((HB.out.alloc (.cells #[iV x,iV y] 50)).ext hE);have Vq:=hide (ap.ext hE);have P4:=hide (fy (fy HS.out ae) hE);have HT4:=hide s;have a2:=(HB4.out.cell (k*2)).trans aA;have aX:=(HB4.out.cell (k*2+1)).trans az;have a1:=HB4.out.frozen (k*2);have aZ:=HB4.out.frozen (k*2+1);clear hE aq ae Y s aQ ap aP ag aC aA az HX HL HS HB HT;go_wp2;have aE:=own_ne P4.out (k:=w.heap.size+1) zO;refine⟨⟨k+1,_,by omega,by go_num,hide ((HB4.out.eL (k*2) (iV q1)).eL (k*2+1) (iV q2)),hide ?_,hide ((Vq.out.far (p:=⟨w.heap.size+1,k*2,a8⟩) zG _).far (p:=⟨w.heap.size+1,k*2+1,a8⟩) zG _),hide (iX (iX P4.out ⟨w.heap.size+1,k*2,a8⟩ aE _) ⟨w.heap.size+1,k*2+1,a8⟩ aE _),hide ((HT4.out.far (p:=⟨w.heap.size+1,k*2,a8⟩) zG _).far (p:=⟨w.heap.size+1,k*2+1,a8⟩) zG _),hide ((OZ.out.setCell (p:=⟨w.heap.size+1,k*2,a8⟩) (Nat.le_succ _) _).setCell (p:=⟨w.heap.size+1,k*2+1,a8⟩) (Nat.le_succ _) _)⟩,by grind[bu]⟩;rw[←kx.out];exact qa.set HR.out k (by rw[I1.out];exact U) (q1,q2)
   ·obtain rfl:k=hs.length:=zO;have hl:d.length=hs.length:=by rw[←gK.out];simp
    have Ho:=hide (qa.pairs HR.out HB.out (n:=hs.length) (by simp[hl]) (by grind[bf]));have he:d.take hs.length++a6 (hs.length-hs.length) (0,0)=d:=zG;have Vr:Hid (eP d (.slice (ba ⟨w.heap.size+1,0,a8⟩) hs.length hs.length) wr):=hide (by have:=Ho.out;grind);clear he hl Ho hx;go_wp2;go_ret;exact eB.mk HX.out Vr.out
end
end
end Go.Proofs.YtofgfpffcegioaaGreat
namespace Go.Proofs.YtofgfpffcegioaaGreat
open Go.RowKit Go.Shelf Go.Sort iT jH fq Go.Proofs.Tryz
open _root_.Array renaming getElem?_setIfInBounds_ne → bt,getElem?_setIfInBounds_self_of_lt → bw,replicate_succ → bB,replicate_zero → bJ,getElem?_toList → bY
open _root_.Go renaming World → bC,maxLen → bG,Calls → bK,bodyPost_ret → bq,Value → br,Oper → b7
open Go.Fence renaming wide → b6
open Go.Lib renaming compareInt → bZ
open Go.Oper renaming semAt_some → bX
open Go.Operand renaming tmp → b5
open Go.Proofs.Tryz renaming prog → ca,underlying50 → bF,underlying28 → bI,underlying38 → bV
open Go.RowKit renaming intOf → bu
open Go.RowKit.Below renaming heap_setCell → bz
open Go.Value renaming int → b0
open Go.World renaming size_alloc → bH
open List renaming append_toArray → bL,size_toArray → bP,push_toArray → bQ,getElem?_take_of_lt → bR,length_cons → bT,cons_append → bU,length_nil → bW,nil_append → b2
open Nat renaming lt_of_lt_of_le → bm,zero_add → bN,le_of_lt → bO,reduceAdd → b3,reduceSub → b4,le_refl → cc,zero_le → cd
open Option renaming none → b8,some → b9
theorem Na(d:LL)(v:br)(w:bC)(hP:eD d v w)(hlen:d.flatten.length≤1000000):bK ca 109 #[v] w (eY w (λv w'=>OwnB w' w.heap.size 5 v d.flatten)):=by
 obtain⟨A,c,rfl,aj,ah,hx⟩:=eD.form hP;obtain⟨i0,hi,af,ae,ad⟩:=info_parts Tryz.BU;clear hP;unfold bG at ah;go_enter func109,ntmps109;go_wp2
 go_loopw [3,8] (λl i wr=>∃k:Nat,k≤d.length∧i=iV k∧Hid (OwnB wr w.heap.size 5 l (d.take k).flatten)∧Below w.heap.size w wr)
  (λ_ i _=>d.length-(bu i).toNat)
 case atStart=>exact⟨0,by omega,rfl,OwnB.nil _ _ _,Below.refl _ _⟩
 case round=>
  obtain⟨k,hk,rfl,Ho,O⟩:=hrel;by_cases aa:k<d.length
  ·obtain⟨b,ab,rfl,hb,s⟩:=hx zO;obtain⟨x,U,T⟩:=s k aa;have ai:=(O.cell (p:=⟨b,ab+k,b8⟩) hb).trans U;have E:=VP.st _ _ _ _ T O;obtain⟨A2,c2,rfl,-⟩:=eu.form E;have J:=vk d k aa;have ag:=dV d (k+1);rw[J,List.length_append]at ag;have Qo:=hide J;have Hx:=hide E;clear s hx U T E J;generalize d[k]=bs at*;go_wp2_with(at_builtin;refine gC rfl _ _ 43 rfl w.heap.size 5 i0 (.int .u8 0) underlying43 hi af ae ad rfl _ _ (d.take k).flatten bs rfl Ho.out rfl Hx.out zO O.size ?_;intro v' w' Y H ak)
   refine⟨⟨k+1,by omega,by go_num,?_,O.grown H O.size (λj hj=>OwnB.ge Ho.out j hj)⟩,by grind[bu]⟩;show OwnB _ _ _ _ _;rw[Qo.out];exact Y
  ·obtain rfl:k=d.length:=zO;go_wp2;go_ret;refine eY.mk O ?_;have:=Ho.out;simp_all
theorem Nb(f:Bool)(ws:LL)(g:Nat)(w:bC)(hM:xD f ws g w)(hl:∀b∈ws,b.length≤1000000)(hn:ws.length≤1000000) :
  bK ca 164 #[eF g] w (eY w λr w'=>∃sv,r=.agg #[.bool f,sv]∧fE w' w.heap.size 43 5 sv ws):=by
 obtain⟨-,cl,m,n,vr,vs,lo,mo,vw,hb,hS⟩:=hM;obtain⟨_,e0,hP⟩:=hS;cases e0;obtain⟨A,c,rfl,-⟩:=eD.form hP;have T:=ek w (.cells #[.bool false,nS] 24);have J:=Box.new w 24 #[.bool false,nS];have d:=hb.ext T;have d1:=(d.cell 259).trans OC;have d2:=(d.cell 260).trans QP;have hO:=hide (Cj f ws (.agg #[.bool f,.slice A ws.length c]) (w.alloc (.cells #[.bool false,nS] 24)) ⟨_,rfl,VP.st _ _ _ _ hP T⟩ hl hn);have HB:=hide J;have HX:=hide T;clear hb d hP T J hl hn;go_enter func164,ntmps164;go_wp2_with fail;refine hO.out.mono ?_;rintro _ w2 ⟨_,rfl,E,sv,rfl,s⟩;obtain⟨Y,U,rfl⟩:=fE.form s;have H:=HB.out.ext E;have O:=HX.out.tr E;have ae:=H.at_ 0 rfl;have ad:=H.at_ 1 rfl;have ab:=H.frozen 0;have aa:=H.frozen 1;have HS:=hide ((H.eL 0 (.bool f)).eL 1 (.slice Y ws.length U));have HE2:=hide ((O.setCell (p:=⟨w.heap.size,0,b8⟩) zS (.bool f)).setCell (p:=⟨w.heap.size,1,b8⟩) zS (.slice Y ws.length U));have Bs:=hide (fE.set (fE.set s ⟨w.heap.size,0,b8⟩ (by simp_all) (.bool f)) ⟨w.heap.size,1,b8⟩ (by simp_all) (.slice Y ws.length U));clear hO HB HX H O s E;go_wp2;exact bq (lh results164 _ _ w.heap.size 24 #[.bool f,.slice Y ws.length U] _ rfl HS.out underlying24 rfl zR) rfl (eY.mk HE2.out ⟨_,rfl,fE.low Bs.out (by simp_all)⟩)
theorem Nc(f:Bool)(ws:LL)(g:Nat)(w:bC)(U:qU f ws g w)(hl:∀b∈ws,b.length≤1000000)(hn:ws.length≤1000000) :
  bK ca 110 #[eF g] w (eY w λr w'=>∃sv,r=.agg #[.bool f,sv]∧fE w' w.heap.size 43 5 sv ws):=by
 obtain⟨gm,hb,U⟩:=U;have T:=ek w (.cells #[.bool false,nS] 24);have H:=Box.new w 24 #[.bool false,nS];have J:=hb.ext T;have d1:=J.at_ 0 rfl;have hO:=hide (Nb f ws gm (w.alloc (.cells #[.bool false,nS] 24)) (U.ext T) hl hn);have HB:=hide H;have HX:=hide T;clear hb J U T H hl hn;go_enter func110,ntmps110;go_wp2_with fail;refine hO.out.mono ?_;rintro _ w2 ⟨_,rfl,s,sv,rfl,d⟩;obtain⟨A4,Y,rfl⟩:=fE.form d;have E:=HB.out.ext s;have O:=HX.out.tr s;have ae:=E.at_ 0 rfl;have ad:=E.at_ 1 rfl;have ab:=E.frozen 0;have aa:=E.frozen 1;have HS:=hide ((E.eL 0 (.bool f)).eL 1 (.slice A4 ws.length Y));have HE2:=hide ((O.setCell (p:=⟨w.heap.size,0,b8⟩) zS (.bool f)).setCell (p:=⟨w.heap.size,1,b8⟩) zS (.slice A4 ws.length Y));have Bs:=hide (fE.set (fE.set d ⟨w.heap.size,0,b8⟩ (by simp_all) (.bool f)) ⟨w.heap.size,1,b8⟩ (by simp_all) (.slice A4 ws.length Y));clear hO HB HX E O d s;go_wp2;exact bq (lh results110 _ _ w.heap.size 24 #[.bool f,.slice A4 ws.length Y] _ rfl HS.out underlying24 rfl zR) rfl (eY.mk HE2.out ⟨_,rfl,fE.low Bs.out (by simp_all)⟩)
def nC(ws:LL):List Int:=ws.map λb=>(b.length:Int)
theorem oh(ws:LL):(nC ws).length=ws.length:=List.length_map _
theorem Gc(ws:LL)(k:Nat)(h:k<ws.length):nC (ws.take (k+1))=nC (ws.take k)++[(ws[k].length:Int)]:=by
 grind[nC,List.take_succ_eq_append_getElem]
def TC(ws:LL):VP:=⟨λv w=>∃d,v=.agg #[d,iV (fG ws:Int)]∧eQ (nC ws) d w,λ_ _ _ ⟨d,H,E⟩ s=>⟨d,H,VP.wk _ _ _ _ E s⟩⟩
theorem Bo(f:Bool)(ws:LL)(u:br)(w:bC)(hS:jj f ws u w)(hl:∀b∈ws,b.length≤1000000)(hn:ws.length≤1000000) :
  bK ca 165 #[u] w (eB w (TC ws)):=by
 obtain⟨i0,hi,av,au,ar⟩:=info_parts Tryz.P3;obtain⟨sl,rfl,hP⟩:=hS;have am:=hP;obtain⟨A,c,rfl,aH,H,-⟩:=eD.form hP;unfold bG at H;have al:=ek w (.cells #[.bool f,.slice A ws.length c] 24);have ae:=al.tr (ek (w.alloc (.cells #[.bool f,.slice A ws.length c] 24)) (.cells #[nS,iV 0] 298));have ad:=(Box.new w 24 #[.bool f,.slice A ws.length c]).alloc (.cells #[nS,iV 0] 298);have J:=Box.new (w.alloc (.cells #[.bool f,.slice A ws.length c] 24)) 298 #[nS,iV 0];rw[bH]at J;have hL:=hide (sm f ws (.agg #[.bool f,.slice A ws.length c]) _ ⟨_,rfl,VP.st _ _ _ _ hP ae⟩ hl);have HX:=hide ae;have H1:=hide ad;have H2:=hide J;have HP:=hide am;have HZ:=hide (show(w.heap.size+1)<((w.alloc (.cells #[.bool f,.slice A ws.length c] 24)).alloc (.cells #[nS,iV 0] 298)).heap.size by simp);clear al ae ad J hP am;go_enter func165,ntmps165;go_wp2_with fail;refine hL.out.mono ?_;rintro _ d ⟨_,rfl,Y,rfl⟩;have hb:=(H1.out.ext Y).alloc (.cells #[nS,iV (fG ws:Int)] 298);have az:=hb.at_ 1 rfl;have HE2:=hide (HX.out.tr Y);have H2:=hide (H2.out.ext Y);have ak:=Box.new d 298 #[nS,iV (fG ws:Int)];have ai:Below d.heap.size d (d.alloc (.cells #[nS,iV (fG ws:Int)] 298)):=ek _ _;have ab:d.heap.size+1≤(d.alloc (.cells #[nS,iV (fG ws:Int)] 298)).heap.size:=by simp
 clear hL hb HX Y H1;go_wp2_with fail
 go_loopw [5,12] (λ_ i wr=>∃(k:Nat) (T:Option Addr) (O:Nat),k≤ws.length∧i=iV k∧Hid (Box wr d.heap.size 298 #[.slice T k O,iV (fG ws:Int)])∧Hid (wr.ownsRow (d.heap.size+1) 3 1 (.slice T k O) k ((nC (ws.take k)).map (.int .i64)))∧Hid (Below d.heap.size d wr)∧d.heap.size+1≤wr.heap.size) (λ_ i _=>ws.length-(bu i).toNat)
 case atStart=>exact⟨0,b8,0,by omega,rfl,hide ak,hide (World.ownsRow_nil _ _ _ _),hide ai,ab⟩
 case round=>
  clear ak ai ab az;obtain⟨k,T,O,hk,rfl,HB,HO,HR,ab⟩:=hrel;have hb:Box wr d.heap.size 298 #[.slice T k O,iV (fG ws:Int)]:=HB.out;have hE:Ext w wr:=(HE2.out).tr HR.out;by_cases ah:k<ws.length
  ·obtain⟨_,_,e0,-,-,hx⟩:=eD.form HP.out;cases e0;obtain⟨b,aq,rfl,aA,E⟩:=hx zO;obtain⟨x,ag,af⟩:=E k ah;obtain⟨Ab,cb,rfl,ad,J,-⟩:=eu.form af;have aF:=(hE.cell (p:=⟨b,aq+k,b8⟩) aA).trans ag;have Hs:=Gc ws k ah;generalize nC (ws.take k)=ns at*;generalize ws[k].length=L at*;unfold bG at J;have Hs:=hide Hs;have aG:=hb.at_ 0 rfl;clear hb E ag af hx;go_wp2_with(at_builtin;refine eJ rfl _ _ 28 rfl (d.heap.size+1) 3 i0 (iV 0) 1 8 bI hi av au ar rfl zO _ _ k 1 (ns.map (.int .i64)) [iV L] rfl (fy HO.out (ek _ _)) rfl rfl (Src.new _ _ _ _) (λy hy=>by rw[List.mem_singleton]at hy;subst hy;rfl) zO zT ?_;intro v' w' aa s aI;obtain⟨A4,c4,aw⟩:=eI aa;subst aw;have U:=(HB.out.alloc (.cells #[iV L] 3)).grown s (λe=>by have:=fk HO.out _ e;omega);have aE:=U.at_ 0 rfl;have aD:=U.frozen 0;have HB4:=hide U;clear U)
   have ay:=s.size;rw[bH]at ay;have aC:Value.ownBlock (.slice A4 (k+1) c4)≠b9 d.heap.size:=λe=>by have:=fk aa _ e;omega
   have aB:Below d.heap.size d (w'.setCell ⟨d.heap.size,0,b8⟩ (.slice A4 (k+1) c4)):=(jB HR.out s (λj hj=>by have:=fk HO.out j hj;omega)).setCell (p:=⟨d.heap.size,0,b8⟩) (cc _) _;refine⟨⟨k+1,A4,c4,by omega,congrArg (b0 .i64) zO,hide (HB4.out.eL 0 _),hide ?_,hide aB,?_⟩,by grind[bu]⟩
   ·grind[iX]
   grind[World.setCell]
  ·obtain rfl:k=ws.length:=zO;rw[List.take_length]at HO;have H:=H2.out.ext HR.out;have ap:Ext w wr:=HE2.out.tr HR.out;have d0:=hb.at_ 0 rfl;have d1:=hb.at_ 1 rfl;clear HP HB HE2 HR hE hb H2;have ao:=ap.grown (jC wr (w.heap.size+1) #[.slice T ws.length O,iV (fG ws:Int)]) ap.size (λk hk=>by grind);have aj:=H.gR (cs:=#[.slice T ws.length O,iV (fG ws:Int)]);have an:lP (wr.setRow (w.heap.size+1) #[.slice T ws.length O,iV (fG ws:Int)]) (d.heap.size+1) 3 (.slice T ws.length O) (nC ws):=by
    have h:=kS HO.out H zD #[.slice T ws.length O,iV (fG ws:Int)];grind[lP,oh]
   have HF:=hide (And.intro ao (And.intro aj an));clear ao aj an;go_wp2_with(refine wpList_store_row rfl 298 _ _ rfl (w.heap.size+1) #[.slice T ws.length O,iV (fG ws:Int)] rfl rfl 298 _ H zR rfl (by simp[Value.oneCell']) ?_)
   refine bq (lh results165 _ _ (w.heap.size+1) 298 #[.slice T ws.length O,iV (fG ws:Int)] _ rfl HF.out.2.1 underlying298 rfl zR) rfl ?_;exact eB.mk HF.out.1 ⟨_,rfl,lP.ints HF.out.2.2⟩
section
section
attribute [local irreducible] ew ed
def LenAt(ws:LL)(g:Nat)(w:bC):Prop:=∃d,Box w g 298 #[d,iV (fG ws:Int)]∧eQ (nC ws) d w
theorem LenAt.ext{ws:LL}{g:Nat}{w d:bC}(h:LenAt ws g w)(s:Ext w d):LenAt ws g d:=by
 obtain⟨E,J,H⟩:=h;exact⟨E,J.ext s,VP.st _ _ _ _ H s⟩
theorem LenAt.cell{ws:LL}{g:Nat}{w:bC}(h:LenAt ws g w)(h0:0<ws.length):∃b d c,Box w g 298 #[.slice (b9 ⟨b,d,b8⟩) ws.length c,iV (fG ws:Int)]∧ws.length≤c∧c≤bG∧b<w.heap.size∧∀j (_:j<ws.length),w.cell? ⟨b,d+j,b8⟩=b9 (iV ((ws.getD j []).length:Int)):=by
 obtain⟨E,O,s⟩:=h;obtain⟨A,c,rfl,U,T,J⟩:=eQ.form s;grind[oh,trans,nC,List.getElem?_eq_getElem]
section
variable {ws:List (List UInt8)} {g:Nat} {w:bC}
theorem rJ(hL:LenAt ws g w)(e:Int)(k:Nat)(hk:k<ws.length)(aa:0≤e)(he:e≤4611686020574871551)(hw:(ws.getD k []).length≤1000000) :
  bK ca 227 #[eF g,.agg #[iV e,iV k]] w (eB w (eC (iV (e-((ws.getD k []).length:Int))))):=by
 obtain⟨b,H,c,hb,ab,T,U,d⟩:=hL.cell zO;have E:=ek w (.cells #[iV e,iV k] 50);have O:=(E.cell (p:=⟨b,H+k,b8⟩) U).trans (d k hk);have Y:=(hb.ext E).at_ 0 rfl;have J:=Box.new w 50 #[iV e,iV k];have h0:=J.at_ 0 rfl;have h1:=J.at_ 1 rfl;unfold bG at T;clear d hb J hL;generalize(ws.getD k []).length=L at*;generalize ws.length=n at*;go_enter func227,ntmps227;go_upto_region 1 with(fail)
 refine vQ 11 (.g ?_);refine ed.fD (i:=k) 28 3 _ _ rfl bI zR zO wA oA oA (.g ?_);refine ed.kC _ _ _ _ rfl wA oA oA zO (.g ?_);intro W1 s;have hE:=E.tr ((eh _).tr s);clear s O Y h0 h1 E;go_wp2;go_ret;exact eB.mk hE rfl
theorem Nd(hL:LenAt ws g w)(e:Int)(k:Nat)(hk:k<ws.length)(he:e≤4611686020574871551)(hw:((ws.getD k []).length:Int)≤e) :
  bK ca 166 #[eF g,.agg #[iV e,iV k]] w (eB w (eC (.bool true))):=by
 obtain⟨b,H,c,hb,aa,T,U,d⟩:=hL.cell zO;have E:=ek w (.cells #[iV e,iV k] 50);have O:=(E.cell (p:=⟨b,H+k,b8⟩) U).trans (d k hk);have Y:=(hb.ext E).at_ 0 rfl;have J:=Box.new w 50 #[iV e,iV k];have h0:=J.at_ 0 rfl;have h1:=J.at_ 1 rfl;unfold bG at T;clear d hb J hL;generalize(ws.getD k []).length=L at*;generalize ws.length=n at*;go_enter func166,ntmps166;go_upto_region 1 with(fail)
 refine vQ 31 (.g ?_);refine ed.Eh _ _ _ _ rfl wA oA (eE _) zO (.g ?_);refine ed.qw _ _ _ _ rfl wA oA oA zO (.g ?_);refine ed.fD (i:=k) 28 3 _ _ rfl bI zR zO wA oA oA (.g ?_);refine ed.Eh _ _ _ _ rfl wA oA oA zO (.g ?_);refine ed.Sr _ _ _ _ rfl wA oA (eE _) zO (.g ?_);intro W1 s;have hE:=E.tr ((eh _).tr s);clear s O Y h0 h1 E;go_wp2;go_ret;exact eB.mk hE rfl
def o6:VP:=⟨λv _=>∃z:Int,v=iV z,λ_ _ _ h _=>h⟩
theorem O1(s:List Int)(v:br)(w:bC)(Y:eQ s v w):bK ca 183 #[v] w (eB w o6):=by
 obtain⟨A,c,rfl,ab,T,U⟩:=eQ.form Y;unfold bG at T;have HX:=hide U;clear Y U;go_enter func183,ntmps183;go_wp2_with fail
 go_loopw [5,8] (λ_ i wr=>∃k:Nat,k≤s.length∧i=iV k∧Hid (Ext w wr)) (λ_ i _=>s.length-(bu i).toNat)
 case atStart=>grind[hide,Ext.rf]
 case round=>
  obtain⟨k,hk,rfl,H⟩:=hrel;by_cases O:k<s.length
  ·obtain⟨b,J,rfl,E,d⟩:=HX.out zO;have aa:=(H.out.cell (p:=⟨b,J+k,b8⟩) E).trans (d k O);clear d E;generalize s[k]=x at*;by_cases h0:x=0
   ·go_wp2;exact⟨⟨k+1,by omega,congrArg (b0 .i64) zO,H⟩,by grind[bu]⟩
   ·go_wp2;go_ret;exact eB.mk H.out ⟨x,rfl⟩
  ·obtain rfl:k=s.length:=zO;go_wp2;go_ret;exact eB.mk H.out ⟨_,rfl⟩
theorem Gd(hL:LenAt ws g w)(e e2:Int)(k H:Nat)(hk:k<ws.length)(aa:H<ws.length)(ai:0≤e)(he:e≤4611686020574871551)(ab:0≤e2)(ah:e2≤4611686020574871551)(hw:(ws.getD k []).length≤1000000)(ag:(ws.getD H []).length≤1000000) :
  bK ca 226 #[eF g,.agg #[iV e,iV k],.agg #[iV e2,iV H]] w (eB w o6):=by
 obtain⟨w1,J⟩:∃w1,w1=(w.alloc (.cells #[iV e,iV k] 50)).alloc (.cells #[iV e2,iV H] 50):=⟨_,rfl⟩
 have hX:Ext w w1:=by rw[J];exact(ek _ _).tr (ek _ _)
 have ha:Box w1 w.heap.size 50 #[iV e,iV k]:=by rw[J];exact(Box.new _ _ _).alloc _
 have hb:Box w1 (w.heap.size+1) 50 #[iV e2,iV H]:=by
  grind[Box.new,bH]
 have U:=hL.ext hX;have am:=hide (λW (hE:Ext w1 W)=>rJ (U.ext hE) e k hk ai he hw);have al:=hide (λW (hE:Ext w1 W)=>rJ (U.ext hE) e2 H aa ab ah ag);obtain⟨b,an,c,ak,ao,aj,ap,d⟩:=U.cell zO;have q1:=d k hk;have q2:=d H aa;have a1:=ha.at_ 1 rfl;have b1:=hb.at_ 1 rfl;have s0:=ak.at_ 0 rfl;unfold bG at aj;clear d hL U;generalize(ws.getD k []).length=L at*;generalize(ws.getD H []).length=L2 at*;generalize ws.length=n at*;go_enter func226,ntmps226;go_upto_region 1 with(fail)
 rw[←J];clear J;refine vQ 31 (.g ?_);refine ed.eU 50 _ rfl wA oA bF rfl zR ha (eh _) ?_;refine ed.call2 227 _ _ _ rfl (enters_of func227 zR rfl) wA oA oA (F:=eC (iV (e-(L:Int)))) (λ_ _ W s E Y=>by cases E;cases Y;exact am.out W ((eh _).tr s)) (.g ?_);refine ed.eU 50 _ rfl wA oA bF rfl zR hb (eh _) ?_;refine ed.call2 227 _ _ _ rfl (enters_of func227 zR rfl) wA oA oA (F:=eC (iV (e2-(L2:Int)))) (λ_ _ W s E Y=>by cases E;cases Y;exact al.out W ((eh _).tr s)) ?_;refine ed.call2 184 _ _ _ rfl (enters_of func184 zR rfl) wA oA oA (F:=eC (iV (bZ (e-(L:Int)) (e2-(L2:Int))))) (λ_ _ W s E Y=>by cases E;cases Y;refine(Tryz.cmp_Compare_int _ _ W).mono ?_;rintro _ _ ⟨rfl,rfl⟩;exact eB.mk (Ext.rf _) rfl) (.g ?_);refine ed.fD (i:=H) 28 3 _ _ rfl bI zR zO wA oA oA (.g ?_);refine ed.fD (i:=k) 28 3 _ _ rfl bI zR zO wA oA oA (.g ?_);refine ed.call2 184 _ _ _ rfl (enters_of func184 zR rfl) wA oA oA (F:=eC (iV (bZ (L2:Int) (L:Int)))) (λ_ _ W s E Y=>by cases E;cases Y;refine(Tryz.cmp_Compare_int _ _ W).mono ?_;rintro _ _ ⟨rfl,rfl⟩;exact eB.mk (Ext.rf _) rfl) (.g ?_);refine ed.call2 184 _ _ _ rfl (enters_of func184 zR rfl) wA oA oA (F:=eC (iV (bZ (k:Int) (H:Int)))) (λ_ _ W s E Y=>by cases E;cases Y;refine(Tryz.cmp_Compare_int _ _ W).mono ?_;rintro _ _ ⟨rfl,rfl⟩;exact eB.mk (Ext.rf _) rfl) ?_;refine ed.lit (Fs:=[_,_,_]) [b5 13,b5 30,b5 35] 28 3 3 _ rfl rfl zD zD rfl bI zR zR ⟨kQ rfl,kQ rfl,kQ rfl,trivial⟩ wA ⟨oA,oA,oA,trivial⟩ ?_;refine ed.gz 183 _ _ rfl (enters_of func183 zR rfl) wA oA (F:=o6) (λv W s E=>O1 [_,_,_] v W E) (.g ?_);intro W1 ad;refine .any λaf T=>?_;refine .e ?_;refine .any λae O=>?_;refine .e ?_;clear T;have hE:=hX.tr ((eh _).tr ad);clear ad hX;go_wp2;go_ret;exact eB.mk hE O
end
end
end
section
theorem ed.Ge{Q:Exit→Act→bC→Prop}{d:Array b7}{M m:Nat}{a0:Act}{w0:bC}{K:List b7→List VP→Prop}{o:b7}{E:List b7}{s:List VP}{F Fx Fy:VP}{b:br}(f:FuncId)(c x y:Operand)(aa:Array TypeId)(ho:o.op=.call { callee:=.value c,args:=#[x,y],argTypes:=aa })
  (T:∀args w,(callFunc f args).run ca w=.ok (.enter f args) w)(hw:Want d M a0 w0 s o true)(hc:fu d M a0 w0 s o c (eC (.func (.func f) #[b] #[])))(hx:fu d M a0 w0 s o x Fx)(hy:fu d M a0 w0 s o y Fy)
  (h:∀u v w,Ext w0 w→Fx u w→Fy v w→bK ca f #[b,u,v] w (eB w F))
  (hr:ed ca Q d M a0 w0 K m E (F::s)):ed ca Q d M a0 w0 K (m+1) (o::E) s:=by
 refine⟨F,λa w J Y U=>?_,hr⟩
 ·rw[hw a w J Y U,if_pos rfl];have H:a.eval c=.func (.func f) #[b] #[]:=hc a w J Y U;have O:(execOp a.eval o).run ca w=.ok (.enter f #[b,a.eval x,a.eval y]) w:=by
   revert H;generalize a.eval=ρ;intro H;unfold execOp;simp only[ho,resolve,H,Sem.run_bind];simp[go_sem,T,List.map_toArray,List.map_cons,List.map_nil]
  unfold Oper.wp;rw[O];refine(h _ _ w J (hx a w J Y U) (hy a w J Y U)).mono ?_;rintro e w' ⟨v,rfl,h1,h2⟩;exact⟨v,rfl,h1.grow J.size,h2⟩
def RU:VP:=⟨λv _=>∃z:Bool,v=.bool z,λ_ _ _ h _=>h⟩
theorem ed.RV{Q:Exit→Act→bC→Prop}{d:Array b7}{M m:Nat}{a0:Act}{w0:bC}{K:List b7→List VP→Prop}{o:b7}{E:List b7}{s:List VP}{c:Int}{H:TypeId}(x:Operand)(U:o.op=.binOp .lss 3 x (.const (iV c)) H)(O:Want d M a0 w0 s o true)(hx:fu d M a0 w0 s o x o6)
  (T:ed ca Q d M a0 w0 K m E (RU::s)):ed ca Q d M a0 w0 K (m+1) (o::E) s:=
 .val O (λa w Y hC hD=>by
  obtain⟨z,J⟩:=hx a w Y hC hD;exact⟨.bool (decide (z<c)),by unfold execOp;rw[U];dsimp only;rw[J];rfl,_,rfl⟩) T
def qD(P:Int×Int→Prop)(n:Nat)(cs:AV):Prop:=n*2≤cs.size∧∀j,j<n→∃h:Int×Int,P h∧cs[j*2]?=b9 (iV h.1)∧cs[j*2+1]?=b9 (iV h.2)
theorem qD.swap{P:Int×Int→Prop}{n:Nat}{cs:AV}(h:qD P n cs){j:Nat}(_:j+1<n){a b:Int×Int}(Y:P a)(U:P b){new:AV}(d:new.size=cs.size)
  (h0:new[j*2]?=b9 (iV a.1))(h1:new[j*2+1]?=b9 (iV a.2))(h2:new[(j+1)*2]?=b9 (iV b.1))(h3:new[(j+1)*2+1]?=b9 (iV b.2))(O:∀k,k<j*2∨j*2+4≤k→new[k]?=cs[k]?):qD P n new:=by
 refine⟨by rw[d];exact h.1,λk s=>?_⟩;by_cases e1:k=j
 ·grind
 by_cases e2:k=j+1
 ·grind
 obtain⟨x,J,H,E⟩:=h.2 k s;grind
theorem qD.get{P:Int×Int→Prop}{n:Nat}{cs:AV}(h:qD P n cs){w:bC}{g:Nat}{t:TypeId}(T:Box w g t cs){j:Nat}(J:j<n):∃x:Int×Int,P x∧cs[j*2]?=b9 (iV x.1)∧cs[j*2+1]?=b9 (iV x.2)∧∀i v,(#[iV x.1,iV x.2]:AV)[i]?=b9 v→w.cell? ⟨g,0+j*2+i,b8⟩=b9 v:=by
 obtain⟨x,E,s,d⟩:=h.2 j J;refine⟨x,E,s,d,λi v O=>?_⟩;have H:i<2:=(Array.getElem?_eq_some_iff.1 O).1;rw[T.cell,bN];grind
theorem grownBy_setCell(W:bC)(p:Addr)(v:br):W.grownBy (W.setCell p v) (b9 p.block):=
 ⟨rfl,rfl,rfl,(KeepsWalks.setCell W p v).size,λk _ d=>bz _ _ _ k (λe=>d (by rw[e]))⟩
section
variable {w:bC}
attribute [local irreducible] ew ed in
theorem Gf(P:Int×Int→Prop)(gr n c f:Nat)(b:br)(cs:AV)(w:bC)(hb:Box w gr 50 cs)(hR:qD P n cs)(_:n≤1000000)(aC:n≤c)(hc:c≤bG)
  (ap:∀ah w,(callFunc f ah).run ca w=.ok (.enter f ah) w)
  (ag:∀W,w.grownBy W (b9 gr)→∀x y:Int×Int,P x→P y→bK ca f #[b,.agg #[iV x.1,iV x.2],.agg #[iV y.1,iV y.2]] W (eB W o6)) :
  bK ca 306 #[.slice (b9 ⟨gr,0,b8⟩) n c,iV 0,iV n,.func (.func f) #[b] #[]] w (λe w'=>∃v,e=.returned v∧w.grownBy w' (b9 gr)∧∃d,Box w' gr 50 d∧qD P n d):=by
 unfold bG at hc;have HE:=hide ap;have HC:=hide ag;clear ag;go_enter func306,ntmps306;go_wp2_with fail
 go_loopw [8,9] (λi _ wr=>∃(k:Nat) (d:AV),1≤k∧(k≤n∨k=1)∧i=iV k∧Hid (w.grownBy wr (b9 gr))∧Hid (Box wr gr 50 d)∧Hid (qD P n d)) (λi _ _=>n-(bu i).toNat)
 case atStart=>exact⟨1,cs,by omega,.inr rfl,rfl,hide (World.grownBy.refl _ _),hide hb,hide hR⟩
 case round=>
  clear hb hR;obtain⟨k,d,aG,aF,rfl,HG,Y,HR⟩:=hrel;by_cases aE:k<n
  ·go_wp2_with fail
   go_loopw [9] (λj wq=>∃(m:Nat) (H:AV),m≤k∧j=iV m∧Hid (w.grownBy wq (b9 gr))∧Hid (Box wq gr 50 H)∧Hid (qD P n H)) (λj _=>(bu j).toNat)
   case atStart=>exact⟨k,d,by omega,rfl,HG,Y,HR⟩
   case round=>
    clear HG Y HR d;obtain⟨s,H,aD,rfl,HG,Y,HR⟩:=hrel;by_cases hz:s=0
    ·subst hz;rw[show((0:Nat):Int)=0 from rfl];go_upto_region 4 with(fail)
     refine vQ 17 (.g ?_);refine ed.Ei _ _ _ _ rfl wA oA oA zO (.g ?_);intro W4 E;have HG2:=hide (HG.out.trans (gZ ((eh _).tr E)|>.but _));have HB2:=hide (Y.out.ext ((eh _).tr E));clear HG Y E;go_wp2;exact⟨⟨k+1,H,by omega,by omega,congrArg (b0 .i64) zO,HG2,HB2,HR⟩,by simp only[bu];omega⟩
    ·obtain⟨m,hm⟩:∃m:Nat,s=m+1:=⟨s-1,by omega⟩
     have ao:s<n:=zO;have af:m<n:=zO;have ae:=hide (show((s:Int)-1)=(m:Int) by omega);obtain⟨x,hx,an,am,aj⟩:=HR.out.get Y.out ao;obtain⟨y,hy,al,ak,ai⟩:=HR.out.get Y.out af;have J:=Y.out.lt;have Wt:=hide (λW (hE:Ext wr W)=>HC.out W (HG.out.trans ((gZ hE).but _)) x y hx hy);have Wu:=hide (And.intro hx (And.intro hy (And.intro (And.intro an am) (And.intro al ak))));clear hx hy an am al ak hm;go_upto_region 4 with(fail)
     refine vQ 17 (.g ?_);refine ed.KS _ _ _ _ rfl wA oA oA zO (.g ?_);refine ed.gT (i:=s) 2 38 50 _ _ rfl bV zR ao wA oA oA ?_;refine ed.loadAt 50 _ rfl wA oA bF rfl zR J aj (eh _) (.g ?_);refine ed.kC _ _ _ _ rfl wA oA (eE _) zO ?_;refine ed.kD ae.out ?_;refine ed.gT (i:=m) 2 38 50 _ _ rfl bV zR af (wtt 3 21 8) oA oA ?_;refine ed.loadAt 50 _ rfl (wtt 3 21 9) oA bF rfl zK J ai (eh _) ?_;refine ed.Ge (F:=o6) f _ _ _ _ rfl HE.out (wtt 3 21 10) oA oA oA (λ_ _ W av h1 h2=>by cases h1;cases h2;exact Wt.out W ((eh _).tr av)) ?_;refine ed.RV _ rfl (wtt 3 21 11) oA (.g ?_);intro W4 E;refine .any λau ad=>?_;refine .any λar ab=>?_;refine .any λaq aa=>?_;refine .e ?_;clear ad ab;obtain⟨z,rfl⟩:=aa;have U:=(eh wr).tr E;have HG2:=hide (HG.out.trans ((gZ U).but _));have HB2:=hide (Y.out.ext U);have T:∀i v,(#[iV x.1,iV x.2]:AV)[i]?=b9 v→W4.cell? ⟨gr,0+s*2+i,b8⟩=b9 v:=λi v h=>(U.cell (p:=⟨gr,0+s*2+i,b8⟩) J).trans (aj i v h);have O:∀i v,(#[iV y.1,iV y.2]:AV)[i]?=b9 v→W4.cell? ⟨gr,0+m*2+i,b8⟩=b9 v:=λi v h=>(U.cell (p:=⟨gr,0+m*2+i,b8⟩) J).trans (ai i v h);clear HG Y E U aj ai J Wt;cases z
     ·go_wp2;exact⟨⟨k+1,H,by omega,by omega,congrArg (b0 .i64) zO,HG2,HB2,HR⟩,by simp only[bu];omega⟩
     ·have aA:=T 0 _ rfl;have az:=T 1 _ rfl;have ay:=O 0 _ rfl;have aw:=O 1 _ rfl;have ef:=λi=>HB2.out.frozen i;rw[bN,Nat.add_zero]at aA ay;rw[bN]at az aw;have aL:=ef (s*2);have aK:=ef (s*2+1);have aJ:=ef (m*2);have aI:=ef (m*2+1);have aB:=ae.out;clear ef T O;go_upto_region 6 with(fail)
      go_region
      go_wp2;have hz:=HR.out.1;have aH:s*2+1<H.size:=zO;have T4:=(((HB2.out.eL (s*2) (iV y.1)).eL (s*2+1) (iV y.2)).eL (m*2) (iV x.1)).eL (m*2+1) (iV x.2);have XF:=(((HG2.out.trans (grownBy_setCell _ ⟨gr,s*2,b8⟩ (iV y.1))).trans (grownBy_setCell _ ⟨gr,s*2+1,b8⟩ (iV y.2))).trans (grownBy_setCell _ ⟨gr,m*2,b8⟩ (iV x.1))).trans (grownBy_setCell _ ⟨gr,m*2+1,b8⟩ (iV x.2));refine⟨⟨m,_,by omega,congrArg (b0 .i64) zO,hide (XF.trans ((gZ (eh _)).but _)),hide (T4.ext (eh _)),hide (HR.out.swap (j:=m) (a:=x) (b:=y) zO Wu.out.1 Wu.out.2.1 zS ?_ ?_ ?_ ?_ ?_)⟩,by simp only[bu];omega⟩
      ·rw[bt zO,bw zT]
      ·rw[bw zT]
      ·rw[bt zO,bt zO,bt zO,show(m+1)*2=s*2 by omega,bw zO]
      ·rw[bt zO,bt zO,show(m+1)*2+1=s*2+1 by omega,bw zT]
      ·intro i hi;rw[bt zO,bt zO,bt zO,bt zO]
  ·go_wp2_with fail
   go_end0
   exact⟨_,rfl,HG.out,d,Y.out,HR.out⟩
end
end
section
variable {w:bC}
theorem Nf(P:Int×Int→Prop)(gr n c f:Nat)(H:Int)(b:br)(cs:AV)(w:bC)(U:Box w gr 50 cs)(Y:qD P n cs)(hn:n≤12)(O:n≤c)(hc:c≤bG)
  (d:∀E w,(callFunc f E).run ca w=.ok (.enter f E) w)
  (s:∀W,w.grownBy W (b9 gr)→∀x y:Int×Int,P x→P y→bK ca f #[b,.agg #[iV x.1,iV x.2],.agg #[iV y.1,iV y.2]] W (eB W o6)) :
  bK ca 296 #[.slice (b9 ⟨gr,0,b8⟩) n c,iV 0,iV n,iV H,.func (.func f) #[b] #[]] w (λe T=>∃v,e=.returned v∧w.grownBy T (b9 gr)∧∃J,Box T gr 50 J∧qD P n J):=by
 have HI:=hide (Gf P gr n c f b cs w U Y zO O hc d s);clear U Y d s;go_enter func296,ntmps296;go_wp2_with fail
 go_loopw [1,2,3] (λa b l wr=>a=iV 0∧b=iV n∧l=iV H∧wr=w) (λ_ _ _ _=>0)
 case atStart=>grind
 case round=>
  obtain⟨rfl,rfl,rfl,rfl⟩:=hrel;go_wp2_with fail;refine HI.out.mono ?_;rintro e w2 ⟨v,rfl,h1,h2⟩;have HP:=hide (And.intro h1 h2);clear h1 h2 HI;go_wp2;refine bq (results_none results296 _ _ _) rfl ⟨_,rfl,HP.out⟩
theorem Kl(P:Int×Int→Prop)(gr n c f:Nat)(b:br)(cs:AV)(w:bC)(U:Box w gr 50 cs)(Y:qD P n cs)(hn:n≤12)(O:n≤c)(hc:c≤bG)
  (d:∀E w,(callFunc f E).run ca w=.ok (.enter f E) w)
  (s:∀W,w.grownBy W (b9 gr)→∀x y:Int×Int,P x→P y→bK ca f #[b,.agg #[iV x.1,iV x.2],.agg #[iV y.1,iV y.2]] W (eB W o6)) :
  bK ca 268 #[.slice (b9 ⟨gr,0,b8⟩) n c,.func (.func f) #[b] #[]] w (λe T=>∃v,e=.returned v∧w.grownBy T (b9 gr)∧∃H,Box T gr 50 H∧qD P n H):=by
 have HI:=hide (λJ=>Nf P gr n c f J b cs w U Y hn O hc d s);have HL:=hide (Tryz.bits_Len (n:Int) w zO zO);clear U Y d s;go_enter func268,ntmps268;go_wp2_with fail;refine HL.out.mono ?_;rintro e w2 ⟨rfl,rfl⟩;go_wp2_with fail;refine(HI.out _).mono ?_;rintro e w3 ⟨v,rfl,h1,h2⟩;have HP:=hide (And.intro h1 h2);clear h1 h2 HI HL;go_wp2
 go_end0
 exact⟨_,rfl,HP.out⟩
end
section
attribute [local go_sem] bX
theorem Ng(bx b H c:Nat)(xs:List (Int×Int))(w0:bC)(ag:Box w0 bx 38 #[.slice (b9 ⟨b,H,b8⟩) xs.length c])(an:xs.length≤c)(af:c≤bG)(hb:b<w0.heap.size)
  (hx:∀j (h:j<xs.length),w0.cell? ⟨b,H+j*2,b8⟩=b9 (iV xs[j].1)∧w0.cell? ⟨b,H+j*2+1,b8⟩=b9 (iV xs[j].2)) :
  Quiet 269 #[gP bx] (λx:Int×Int=>#[Value.agg #[iV x.1,iV x.2]]) xs w0:=by
 intro l J Jx W hE hJ hY h0;have ak:prog.follows .mixedOrders=true:=by rfl
 have E:=hide hE;have Hx:=hide hx;clear hE hx;unfold bG at af;refine callsIn_of_wp func269 rfl trivial ?_ rfl;simp only[ntmps269,bP,bT,bW,b3,b4,bB,bJ,bQ,bL,b2,bU];have hd:=(ag.ext E.out).at_ 0 rfl;gi_wp2;clear hd
 gi_loopw [7] (λv wr=>∃(x:Nat),x≤xs.length∧v=iV x∧Hid (J (xs.take x) wr)∧Hid (Ext w0 wr))
  (λv _=>xs.length-(bu v).toNat)
 case atStart=>exact⟨0,cd _,rfl,h0,E⟩
 case round=>
  clear E h0;obtain⟨x,am,rfl,HJ,E⟩:=hrel;by_cases aa:x<xs.length
  ·have Y:(x:Int)<(xs.length:Int):=zO;have U:xs.take x++[xs[x]]=xs.take (x+1):=by simp_all
   have d:xs.take x++[xs[x]]<+:xs:=zG;have HY:=hide (λW (ah:J (xs.take x) W)=>hY _ _ W ah d);have q1:=(E.out.cell hb).trans (Hx.out x aa).1;have q2:=(E.out.cell hb).trans (Hx.out x aa).2;have PG:=hide U;clear d U;generalize xs[x]=y at*;have O:=ek wr (.cells #[iV y.1,iV y.2] 50);have ss:=hide (hJ _ _ _ HJ.out O);have mS:=hide (E.out.tr O);obtain⟨fn,aj,ae,al,hy,hR⟩:=HY.out _ ss.out;clear HJ E HY O;gi_wp2;refine hR.mono ?_;rintro e W4 ⟨ab,(⟨rfl,T⟩|⟨rfl,ad⟩)⟩
   ·have ao:Hid (Ext w0 W4):=by show Ext w0 W4;exact Below.trans mS.out ab
    rw[PG.out]at T;have uc:=hide T;clear ab hy hR T mS ss q1 q2;gi_wp2
    go_roundw
    case rel=>grind
    case measure=>grind[bu]
   ·have uc:=hide ad;gi_wp2;refine bq (results_none results269 _ _ _) rfl ⟨⟨_,rfl⟩,.inr ⟨_,?_,trivial,uc.out⟩⟩;rw[PG.out];grind
  ·have Y:¬(x:Int)<(xs.length:Int):=zO;have s:xs.take x=xs:=List.take_of_length_le zO;have ai:=HJ.out;rw[s]at ai;clear s;gi_wp2
   go_end0
   grind
theorem Gg(A:Option Addr)(n c:Nat)(w:bC):bK ca 225 #[.slice A n c] w λe d=>e=.returned (.func (.func 269) #[] #[gP w.heap.size])∧d=w.alloc (.cells #[.slice A n c] 38):=by
 go_enter func225,ntmps225;go_wp2;go_ret;simp_all
theorem DP{P:Int×Int→Prop}{w:bC}{base:Nat}{v:br}{xs:List (Int×Int)}(h:w.ownsRow base 50 2 v xs.length (xs.flatMap λx=>[iV x.1,iV x.2]))(h0:0<xs.length)(U:∀x∈xs,P x) :
  ∃s c T,v=.slice (b9 ⟨s,0,b8⟩) xs.length c∧base≤s∧xs.length≤c∧c≤bG∧Box w s 50 T∧qD P xs.length T:=by
 obtain⟨h1,⟨-,O⟩|⟨g,H,E,O,h3,h4,h5,Y,h7,J⟩⟩:=h
 ·omega
 refine⟨g,H,E,O,h3,h5,Y,h4,⟨by omega,λj d=>⟨xs[j],U _ (List.getElem_mem d),?_,?_⟩⟩⟩
 ·rw[←bY,←bR (show j*2<xs.length*2 by omega),J];exact(mm xs j d).1
 ·rw[←bY,←bR (show j*2+1<xs.length*2 by omega),J];exact(mm xs j d).2
theorem DQ(P:Int×Int→Prop)(bx b d c f:Nat)(bv:br)(xs:List (Int×Int))(w:bC)(U:Box w bx 38 #[.slice (b9 ⟨b,d,b8⟩) xs.length c])(af:xs.length≤c)(ae:c≤bG)(hb:b<w.heap.size)
  (hx:∀j (h:j<xs.length),w.cell? ⟨b,d+j*2,b8⟩=b9 (iV xs[j].1)∧w.cell? ⟨b,d+j*2+1,b8⟩=b9 (iV xs[j].2))(h0:0<xs.length)(hn:xs.length≤12)(hP:∀x∈xs,P x)
  (T:∀H w,(callFunc f H).run ca w=.ok (.enter f H) w)
  (E:∀W,Ext w W→∀x y:Int×Int,P x→P y→bK ca f #[bv,.agg #[iV x.1,iV x.2],.agg #[iV y.1,iV y.2]] W (eB W o6)) :
  bK ca 224 #[.func (.func 269) #[] #[gP bx],.func (.func f) #[bv] #[]] w (eY w λv w'=>∃J O cs,v=.slice (b9 ⟨J,0,b8⟩) xs.length O∧w.heap.size≤J∧xs.length≤O∧O≤bG∧Box w' J 50 cs∧qD P xs.length cs):=by
 have HC:=hide (zr 269 #[gP bx] (enters_of func269 zR rfl) xs w w (Ng bx b d c xs w U af ae hb hx) (Ext.rf _) zO);have HM:=hide E;clear E U hx hb;go_enter func224,ntmps224;go_wp2_with fail;refine HC.out.mono ?_;rintro _ w2 ⟨v,rfl,s,ho⟩;obtain⟨J,O,cs,rfl,hg,k1,k2,aa,hR⟩:=DP ho h0 hP;have HS:=hide (Kl P J xs.length O f bv cs w2 aa hR hn k1 k2 T (λW hG x y hx hy=>HM.out W (s.grown hG s.size (λk e=>by grind)) x y hx hy));have HE2:=hide s;clear HC HM ho aa hR hP s;go_wp2_with fail;refine HS.out.mono ?_;rintro _ w3 ⟨u,rfl,hG,ag,Y,ab⟩;have ad:=HE2.out.grown hG HE2.out.size (λk e=>by grind);have HZ:=hide (And.intro ad (And.intro Y ab));clear hG Y ab HS ad;go_wp2;go_ret;exact eY.mk HZ.out.1 ⟨J,O,ag,rfl,hg,k1,k2,HZ.out.2.1,HZ.out.2.2⟩
end
section
attribute [local go_sem] bX
section
variable {P:Program} {Q:Exit→Act→bC→Prop} {ops:Array b7} {M m:Nat} {a0:Act} {w0:bC} {K:List b7→List VP→Prop} {o:b7} {rest:List b7} {env:List VP}
theorem ed.Vs{F:VP}(n:Nat)(t e:TypeId)(x:Operand)(H:o.op=.call { callee:=.builtin .len,args:=#[x],argTypes:=#[t] })(hu:P.underlying t=b9 (.slice e))
  (s:Want ops M a0 w0 env o true)(hx:fu ops M a0 w0 env o x F)(h:∀v w,F v w→∃A c,v=.slice A n c)
  (E:ed P Q ops M a0 w0 K m rest (eC (iV n)::env)):ed P Q ops M a0 w0 K (m+1) (o::rest) env:=
 .val s (λa w J T O=>by
  obtain⟨A,c,d⟩:=h _ _ (hx a w J T O);refine⟨_,?_,rfl⟩;revert d;generalize a.eval=U;intro d;unfold execOp;simp[H,go_sem,d,Builtin.len_,run_underlying hu]) E
end
theorem qY.ext{w d:bC}(h:qY w d):Ext w { d with os:=w.os,tape:=w.tape,output:=w.output }:=⟨rfl,rfl,rfl,h.size,λ_ s=>h.same s⟩
abbrev Ch:=(Int×Int)×Nat×AV
def Vt(x:Ch):AV:=#[.agg #[iV x.1.1,iV x.1.2]]
section
variable (P:Int×Int→Prop) (gx bx:Nat) (XY:bC)
def pg(x:Ch)(W:bC):Prop:=P x.1∧Below gx XY W∧Box W gx 3 #[iV x.1.1]∧Box W x.2.1 50 x.2.2∧XY.heap.size+2≤x.2.1∧
 ∃d,Box W bx 38 #[d]∧W.ownsRow (XY.heap.size+2) 50 2 d 1 [iV x.1.1,iV x.1.2]
def Wv:Option Ch→bC→Prop
 |none,W=>Ext XY W
 |some x,W=>pg P gx bx XY x W
def Kw(x:Ch)(W:bC):Prop:=P x.1∧Below gx XY W∧Box W gx 3 #[iV x.1.1]∧Box W x.2.1 50 x.2.2∧XY.heap.size+2≤x.2.1∧Box W bx 38 #[nS]
def Ww(W:bC):Prop:=∃x,pg P gx bx XY x W
end
section
variable {P:Int×Int→Prop} {gx bx:Nat} {XY:bC} {x:Ch} {W W':bC}
theorem pg.ext(h:pg P gx bx XY x W)(d:Ext W W')(_:gx≤XY.heap.size):pg P gx bx XY x W':=by
 obtain⟨Y,U,s,T,O,E,J,H⟩:=h;exact⟨Y,U.trans (d.mono (bO s.lt)),s.ext d,T.ext d,O,E,J.ext d,fy H d⟩
theorem Kw.ext(h:Kw P gx bx XY x W)(d:Ext W W'):Kw P gx bx XY x W':=by
 obtain⟨T,O,s,J,H,E⟩:=h;exact⟨T,O.trans (d.mono (bO s.lt)),s.ext d,J.ext d,H,E.ext d⟩
theorem lr{w:bC}{g k:Nat}{t:TypeId}{cs:AV}{o:Obj}(h:Box w g t cs)(d:g≠k):Box (w.putObj k o) g t cs:=(World.putObj_heap_other d).trans h
theorem Kw.put(h:Kw P gx bx XY x W)(o:Obj)(T:gx<XY.heap.size)(U:bx<XY.heap.size):Kw P gx bx XY x (W.putObj (XY.heap.size+1) o):=by
 obtain⟨O,J,H,E,s,d⟩:=h;exact⟨O,fx J zO o,lr H zO,lr E zO,s,lr d zO⟩
theorem pg.put(h:pg P gx bx XY x W)(k:Nat)(o:Obj)(E:XY.heap.size≤k)(s:k<XY.heap.size+2)(hg:gx<XY.heap.size)(hb:bx<XY.heap.size):pg P gx bx XY x (W.putObj k o):=by
 obtain⟨h1,Y,U,T,O,d,J,H⟩:=h;exact⟨h1,fx Y zO o,lr U zO,lr T zO,O,d,lr J zO,yD H (grownBy_putObj' W k _) (λr e=>by grind)⟩
end
attribute [local irreducible] ew ed in
theorem Km(P:Int×Int→Prop)(U gf:Nat)(lb:AV)(eg:∀H w,(callFunc gf H).run ca w=.ok (.enter gf H) w)(w d:bC)(aj:w.alloc (.cells #[nS] 38)=d)(al:U<w.heap.size)
  (hq:ve b6 8 ca gf lb Vt (Wv P U w.heap.size d) (Kw P U w.heap.size d) (Ww P U w.heap.size d) d.heap.size d) :
  bK ca 222 #[nS,.func (.func gf) #[] lb] w (λe Y=>∃sv x,e=.returned sv∧Below U w Y∧Y.ownsRow U 50 2 sv 1 [iV (x:Int×Int).1,iV x.2]):=by
 obtain⟨i0,hi,ai,ah,ag⟩:=info_parts Tryz.pN;have hX:Ext w d:=by grind[ek]
 have ar:Box d w.heap.size 38 #[nS]:=by grind[Box.new]
 have J:d.heap.size=w.heap.size+1:=by grind[bH]
 refine(callsIn_wide (n:=9)).1 ?_;have h1:1≤9:=zO;refine callsIn_of_wp_marks func222 rfl trivial ?_ rfl;simp only[ntmps222,bP,bT,bW,b3,b4,bB,bJ,bQ,bL,b2,bU];gi_wp2;try rw[aj]
 refine nD (F:=b6) d.heap.size rfl rfl h1 (gf:=gf) (lb:=lb) rfl trivial eg hq
  (λW h k=>Below.trans h (k.mono h.size)) (λx W o h _=>h.put o zO zO) (λx W o h _=>h.put _ o zO zO zO zO) (λW o ⟨x,h⟩ _=>⟨x,h.put _ o zO zO zO zO⟩) (λ_=>rfl) (Ext.rf _) (λx W W' h k=>h.ext k)
  (λx W a W'=>W'=W.alloc (.cells #[iV x.1.1,iV x.1.2] 50)∧a={ tmps:=#[nS,.func (.func gf) #[] lb,gP w.heap.size,undef,nS,gP W.heap.size,.func (.func gf) #[] lb,.agg #[iV x.1.1,iV x.1.2],undef,undef,undef,undef,undef],defers:=[] }) (λx W a W' h=>by grind[ek]) ?assign ?body ?done
 case assign=>
  intro l x W K hK;unfold Vt;gi_wp2;all_goals exact hK _ _ ⟨rfl,rfl⟩
 case body=>
  rintro x W W' _ o ⟨an,rfl⟩ hN ⟨hP,hB,ad,ab,ae,hb⟩;subst an;have am:Box ((W.alloc (.cells #[iV x.1.1,iV x.1.2] 50)).putObj (d.heap.size+1) o) W.heap.size 50 #[iV x.1.1,iV x.1.2]:=lr (Box.new W 50 #[iV x.1.1,iV x.1.2]) zO;have aa:d.heap.size+2≤((W.alloc (.cells #[iV x.1.1,iV x.1.2] 50)).putObj (d.heap.size+1) o).heap.size:=by rw[World.putObj_size,bH];omega
  generalize hV:(W.alloc (.cells #[iV x.1.1,iV x.1.2] 50)).putObj (d.heap.size+1) o=V at*
  gi_upto_region 3 with(fail)
  refine qc (gJ _) (λ⟨_,_,h⟩=>h.elim) zR 2 zK (.g ?_);refine ed.gG 38 _ rfl wA oA (λ_=>by rfl) (hb.at_ 0 rfl) (Ext.rf _) ?_;refine ed.eU 50 _ rfl wA oA bF rfl zR am (Ext.rf _) (.g ?_);intro W3 E;have HM:=hide (show Kw P U w.heap.size d x W3 from(Kw.ext ⟨hP,hB,ad,ab,ae,hb⟩ E));have HT:=hide (Two.ext (N:=d.heap.size) E zO);have aa:=Nat.le_trans aa E.size;clear hP hB ad ab ae hb hV E;generalize W3=VV at*;have Hs:=hide J;clear J;go_wp2_with(at_builtin;apply eJ rfl _ _ 38 rfl (d.heap.size+2) 50 i0 (.agg #[iV 0,iV 0]) 2 16 bV hi ai ah ag rfl zO nS (.slice (b9 ⟨VV.heap.size,0,b8⟩) 1 1) 0 1 [] [iV x.1.1,iV x.1.2])
  case hv=>rfl
  case V=>grind[World.ownsRow_nil]
  case hl=>rfl
  case hu=>rfl
  case hx=>exact Src.new _ _ _ _
  case h1=>exact(λy hy=>by simp at hy;rcases hy with rfl|rfl<;>rfl)
  case W=>omega
  case I=>simp;omega
  case h=>
   intro v' Y s O au;obtain⟨A4,c4,ak⟩:=eI s;subst ak;have af:Ext VV Y:=jB (Ext.rf _) O (λk hk=>by cases hk);have Nr:=hide (HM.out.ext af);have T:=Nr.out.2.2.2.2.2;have aq:=T.at_ 0 rfl;have ao:=T.frozen 0;go_wp2;have J:=Hs.out;obtain⟨m1,m2,m3,m4,m5,-⟩:=Nr.out;refine⟨HT.out.tr ((Two.ext af zO).tr ⟨(KeepsWalks.setCell Y ⟨w.heap.size,0,b8⟩ _).size,λq hq=>bz _ _ _ q (λe=>by grind)⟩),m1,Below.setCell (p:=⟨w.heap.size,0,b8⟩) m2 (bO al) _,(bz _ _ _ _ (λe=>by grind)).trans m3,(bz _ _ _ _ (λe=>by grind)).trans m4,m5,_,T.eL 0 _,iX s ⟨w.heap.size,0,b8⟩ (λe=>absurd (fk s _ e) zG) _⟩
 case done=>
  rintro W ⟨x,hZ⟩ hK;obtain⟨av,h2,h3,h4,h5,sv,h6,h7⟩:=hZ;obtain⟨B1,c1,rfl⟩:=eI h7;have ap:=h6.at_ 0 rfl;gi_wp2;refine⟨by simp,.inl ⟨_,_,rfl,run_takeDeferred hK,?_⟩⟩;refine⟨.slice B1 1 c1,by simp[results,results222],?_⟩;exact⟨_,x.1,rfl,fx ((hX.mono zO).trans h2) zO _,iY (yD h7 (grownBy_putObj' W _ _) (λr e=>by grind)) zO⟩
end
section
attribute [local go_sem] bX
def PH(ws:LL)(y:Int×Int):Prop:=∃k:Nat,y.2=(k:Int)∧k<ws.length∧4≤y.1∧y.1≤4611686020574871551∧((ws.getD k []).length:Int)≤y.1∧y.1-((ws.getD k []).length:Int)≤2∧(ws.getD k []).length≤1000000
def P5(s:br):VP:=⟨λv w=>∃q,v=.func (.func 269) #[] #[gP q]∧Box w q 38 #[s],λ_ _ _ ⟨q,H,E⟩ d=>⟨q,H,by have h:=E.ext d.ext;exact h⟩⟩
def G7(ws:LL)(n N:Nat):VP:=⟨λv w=>∃d c s,v=.slice (b9 ⟨d,0,b8⟩) n c∧N≤d∧n≤c∧c≤bG∧Box w d 50 s∧qD (PH ws) n s,λ_ _ _ ⟨d,c,s,Y,U,T,O,J,H⟩ E=>⟨d,c,s,Y,U,T,O,by have h:=J.ext E.ext;exact h,H⟩⟩
theorem pg.len{ws:LL}{H E _:Nat}{s d:bC}{_:Ch}{W:bC}(J:LenAt ws H s)(T:s.heap.size=E)(O:Ext s d)(h:Below E d W):LenAt ws H W:=J.ext (by have:=O.trans (h.mono (show s.heap.size≤E by omega));exact this)
attribute [local irreducible] ew ed in
theorem Gh(ws:LL)(hs:List (Int×Int))(gl tl tn H bx b J c n:Nat)(hn:1≤n)(wL d:bC)(hL:LenAt ws gl wL)(hg:wL.heap.size=H)(ah:Ext wL d)(aq:Box wL tn 354 #[eF gl])
  (aH:Box d H 3 #[iV 0])(aI:Box d tl 38 #[.slice (b9 ⟨b,J,b8⟩) hs.length c])(a6:hs.length≤c)(a5:c≤bG)(hb:b<d.heap.size)
  (hx:∀j (h:j<hs.length),d.cell? ⟨b,J+j*2,b8⟩=b9 (iV hs[j].1)∧d.cell? ⟨b,J+j*2+1,b8⟩=b9 (iV hs[j].2))(h0:0<hs.length)(a8:hs.length≤12)(hP:∀x∈hs,PH ws x)
  (bp:bx<d.heap.size)(aK:Box d bx 38 #[nS])(bl:H<bx) :
  ve b6 n ca 223 #[gP tl,gP tn,gP H] Vt (Wv (PH ws) H bx d) (Kw (PH ws) H bx d) (Ww (PH ws) H bx d) d.heap.size d:=by
 intro R W hE hN aL hY T hR;have bf:prog.follows .mixedOrders=true:=by rfl
 have HY:=hide hY;have HRs:=hide aL;clear hY aL hE;have T:Ext d W:=T;have a3:=(aI.ext T).at_ 0 rfl;have a2:=(aq.ext (ah.tr T)).at_ 0 rfl;have HV:=hide (λW' (hE:Ext W W')=>((Gg (b9 ⟨b,J,b8⟩) hs.length c W').mono (R':=eB W' (P5 (.slice (b9 ⟨b,J,b8⟩) hs.length c))) (by rintro e w1 ⟨rfl,rfl⟩;exact eB.mk (ek _ _) ⟨_,rfl,Box.new _ _ _⟩)));refine callsIn_of_wp func223 rfl trivial ?_ rfl;simp only[ntmps223,bP,bT,bW,b3,b4,bB,bJ,bQ,bL,b2,bU];have HS:=hide (λW' q (hE:Ext W W') (hq:Box W' q 38 #[.slice (b9 ⟨b,J,b8⟩) hs.length c])=>
  (DQ (PH ws) q b J c 226 (eF gl) hs W' hq a6 a5 (bm hb (T.tr hE).size) (λj h=>⟨((T.tr hE).cell (p:=⟨b,J+j*2,b8⟩) hb).trans (hx j h).1,((T.tr hE).cell (p:=⟨b,J+j*2+1,b8⟩) hb).trans (hx j h).2⟩) h0 a8 hP
   (enters_of func226 zR rfl)
   (λV hV x y hx hy=>by
    obtain⟨k,e1,q1,q2,q3,q4,q5,q6⟩:=hx;obtain⟨k',a9,aX,bj,aW,bi,bh,aV⟩:=hy;rw[e1,a9];exact Gd (hL.ext (ah.tr ((T.tr hE).tr hV))) x.1 y.1 k k' q1 aX zO q3 zO aW q6 aV)).mono (R':=eB W' (G7 ws hs.length (d.heap.size+2)))
   (by rintro e w1 ⟨v,rfl,a7,U,c',Y,rfl,k1,k2,k3,k4,k5⟩;exact eB.mk a7 ⟨U,c',Y,rfl,by have:=hE.size;omega,k2,k3,k4,k5⟩))
 have HA:=hide T;have HR:=hide hR
 gi_upto_region 0 with(fail)
 refine fR fe (λh=>by obtain⟨_,_,h⟩:=h;obtain⟨⟨_,h⟩,-⟩:=h;cases h) zR 7 zR zK (.g ?_);refine ed.gz 225 _ _ rfl (enters_of func225 zR rfl) (ee rfl) (od 0 7 0 rfl) (F:=P5 (.slice (b9 ⟨b,J,b8⟩) hs.length c)) (λ_ W hX h1=>by cases h1;exact HV.out W ((eh _).tr hX)) (.g ?_);refine .rd 2 9 0 ?_;refine ed.call2 224 _ _ _ rfl (enters_of func224 zR rfl) (ee rfl) (od 1 8 2 rfl) (od 3 10 0 rfl) (F:=G7 ws hs.length (d.heap.size+2)) (λ_ _ W hX h1 h2=>by obtain⟨q,rfl,hq⟩:=h1;cases h2;exact HS.out W q ((eh _).tr hX) hq) ?_;refine ed.Vs hs.length 38 50 _ rfl bV (ee rfl) (od 4 11 0 rfl) (λv w ⟨U,c,Y,h,_⟩=>⟨_,c,h⟩) (.g ?_);intro W0 aO;refine .any λbc am=>?_;refine .e ?_;refine .any λbb al=>?_;refine .e ?_;clear am;have ag:=(eh W).tr aO;have HA2:=hide (HA.out.tr ag);have aQ:=hide (HRs.out _ _ HR.out (Two.ext ag hN));have aS:=hide (bm hN ag.size);obtain⟨U,c',Y,rfl,aZ,bo,a4,aJ,aj⟩:=al;have RW:=hide aJ;have Vu:=hide aj;have ab:=hide aH;have XG:=hide aK;have XH:=hide aq;clear ag aO a3 a2 HV HS HA HR hN hx aI hP T hR aJ aj aH aK aq;unfold bG at a4;refine wpList_nil ?_;gi_wp2
 gi_loopw [13] (λv wr=>∃i:Nat,i≤hs.length∧v=iV i∧Hid ((i=0∧Ext d wr∧Box wr U 50 Y)∨(1≤i∧∃y,pg (PH ws) H bx d (y,U,Y) wr))∧Hid (R wr)∧Hid (d.heap.size+1<wr.heap.size)) (λv _=>hs.length-(bu v).toNat)
 case atStart=>exact⟨0,cd _,rfl,hide (.inl ⟨rfl,HA2.out,RW.out⟩),aQ,aS⟩
 case round=>
  clear HA2 aQ aS RW;obtain⟨i,hi,rfl,HC,HR,HN⟩:=hrel;have XI:=hide (λ(E:Int) (k:Nat) (W3:bC) (h:Kw (PH ws) H bx d ((E,(k:Int)),U,Y) (W3.setCell ⟨H,0,b8⟩ (iV E))) (r:R (W3.setCell ⟨H,0,b8⟩ (iV E)))=>show YieldAt b6 (n-1) ca (d.heap.size+1) #[.agg #[iV E,iV k]] (W3.setCell ⟨H,0,b8⟩ (iV E)) (λe W'=>e=.returned (.bool true)∧pg (PH ws) H bx d ((E,(k:Int)),U,Y) W'∧R W'∧(W3.setCell ⟨H,0,b8⟩ (iV E)).heap.size≤W'.heap.size)from HY.out ((E,(k:Int)),U,Y) _ h r);by_cases aY:i<hs.length
  ·have az:(i:Int)<(hs.length:Int):=zO;have Wx:Hid (Box wr U 50 Y):=by
    rcases HC.out with⟨-,-,h⟩|⟨-,y,-,-,-,h,-⟩
    ·exact h
    ·exact h
   obtain⟨⟨E,yk⟩,⟨k,rfl,aE,aD,ao,aC,aB,aA⟩,-,-,af⟩:=Vu.out.get Wx.out aY;simp only at aD ao aC aB af;have av:=af 0 _ rfl;have au:=af 1 _ rfl;rw[bN,Nat.add_zero]at av;rw[bN]at au;have Vv:Hid (Ext wL wr):=by
    rcases HC.out with⟨-,h,-⟩|⟨-,y0,-,h,-⟩
    ·exact ah.tr h
    ·exact ah.trans (h.mono (show wL.heap.size≤H by omega))
   have aa:=ek wr (.cells #[iV E,iV k] 50);have ar:=Box.new wr 50 #[iV E,iV k];have aw:=(XH.out.ext (Vv.out.tr aa)).at_ 0 rfl;have RW:=hide (λW (hE:Ext (wr.alloc (.cells #[iV E,iV k] 50)) W)=>rJ (hL.ext (Vv.out.tr (aa.tr hE))) E k aE zO ao aA);have HR1:=hide (HRs.out _ _ HR.out (Two.ext aa HN.out));have RY:=hide (bm HN.out aa.size);have Oc:=hide ar;have Nv:=hide aa;clear af HR HN Wx aa Vv;rcases HC.out with⟨rfl,T,aF⟩|⟨bk,y0,hO⟩
   ·clear HC;have ap:=(ab.out.ext (T.tr Nv.out)).at_ 0 rfl;have an:¬E-((ws.getD k []).length:Int)<0:=zO;have HA:=hide (And.intro (T.tr Nv.out) (aF.ext Nv.out));clear T aF
    gi_upto_region 3 with(fail)
    refine fR fe (λh=>by obtain⟨_,_,h⟩:=h;obtain⟨⟨_,h⟩,-⟩:=h;cases h) zR 5 zR zK (.g ?_);refine ed.eU 50 _ rfl (ee rfl) (mf 6 rfl zR) bF rfl zR Oc.out (eh _) ?_;refine ed.call2 227 _ _ _ rfl (enters_of func227 zR rfl) (ee rfl) (od 0 17 1 rfl) (od 1 18 0 rfl) (F:=eC (iV (E-((ws.getD k []).length:Int)))) (λ_ _ W hX h1 h2=>by cases h1;cases h2;exact RW.out W ((eh _).tr hX)) (.g ?_);refine ed.xT _ _ _ _ rfl (ee rfl) (od 2 19 1 rfl) (od 3 20 0 rfl) an (.g ?_);intro W3 ae;have s:=(eh (wr.alloc (.cells #[iV E,iV k] 50))).tr ae;have ai:=HA.out.1.tr s;have aG:=HA.out.2.ext s;have O:=ab.out.ext ai;have c6:=(Oc.out.ext s).at_ 0 rfl;have ba:=(Oc.out.ext s).at_ 1 rfl;have cg:=O.at_ 0 rfl;have fg:=O.frozen 0;have ak:=XG.out.ext ai;have bn:=ab.out.lt;have HM:=hide (show Kw (PH ws) H bx d ((E,(k:Int)),U,Y) (W3.setCell ⟨H,0,b8⟩ (iV E))from
     ⟨⟨k,rfl,aE,aD,ao,aC,aB,aA⟩,Below.setCell (p:=⟨H,0,b8⟩) (ai.mono zG) (cc _) _,O.eL 0 _,(bz _ _ _ _ (λe=>by grind)).trans aG,aZ,(bz _ _ _ _ (λe=>by grind)).trans ak⟩)
    have HR4:=hide (HRs.out _ _ (HRs.out _ _ HR1.out (Two.ext s RY.out)) ⟨(KeepsWalks.setCell W3 ⟨H,0,b8⟩ (iV E)).size,λq hq=>bz _ _ _ q (λe=>by grind)⟩);have Wy:=hide (bm RY.out s.size);have be:wr.heap.size≠H:=zG;obtain⟨fn,bd,aU,bg,hy,hR⟩:=XI.out E k W3 HM.out HR4.out;have HS:=hide (KeepsWalks.setCell W3 ⟨H,0,b8⟩ (iV E)).size;clear s ai aG O ak ae HR1 RY Oc Nv HA RW ap aw av au ar;refine wpList_nil ?_;gi_wp2;refine hR.mono ?_;rintro e W5 ⟨rfl,aN,aM,ay⟩;have aT:=hide (show(1=0∧Ext d W5∧Box W5 U 50 Y)∨(1≤1∧∃y,pg (PH ws) H bx d (y,U,Y) W5)from .inr ⟨cc _,_,aN⟩);have aP:=hide aM;have aR:=hide (bm Wy.out (Nat.le_trans HS.out ay));clear aN aM ay hy hR HM HR4 HS Wy c6 ba cg fg;gi_wp2
    go_roundw
    case rel=>grind
    case measure=>grind[bu]
   ·clear HC;have ad:=hO.2.2.1;obtain⟨k0,-,-,a1,-⟩:=hO.1;simp only at a1 ad;have ap:=(ad.ext Nv.out).at_ 0 rfl;have an:E-((ws.getD k []).length:Int)<y0.1:=zO;have HO:=hide (hO.ext Nv.out (bO ab.out.lt));clear hO ad
    gi_upto_region 3 with(fail)
    refine fR fe (λh=>by obtain⟨_,_,h⟩:=h;obtain⟨⟨_,h⟩,-⟩:=h;cases h) zR 5 zR zK (.g ?_);refine ed.eU 50 _ rfl (ee rfl) (mf 6 rfl zR) bF rfl zR Oc.out (eh _) ?_;refine ed.call2 227 _ _ _ rfl (enters_of func227 zR rfl) (ee rfl) (od 0 17 1 rfl) (od 1 18 0 rfl) (F:=eC (iV (E-((ws.getD k []).length:Int)))) (λ_ _ W hX h1 h2=>by cases h1;cases h2;exact RW.out W ((eh _).tr hX)) (.g ?_);refine ed.qw _ _ _ _ rfl (ee rfl) (od 2 19 1 rfl) (od 3 20 0 rfl) an (.g ?_);intro W3 ae;have s:=(eh (wr.alloc (.cells #[iV E,iV k] 50))).tr ae;have aT:=hide (show(i+1=0∧Ext d W3∧Box W3 U 50 Y)∨(1≤i+1∧∃y,pg (PH ws) H bx d (y,U,Y) W3)from .inr ⟨by omega,y0,HO.out.ext s (bO ab.out.lt)⟩);have aP:=hide (HRs.out _ _ HR1.out (Two.ext s RY.out));have aR:=hide (bm RY.out s.size);clear s ae HR1 RY Oc Nv HO RW ap aw av au ar;refine wpList_nil ?_;gi_wp2
    go_roundw
    case rel=>exact⟨i+1,by omega,by go_num,aT,aP,aR⟩
    case measure=>grind[bu]
  ·have az:¬(i:Int)<(hs.length:Int):=zO;obtain⟨h,-⟩|⟨-,y0,hO⟩:=HC.out
   ·omega
   gi_wp2
   go_end0
   exact⟨⟨_,rfl⟩,⟨_,hO⟩,HR.out⟩
theorem DR(d:Nat)(A:Option Addr)(n c:Nat)(w:bC):bK ca 168 #[eF d,iV 0,.slice A n c] w λe s=>e=.returned (.func (.func 223) #[] #[gP (w.heap.size+2),gP w.heap.size,gP (w.heap.size+1)])∧s=((w.alloc (.cells #[eF d] 354)).alloc (.cells #[iV 0] 3)).alloc (.cells #[.slice A n c] 38):=by
 go_enter func168,ntmps168;go_wp2;go_ret;simp_all
theorem Kn(ws:LL)(hs:List (Int×Int))(gl b d c:Nat)(wr:bC)(hL:LenAt ws gl wr)(ag:hs.length≤c)(af:c≤bG)(hb:b<wr.heap.size)
  (hx:∀j (h:j<hs.length),wr.cell? ⟨b,d+j*2,b8⟩=b9 (iV hs[j].1)∧wr.cell? ⟨b,d+j*2+1,b8⟩=b9 (iV hs[j].2))(h0:0<hs.length)(ah:hs.length≤12)(hP:∀x∈hs,PH ws x) :
  bK ca 167 #[.func (.func 223) #[] #[gP (wr.heap.size+2),gP wr.heap.size,gP (wr.heap.size+1)]] (((wr.alloc (.cells #[eF gl] 354)).alloc (.cells #[iV 0] 3)).alloc (.cells #[.slice (b9 ⟨b,d,b8⟩) hs.length c] 38)) (λe w'=>∃A c',e=.returned (.slice A 1 c')∧Ext wr w'):=by
 obtain⟨H,U⟩:∃H,wr.alloc (.cells #[eF gl] 354)=H:=⟨_,rfl⟩
 have J:Ext wr H:=by grind[ek]
 have Y:H.heap.size=wr.heap.size+1:=by grind[bH]
 have aa:Box H wr.heap.size 354 #[eF gl]:=by grind[Box.new]
 rw[U];have ad:=Box.new H 3 #[iV 0];have T:=ek H (.cells #[iV 0] 3);have ae:(H.alloc (.cells #[iV 0] 3)).heap.size=wr.heap.size+2:=by simp_all
 generalize H.alloc (.cells #[iV 0] 3)=w1 at*;have ab:=Box.new w1 38 #[.slice (b9 ⟨b,d,b8⟩) hs.length c];have E:=ek w1 (.cells #[.slice (b9 ⟨b,d,b8⟩) hs.length c] 38);have ai:(w1.alloc (.cells #[.slice (b9 ⟨b,d,b8⟩) hs.length c] 38)).heap.size=wr.heap.size+3:=by simp_all
 generalize w1.alloc (.cells #[.slice (b9 ⟨b,d,b8⟩) hs.length c] 38)=w2 at*;have s:=ek w2 (.cells #[nS] 38);have O:=J.tr (T.tr (E.tr s));have hq:=Gh ws hs gl (wr.heap.size+2) wr.heap.size (wr.heap.size+1) w2.heap.size b d c 8 zO H (w2.alloc (.cells #[nS] 38)) (hL.ext J) Y (T.tr (E.tr s)) aa (by rw[←Y];exact ad.ext (E.tr s)) (by rw[←ae];exact ab.ext s) ag af (bm hb O.size)
  (λj h=>⟨(O.cell (p:=⟨b,d+j*2,b8⟩) hb).trans (hx j h).1,(O.cell (p:=⟨b,d+j*2+1,b8⟩) hb).trans (hx j h).2⟩) h0 ah hP (by simp_all) (Box.new _ _ _) zO
 have HA:=hide (Km (PH ws) (wr.heap.size+1) 223 #[gP (wr.heap.size+2),gP wr.heap.size,gP (wr.heap.size+1)] (enters_of func223 zR rfl) w2 _ rfl zO hq);have HE:=hide (J.tr (T.tr E));clear hq hx hP hL J ad T ab E s O aa U;go_enter func167,ntmps167;go_wp2_with fail;refine HA.out.mono ?_;rintro _ w3 ⟨sv,x,rfl,hB,ho⟩;obtain⟨A,c',rfl⟩:=eI ho;have HZ:=hide (HE.out.trans (hB.mono (show wr.heap.size≤wr.heap.size+1 by omega)));clear HA HE hB ho;go_wp2;go_ret;exact⟨A,c',rfl,HZ.out⟩
def P6:VP:=⟨λv _=>∃A c,v=.slice A 1 c,λ_ _ _ h _=>h⟩
theorem pick_any(f:Bool)(ws:LL)(hs:List (Int×Int))(u hv:br)(w:bC)(hS:jj f ws u w)(hr:eS f ws=true)(hl:∀b∈ws,b.length≤1000000)(ai:ws.flatten.length≤1000000)(hn:ws.length≤1000000)(hH:eP hs hv w)(h0:0<hs.length)(am:hs.length≤12)(hP:∀x∈hs,PH ws x) :
  bK ca 111 #[u,hv] w (eB w (eR [P6,eC (iV 0)])):=by
 have T:=hS;obtain⟨sl,rfl,al⟩:=hS;obtain⟨b,d,c,rfl,ak,aj,E,hx⟩:∃b d c,hv=.slice (b9 ⟨b,d,b8⟩) hs.length c∧hs.length≤c∧c≤bG∧b<w.heap.size∧∀j (h:j<hs.length),w.cell? ⟨b,d+j*2,b8⟩=b9 (iV hs[j].1)∧w.cell? ⟨b,d+j*2+1,b8⟩=b9 (iV hs[j].2):=by
  obtain⟨A,c,rfl,h1,h2,h3⟩:=hH;obtain⟨b,d,rfl,h4,h5⟩:=h3 h0;grind
 have Hx:=hide hx;have HP:=hide hP;have O:=ek w (.cells #[.bool f,sl] 24);have s:=Box.new w 24 #[.bool f,sl];have HR:=hide (oK f ws (.agg #[.bool f,sl]) _ (VP.st _ _ _ _ T O) ai hn);rw[hr]at HR;have HM:=hide (λW (hE:Ext w W)=>Bo f ws (.agg #[.bool f,sl]) W (VP.st _ _ _ _ T hE) hl hn);have HX:=hide O;clear T al O hx hP hH;have k0:=s.at_ 0 rfl;have k1:=s.at_ 1 rfl;go_enter func111,ntmps111;go_wp2_with fail;refine HR.out.mono ?_;rintro _ w2 ⟨_,rfl,H,rfl⟩;have HE2:=hide (HX.out.tr H);have k0:=(s.ext H).at_ 0 rfl;have k1:=(s.ext H).at_ 1 rfl;clear s HR H;go_wp2_with fail;refine(HM.out w2 HE2.out).mono ?_;rintro _ U ⟨_,rfl,ae,sv,rfl,hI⟩;obtain⟨A1,c1,rfl,-⟩:=id hI;have HL:=hide (show LenAt ws U.heap.size (U.alloc (.cells #[.slice A1 ((nC ws).map λn=>eC (iV n)).length c1,iV (fG ws:Int)] 298))from⟨_,Box.new _ _ _,VP.st _ _ _ _ hI (ek _ _)⟩);have mS:=hide ((HE2.out.tr ae).tr (ek U (.cells #[.slice A1 ((nC ws).map λn=>eC (iV n)).length c1,iV (fG ws:Int)] 298)));generalize((nC ws).map λn=>eC (iV n)).length=nl at*;clear HM hI ae k0 k1 HE2;go_wp2_with fail;generalize U.alloc (.cells #[.slice A1 nl c1,iV (fG ws:Int)] 298)=w4 at*;unfold bG at aj
 go_loopw [16] (λv wr=>∃i:Nat,i≤hs.length∧v=iV i∧Hid (Ext w4 wr)) (λv _=>hs.length-(bu v).toNat)
 case atStart=>exact⟨0,cd _,rfl,hide (Ext.rf _)⟩
 case round=>
  obtain⟨i,hi,rfl,Y⟩:=hrel;have P7:=hide (mS.out.tr Y.out);by_cases J:i<hs.length
  ·have aa:(i:Int)<(hs.length:Int):=zO;have q1:=(P7.out.cell (p:=⟨b,d+i*2,b8⟩) E).trans (Hx.out i J).1;have q2:=(P7.out.cell (p:=⟨b,d+i*2+1,b8⟩) E).trans (Hx.out i J).2;obtain⟨k,e2,ah,aq,ag,af,ap,ao⟩:=HP.out hs[i] (List.getElem_mem J);rw[e2]at q2;generalize hs[i].1=ye at*;clear e2;have O:=ek wr (.cells #[iV ye,iV k] 50);have HM:=hide (Nd (HL.out.ext (Y.out.tr O)) ye k ah ag af);have HX:=hide (Y.out.tr O);clear O Y P7;go_wp2_with fail;refine HM.out.mono ?_;rintro _ w5 ⟨_,rfl,ad,rfl⟩;have an:=hide (HX.out.tr ad);clear HM HX ad q1 q2;go_wp2
   go_roundw
   case rel=>exact⟨i+1,by omega,by go_num,an⟩
   case measure=>grind[bu]
  ·have aa:¬(i:Int)<(hs.length:Int):=zO;have HG:=hide (DR U.heap.size (b9 ⟨b,d,b8⟩) hs.length c wr);have HC:=hide (Kn ws hs U.heap.size b d c wr (HL.out.ext Y.out) ak (by grind[bG]) (bm E P7.out.size) (λj h=>⟨(P7.out.cell (p:=⟨b,d+j*2,b8⟩) E).trans (Hx.out j h).1,(P7.out.cell (p:=⟨b,d+j*2+1,b8⟩) E).trans (Hx.out j h).2⟩) h0 am HP.out);clear HL Y mS;go_wp2_with fail;refine HG.out.mono ?_;rintro _ w5 ⟨rfl,rfl⟩;go_wp2_with fail;refine HC.out.mono ?_;rintro _ w6 ⟨A,c',rfl,ab⟩;have JP:=hide (P7.out.tr ab);clear HG HC ab P7;go_wp2;exact bq (results_tmp2 results111 _ _ _) rfl (eB.mk JP.out (eR.two ⟨A,c',rfl⟩ rfl))
end
end Go.Proofs.YtofgfpffcegioaaGreat
