/- A part of the proof. -/
import Derived.Test.YtofgfpffcegioaaGreatZf46
set_option maxRecDepth 100000
set_option maxHeartbeats 8000000
namespace Go.Proofs.YtofgfpffcegioaaGreat
namespace fq
section
variable {c:Cf} {M:Mc} {S:List UInt8→List Nat} {text:List UInt8} {ans:List Bool} {s:St}
variable {r:Rn} {g:Go}
theorem aO(d:xR M S)(E:1≤r.cf.block)(h:0<r.cf.ring):dY r M S (r.run M r.most r.start):=
 dY.run d E r.most r.start ⟨Good.start d h _ _,λe=>by cases e⟩ λe=>by cases e
end
end fq
end Go.Proofs.YtofgfpffcegioaaGreat
namespace Go.Proofs.YtofgfpffcegioaaGreat
open Go.RowKit Go.Shelf Go.Sort iT jH Go.Proofs.Tryz
section
variable {L ws:List (List UInt8)}
theorem aA:∀{s:L8} {n:Nat},n∈ju ws s→n<ws.length∧ws.getD n []<:+s
 |[],n,h=>by simp[ju]at h
 |c::s,n,h=>by
  unfold ju at h;split at h
  ·rename_i E;rcases List.mem_cons.1 h with rfl|h
   ·have d:=List.idxOf_lt_length_of_mem E;exact⟨d,by rw[List.getD_eq_getElem?_getD,List.getElem?_eq_getElem d];simp[List.getElem_idxOf d]⟩
   ·exact⟨(aA h).1,(aA h).2.trans (List.suffix_cons c s)⟩
  ·exact⟨(aA h).1,(aA h).2.trans (List.suffix_cons c s)⟩
end
end Go.Proofs.YtofgfpffcegioaaGreat
namespace Go.Proofs.YtofgfpffcegioaaGreat
open iT jH fq Go.Proofs.Tryz
section
variable {f:Bool} {ws:List (List UInt8)}
def pM(ws:LL)(i:Int):Int:=if 0≤i∧i<(ws.length:Int)then((ws.getD i.toNat []).length:Int)else 0
def mN(ws:LL)(a b:Int×Int):Bool:=
 if a.1=b.1 then(if pM ws a.2=pM ws b.2 then decide (a.2<b.2)else decide (pM ws b.2<pM ws a.2))else decide (a.1<b.1)
def wN(ws:LL):Hits→Bool
 |a::b::l=>mN ws a b&&wN ws (b::l)
 |_=>true
theorem aD:∀{l:Hits},l.Pairwise (λa b=>mN ws a b=true)→wN ws l=true
 |[],_=>rfl
 |[a],_=>rfl
 |a::b::l,h=>by
  obtain⟨s,d⟩:=List.pairwise_cons.1 h;unfold wN;rw[s b List.mem_cons_self,aD d];rfl
theorem aB(d:ws.Nodup):∀s:L8,(ju ws s).Pairwise λi j=>(ws.getD j []).length<(ws.getD i []).length
 |[]=>List.Pairwise.nil
 |c::s=>by
  unfold ju;split
  ·rename_i h;refine List.pairwise_cons.2 ⟨λj H=>?_,aB d s⟩;have I:=(aA H).2.length_le;have E:=List.idxOf_lt_length_of_mem h;have e:ws.getD (ws.idxOf (c::s)) []=c::s:=by rw[List.getD_eq_getElem?_getD,List.getElem?_eq_getElem E];simp[List.getElem_idxOf E]
   rw[e,List.length_cons];omega
  ·exact aB d s
theorem aE{i:Nat}(h:i<ws.length):pM ws (i:Int)=((ws.getD i []).length:Int):=by
 unfold pM;rw[if_pos ⟨by omega,by omega⟩];rfl
theorem aH(h:eS f ws=true)(d:Nat)(text:L8)(m:Nat):(BD d (QF f ws) text m).Pairwise λa b=>mN ws a b=true:=by
 have H:=(nR h).2;unfold BD;rw[List.pairwise_flatMap];refine⟨λe _=>?_,?_⟩
 ·rw[List.pairwise_map];refine(aB H _).imp_of_mem λ{i j} O J I=>?_;unfold mN;rw[if_pos rfl,aE (aA O).1,aE (aA J).1,if_neg zO,decide_eq_true_eq];omega
 ·refine List.pairwise_lt_range.imp λ{a b} T x E y s=>?_;obtain⟨i,-,rfl⟩:=List.mem_map.1 E;obtain⟨j,-,rfl⟩:=List.mem_map.1 s;unfold mN;rw[if_neg zT,decide_eq_true_eq];simp;omega
theorem aI(h:eS f ws=true){d m:Nat}{text:L8}{l:Hits}(s:l<+:BD d (QF f ws) text m):wN ws l=true:=
 aD ((aH h d text m).sublist s.sublist)
end
end Go.Proofs.YtofgfpffcegioaaGreat
namespace Go.Proofs.YtofgfpffcegioaaGreat
open Go.RowKit Go.Shelf Go.Sort iT jH fq Go.Proofs.Tryz
open Go.Proofs.Tryz renaming underlying24 → av,underlying38 → aw,underlying50 → ay
section
section
attribute [local irreducible] ew ed
section
variable {w:World}
theorem aG(ans:List Bool)(u:Value)(n:Nat)(hu:iZ ans u w)(hn:n≤1000000000):Calls prog 15 #[u,iV n] w (eB w (eC (.bool (Snk.says ans n)))):=by
 obtain⟨A,c,rfl,ab,O,J⟩:=iZ.form hu;unfold maxLen at O;clear hu;by_cases H:ans=[]
 ·subst H;have e:=hide (show Snk.says [] n=true from rfl);rw[e.out];clear J;rw[show([]:List Bool).length=0 from rfl]at*;go_enter func15,ntmps15;go_upto_region 1 with(fail)
  refine KU 12 ?_;refine ed.Qi _ _ _ _ rfl wA oA (eE _) rfl (.g ?_);intro W1 E;have T:=Ext.rf w |>.tr E
  clear E;go_wp2;go_ret;exact eB.mk T rfl
 ·have d:0<ans.length:=List.length_pos_iff.2 H;obtain⟨b,Y,rfl,ad,s⟩:=J d;have U:n%ans.length<ans.length:=Nat.mod_lt _ d;have aa:=s _ U;have e:Snk.says ans n=ans.getD (n%ans.length) false:=by
   unfold Snk.says;cases ans with
   |nil=>exact absurd rfl H
   |cons a l=>rfl
  have He:=hide e;rw[He.out];clear e J s H;generalize ans.getD (n%ans.length) false=q at*;generalize ans.length=L at*;go_enter func15,ntmps15;go_upto_region 1 with(fail)
  refine KU 12 ?_;refine ed.zQ _ _ _ _ rfl wA oA (eE _) zO (.g ?_);refine ed.ue (c:=n%L) _ _ _ _ rfl d zO rfl (tO 3 8 4) oA oA ?_;refine ed.fD (i:=n%L) 27 4 _ _ rfl underlying27 zK U (tO 3 8 5) oA oA (.g ?_);intro W1 E;have T:=Ext.rf w |>.tr E
  clear E;go_wp2;go_ret;exact eB.mk T rfl
theorem DJ(f:Bool)(ws:LL)(i:Int)(u:Value)(w:World)(hS:jj f ws u w):Calls prog 72 #[u,iV i] w (eB w (eC (iV (pM ws i)))):=by
 obtain⟨sl,rfl,hP⟩:=hS;obtain⟨A,c,rfl,E,s,T⟩:=eD.form hP;have U:=ek w (.cells #[.bool f,.slice A ws.length c] 24);have hb:=Box.new w 24 #[.bool f,.slice A ws.length c];clear hP;by_cases h0:i<0
 ·have e:=hide (show pM ws i=0 by unfold pM;omega);rw[e.out];clear T e E s;generalize ws.length=n at*;go_enter func72,ntmps72;go_upto_region 1 with(fail)
  generalize w.alloc (.cells #[.bool f,.slice A n c] 24)=w1 at*;go_wp2_with(fail)
  go_ret;exact eB.mk U rfl
 ·by_cases h1:(ws.length:Int)≤i
  ·have e:=hide (show pM ws i=0 by simp_all[pM]);rw[e.out];clear T e E s;generalize ws.length=n at*;go_enter func72,ntmps72;go_upto_region 1 with(fail)
   generalize w.alloc (.cells #[.bool f,.slice A n c] 24)=w1 at*;have d1:=hb.at_ 1 rfl;go_wp2_with(fail)
   go_ret;exact eB.mk U rfl
  ·obtain⟨k,rfl⟩:∃k:Nat,i=(k:Int):=⟨i.toNat,by omega⟩
   have hk:k<ws.length:=zO;have e:=hide (show pM ws (k:Int)=(ws[k].length:Int) by
    simp_all[pM,List.getD_eq_getElem?_getD])
   rw[e.out];obtain⟨b,H,rfl,Y,d⟩:=T zO;obtain⟨x,J,O⟩:=d k hk;obtain⟨Ax,cx,rfl,-⟩:=eu.form O;have J:=(U.cell (p:=⟨b,H+k,none⟩) Y).trans J;clear T e E s d O;generalize ws[k].length=L at*;generalize ws.length=n at*;have aa:(k:Int)<(n:Int):=zO;go_enter func72,ntmps72;go_upto_region 1 with(fail)
   generalize w.alloc (.cells #[.bool f,.slice (some ⟨b,H,none⟩) n c] 24)=w1 at*;have d1:=hb.at_ 1 rfl;go_wp2_with(fail)
   go_ret;exact eB.mk U rfl
theorem Ke(f:Bool)(ws:LL)(a b:Int×Int)(u:Value)(w:World)(hS:jj f ws u w):Calls prog 36 #[u,.agg #[iV a.1,iV a.2],.agg #[iV b.1,iV b.2]] w (eB w (eC (.bool (mN ws a b)))):=by
 obtain⟨Y,J⟩:=a;obtain⟨U,H⟩:=b;have hL:=hide (λi W (hE:Ext w W)=>DJ f ws i u W (VP.st _ _ _ _ hS hE));obtain⟨sl,rfl,hP⟩:=hS;obtain⟨A,c,rfl,-⟩:=eD.form hP;obtain⟨w1,d⟩:∃w1,w1=((w.alloc (.cells #[.bool f,.slice A ws.length c] 24)).alloc (.cells #[iV Y,iV J] 50)).alloc (.cells #[iV U,iV H] 50):=⟨_,rfl⟩
 have hX:Ext w w1:=by rw[d];exact((ek _ _).tr (ek _ _)).tr (ek _ _)
 have O:Box w1 w.heap.size 24 #[.bool f,.slice A ws.length c]:=by rw[d];exact((Box.new _ _ _).alloc _).alloc _
 have E:Box w1 (w.heap.size+1) 50 #[iV Y,iV J]:=by
  rw[d];have:=(Box.new (w.alloc (.cells #[.bool f,.slice A ws.length c] 24)) 50 #[iV Y,iV J]).alloc (.cells #[iV U,iV H] 50);simp_all
 have s:Box w1 (w.heap.size+1+1) 50 #[iV U,iV H]:=by
  grind[Box.new,bool,World.size_alloc]
 have a0:=E.at_ 0 rfl;have a1:=E.at_ 1 rfl;have b0:=s.at_ 0 rfl;have b1:=s.at_ 1 rfl;clear hP;by_cases h1:Y=U
 ·have e:=hide (show mN ws (Y,J) (U,H)=if pM ws J=pM ws H then decide (J<H)else decide (pM ws H<pM ws J) by unfold mN;grind);rw[e.out];clear e;subst h1;obtain⟨p,hp⟩:∃p,pM ws J=p:=⟨_,rfl⟩
  obtain⟨q,hq⟩:∃q,pM ws H=q:=⟨_,rfl⟩
  have ad:=hide (λW hE=>hL.out J W hE);have ab:=hide (λW hE=>hL.out H W hE);rw[hp]at ad;rw[hq]at ab;rw[hp,hq];clear hL hp hq;generalize ws.length=n at*;go_enter func36,ntmps36;go_upto_region 1 with(fail)
  rw[←d];clear d;go_upto_region 3 with(fail)
  refine vQ 8 (.g ?_);refine ed.eU 24 _ rfl wA oA av rfl zR O (eh _) (.g ?_);refine ed.call2 72 _ _ _ rfl (enters_of func72 zR rfl) wA oA oA (F:=eC (iV p)) (λ_ _ W aa h1 h2=>by cases h1;cases h2;exact ad.out W (hX.tr ((eh _).tr aa))) ?_;refine ed.eU 24 _ rfl wA oA av rfl zR O (eh _) (.g ?_);refine ed.call2 72 _ _ _ rfl (enters_of func72 zR rfl) wA oA oA (F:=eC (iV q)) (λ_ _ W aa h1 h2=>by cases h1;cases h2;exact ab.out W (hX.tr ((eh _).tr aa))) (.g ?_);intro W3 ae;have T:=(eh w1).tr ae;have HX:=hide (hX.tr T);have a1:=(E.ext T).at_ 1 rfl;have b1:=(s.ext T).at_ 1 rfl;clear hX T ae a0 b0 O E s ad ab;by_cases h2:p=q
  ·have af:¬p≠q:=λh=>h h2;go_wp2_with(fail)
   go_ret;exact eB.mk HX.out rfl
  ·go_wp2_with(fail)
   go_ret;exact eB.mk HX.out rfl
 ·have e:=hide (show mN ws (Y,J) (U,H)=decide (Y<U) by unfold mN;grind);rw[e.out];clear e hL E s O;generalize ws.length=n at*;go_enter func36,ntmps36;go_upto_region 1 with(fail)
  rw[←d];clear d;go_wp2_with(fail)
  go_ret;exact eB.mk hX rfl
theorem uj{ws:LL}:∀(d:Hits) (k:Nat) (h:k+1<d.length),mN ws d[k] d[k+1]=false→wN ws d=false
 |[],k,h,_=>by cases h
 |[a],k,h,_=>by simp at h
 |a::b::l,0,h,e=>by grind[wN,mN]
 |a::b::l,k+1,h,e=>by
  unfold wN;rw[uj (b::l) k zG zG,Bool.and_false]
theorem xF{ws:LL}:∀(d:Hits),(∀(k:Nat) (h:k+1<d.length),mN ws d[k] d[k+1]=true)→wN ws d=true
 |[],_=>rfl
 |[a],_=>rfl
 |a::b::l,h=>by
  unfold wN;rw[show mN ws a b=true from h 0 zS,xF (b::l) (λk s=>by have:=h (k+1) (by simpa using s);simpa using this)];rfl
theorem Sj(f:Bool)(ws:LL)(hs:Hits)(u v:Value)(w:World)(hS:jj f ws u w)(hH:eP hs v w)(hlen:hs.length≤100000000):Calls prog 16 #[u,v] w (eB w (eC (.bool (wN ws hs)))):=by
 have hL:=hide (λa b W (hE:Ext w W)=>Ke f ws a b u W (VP.st _ _ _ _ hS hE));obtain⟨sl,rfl,hP⟩:=hS;obtain⟨A,c,rfl,-⟩:=eD.form hP;obtain⟨Ah,ch,rfl,au,al,hx⟩:=eP.form hH;have Hx:=hide hx;unfold maxLen at al;have hX:=ek w (.cells #[.bool f,.slice A ws.length c] 24);have hb:=Box.new w 24 #[.bool f,.slice A ws.length c];clear hP hH hx;go_enter func16,ntmps16;go_upto_region 1 with(fail)
 generalize w.alloc (.cells #[.bool f,.slice A ws.length c] 24)=w1 at*;go_upto_region 2 with(fail)
 go_loopw [5] (λi wr=>∃k:Nat,1≤k∧(k≤hs.length∨k=1)∧i=iV k∧Hid (Ext w1 wr)∧Hid (∀(j:Nat) (h:j+1<hs.length),j+1<k→mN ws hs[j] hs[j+1]=true)) (λi _=>hs.length+1-(intOf i).toNat)
 case atStart=>exact⟨1,Nat.le_refl _,.inr rfl,rfl,Ext.rf _,λj h hj=>by omega⟩
 case round=>
  obtain⟨k,ar,hk,rfl,HE,HA⟩:=hrel;have J:=hb.ext HE.out;by_cases Y:k<hs.length
  ·have aj:(k:Int)<(hs.length:Int):=zO;obtain⟨b,H,rfl,O,s⟩:=Hx.out zO;obtain⟨q,rfl⟩:∃q,k=q+1:=⟨k-1,by omega⟩
   have af:=s q zO;have ae:=s (q+1) Y;have d:Ext w wr:=hX.tr HE.out;have ah:=hide (λW (hE:Ext wr W)=>hL.out hs[q] hs[q+1] W (d.tr hE));have ap:=(d.cell (p:=⟨b,H+q*2,none⟩) O).trans af.1;have ao:=(d.cell (p:=⟨b,H+q*2+1,none⟩) O).trans af.2;have an:=(d.cell (p:=⟨b,H+(q+1)*2,none⟩) O).trans ae.1;have am:=(d.cell (p:=⟨b,H+(q+1)*2+1,none⟩) O).trans ae.2;have E:b<wr.heap.size:=Nat.lt_of_lt_of_le O d.size;have ab:∀j v,(#[iV hs[q].1,iV hs[q].2]:AV)[j]?=some v→wr.cell? ⟨b,H+q*2+j,none⟩=some v:=λj v hj=>by
    grind
   have aa:∀j v,(#[iV hs[q+1].1,iV hs[q+1].2]:AV)[j]?=some v→wr.cell? ⟨b,H+(q+1)*2+j,none⟩=some v:=λj v hj=>by
    grind
   have ad:=hide (show(((q+1:Nat):Int)-1)=(q:Int) by omega);have HA1:=HA;have HF:=hide (λ(e:mN ws hs[q] hs[q+1]=false)=>uj hs q Y e);have HT:=hide (λ(e:mN ws hs[q] hs[q+1]=true)=>show∀(j:Nat) (h:j+1<hs.length),j+1<q+1+1→mN ws hs[j] hs[j+1]=true from λj h hj=>by
    by_cases ej:j=q
    ·grind
    ·exact HA1.out j h zO)
   obtain⟨z,hz⟩:∃z,mN ws hs[q] hs[q+1]=z:=⟨_,rfl⟩
   rw[hz]at ah HF HT;have ak:=hide d;clear s af ae ap ao an am hz HA HA1 d;generalize hs[q]=x at*;generalize hs[q+1]=y at*;have ai:q<hs.length:=zO;go_upto_region 4 with(fail)
   have aq:q≤100000000:=zO;cases z with
   |true=>
    refine vQ 12 (.g ?_);refine ed.eU 24 _ rfl wA oA av rfl zR J (eh _) (.g ?_);refine ed.kC _ _ _ _ rfl wA oA (eE _) zO ?_;refine ed.kD ad.out ?_;refine ed.gT (i:=q) 2 38 50 _ _ rfl aw zR ai wA oA oA ?_;refine ed.loadAt 50 _ rfl wA oA ay rfl zR E ab (eh _) (.g ?_);refine ed.gT (i:=q+1) 2 38 50 _ _ rfl aw zR Y wA oA oA ?_;refine ed.loadAt 50 _ rfl wA oA ay rfl zR E aa (eh _) ?_;refine ed.call3 36 _ _ _ _ rfl (enters_of func36 zR rfl) wA oA oA oA (F:=eC (.bool true)) (λ_ _ _ W ag h1 h2 h3=>by cases h1;cases h2;cases h3;exact ah.out W ((eh _).tr ag)) ?_;refine ed.BN _ _ rfl wA oA rfl (.g ?_);intro W4 U;have T:=(eh wr).tr U;have GJ:=hide (HE.out.tr T);clear T U J ab aa;refine wpList_nil ?_;go_wp2_with(fail)
    exact⟨⟨q+1+1,by omega,.inl zO,by go_num,GJ,HT.out rfl⟩,by grind[intOf]⟩
   |false=>
    refine vQ 12 (.g ?_);refine ed.eU 24 _ rfl wA oA av rfl zR J (eh _) (.g ?_);refine ed.kC _ _ _ _ rfl wA oA (eE _) zO ?_;refine ed.kD ad.out ?_;refine ed.gT (i:=q) 2 38 50 _ _ rfl aw zR ai wA oA oA ?_;refine ed.loadAt 50 _ rfl wA oA ay rfl zR E ab (eh _) (.g ?_);refine ed.gT (i:=q+1) 2 38 50 _ _ rfl aw zR Y wA oA oA ?_;refine ed.loadAt 50 _ rfl wA oA ay rfl zR E aa (eh _) ?_;refine ed.call3 36 _ _ _ _ rfl (enters_of func36 zR rfl) wA oA oA oA (F:=eC (.bool false)) (λ_ _ _ W ag h1 h2 h3=>by cases h1;cases h2;cases h3;exact ah.out W ((eh _).tr ag)) ?_;refine ed.BN _ _ rfl wA oA rfl (.g ?_);intro W4 U;have T:=(eh wr).tr U;have GJ:=hide (ak.out.tr T);have HF2:=hide (HF.out rfl);clear T U J ab aa;refine wpList_nil ?_;go_wp2_with(fail)
    go_ret;exact eB.mk GJ.out (by rw[HF2.out];rfl)
  ·have aj:¬(k:Int)<(hs.length:Int):=zO;have d:=hide (hX.tr HE.out);have HT:=hide (xF hs (λj h=>HA.out j h zO));clear J hX hb HE HA;go_wp2_with(fail)
   go_ret;exact eB.mk d.out (by rw[HT.out];rfl)
end
end
end
end Go.Proofs.YtofgfpffcegioaaGreat
namespace Go.Proofs.YtofgfpffcegioaaGreat
open List renaming countP_eq_length_filter → aa,range → ab
namespace fq
section
variable {r:Rn} {M:Mc} {S:List UInt8→List Nat}
def aM(ans:List Bool)(n:Nat):Nat:=((ab n).filter λi=>!Snk.says ans i).length
theorem aN(ans:List Bool)(n:Nat):aM ans n+((ab n).filter λi=>Snk.says ans i).length=n:=by
 unfold aM;have h:=List.length_eq_countP_add_countP (p:=λi=>Snk.says ans i) (l:=ab n);rw[List.length_range,aa,aa]at h;have e:(ab n).filter (λi=>!Snk.says ans i)=(ab n).filter (λa=>decide ¬(Snk.says ans a=true)):=by
  refine List.filter_congr λi _=>?_;cases Snk.says ans i<;>rfl
 rw[e];omega
structure aJ(r:Rn)(S:L8→List Nat)(o:Rp):Prop where
 pre:o.hits<+:BD r.cf.kX S r.reads.flatten r.reads.flatten.length
 kind:o.kind=1∨(o.kind=2∧o.at_=0∧r.broken=false∧o.hits=BD r.cf.kX S r.reads.flatten r.reads.flatten.length∧o.read=r.reads.flatten.length)∨
  (o.kind=3∧o.at_=0∧0≤r.cancel∧r.cancel<(o.turns:Int))∨
  (o.kind=4∧o.at_=r.reads.flatten.length∧r.broken=true∧o.hits=BD r.cf.kX S r.reads.flatten r.reads.flatten.length∧o.read=r.reads.flatten.length)
 run:o.kind=1→o.at_=0
 refused:aM r.answers (o.refused+o.hits.length)=o.refused
theorem bI(O:xR M S)(U:1≤r.cf.block)(T:0<r.cf.ring):aJ r S (r.report M):=by
 have h:=aO (r:=r) O U T;unfold Rn.report;generalize r.run M r.most r.start=g at h;have H:g.s.iG.took.length≤g.s.iG.offers:=by
  rw[h.good.says];exact Nat.le_trans (List.length_filter_le _ _) (by rw[List.length_range];exact Nat.le_refl _)
 refine⟨h.good.took,?_,?_,?_⟩
 ·cases d:g.s.over with
  |false=>left;simp[d]
  |true=>
   cases s:g.s.pl.cancelled with
   |true=>
    right;right;left;refine⟨by simp[d,s],by simp[d,s],(h.can s).1,?_⟩;rcases(h.can s).2 with h1|h1
    ·exact h1
    ·rw[d]at h1;cases h1
   |false=>
    obtain⟨h1,J⟩:=h.good.done O d s;cases E:r.broken with
    |false=>right;left;exact⟨by simp[d,s],by simp[d,s],rfl,h1,J⟩
    |true=>right;right;right;exact⟨by simp[d,s],by simp[d,s,J],rfl,h1,J⟩
 ·intro I;cases d:g.s.over with
  |false=>simp[d]
  |true=>
   cases s:g.s.pl.cancelled with
   |true=>simp[d,s]at I
   |false=>
    cases E:r.broken with
    |false=>simp[d,s,E]at I
    |true=>simp[d,s,E]at I
 ·show aM r.answers (g.s.iG.offers-g.s.iG.took.length+g.s.pl.took.length)=g.s.iG.offers-g.s.iG.took.length;rw[←h.good.same,Nat.sub_add_cancel H];have:=aN r.answers g.s.iG.offers;rw[←h.good.says]at this;omega
end
end fq
end Go.Proofs.YtofgfpffcegioaaGreat
