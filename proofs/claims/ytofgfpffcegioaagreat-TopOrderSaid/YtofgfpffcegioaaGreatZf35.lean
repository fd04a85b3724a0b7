/- A part of the proof. -/
import Derived.Test.YtofgfpffcegioaaGreatZf34
import Derived.StillTailTactics
set_option maxRecDepth 100000
set_option maxHeartbeats 8000000
namespace Go.Proofs.YtofgfpffcegioaaGreat
open Go.RowKit iT jH Go.Proofs.Tryz
open Bool renaming true → aJ
open Go renaming wpAny_ready → aA,World → aD,bodyPost_ret → aE,TypeId → aN
open Go.AllReady renaming nil → az
open Go.Proofs.Tryz renaming underlying148 → aB,underlying367 → aH,results119 → aM
open List renaming setIfInBounds_toArray → aC,set_cons_zero → aF,set_cons_succ → aG
open Option renaming some → aI,none → aP
open Or renaming inl → aO
open UInt8 renaming ofNat → aK,toNat_ofNat' → aL
def lE(f:Nat→Int)(m:Int):AV:=arr 257 λi=>iV (if i<256 then f i else m)
theorem yZ(f:Nat→Int)(m:Int):(lE f m).size=257:=iJ _ _
theorem CF(f:Nat→Int)(m:Int){i:Nat}(hi:i<256):(lE f m)[i]?=aI (iV (f i)):=by unfold lE;rw[fw zO,if_pos hi]
theorem oa(f:Nat→Int)(m:Int):(lE f m)[256]?=aI (iV m):=by simp_all[lE,fw]
theorem CG(f:Nat→Int)(m:Int){i:Nat}(hi:i<256)(z:Int):(lE f m).setIfInBounds i (iV z)=lE (λj=>if j=i then z else f j) m:=by
 unfold lE;rw[nq];grind
theorem Om(f:Nat→Int)(m z:Int):(lE f m).setIfInBounds 256 (iV z)=lE f z:=by
 unfold lE;rw[nq];rfl
theorem za(g:Nat)(T:aN)(cs:AV)(c:Nat)(n:Int)(w:aD)(d:Box w g T cs)(hs:256≤cs.size)(J:c<256):Calls prog 233 #[gP g,.int .u8 (c:Int),iV n] w λe h=>e=.returned (.tuple #[])∧h=w.setCell ⟨g,c,aP⟩ (iV n):=by
 have I:=d.frozen c;have E:=d.cell c;rw[Array.getElem?_eq_getElem (by omega:c<cs.size)]at E;have H:(c:Int)<256:=zO;generalize cs[c]=s at*;go_enter func233,ntmps233;go_wp2;simp_all[bodyPost_end,results_none,results233]
theorem Jb(g:Nat)(f:Nat→Int)(m:Int)(c:Nat)(w:aD)(H:Box w g 323 (lE f m))(T:0≤m)(O:m≤1000)(V:c<256):Calls prog 235 #[gP g,.int .u8 (c:Int)] w λe I=>e=.returned (.tuple #[])∧w.grownBy I (aI g)∧Box I g 323 (lE (λj=>if j=c then m else f j) (m+1)):=by
 have d:=(H.cell 256).trans (oa f m);have J:=za g _ _ c m w.drew H.drew (by rw[yZ];omega) V;have s:Box (w.drew.setCell ⟨g,c,aP⟩ (iV m)) g 323 (lE (λj=>if j=c then m else f j) m):=by
  have:=H.drew.eL c (iV m);grind[CG]
 have E:=(s.cell 256).trans (oa _ m);have U:=s.frozen 256;go_enter func235,ntmps235;go_wp2_with fail
 go_still_tail 8,zR
 change wpList _ _ _ _ _ w.drew;have h:w.grownBy w.drew (aI g):=⟨rfl,rfl,rfl,Nat.le_refl _,λ_ _ _=>rfl⟩
 have Y:=hide (lZ (lZ h c (iV m)) 256 (iV (m+1)));have W:Hid (Box ((w.drew.setCell ⟨g,c,aP⟩ (iV m)).setCell ⟨g,256,aP⟩ (iV (m+1))) g 323 (lE (λj=>if j=c then m else f j) (m+1))):=by
  have:=s.eL 256 (iV (m+1))
  rwa [Om]at this
 clear h s;generalize w.drew=w2 at*;go_wp2_with fail;refine J.mono ?_;rintro _ w3 ⟨rfl,rfl⟩;clear J d;go_wp2;refine bodyPost_end (results_none results235 _ _ _) rfl ⟨rfl,Y.out,W.out⟩
abbrev Um:=(Nat→Int)×Int
def zb(d:Bool)(h:Nat→Bool)(st:Um)(i:Nat):Um:=
 if h i=false then st else if(d&&fZ i)=aJ then(λj=>if j=i then st.1 (i-32)else st.1 j,st.2)else(λj=>if j=i then st.2 else st.1 j,st.2+1)
def gj(d:Bool)(h:Nat→Bool)(n:Nat):Um:=(List.range n).foldl (zb d h) (λ_=>0,1)
theorem qk(d:Bool)(h:Nat→Bool)(n:Nat):gj d h (n+1)=zb d h (gj d h n) n:=by grind[gj,List.range_succ]
theorem tu(d:Bool)(h:Nat→Bool):∀n,0≤(gj d h n).2∧(gj d h n).2≤n+1
 |0=>by simp[gj]
 |n+1=>by
  have s:=tu d h n;grind[qk,zb]
theorem Qz:Tryz.zeroCells323.setIfInBounds 256 (iV 1)=lE (λ_=>0) 1:=by kernel_rfl
theorem GI(k:Nat)(h:k<256)(w:aD):Calls prog 232 #[.int .u8 (k:Int)] w (λe d=>e=.returned (.bool (fZ k))∧d=w):=by
 have:=CD (aK k) w;grind[aK,aL]
theorem On(k:Nat)(s:k<256)(h:fZ k=aJ)(w:aD):Calls prog 234 #[.int .u8 (k:Int)] w (λe d=>e=.returned (.int .u8 ((k-32:Nat):Int))∧d=w):=by
 have:=CE (aK k);grind[aK,aL]
theorem CH(f:Bool)(ws:LL)(u:Value)(w:aD)(hS:jj f ws u w)(al:ws.flatten.length≤1000000)(hn:ws.length≤1000000)(hr:eS f ws=aJ):Calls prog 177 #[u] w λe w'=>∃g,e=.returned (.tuple #[gP g,.bool aJ])∧Ext w w'∧w.heap.size≤g∧Box w' g 323 (lE (gj f (hasB f ws.flatten) 256).1 (gj f (hasB f ws.flatten) 256).2):=by
 have ag:=hS;obtain⟨sl,rfl,hP⟩:=hS;obtain⟨A,c,rfl,-⟩:=eD.form hP;have hX:=ek w (.cells #[.bool f,.slice A ws.length c] 24);have ad:=oK f ws _ _ (VP.st _ _ _ _ ag hX) al hn;rw[hr]at ad;have V:=Box.new w 24 #[.bool f,.slice A ws.length c];clear hP;go_enter func177,ntmps177;go_wp2_with fail;refine ad.mono ?_;rintro _ w1 ⟨u,rfl,Y,rfl⟩;have V:=V.ext Y;have Y:=hX.tr Y;clear ad hX;go_upto_region 4 with(fail)
 rw[Qz];have hX:=ek w1 (.cells (lE (λ_=>0) 1) 323);have hg:=Box.new w1 323 (lE (λ_=>0) 1);have aa:=V.ext hX;have an:=aa.at_ 0 rfl;have am:=aa.at_ 1 rfl;have ah:=Y.tr hX;have au:w.heap.size<w1.heap.size:=V.lt;generalize w1.alloc (.cells (lE (λ_=>0) 1) 323)=w2 at*;generalize w1.heap.size=g at*;have hh:=Ol f ws _ _ (VP.st _ _ _ _ ag ah);clear V Y hX ag hr;go_wp2_with fail;refine hh.mono ?_;rintro _ w3 ⟨u,rfl,ab,rfl⟩;have T:Hid (Box w3 g 323 (lE (gj f (hasB f ws.flatten) 0).1 (gj f (hasB f ws.flatten) 0).2)):=hg.ext ab;have HB:=hide (aa.ext ab);have O:=hide (ah.tr ab);clear hh hg aa ah ab an am;obtain⟨h,ae⟩:∃h,hasB f ws.flatten=h:=⟨_,rfl⟩
 rw[ae]at T ⊢;have Hh:=hide ae;clear ae;go_wp2_with fail
 go_loopw [5,6,7,15] (λ_ _ _ i wr=>∃k:Nat,k≤256∧i=iV k∧Hid (Below w.heap.size w wr)∧Hid (Box wr w.heap.size 24 #[.bool f,.slice A ws.length c])∧Hid (Box wr g 323 (lE (gj f h k).1 (gj f h k).2))) (λ_ _ _ i _=>256-(intOf i).toNat)
 case atStart=>grind
 case round=>
  clear O HB T;obtain⟨k,hk,rfl,O,HB,T⟩:=hrel;by_cases d:k<256
  ·have hm:=tu f h k;have aq:(k:Int)<256:=zO;have av:IntKind.u8.wrap (k:Int)=(k:Int):=IntWalk.u8_in _ zO;have s:=qk f h k;generalize gj f h k=st at*;obtain⟨cf,m⟩:=st;dsimp only at hm T;unfold zb at s;dsimp only at s;by_cases hh:h k=false
   ·rw[if_pos hh]at s;have rq:=hide s;clear s;go_upto_region 7 with(refine jJ rfl 367 _ _ rfl rfl rfl aH d (nZ h d) zR (λ_=>by rfl) ?_;rw[hh])
    go_wp2_with fail;exact⟨⟨k+1,by omega,by go_num,O,HB,by rw[rq.out];exact T⟩,by grind[intOf]⟩
   ·have hh:h k=true:=zG;rw[hh,if_neg zS]at s;have af:=HB.out.at_ 0 rfl;by_cases hf:(f&&fZ k)=aJ
    ·rw[if_pos hf]at s;obtain⟨rfl,U⟩:f=aJ∧fZ k=true:=zG;have rq:=hide s;have H:=GI k d wr;rw[U]at H;have J:=On k d U;clear s hf;go_upto_region 7 with(refine jJ rfl 367 _ _ rfl rfl rfl aH d (nZ h d) zR (λ_=>by rfl) ?_;rw[hh])
     go_wp2_with fail;refine H.mono ?_;rintro _ wr ⟨rfl,rfl⟩;clear H af;have E:=T.out;have ay:=(E.cell (k-32)).trans (CF cf m (by omega:k-32<256));have aw:((k-32:Nat):Int)<256:=zO;have hs:=λW hb=>za g 323 (lE cf m) k (cf (k-32)) W hb (by rw[yZ];omega) d;have hs:=hs wr.drew E.drew;have Hn:Hid (Box (wr.drew.setCell ⟨g,k,aP⟩ (iV (cf (k-32)))) g 323 (lE (λj=>if j=k then cf (k-32)else cf j) m)):=by
      have:=E.drew.eL k (iV (cf (k-32)));simp_all[CG]
     have ao:=hide (Below.setCell (O.out.drew) (p:=⟨g,k,aP⟩) (by show w.heap.size≤g;omega) (iV (cf (k-32))));have ap:=hide (HB.out.drew.far (p:=⟨g,k,aP⟩) (by show w.heap.size≠g;omega) (iV (cf (k-32))));clear HB T O E;generalize k-32=ar at*;go_wp2_with fail
     go_still_tail 12,zR
     still_call (J _)
     repeat still_step
     try refine wpStill_nil ?_
     change wpList _ _ _ _ _ wr.drew;generalize wr.drew=w2 at*;go_wp2_with fail;refine hs.mono ?_;rintro _ _ ⟨rfl,rfl⟩;clear hs;go_wp2;exact⟨⟨k+1,by omega,by go_num,ao,ap,by rw[rq.out];exact Hn⟩,by grind[intOf]⟩
    ·have hf:(f&&fZ k)=false:=zG;rw[hf,if_neg zS]at s;have rq:=hide s;have H:=GI k d wr;have J:=λW hb=>Jb g cf m k W hb zO zO d;clear s;cases f
     ·clear hf H;go_upto_region 7 with(refine jJ rfl 367 _ _ rfl rfl rfl aH d (nZ h d) zR (λ_=>by rfl) ?_;rw[hh])
      go_wp2_with fail;refine(J _ T.out).mono ?_;rintro _ w4 ⟨rfl,I,E⟩;have ai:Hid (Below w.heap.size w w4):=hide (O.out.grown I O.out.size (λj e=>by cases e;omega));have ak:=hide (HB.out.grows I (by intro e;simp_all));have aj:=hide E;clear E I J HB T O af;go_wp2;exact⟨⟨k+1,by omega,by go_num,ai,ak,by rw[rq.out];exact aj⟩,by grind[intOf]⟩
     ·have U:fZ k=false:=zG;rw[U]at H;clear hf U;go_upto_region 7 with(refine jJ rfl 367 _ _ rfl rfl rfl aH d (nZ h d) zR (λ_=>by rfl) ?_;rw[hh])
      go_wp2_with fail;refine H.mono ?_;rintro _ wr ⟨rfl,rfl⟩;clear H;go_wp2_with fail;refine(J _ T.out).mono ?_;rintro _ w4 ⟨rfl,I,E⟩;have ai:Hid (Below w.heap.size w w4):=hide (O.out.grown I O.out.size (λj e=>by cases e;omega));have ak:=hide (HB.out.grows I (by intro e;simp_all));have aj:=hide E;clear E I J HB T O af;go_wp2;exact⟨⟨k+1,by omega,by go_num,ai,ak,by rw[rq.out];exact aj⟩,by grind[intOf]⟩
  ·obtain rfl:k=256:=zO;go_wp2;exact aE (v:=.tuple #[gP g,.bool aJ]) (by simp[results,results177]) rfl ⟨g,rfl,O.out,by omega,by rw[Hh.out];exact T.out⟩
def iL(f:Nat→Int):AV:=arr 256 λi=>iV (f i)
theorem fo(f:Nat→Int):(iL f).size=256:=iJ _ _
theorem CI(f:Nat→Int){i:Nat}(hi:i<256):(iL f)[i]?=aI (iV (f i)):=fw hi
theorem zc(f:Nat→Int)(m:Int){i:Nat}{v:Value}(h:(iL f)[i]?=aI v):(lE f m)[i]?=aI v:=by
 grind[CI,CF,iL,se]
theorem PB:(prog.info? 148).bind (·.zero)=aI (.agg (iL λ_=>0)):=by kernel_rfl
def As(f:Bool)(ws:LL):(Nat→Int)×Int×Int:=if eS f ws then((gj f (hasB f ws.flatten) 256).1,(gj f (hasB f ws.flatten) 256).2,0)else(λ_=>0,0,2)
structure OW(P:Program)(o:Oper)(a:Act)(w:aD)(K:Act→aD→Prop)(Q:Exit→Act→aD→Prop):Prop where
 h:Oper.wp P o a w K Q
section
variable {P:Program} {ops:Array Oper} {w:aD} {o:Oper} {a:Act} {K:Act→aD→Prop} {Q:Exit→Act→aD→Prop}
theorem wF(v:Value)(d:aD)(h:(execOp a.eval o).run P w=.ok (.value v) d)(s:K (a.put o.dst v) d):OW P o a w K Q:=
 ⟨by unfold Oper.wp;grind[Oper.upon_value]⟩
theorem sB(s:aN)(x:Operand)(I:o.op=.load s x)
  (g h:Nat)(E:a.eval x=.pointer (aI ⟨g,h,aP⟩))(cs:AV){d:TypeDesc}(O:∀j v,cs[j]?=aI v→w.cell? ⟨g,h+j,aP⟩=aI v)
  (H:P.underlying s=aI d)(J:(match d with|.struct _|.array _ _=>aJ|_=>false)=aJ)(hi:(P.info? s).map (·.size)=aI cs.size)
  (T:K (a.put o.dst (.agg cs)) w):OW P o a w K Q:=
 wF _ _ (by unfold execOp;simp only[I,E,Instr.loadAt,Instr.sureAddr,Sem.run_bind,Sem.run_pure,Result.andThen_ok,kF O H J hi]) T
theorem rz(d:aN)(x:Operand)(E:o.op=.load d x){p:Addr}(s:a.eval x=.pointer (aI p)){v:Value}(H:w.cell? p=aI v)
  (I:∀w:aD,(isAgg d).run P w=.ok false w)(h:K (a.put o.dst v) w):OW P o a w K Q:=
 wF _ _ (by simp_all[execOp,Instr.loadAt,Instr.sureAddr,loadVar,Sem.run_bind]) h
theorem kt(x:Operand)(h:o.op=.assign x)(d:K (a.put o.dst (a.eval x)) w):OW P o a w K Q:=
 wF _ _ (by simp_all[execOp]) d
theorem mM(s:aN)(x y:Operand)(I:o.op=.store s x y)(g:Nat)(cells:AV)(H:a.eval x=gP g)(E:a.eval y=.agg cells)
  {t:aN}{d:AV}(J:Box w g t d)(hi:(P.info? s).map (·.size)=aI cells.size)(h:d.size=cells.size)(T:cells.all (·.oneCell')=aJ)
  (O:K (a.put o.dst undef) (w.setRow g cells)):OW P o a w K Q:=
 ⟨wp_store_row s x y I g cells H E t d J hi h T O⟩
end
section
variable {P:Program} {l:List Oper} {Q:Exit→Act→aD→Prop}
theorem nz{s:Nat}{d:Array Bool}{a:Act}{w:aD}{i:Nat}{o:Oper}{rs:List Nat}(I:nth l i=aI o)(H:o.guard=aP)
  (h:∀E:Act→aD→Prop,(∀a w,wpAny P .any l.toArray Q s (d.setIfInBounds i aJ) a w→E a w)→OW P o a w E Q)
  (hs:AllReady P .any l.toArray Q s d a w rs):AllReady P .any l.toArray Q s d a w (i::rs):=AllReady.cons (by rw[pA]at I;simpa using I) (λE J=>by rw[if_pos (by simp[Region.wanted,H])];exact(h E J).h) hs
theorem takeN{i:Nat}{E:Oper}{v:Value}{s:Nat}{d:Array Bool}{a:Act}{w:aD}(hi:nth l i=aI E)
  (hs:Region.noSelect l.toArray=aJ)(J:Region.free .any l.toArray d i=aJ)(I:(Region.ready .any l.toArray d).contains i=aJ)
  (O:∀c a w,Q (.panic c) (a.put E.dst v) w→Q (.panic c) a w)(H:Yields P l.toArray E v a)
  (h:wpAny P .any l.toArray Q s (d.setIfInBounds i aJ) (a.put E.dst v) w):wpAny P .any l.toArray Q (s+1) d a w:=wpAny_take (by grind[pA]) hs J I O H h
end
theorem j4{P:Program}{J:Func}{t u v:Tmp}{s:aN}(h:J.results=#[.cell t s,.tmp u,.tmp v])(tmps:AV)(w:aD)(g:Nat)(T:aN)(cs:AV)(d:TypeDesc)(ht:tmps.getD t undef=gP g)(V:Box w g T cs)(O:P.underlying s=aI d)
  (U:(match d with|.struct _|.array _ _=>aJ|_=>false)=aJ)(hi:(P.info? s).map (·.size)=aI cs.size){x y:Value}(Y:tmps.getD u undef=x)(W:tmps.getD v undef=y):(results J tmps).run P w=.ok (.tuple #[.agg cs,x,y]) w:=by
 have I:tmps[t]?.getD undef=gP g:=by simp_all
 have H:tmps[u]?.getD undef=x:=by simp_all
 have E:tmps[v]?.getD undef=y:=by simp_all
 simp[results,h,I,H,E,asAddr,run_loadVar_row w g T s cs (0,0) d V O U hi]
theorem EV(f:Bool)(ws:LL)(u:Value)(w:aD)(I:jj f ws u w)(h:ws.flatten.length≤1000000)(T:ws.length≤1000000)(O:eS f ws=false):Calls prog 177 #[u] w (eB w (eC (.tuple #[.pointer aP,.bool false]))):=by
 have s:=I;obtain⟨V,rfl,J⟩:=I;obtain⟨A,c,rfl,-⟩:=eD.form J;have H:=ek w (.cells #[.bool f,.slice A ws.length c] 24);have d:=oK f ws _ _ (VP.st _ _ _ _ s H) h T;rw[O]at d;clear J;go_enter func177,ntmps177;go_wp2_with fail;refine d.mono ?_;rintro _ U ⟨u,rfl,E,rfl⟩;go_wp2;exact aE (v:=.tuple #[.pointer aP,.bool false]) (by simp[results,results177]) rfl (eB.mk (H.tr E) rfl)
theorem LX(f:Bool)(ws:LL)(u:Value)(w:aD)(hS:jj f ws u w)(aa:ws.flatten.length≤1000000)(hn:ws.length≤1000000):Calls prog 119 #[u] w (eB w (eR [eC (.agg (iL (As f ws).1)),eC (iV (As f ws).2.1),eC (iV (As f ws).2.2)])):=by
 have ab:=hS;obtain⟨sl,rfl,hP⟩:=hS;obtain⟨A,c,rfl,-⟩:=eD.form hP;clear hP;have hX:Ext w ((w.alloc (.cells #[.bool f,.slice A ws.length c] 24)).alloc (.cells (iL λ_=>0) 148)):=(ek _ _).tr (ek _ _);have V:=(Box.new w 24 #[.bool f,.slice A ws.length c]).alloc (.cells (iL λ_=>0) 148);have E:=Box.new (w.alloc (.cells #[.bool f,.slice A ws.length c] 24)) 148 (iL λ_=>0);rw[World.size_alloc]at E;go_enter func119,ntmps119;go_upto_region 1 with(refine qL rfl 148 rfl _ PB ?_)
 generalize((w.alloc (.cells #[.bool f,.slice A ws.length c] 24)).alloc (.cells (iL λ_=>0) 148))=w1 at*;have af:=V.at_ 0 rfl;have ae:=V.at_ 1 rfl;have W:=VP.st _ _ _ _ ab hX;by_cases Y:eS f ws=aJ
 ·have e:As f ws=((gj f (hasB f ws.flatten) 256).1,(gj f (hasB f ws.flatten) 256).2,0):=by unfold As;rw[if_pos Y]
  have He:=hide e;have O:=CH f ws _ w1 W aa hn Y;clear e Y ab W V;go_wp2_with fail;refine O.mono ?_;rintro _ w2 ⟨g,rfl,H,aj,J⟩;have s:=E.ext H;have ai:=E.lt;have HE:=hide (hX.tr H);clear O af ae H hX E;go_wp2_with fail;have hm:=(J.cell 256).trans (oa _ _);have I:=J.drew;have U:=s.drew;have ad:=(I.cell 256).trans (oa _ _);have T:Box (w2.drew.setRow (w.heap.size+1) (iL (gj f (hasB f ws.flatten) 256).1)) (w.heap.size+1) 148 (iL (gj f (hasB f ws.flatten) 256).1):=U.gR;have ag:Box (w2.drew.setRow (w.heap.size+1) (iL (gj f (hasB f ws.flatten) 256).1)) g 323 (lE (gj f (hasB f ws.flatten) 256).1 (gj f (hasB f ws.flatten) 256).2):=by
   unfold Box World.setRow at*;simpa[Array.getElem?_modify,show w.heap.size+1≠g by omega]using I
  have ah:=(ag.cell 256).trans (oa _ _);have GJ:=hide (below_setRow (HE.out.drew) (g:=w.heap.size+1) zO (iL (gj f (hasB f ws.flatten) 256).1));refine wp_region_any zK ?_;change wpAny _ _ _ _ _ _ _ w2.drew;clear J s hm HE;have J:=I;have s:=U;have hm:=ad;clear I U ad;generalize w2.drew=w3 at*;refine takeN (i:=0) (v:=gP g) rfl zK zK zK (λ_ _ _ h=>h) (aO ⟨by rfl,λw=>by go_simp⟩) ?_;refine takeN (i:=1) (v:=gP g) rfl zK zK zK (λ_ _ _ h=>h) (aO ⟨by rfl,λw=>by go_simp⟩) ?_;refine takeN (i:=2) (v:=gP g) rfl zK zK zK (λ_ _ _ h=>h) (aO ⟨by rfl,λw=>by go_simp⟩) ?_;refine takeN (i:=3) (v:=gP g) rfl zK zK zK (λ_ _ _ h=>h) (aO ⟨by rfl,λw=>by go_simp⟩) ?_;refine takeN (i:=5) (v:=gP g) rfl zK zK zK (λ_ _ _ h=>h) (aO ⟨by rfl,λw=>by go_simp⟩) ?_;refine takeN (i:=6) (v:=gP g) rfl zK zK zK (λ_ _ _ h=>h) (aO ⟨by rfl,λw=>by go_simp⟩) ?_;refine takeN (i:=7) (v:=.pointer (aI ⟨g,256,aP⟩)) rfl zK zK zK (λ_ _ _ h=>h) (aO ⟨by rfl,λw=>by go_simp⟩) ?_;refine aA (rs:=[4,8]) zK zS ?_;refine nz rfl rfl (λK d=>?_) ?_
  ·refine sB 148 _ rfl g 0 zK (iL (gj f (hasB f ws.flatten) 256).1) (λj v h=>by rw[Nat.zero_add,J.cell j];exact zc _ _ h) aB rfl (by rw[fo];kernel_rfl) (d _ _ ?_);clear d K;refine aA (rs:=[8,9]) zK zS ?_;refine nz rfl rfl (λK d=>?_) ?_
   ·refine rz 3 _ rfl zK hm (λ_=>by kernel_rfl) (d _ _ ?_);clear d K;refine aA (rs:=[9]) zK zS ?_;refine nz rfl rfl (λK d=>?_) ?_
    ·refine mM 148 _ _ rfl (w.heap.size+1) (iL (gj f (hasB f ws.flatten) 256).1) zK zK s (by rw[fo];kernel_rfl) (by rw[fo,fo]) (nt λ_ _=>rfl) (d _ _ ?_);clear d K;refine aA (rs:=[10]) zK zS ?_;refine nz rfl rfl (λK d=>?_) ?_
     ·refine kt _ rfl (d _ _ ?_);clear d K;refine aA (rs:=[11]) zK zS ?_;refine nz rfl rfl (λK d=>?_) ?_
      ·refine kt _ rfl (d _ _ ?_);clear d K;refine wpAny_done zK ?_ _;simp only[Act.put,aC,aF,aG];go_wp2;exact aE (j4 aM _ _ (w.heap.size+1) 148 _ _ rfl T aB rfl (by rw[fo];kernel_rfl) rfl rfl) rfl (by rw[He.out];exact eB.mk GJ.out (eR.three rfl rfl rfl))
      exact az
     exact az
    exact az
   refine nz rfl rfl (λK d=>?_) ?_
   ·refine mM 148 _ _ rfl (w.heap.size+1) (iL (gj f (hasB f ws.flatten) 256).1) zK zK s (by rw[fo];kernel_rfl) (by rw[fo,fo]) (nt λ_ _=>rfl) (d _ _ ?_);clear d K;refine aA (rs:=[8]) zK zS ?_;refine nz rfl rfl (λK d=>?_) ?_
    ·refine rz 3 _ rfl zK ah (λ_=>by kernel_rfl) (d _ _ ?_);clear d K;refine aA (rs:=[10]) zK zS ?_;refine nz rfl rfl (λK d=>?_) ?_
     ·refine kt _ rfl (d _ _ ?_);clear d K;refine aA (rs:=[11]) zK zS ?_;refine nz rfl rfl (λK d=>?_) ?_
      ·refine kt _ rfl (d _ _ ?_);clear d K;refine wpAny_done zK ?_ _;simp only[Act.put,aC,aF,aG];go_wp2;exact aE (j4 aM _ _ (w.heap.size+1) 148 _ _ rfl T aB rfl (by rw[fo];kernel_rfl) rfl rfl) rfl (by rw[He.out];exact eB.mk GJ.out (eR.three rfl rfl rfl))
      exact az
     exact az
    exact az
   exact az
  refine nz rfl rfl (λK d=>?_) ?_
  ·refine rz 3 _ rfl zK hm (λ_=>by kernel_rfl) (d _ _ ?_);clear d K;refine aA (rs:=[4]) zK zS ?_;refine nz rfl rfl (λK d=>?_) ?_
   ·refine sB 148 _ rfl g 0 zK (iL (gj f (hasB f ws.flatten) 256).1) (λj v h=>by rw[Nat.zero_add,J.cell j];exact zc _ _ h) aB rfl (by rw[fo];kernel_rfl) (d _ _ ?_);clear d K;refine aA (rs:=[9]) zK zS ?_;refine nz rfl rfl (λK d=>?_) ?_
    ·refine mM 148 _ _ rfl (w.heap.size+1) (iL (gj f (hasB f ws.flatten) 256).1) zK zK s (by rw[fo];kernel_rfl) (by rw[fo,fo]) (nt λ_ _=>rfl) (d _ _ ?_);clear d K;refine aA (rs:=[10]) zK zS ?_;refine nz rfl rfl (λK d=>?_) ?_
     ·refine kt _ rfl (d _ _ ?_);clear d K;refine aA (rs:=[11]) zK zS ?_;refine nz rfl rfl (λK d=>?_) ?_
      ·refine kt _ rfl (d _ _ ?_);clear d K;refine wpAny_done zK ?_ _;simp only[Act.put,aC,aF,aG];go_wp2;exact aE (j4 aM _ _ (w.heap.size+1) 148 _ _ rfl T aB rfl (by rw[fo];kernel_rfl) rfl rfl) rfl (by rw[He.out];exact eB.mk GJ.out (eR.three rfl rfl rfl))
      exact az
     exact az
    exact az
   exact az
  exact az
 ·have Y:eS f ws=false:=by simpa using Y
  have e:As f ws=(λ_=>0,0,2):=by unfold As;rw[Y];rfl
  have He:=hide e;have O:=EV f ws _ w1 W aa hn Y;have ai:=E.lt;clear e Y ab W V;go_wp2_with fail;refine O.mono ?_;rintro _ w2 ⟨u,rfl,H,rfl⟩;have s:=E.ext H;have HE:=hide (hX.tr H);clear O af ae H hX E;go_wp2_with(first|(refine o9 rfl 148 _ rfl (w.heap.size+1) rfl _ s aB rfl (by rw[fo];kernel_rfl) ?_)|(refine wpList_store_row rfl 148 _ _ rfl (w.heap.size+1) (iL λ_=>0) rfl rfl 148 (iL λ_=>0) s (by rw[fo];kernel_rfl) rfl (nt λ_ _=>rfl) ?_))
  have T:Box (w2.setRow (w.heap.size+1) (iL λ_=>0)) (w.heap.size+1) 148 (iL λ_=>0):=s.gR;exact aE (j4 aM _ _ (w.heap.size+1) 148 _ _ rfl T aB rfl (by rw[fo];kernel_rfl) rfl rfl) rfl (by rw[He.out];exact eB.mk (below_setRow HE.out zO _) (eR.three rfl rfl rfl))
end Go.Proofs.YtofgfpffcegioaaGreat
