/- A part of the proof. -/
import Derived.Test.YtofgfpffcegioaaGreatZf27
import Derived.Test.YtofgfpffcegioaaGreatZf29
set_option maxRecDepth 100000
set_option maxHeartbeats 8000000
namespace Go.Proofs.YtofgfpffcegioaaGreat
open Go.RowKit Go.Shelf Go.Sort iT jH Go.Proofs.Tryz
open _root_.Array renaming replicate_succ → bO,replicate_zero → bP
open Go renaming bodyPost_ret → bt,World → bu,results_tmp2 → bA,maxLen → bF,Value → bH
open Go.Fence renaming wide → bR
open Go.IntWalk renaming wrap64_in → bE
open Go.Operand renaming tmp → bB
open Go.Proofs.Tryz renaming underlying28 → bs
open Go.RowKit renaming intOf → bL
open Int renaming tmod_lt_of_pos → bz
open List renaming getElem?_eq_getElem → br,getElem?_eq_some_iff → bC,ext_getElem → bG,length_set → bK,nil_append → bM,replicate → bN,append_toArray → bQ
open Nat renaming le_refl → bD,le_trans → bJ,zero_add → bS
open Option renaming none → bp,some → bq,map_eq_some_iff → bI
open Option.some renaming inj → bw
section
def sx(lk:List Nat):AV:=(lk.map λn:Nat=>iV n).toArray
theorem sy{lk:List Nat}{i:Nat}(h:i<lk.length):(sx lk)[i]?=bq (iV ((lk.getD i 0:Nat):Int)):=by
 grind[sx,br]
theorem Cu(lk:List Nat)(i x:Nat):(sx lk).setIfInBounds i (iV x)=sx (lk.set i x):=by
 grind[sx,List.map_set]
theorem qj{lk:List Nat}{w:bu}{g:Nat}{T:TypeId}(s:Box w g T (sx lk))(H:lk.length≤bF):eT lk (.slice (bq ⟨g,0,bp⟩) lk.length lk.length) w:=by
 have h:eQ (lk.map λn:Nat=>(n:Int)) (.slice (bq ⟨g,0,bp⟩) lk.length lk.length) w:=
  ⟨_,lk.length,by simp,by simp,H,λJ=>⟨g,0,rfl,s.lt,λj F d=>by
   rw[bS,s.cell];rw[List.getElem?_map,List.getElem?_map]at d;obtain⟨x,E,rfl⟩:=bI.1 d;obtain⟨y,I,rfl⟩:=bI.1 E;refine⟨_,?_,rfl⟩;grind[sx]⟩⟩
 exact h
theorem tp(n:Nat):madeCells (iV 0).cells (n*1)=sx (bN n 0):=by
 unfold sx;apply Array.ext';have:List.map (λ_=>iV 0) (List.range n)=bN n (iV 0):=by rw[List.map_const',List.length_range]
 simp_all[madeCells,Value.cells,Nat.mod_one,List.map_replicate]
def jk(L:LL):List Nat:=(List.range L.length).map (fH L)
def jS(L:LL)(k:Nat):List Nat:=(List.range L.length).map λj=>if j<k then fH L j else 0
theorem gH(L:LL)(k:Nat):(jS L k).length=L.length:=by simp[jS]
theorem jh{L:LL}{k j:Nat}(h:j<L.length):(jS L k).getD j 0=if j<k then fH L j else 0:=by
 grind[jS,List.getElem?_range]
theorem EM{L:LL}(h:fV L):jS L 1=bN L.length 0:=by
 apply bG
 ·rw[gH];simp
 ·intro i d s;rw[gH]at d;have:=jh (k:=1) d;grind[br,gH,EJ]
theorem wC{L:LL}{k:Nat}(_:k<L.length):(jS L k).set k (fH L k)=jS L (k+1):=by
 apply bG
 ·grind[bK,gH]
 ·intro i H d;rw[gH]at d;have E:=jh (k:=k) d;have s:=jh (k:=k+1) d;grind
theorem Cv{L:LL}{k:Nat}(s:k<L.length)(h:fH L k=0):jS L k=jS L (k+1):=by
 rw[←wC s,h];apply bG
 ·simp
 ·intro i d H;rw[gH]at d;have E:=jh (k:=k) d;grind
theorem oO(L:LL):jS L L.length=jk L:=by
 simp_all[jS,jk,List.map_congr_left,List.mem_range]
theorem Cw{L:LL}(h:fV L)(k:Nat):Down (jS L k):=λi s d=>by
 rw[gH]at d;rw[jh d];split
 ·exact nW h d s
 omega
def GH(lk:List Nat):VP:=⟨λv w=>∃g I H E s h d,v=gP g∧Box w g 316 (Ns I H E s h (.slice (bq ⟨d,0,bp⟩) lk.length lk.length))∧Box w d 3 (sx lk),
 λ_ _ _ ⟨g,I,H,E,s,h,d,U,T,O⟩ J=>⟨g,I,H,E,s,h,d,U,(J.same T.lt).trans T,(J.same O.lt).trans O⟩⟩
structure sz(w wr:bu)(s g gm gl n:Nat)(a0 a1 a2 a3:bH)(K:List ((Int×UInt8)×Int))(lk:List Nat):Prop where
 ext:Ext w wr
 tr:Box wr s 154 #[a0,a1,a2,a3]
 ln:Box wr g 316 (Ns a0 a1 a2 a3 gm (.slice (bq ⟨gl,0,bp⟩) n n))
 map:fQ wr gm lS (Value.int .i64) K
 row:Box wr gl 3 (sx lk)
 len:lk.length=n
 bm:w.heap.size≤gm
 bl:w.heap.size≤gl
theorem Ao{w:bu}{g H:Nat}{T s:TypeId}{cs d:AV}(h:Box w g T cs)(E:Box w H s d)(I:T≠s):g≠H:=by
 rintro rfl;have J:w.heap[g]?=bq (.cells cs T (0,0)):=h;have E:w.heap[g]?=bq (.cells d s (0,0)):=E;grind
section
variable {w wr w':bu} {s g gm gl n:Nat} {a0 a1 a2 a3:bH} {K K':List ((Int×UInt8)×Int)} {lk:List Nat}
theorem sz.EN(h:sz w wr s g gm gl n a0 a1 a2 a3 K lk)(d:Ext wr w'):sz w w' s g gm gl n a0 a1 a2 a3 K lk:=
 ⟨h.ext.tr d,h.tr.ext d,h.ln.ext d,h.map.ext d,h.row.ext d,h.len,h.bm,h.bl⟩
theorem sz.Uk(h:sz w wr s g gm gl n a0 a1 a2 a3 K lk)(d:n≤bF):eT lk (.slice (bq ⟨gl,0,bp⟩) n n) wr:=by
 have:=h.len;subst this;exact qj h.row d
theorem sz.put(h:sz w wr s g gm gl n a0 a1 a2 a3 K lk)(O:fQ w' gm lS (Value.int .i64) K')(I:wr.grownBy w' (bq gm)):sz w w' s g gm gl n a0 a1 a2 a3 K' lk:=by
 have E:∀{r:Nat} {T:TypeId} {H:AV},Box wr r T H→Box w' r T H:=λ{r T H} d=>(I.block r d.lt (λe=>h.map.lQ d (bw e.symm))).trans d;exact⟨h.ext.grown I h.ext.size (λk J=>by cases J;exact h.bm),E h.tr,E h.ln,O,E h.row,h.len,h.bm,h.bl⟩
theorem sz.eL(h:sz w wr s g gm gl n a0 a1 a2 a3 K lk)(i x:Nat):sz w (wr.setCell ⟨gl,i,bp⟩ (iV x)) s g gm gl n a0 a1 a2 a3 K (lk.set i x):=
 ⟨h.ext.setCell (p:=⟨gl,i,bp⟩) h.bl _,h.tr.far (p:=⟨gl,i,bp⟩) (Ao h.tr h.row zD) _,h.ln.far (p:=⟨gl,i,bp⟩) (Ao h.ln h.row zD) _,h.map.far (h.map.lQ h.row) i _,by rw[←Cu];exact h.row.eL i _,by rw[bK];exact h.len,h.bm,h.bl⟩
end
attribute [local irreducible] ew ed in
theorem link_any(ws:LL)(v:bH)(w:bu)(hT:nu (fF ws) v w)(hm:j1 (fF ws) (ey ws) ws):Calls prog 176 #[v] w (eB w (eR [GH (jk (ey ws)),eC (.bool true)])):=by
 have hN:=ic ws;have ak:=hT;have bk:=hm.ok.n1;have bj:=hm.ok.n2;have Pz:=hide hm.ok.edge;obtain⟨n,hn⟩:∃n,(ey ws).length=n:=⟨_,rfl⟩
 have aX:=hm.ok.up;have a1:=hm.ok.byte;obtain⟨u0,u1,u2,u3,rfl,p0,p1,p2,p3⟩:=hT;obtain⟨A0,c0,rfl,bc,bb,aC⟩:=eQ.form p0;obtain⟨A1,b1,c1,rfl⟩:=jY.slice p1;obtain⟨A2,b2,c2,rfl⟩:=jY.slice p2;obtain⟨A3,c3,rfl,a7,a6,aB⟩:=eu.form p3;unfold bF at bb a6;obtain⟨T,U,rfl,aG,am⟩:=aC zO;obtain⟨V,Y,rfl,aF,an⟩:=aB zO;have aP:∀(j:Nat) (p:Int),(fF ws).up[j]?=bq p→w.cell? ⟨T,U+j,bp⟩=bq (iV p):=λj p h=>by
  obtain⟨h1,h2⟩:=bC.1 h;rw[am j h1,h2]
 have aQ:∀(j:Nat) (c:UInt8),(fF ws).byte[j]?=bq c→w.cell? ⟨V,Y+j,bp⟩=bq (.int .u8 (c.toNat:Int)):=λj c h=>by
  obtain⟨h1,h2⟩:=bC.1 h;rw[an j h1,h2]
 clear am an;rw[aX,hn]at bc ak ⊢;rw[a1,hn]at a7 ak ⊢;obtain⟨i0,hi,a5,a4,a3⟩:=info_parts Tryz.oG;clear p0 p1 p2 p3 aC aB;have aE:=λw1 (h:nu (fF ws) (.agg #[.slice (bq ⟨T,U,bp⟩) n c0,.slice A1 b1 c1,.slice A2 b2 c2,.slice (bq ⟨V,Y,bp⟩) n c3]) w1)=>EH (fF ws) (ey ws) ws _ w1 h hm;have hX:=ek w (.cells #[.slice (bq ⟨T,U,bp⟩) n c0,.slice A1 b1 c1,.slice A2 b2 c2,.slice (bq ⟨V,Y,bp⟩) n c3] 154);have s:=Box.new w 154 #[.slice (bq ⟨T,U,bp⟩) n c0,.slice A1 b1 c1,.slice A2 b2 c2,.slice (bq ⟨V,Y,bp⟩) n c3];have VO:=hide (aE _ (VP.st _ _ _ _ ak hX));clear hm aE ak;go_enter func176,ntmps176;go_upto_region 1 with(fail)
 generalize w.alloc (.cells #[.slice (bq ⟨T,U,bp⟩) n c0,.slice A1 b1 c1,.slice A2 b2 c2,.slice (bq ⟨V,Y,bp⟩) n c3] 154)=w1 at*;have E:=s.at_ 0 rfl;have aN:=s.at_ 1 rfl;have aM:=s.at_ 2 rfl;have ae:=s.at_ 3 rfl;go_wp2_with fail;refine VO.out.mono ?_;rintro _ w2 ⟨u,rfl,az,rfl⟩;have hE:=hX.tr az;have s:=s.ext az;clear E aN aM ae hX az VO;have E:=s.at_ 0 rfl;have ae:=s.at_ 3 rfl;have aD:=hE.size;go_upto_region 3 with(fail)
 refine vR 6 ?_;refine ed.eU 154 _ rfl (ee rfl) (ik 1 rfl) underlying154 rfl zK s (eh _) ?_;refine ed.Qx (kv:=lS) (ev:=Value.int .i64) 314 rfl underlying314 (ee rfl) (.g ?_);refine ed.newRow 28 3 _ _ i0 (iV 0) 1 n rfl bs hi a5 a4 (by rw[a3];omega) (ee rfl) (od 4 15 0 rfl) (od 4 15 0 rfl) zO (.g ?_);intro W3 ay;refine .any λbg aq=>?_;refine .e ?_;refine .any λbf ap=>?_;refine .e ?_;have s:=s.drew.ext ay;have hE:=hE.tr ((eh _).tr ay);obtain⟨gm,rfl,aJ,hM⟩:=aq;obtain⟨gl,rfl,aK,hL⟩:=ap;rw[tp]at hL;clear E ae ay;have ai:Ext W3 (W3.alloc (.cells (Ns (.slice (bq ⟨T,U,bp⟩) n c0) (.slice A1 b1 c1) (.slice A2 b2 c2) (.slice (bq ⟨V,Y,bp⟩) n c3) gm (.slice (bq ⟨gl,0,bp⟩) n n)) 316)):=ek _ _;have av:=Box.new W3 316 (Ns (.slice (bq ⟨T,U,bp⟩) n c0) (.slice A1 b1 c1) (.slice A2 b2 c2) (.slice (bq ⟨V,Y,bp⟩) n c3) gm (.slice (bq ⟨gl,0,bp⟩) n n));go_upto_region 4 with(fail)
 obtain⟨g,hg⟩:∃g,W3.heap.size=g:=⟨_,rfl⟩
 rw[hg]at av ⊢;have aU:=hE.tr ai;have aS:sz w (W3.alloc (.cells (Ns (.slice (bq ⟨T,U,bp⟩) n c0) (.slice A1 b1 c1) (.slice A2 b2 c2) (.slice (bq ⟨V,Y,bp⟩) n c3) gm (.slice (bq ⟨gl,0,bp⟩) n n)) 316)) w.heap.size g gm gl n (.slice (bq ⟨T,U,bp⟩) n c0) (.slice A1 b1 c1) (.slice A2 b2 c2) (.slice (bq ⟨V,Y,bp⟩) n c3) [] (jS (ey ws) 1):=by
  rw[EM hN,hn];exact⟨aU,s.ext ai,av,hM.ext ai,hL.ext ai,by simp,bJ aD aJ,bJ aD aK⟩
 change Code.wp _ _ _ _ (W3.alloc (.cells (Ns (.slice (bq ⟨T,U,bp⟩) n c0) (.slice A1 b1 c1) (.slice A2 b2 c2) (.slice (bq ⟨V,Y,bp⟩) n c3) gm (.slice (bq ⟨gl,0,bp⟩) n n)) 316));generalize W3.alloc (.cells (Ns (.slice (bq ⟨T,U,bp⟩) n c0) (.slice A1 b1 c1) (.slice A2 b2 c2) (.slice (bq ⟨V,Y,bp⟩) n c3) gm (.slice (bq ⟨gl,0,bp⟩) n n)) 316)=W4 at*;have d:=hide aS;have HK:=hide (LG hN);clear aS aU ai av hM hL hg aJ aK hE s;go_wp2_with fail
 go_loopw [5] (λi wr=>∃(k:Nat) (K:List ((Int×UInt8)×Int)),1≤k∧k≤n∧i=iV k∧Hid (sz w wr w.heap.size g gm gl n (.slice (bq ⟨T,U,bp⟩) n c0) (.slice A1 b1 c1) (.slice A2 b2 c2) (.slice (bq ⟨V,Y,bp⟩) n c3) K (jS (ey ws) 1))∧Hid (rv (ey ws) K k)) (λi _=>n-(bL i).toNat)
 case atStart=>exact⟨1,[],bD _,by omega,rfl,d,HK⟩
 case round=>
  clear d HK;obtain⟨k,K,a2,hk,rfl,d,HK⟩:=hrel;by_cases au:k<n
  ·obtain⟨p,b,x,aW,aa,af,H,I⟩:=Pz.out k zO zO;have ab:p<(ey ws).length:=zO;have J:k<(ey ws).length:=zO;have ad:(ey ws)[k]=(ey ws)[p]++[b]:=by
    rw[br J]at I;rw[br ab]at H;rw[bw I,bw H]
   have be:=hide (IS hN HK.out J ab ad);have ah:=(d.out.ext.cell (p:=⟨T,U+k,bp⟩) aG).trans (aP k _ aa);have aj:=(d.out.ext.cell (p:=⟨V,Y+k,bp⟩) aF).trans (aQ k _ af);have ba:=d.out.ln.at_ 4 rfl;have E:=d.out.tr.at_ 0 rfl;have ae:=d.out.tr.at_ 3 rfl;clear aa af H I ad;have aO:=E;go_upto_region 7 with(fail)
   clear aO;refine vR 16 ?_;refine ed.fD (i:=k) 28 3 _ _ rfl bs zK zO (ee rfl) (od 5 31 1 rfl) (od 6 32 0 rfl) (.g ?_);refine ed.fD (i:=k) 43 5 _ _ rfl underlying43 zK zO (ee rfl) (od 10 36 1 rfl) (od 11 37 0 rfl) (.g ?_);refine ed.LK (r:=lS ((p:Int),b)) [bB 34,bB 39] [_,_] (ee rfl) (ku.cons (od 8 34 5 rfl) (ku.cons (od 13 39 0 rfl) ku.nil)) (λρ w hE h=>by simp only[List.map_cons,List.map_nil,List.cons.injEq,and_true]at h;obtain⟨h0,h1⟩:=h;simp[execOp,h0,h1,go_sem]<;>rfl) (.g ?_);intro W7 aT;have Ul:=d.out.EN ((eh _).tr aT);obtain⟨w7,aa,aR,aL,-,-⟩:=Ul.map.update An underlying314 ((p:Int),b) (k:Int);have IZ:=hide (Ul.put aR aL);clear d Ul aR aL aT ah aj ba E ae HK;go_wp2_with fail;exact⟨⟨k+1,_,by omega,by omega,by go_num,IZ,be⟩,by simp[bL];omega⟩
  ·have ag:k=n:=zO;rw[ag,←hn]at HK;clear ag;have E:=d.out.tr.at_ 0 rfl;have al:¬(k:Int)<(n:Int):=zO;clear au hk;go_wp2_with fail;clear E al
   go_loopw [6,7] (λi up wr=>∃k:Nat,1≤k∧k≤n∧i=iV k∧Hid (sz w wr w.heap.size g gm gl n (.slice (bq ⟨T,U,bp⟩) n c0) (.slice A1 b1 c1) (.slice A2 b2 c2) (.slice (bq ⟨V,Y,bp⟩) n c3) K (jS (ey ws) k))) (λi _ _=>n-(bL i).toNat)
   case atStart=>exact⟨1,bD _,by omega,rfl,d⟩
   case round=>
    clear d;obtain⟨k,a2,hk,rfl,d⟩:=hrel;have E:=d.out.tr.at_ 0 rfl;by_cases au:k<n
    ·obtain⟨p,b,x,aW,aa,af,H,I⟩:=Pz.out k zO zO;have ab:p<(ey ws).length:=zO;have J:k<(ey ws).length:=zO;have ad:(ey ws)[k]=(ey ws)[p]++[b]:=by
      rw[br J]at I;rw[br ab]at H;rw[bw I,bw H]
     have ah:=(d.out.ext.cell (p:=⟨T,U+k,bp⟩) aG).trans (aP k _ aa);have aj:=(d.out.ext.cell (p:=⟨V,Y+k,bp⟩) aF).trans (aQ k _ af);by_cases aH:p=0
     ·subst aH;have he:=Cv J (IU hN J ad);have IZ:=hide (he▸d.out);have bi:wr.cell? ⟨T,U+k,bp⟩=bq (iV 0):=ah;clear ah aa af H I ad he aj;go_wp2_with fail;exact⟨⟨k+1,by omega,by omega,by go_num,IZ⟩,by simp[bL];omega⟩
     ·have aI:=LI hN J ab ad aH;have aY:=nW hN ab zO;have aw:=Oh hN HK.out (lk:=jS (ey ws) k) b (kT hN p) (λj hj=>by rw[jh (by have:=kT hN p;omega),if_pos zO]);rw[←aI]at aw;have bd:=d.out;have a9:=d.out.ln.at_ 5 rfl;have ae:=d.out.tr.at_ 3 rfl;have a8:wr.cell? ⟨gl,0+p,bp⟩=bq (iV ((fH (ey ws) p:Nat):Int)):=by
       rw[bS,d.out.row.cell,sy (by rw[gH];omega),jh ab,if_pos zO]
      have kx:=hide (wC J);have ar:=λ(W:bu) (hX:Ext wr W)=>wz g _ _ _ _ _ gm K (jS (ey ws) k) (fH (ey ws) p) b W (d.out.EN hX).ln (d.out.EN hX).map ((d.out.EN hX).Uk (by unfold bF;omega)) (Cw hN k) (by rw[gH];exact kT hN p);rw[aw]at ar;have bh:¬(p:Int)=0:=zO;have rq:=hide ar;have bo:=hide (kT hN p);generalize fH (ey ws) k=y at*;generalize fH (ey ws) p=z at*;clear aa af H I ad aw aI bd ar aY;go_upto_region 13 with(fail)
      refine vR 20 ?_;refine ed.fD (i:=p) 28 3 _ _ rfl bs zK zO (ee rfl) (od 9 65 1 rfl) (od 10 66 0 rfl) (.g ?_);refine ed.fD (i:=k) 43 5 _ _ rfl underlying43 zK zO (ee rfl) (od 14 70 1 rfl) (od 15 71 0 rfl) (.g ?_);refine ed.call3 230 _ _ _ _ rfl (enters_of func230 zK rfl) (ee rfl) (od 5 61 12 rfl) (od 12 68 5 rfl) (od 17 73 0 rfl) (λ_ _ _ W hX h1 h2 h3=>by cases h1;cases h2;cases h3;exact rq.out W ((eh _).tr hX)) ?_;refine ed.fD (i:=k) 28 3 _ _ rfl bs zK zO (ee rfl) (od 3 59 15 rfl) (od 4 60 14 rfl) (.g ?_);intro TS ao;have IZ:=d.out.EN ((eh _).tr ao);have bl:TS.cell? ⟨gl,k,bp⟩=bq (iV (((jS (ey ws) k).getD k 0:Nat):Int)):=by
       rw[IZ.row.cell,sy (by rw[gH];omega)]
      have bn:=IZ.row.frozen k;have aA:=IZ.eL k y;rw[kx.out]at aA;have aV:=hide aA;clear aA IZ d ao a8 a9 ae ah aj E;go_wp2_with fail;exact⟨⟨k+1,by omega,by omega,by go_num,aV⟩,by simp[bL];omega⟩
    ·have ag:k=n:=zO;have al:¬(k:Int)<(n:Int):=zO;have O:=d.out;rw[ag,←hn,oO,hn]at O;have aZ:(jk (ey ws)).length=n:=by unfold jk;simp[hn]
     have Hf:Hid (eB w (eR [GH (jk (ey ws)),eC (.bool true)]) (.returned (.tuple #[gP g,.bool true])) wr):=eB.mk O.ext (eR.two ⟨g,_,_,_,_,gm,gl,rfl,by rw[aZ];exact O.ln,O.row⟩ rfl);clear au ag O;go_wp2_with fail;exact bt (bA results176 _ _ _) rfl Hf.out
theorem yW(ws:LL)(v:bH)(w:bu)(hT:nu (fF ws) v w)(O:j1 (fF ws) (ey ws) ws):Calls prog 118 #[v] w (eB w (eR [eT (jk (ey ws)),eC (iV 0)])):=by
 have H:=hT;have J:=O.ok.n2;obtain⟨u0,u1,u2,u3,rfl,p0,p1,p2,p3⟩:=hT;obtain⟨a0,b0,c0,rfl⟩:=jY.slice p0;obtain⟨a1,b1,c1,rfl⟩:=jY.slice p1;obtain⟨a2,b2,c2,rfl⟩:=jY.slice p2;obtain⟨a3,b3,c3,rfl⟩:=jY.slice p3;clear p0 p1 p2 p3;have hX:=ek w (.cells #[.slice a0 b0 c0,.slice a1 b1 c1,.slice a2 b2 c2,.slice a3 b3 c3] 154);have d:=Box.new w 154 #[.slice a0 b0 c0,.slice a1 b1 c1,.slice a2 b2 c2,.slice a3 b3 c3];have E:=link_any ws _ _ (VP.st _ _ _ _ H hX) O;have s:(jk (ey ws)).length≤maxLen:=by grind[jk,bF]
 have Hll:=hide s;clear s O J H;go_enter func118,ntmps118;go_upto_region 1 with(fail)
 generalize w.alloc (.cells #[.slice a0 b0 c0,.slice a1 b1 c1,.slice a2 b2 c2,.slice a3 b3 c3] 154)=w1 at*;have W:=d.at_ 0 rfl;have V:=d.at_ 1 rfl;have U:=d.at_ 2 rfl;have T:=d.at_ 3 rfl;go_wp2_with fail;refine E.mono ?_;rintro _ w2 ⟨u,rfl,Y,hu⟩;obtain⟨sp,_,rfl,I,rfl⟩:=eR.inv2 hu;obtain⟨g,x0,x1,x2,x3,gm,gl,rfl,hg,h⟩:=I;have h5:=hg.at_ 5 rfl;have hf:=eB.mk (F:=eR [eT (jk (ey ws)),eC (iV 0)]) (hX.tr Y) (eR.two (qj h Hll.out) rfl);have Hf:=hide hf;generalize(jk (ey ws)).length=nn at*;clear E hu W V U T hf hg h;go_wp2_with fail;exact bt (bA results118 _ _ _) rfl Hf.out
end
section
def mK(n:Int)(k:Nat):Nat:=(((n.tmod k)+k).tmod k).toNat
theorem Cx(n:Int){k:Nat}(d:0<k):(((n.tmod k)+k).tmod k)=((mK n k:Nat):Int)∧mK n k<k:=by
 have E:-(k:Int)<n.tmod k:=by
  have:=bz (-n) (show(0:Int)<k by omega);rw[Int.neg_tmod]at this;omega
 have s:0≤((n.tmod k)+k).tmod k:=Int.tmod_nonneg _ zO;have h:=bz ((n.tmod k)+k) (show(0:Int)<k by omega);grind[mK]
def nX(n:Int)(l:List Nat):Nat×Bool:=if l.length=0 then(0,false)else(l.getD (mK n l.length) 0,true)
attribute [local irreducible] ew ed in
theorem I0(n:Int)(l:List Nat)(v:bH)(w:bu)(hv:eT l v w)(hl:l.length≤1000000):Calls prog 41 #[iV n,v] w (eB w (eR [eC (iV ((nX n l).1:Int)),eC (.bool (nX n l).2)])):=by
 obtain⟨A,c,rfl,J,H,hx⟩:=eT.form hv;obtain⟨k,Y⟩:∃k,l.length=k:=⟨_,rfl⟩
 have Hx:=hide hx;unfold bF at H;clear hv hx;rcases Nat.eq_zero_or_pos k with h0|h0
 ·have e:=hide (show nX n l=(0,false) by simp_all[nX]);have ae:(k:Int)=0:=zO;rw[Y];rw[e.out];clear h0 J H hl Y;go_enter func41,ntmps41;go_wp2;exact bt (bA results41 _ _ _) rfl (eB.mk (Ext.rf _) (eR.two rfl rfl))
 ·obtain⟨W,e2⟩:=Cx n h0;have e:=hide (show nX n l=(l.getD (mK n k) 0,true) by unfold nX;grind);obtain⟨b,aa,rfl,hb,d⟩:=Hx.out zO;have I:=d (mK n k) zO;have T:=bz n (show(0:Int)<k by omega);have O:-(k:Int)<n.tmod k:=by
   have:=bz (-n) (show(0:Int)<k by omega);rw[Int.neg_tmod]at this;omega
  have V:wrap64 (n.tmod k)=n.tmod k:=bE _ zO;have e4:wrap64 (n.tmod k+k)=n.tmod k+k:=bE _ zO;have h:-9223372036854775808≤n.tmod k+(k:Int)∧n.tmod k+(k:Int)≤9223372036854775807:=zO;have U:wrap64 ((mK n k:Nat):Int)=((mK n k:Nat):Int):=bE _ zO;rw[Y,e.out];clear d h0;generalize l.getD (mK n k) 0=y at*;generalize mK n k=i at*;have ad:w.cell? ⟨b,aa+i,bp⟩=bq (iV y):=I;clear I Hx T O;have E:=hide (And.intro W (And.intro V (And.intro e4 (And.intro U h))));clear W V e4 U h Y hl J H e;go_enter func41,ntmps41;go_upto_region 4 with(fail)
  obtain⟨W,V,e4,U,h⟩:=E.out;have s:¬k=0:=zO;refine KU 10 ?_;refine ed.iu (r:=iV (n.tmod k)) (bB 12) (bB 13) wA oA oA (λρ w hE T O=>by simp[execOp,T,O,go_sem,s]) (.g ?_);refine ed.ko _ _ _ _ rfl wA oA oA h (.g ?_);refine ed.iu (r:=iV i) (bB 16) (bB 17) wA oA oA (λρ w hE T O=>by simp[execOp,T,O,go_sem,s,W]) ?_;refine ed.fD (i:=i) 28 3 _ _ rfl bs zR zO wA oA oA (.g ?_);intro W4 ab;clear W V e4 U h s E;go_wp2;exact bt (bA results41 _ _ _) rfl (eB.mk ab (eR.two rfl rfl))
end
section
def Nt(a0 E s h d:bH):AV:=#[a0,E,s,h,d]
structure Cy(w wr:bu)(s g gl n:Nat)(a0 a1 a2 a3:bH)(lk:List Nat):Prop where
 ext:Ext w wr
 tr:Box wr s 154 #[a0,a1,a2,a3]
 al:Box wr g 256 (Nt a0 a1 a2 a3 (.slice (bq ⟨gl,0,bp⟩) n n))
 row:Box wr gl 3 (sx lk)
 len:lk.length=n
 bl:w.heap.size≤gl
section
variable {w wr w':bu} {s g gl n:Nat} {a0 a1 a2 a3:bH} {lk:List Nat}
theorem Cy.EN(h:Cy w wr s g gl n a0 a1 a2 a3 lk)(d:Ext wr w'):Cy w w' s g gl n a0 a1 a2 a3 lk:=
 ⟨h.ext.tr d,h.tr.ext d,h.al.ext d,h.row.ext d,h.len,h.bl⟩
theorem Cy.eL(h:Cy w wr s g gl n a0 a1 a2 a3 lk)(i x:Nat):Cy w (wr.setCell ⟨gl,i,bp⟩ (iV x)) s g gl n a0 a1 a2 a3 (lk.set i x):=
 ⟨h.ext.setCell (p:=⟨gl,i,bp⟩) h.bl _,h.tr.far (p:=⟨gl,i,bp⟩) (Ao h.tr h.row zD) _,h.al.far (p:=⟨gl,i,bp⟩) (Ao h.al h.row zD) _,by rw[←Cu];exact h.row.eL i _,by rw[bK];exact h.len,h.bl⟩
end
def LP(ws:LL):VP:=⟨λv w=>∃g I H h E d,v=gP g∧Box w g 256 (Nt I H h E (.slice (bq ⟨d,0,bp⟩) (ey ws).length (ey ws).length))∧Box w d 3 (sx (nextL (ey ws) ws))∧eQ (fF ws).word h w,
 λ_ _ _ ⟨g,I,H,h,E,d,U,O,J,T⟩ s=>⟨g,I,H,h,E,d,U,(s.same O.lt).trans O,(s.same J.lt).trans J,(eQ _).wk _ _ _ T s⟩⟩
attribute [local irreducible] ew ed in
theorem tX(ws:LL)(v:bH)(w:bu)(hT:nu (fF ws) v w)(hm:j1 (fF ws) (ey ws) ws):Calls prog 124 #[v] w (eB w (eR [LP ws,eC (.bool true)])):=by
 have hN:=ic ws;have ab:=qi ws;have Lx:=hide (λi hi=>GD hm hN (i:=i) hi);have am:=hT;have a4:=hm.ok.n1;have a3:=hm.ok.n2;obtain⟨n,hn⟩:∃n,(ey ws).length=n:=⟨_,rfl⟩
 have aK:=hm.ok.word;obtain⟨u0,u1,u2,u3,rfl,p0,p1,p2,p3⟩:=hT;have af:=p2;obtain⟨A0,b0,c0,rfl⟩:=jY.slice p0;obtain⟨A1,b1,c1,rfl⟩:=jY.slice p1;obtain⟨A3,b3,Y,rfl⟩:=jY.slice p3;obtain⟨A2,c2,rfl,aY,aX,au⟩:=eQ.form p2;unfold bF at aX;obtain⟨O,T,rfl,aJ,aB⟩:=au zO;have aC:∀(j:Nat) (p:Int),(fF ws).word[j]?=bq p→w.cell? ⟨O,T+j,bp⟩=bq (iV p):=λj p h=>by
  grind
 clear aB;rw[aK,hn]at aY am af ⊢;obtain⟨i0,hi,aP,aO,a6⟩:=info_parts Tryz.oG;clear p0 p1 p2 p3 au;have hX:=ek w (.cells #[.slice A0 b0 c0,.slice A1 b1 c1,.slice (bq ⟨O,T,bp⟩) n c2,.slice A3 b3 Y] 154);have d:=Box.new w 154 #[.slice A0 b0 c0,.slice A1 b1 c1,.slice (bq ⟨O,T,bp⟩) n c2,.slice A3 b3 Y];have VQ:=hide (yW ws _ _ (VP.st _ _ _ _ am hX) hm);clear hm am;go_enter func124,ntmps124;go_upto_region 1 with(fail)
 generalize w.alloc (.cells #[.slice A0 b0 c0,.slice A1 b1 c1,.slice (bq ⟨O,T,bp⟩) n c2,.slice A3 b3 Y] 154)=w1 at*;have aT:=d.at_ 0 rfl;have aS:=d.at_ 1 rfl;have ak:=d.at_ 2 rfl;have aR:=d.at_ 3 rfl;go_wp2_with fail;refine VQ.out.mono ?_;rintro _ w2 ⟨u,rfl,aq,hu⟩;obtain⟨lv,_,rfl,hL,rfl⟩:=eR.inv2 hu;obtain⟨A,c,rfl,aN,aM,ag⟩:=eT.form hL;have aL:(jk (ey ws)).length=n:=by grind[jk]
 rw[aL]at aN ag ⊢;obtain⟨b,ar,rfl,hb,aD⟩:=ag zO;have aa:∀j,j<n→w2.cell? ⟨b,ar+j,bp⟩=bq (iV ((fH (ey ws) j:Nat):Int)):=λj hj=>by
  simp_all[jk,ey,fH]
 clear aD;unfold bF at aM;have V:=hX.tr aq;have d:=d.ext aq;clear aT aS ak aR hX VQ hu hL ag;have aI:=V.size;go_upto_region 4 with(fail)
 refine fK 4 [] zR zK (λ_ _ _ _ _ h=>h) (.g ?_);refine ed.eU 154 _ rfl (ee rfl) (mf 1 rfl zR) underlying154 rfl zR d (eh _) (.g ?_);refine ed.newRow 28 3 _ _ i0 (iV 0) 1 n rfl bs hi aP aO zG (ee rfl) (od 2 18 0 rfl) (od 2 18 0 rfl) zO (.g ?_);intro W4 ap;refine .any λa1 ae=>?_;refine .e ?_;have d:=d.drew.ext ap;obtain⟨H,rfl,aj,an⟩:=ae;rw[tp]at an;have ao:=(eh _).tr ap;have hE:=V.tr ao;have U:Ext W4 (W4.alloc (.cells (Nt (.slice A0 b0 c0) (.slice A1 b1 c1) (.slice (bq ⟨O,T,bp⟩) n c2) (.slice A3 b3 Y) (.slice (bq ⟨H,0,bp⟩) n n)) 256)):=ek _ _;have ai:=Box.new W4 256 (Nt (.slice A0 b0 c0) (.slice A1 b1 c1) (.slice (bq ⟨O,T,bp⟩) n c2) (.slice A3 b3 Y) (.slice (bq ⟨H,0,bp⟩) n n));have az:w.heap.size≤H:=bJ aI aj;go_upto_region 5 with(fail)
 obtain⟨g,hg⟩:∃g,W4.heap.size=g:=⟨_,rfl⟩
 rw[hg]at ai ⊢;have aE:Cy w (W4.alloc (.cells (Nt (.slice A0 b0 c0) (.slice A1 b1 c1) (.slice (bq ⟨O,T,bp⟩) n c2) (.slice A3 b3 Y) (.slice (bq ⟨H,0,bp⟩) n n)) 256)) w.heap.size g H n (.slice A0 b0 c0) (.slice A1 b1 c1) (.slice (bq ⟨O,T,bp⟩) n c2) (.slice A3 b3 Y) (pK (ey ws) ws 1):=by
  rw[IX hN,hn];exact⟨hE.tr U,d.ext U,ai,an.ext U,by simp,az⟩
 have ad:=ao.tr U;change Code.wp _ _ _ _ (W4.alloc (.cells (Nt (.slice A0 b0 c0) (.slice A1 b1 c1) (.slice (bq ⟨O,T,bp⟩) n c2) (.slice A3 b3 Y) (.slice (bq ⟨H,0,bp⟩) n n)) 256));generalize W4.alloc (.cells (Nt (.slice A0 b0 c0) (.slice A1 b1 c1) (.slice (bq ⟨O,T,bp⟩) n c2) (.slice A3 b3 Y) (.slice (bq ⟨H,0,bp⟩) n n)) 256)=W5 at*;have J:=hide aE;have Xb:=hide af;have I1:=hide aa;have aZ:=hide ad;have aA:w2.heap.size≤H:=aj;have Xc:=hide aC;clear aE ao U ai an hg aj hE d az aa ad V af aC ap aq;go_wp2_with fail
 go_loopw [7,8] (λi y wr=>∃(k:Nat),1≤k∧k≤n∧i=iV k∧Hid (Ext w2 wr)∧Hid (Cy w wr w.heap.size g H n (.slice A0 b0 c0) (.slice A1 b1 c1) (.slice (bq ⟨O,T,bp⟩) n c2) (.slice A3 b3 Y) (pK (ey ws) ws k))) (λi _ _=>n-(bL i).toNat)
 case atStart=>grind
 case round=>
  clear J aZ;obtain⟨k,a5,hk,rfl,HE,J⟩:=hrel;by_cases av:k<n
  ·have ay:k<(ey ws).length:=zO;have ah:=nW hN ay zO;have hz:fH (ey ws) k<(ey ws).length:=zO;have aa:=(HE.out.cell (p:=⟨b,ar+k,bp⟩) hb).trans (I1.out k av);have ak:=J.out.tr.at_ 2 rfl;have aQ:=J.out.al.at_ 4 rfl;have al:=(J.out.ext.cell (p:=⟨O,T+fH (ey ws) k,bp⟩) aJ).trans (Xc.out _ _ (Lx.out _ hz));have kx:=hide (IY (ws:=ws) ay);by_cases hw:(ey ws).getD (fH (ey ws) k) []∈ws
   ·rw[if_pos hw]at al;have he:=IV hN ab hw;rw[he]at kx;have aU:wr.cell? ⟨H,k,bp⟩=bq (iV (((pK (ey ws) ws k).getD k 0:Nat):Int)):=by
     rw[J.out.row.cell,sy (by rw[jf];omega)]
    have aW:=J.out.row.frozen k;have I:=J.out.eL k (fH (ey ws) k);have W:=HE.out.setCell (p:=⟨H,k,bp⟩) aA (iV ((fH (ey ws) k:Nat):Int));rw[kx.out]at I;have aF:=hide I;have aG:=hide W;have aH:fH (ey ws) k<n:=zO;clear I W J HE he hw ah hz kx;generalize ws.idxOf ((ey ws).getD (fH (ey ws) k) [])=m at*;generalize fH (ey ws) k=z at*;go_wp2_with fail;grind[bL]
   ·rw[if_neg hw]at al;have he:=LJ hN ab hw;rw[he]at kx;have aV:wr.cell? ⟨H,0+fH (ey ws) k,bp⟩=bq (iV ((lD (ey ws) ws (fH (ey ws) k):Nat):Int)):=by
     rw[bS,J.out.row.cell,sy (by rw[jf];omega),pL hz,if_pos ah]
    have aH:fH (ey ws) k<n:=zO;clear he hw ah hz;generalize lD (ey ws) ws (fH (ey ws) k)=y at*;generalize fH (ey ws) k=z at*;go_upto_region 11 with(fail)
    refine fK 13 [] zR zK (λ_ _ _ _ _ h=>h) (.g ?_);refine ed.fD (i:=z) 28 3 _ _ rfl bs zR zO (ee rfl) (od 8 53 1 rfl) (od 9 54 0 rfl) (.g ?_);refine ed.fD (i:=k) 28 3 _ _ rfl bs zR zO (ee rfl) (od 3 48 8 rfl) (od 4 49 7 rfl) (.g ?_);intro PA E;have E:=(eh _).tr E;have IZ:=J.out.EN E;have VR:=HE.out.tr E;have aU:PA.cell? ⟨H,k,bp⟩=bq (iV (((pK (ey ws) ws k).getD k 0:Nat):Int)):=by
     rw[IZ.row.cell,sy (by rw[jf];omega)]
    have aW:=IZ.row.frozen k;have I:=IZ.eL k y;have W:=VR.setCell (p:=⟨H,k,bp⟩) aA (iV y);rw[kx.out]at I;have aF:=hide I;have aG:=hide W;clear I W IZ VR J HE E kx aa ak aQ al aV;go_wp2_with fail;grind[bL]
  ·have aw:k=n:=zO;have a2:¬(k:Int)<(n:Int):=zO;have s:=J.out;rw[aw,←hn,yV,hn]at s;have Hf:Hid (eB w (eR [LP ws,eC (.bool true)]) (.returned (.tuple #[gP g,.bool true])) wr):=eB.mk s.ext (eR.two ⟨g,_,_,_,_,H,rfl,by rw[hn];exact s.al,s.row,(eQ _).wk _ _ _ Xb.out J.out.ext.weak⟩ rfl);clear av aw s J HE;go_wp2_with fail;exact bt (bA results124 _ _ _) rfl Hf.out
theorem Cz(ws:LL)(v:bH)(w:bu)(hT:nu (fF ws) v w)(O:j1 (fF ws) (ey ws) ws):Calls prog 75 #[v] w (eB w (eR [eT (nextL (ey ws) ws),eC (iV 0)])):=by
 have H:=hT;have J:=O.ok.n2;obtain⟨u0,u1,u2,u3,rfl,p0,p1,p2,p3⟩:=hT;obtain⟨a0,b0,c0,rfl⟩:=jY.slice p0;obtain⟨a1,b1,c1,rfl⟩:=jY.slice p1;obtain⟨a2,b2,c2,rfl⟩:=jY.slice p2;obtain⟨a3,b3,c3,rfl⟩:=jY.slice p3;clear p0 p1 p2 p3;have hX:=ek w (.cells #[.slice a0 b0 c0,.slice a1 b1 c1,.slice a2 b2 c2,.slice a3 b3 c3] 154);have d:=Box.new w 154 #[.slice a0 b0 c0,.slice a1 b1 c1,.slice a2 b2 c2,.slice a3 b3 c3];have E:=tX ws _ _ (VP.st _ _ _ _ H hX) O;have s:(nextL (ey ws) ws).length≤maxLen:=by grind[jg,bF]
 have Hll:=hide s;clear s O J H;go_enter func75,ntmps75;go_upto_region 1 with(fail)
 generalize w.alloc (.cells #[.slice a0 b0 c0,.slice a1 b1 c1,.slice a2 b2 c2,.slice a3 b3 c3] 154)=w1 at*;have Y:=d.at_ 0 rfl;have W:=d.at_ 1 rfl;have V:=d.at_ 2 rfl;have U:=d.at_ 3 rfl;go_wp2_with fail;refine E.mono ?_;rintro _ w2 ⟨u,rfl,aa,hu⟩;obtain⟨sp,_,rfl,I,rfl⟩:=eR.inv2 hu;obtain⟨g,x0,x1,x2,x3,gl,rfl,T,h,-⟩:=I;rw[←jg (L:=ey ws) (ws:=ws)]at T;have h5:=T.at_ 4 rfl;have hf:=eB.mk (F:=eR [eT (nextL (ey ws) ws),eC (iV 0)]) (hX.tr aa) (eR.two (qj h Hll.out) rfl);have Hf:=hide hf;generalize(nextL (ey ws) ws).length=nn at*;clear E hu Y W V U hf T h;go_wp2_with fail;exact bt (bA results75 _ _ _) rfl Hf.out
end
section
attribute [local go_sem] Oper.semAt_some
def jl(nx:List Nat)(wd:List Int):Nat→Nat→List Nat
 |0,_=>[]
 |f+1,n=>if n=0 then []else(if 0≤wd.getD n (-1)then [n]else [])++jl nx wd f (nx.getD n 0)
theorem tq(nx:List Nat)(wd:List Int)(f:Nat):jl nx wd f 0=[]:=by cases f<;>simp[jl]
theorem wD{nx:List Nat}{wd:List Int}{f n:Nat}(h:n≤f)(d:0<n):∃g,f=g+1∧jl nx wd f n=(if 0≤wd.getD n (-1)then [n]else [])++jl nx wd g (nx.getD n 0):=by
 obtain⟨g,rfl⟩:∃g,f=g+1:=⟨f-1,by omega⟩
 exact⟨g,rfl,by rw[jl,if_neg zO]⟩
theorem LQ(n:Nat)(hn:1≤n)(l bx lx g N:Nat)(a0 a1 a2 a3 vn:bH)(nx:List Nat)(wd:List Int)(nd:Nat)(w0:bu)(au:w0.heap.size=N)(J Jx:List Nat→bu→Prop)
  (hY:∀d (x:Nat) W,J d W→d++[x]<+:jl nx wd nd nd→YieldAt bR (n-1) prog l #[iV x] W λe W'=>
   fc N [lx,bx] W W'∧((e=.returned (.bool true)∧J (d++[x]) W')∨(e=.returned (.bool false)∧Jx (d++[x]) W')))
  (ae:Box w0 g 256 (Nt a0 a1 a2 a3 vn))(hL:eT nx vn w0)(am:eQ wd a2 w0)(ah:wd.length=nx.length)(hD:Down nx)(av:nd<nx.length)
  (W:bu)(hE:Ext w0 W)(ag:Box W lx 252 #[gP g])(al:Box W bx 3 #[iV nd])(h0:J [] W) :
  CallsIn bR n prog 186 #[.func (.yield l) #[] #[],gP bx,gP lx] W λe W'=>(∃v,e=.returned v)∧
   ((∃xs,xs=jl nx wd nd nd∧True∧J xs W')∨(∃d,d<+:jl nx wd nd nd∧True∧Jx d W')):=by
 obtain⟨A,c,rfl,aI,aB,hx⟩:=eT.form hL;obtain⟨b,T,rfl,hb,O⟩:=hx zO;obtain⟨A2,c3,rfl,aA,az,af⟩:=eQ.form am;obtain⟨b2,E,rfl,aC,V⟩:=af zO;unfold bF at aB az;rw[ah]at ae aA;have gV:=hide O;have EO:=hide (λj (hj:j<nx.length)=>show w0.cell? ⟨b2,E+j,bp⟩=bq (iV (wd.getD j (-1))) by
  grind)
 have HD:=hide hD;have DX:=hide ae;have HW0:=hide au;clear hL hx O V hD ae am af;refine callsIn_of_wp func186 rfl trivial ?_ rfl;simp only[ntmps186,List.size_toArray,List.length_cons,List.length_nil,Nat.reduceAdd,Nat.reduceSub,bO,bP,List.push_toArray,bQ,bM,List.cons_append];have hd:=al.at_ 0 rfl;have HE:=hide hE;gi_wp2;clear hd
 gi_loopw [4] (λv wr=>∃(x f:Nat) (d:List Nat),v=iV x∧x≤f∧x<nx.length∧Hid (d++jl nx wd f x=jl nx wd nd nd)∧Hid (J d wr)∧Hid (Ext w0 wr)∧Box wr lx 252 #[gP g])
  (λv wr=>(bL v).toNat)
 case atStart=>exact⟨nd,nd,[],rfl,bD _,av,rfl,h0,HE,ag⟩
 case round=>
  clear ag HE al;obtain⟨x,f,d,rfl,aq,U,Hp,HJ,HE,s⟩:=hrel;by_cases ar:x=0
  ·have aa:d=jl nx wd nd nd:=by rw[←Hp.out,ar,tq,List.append_nil]
   have kJ:=hide aa;clear aa;gi_wp2
   go_end0
   exact⟨⟨_,rfl⟩,.inl ⟨_,kJ.out,trivial,HJ.out⟩⟩
  ·have aG:¬(x:Int)=0:=zO;obtain⟨f',aj,I⟩:=wD (nx:=nx) (wd:=wd) aq zO;have aH:=HD.out x zO U;have ay:=(HE.out.cell (p:=⟨b2,E+x,bp⟩) aC).trans (EO.out x U);have ak:=(HE.out.cell (p:=⟨b,T+x,bp⟩) hb).trans (gV.out x U);have aw:wr.cell? ⟨g,2,bp⟩=bq (.slice (bq ⟨b2,E,bp⟩) nx.length c3):=(HE.out.cell (p:=⟨g,2,bp⟩) DX.out.lt).trans (DX.out.at_ 2 rfl);have ai:wr.cell? ⟨g,4,bp⟩=bq (.slice (bq ⟨b,T,bp⟩) nx.length c):=(HE.out.cell (p:=⟨g,4,bp⟩) DX.out.lt).trans (DX.out.at_ 4 rfl);have hd:=s.at_ 0 rfl;by_cases hw:0≤wd.getD x (-1)
   ·rw[if_pos hw]at I;have H:d++[x]<+:jl nx wd nd nd:=by
     rw[←Hp.out,I,←List.append_assoc];grind
    obtain⟨fn,aE,ap,aF,hy,hR⟩:=hY d x wr HJ.out H;have lB:=hide H;have Hn:Hid ((d++[x])++jl nx wd f' (nx.getD x 0)=jl nx wd nd nd):=zG;clear H I;generalize wd.getD x (-1)=z at*;gi_wp2;refine hR.mono ?_;rintro e W3 ⟨ad,(⟨rfl,ao⟩|⟨rfl,an⟩)⟩
    ·have s:=fc.box ad s zS;have Y:Ext w0 W3:=Below.trans HE.out (by rw[HW0.out];exact ad.1);clear hd ay ak aw ai;have hd:=s.at_ 0 rfl;have ak:=(Y.cell (p:=⟨b,T+x,bp⟩) hb).trans (gV.out x U);have ai:W3.cell? ⟨g,4,bp⟩=bq (.slice (bq ⟨b,T,bp⟩) nx.length c):=(Y.cell (p:=⟨g,4,bp⟩) DX.out.lt).trans (DX.out.at_ 4 rfl);have aD:=hide Y;have ss:=hide ao;have Px:Hid (nx.getD x 0≤f'):=zG;have ab:nx.getD x 0<nx.length:=zO;clear ad hy hR ao Y aj;generalize nx.getD x 0=y at*;gi_wp2
     go_roundw
     case rel=>exact⟨y,f',d++[x],rfl,Px.out,ab,Hn,ss,aD,s⟩
     simp_all[bL]
    ·have ss:=hide an;gi_wp2;exact bt (results_none results186 _ _ _) rfl ⟨⟨_,rfl⟩,.inr ⟨_,lB.out,trivial,ss.out⟩⟩
   ·rw[if_neg hw,bM]at I;have Hn:Hid (d++jl nx wd f' (nx.getD x 0)=jl nx wd nd nd):=zG;have Px:Hid (nx.getD x 0≤f'):=zG;have ab:nx.getD x 0<nx.length:=zO;clear I aj;generalize wd.getD x (-1)=z at*;generalize nx.getD x 0=y at*;gi_wp2;refine⟨λ_ h=>(by cases h),?_⟩;gi_wp2
    go_roundw
    case rel=>exact⟨y,f',d,rfl,Px.out,ab,Hn,HJ,HE,s⟩
    simp_all[bL]
theorem LR(g:Nat)(nd:Nat)(w:bu):Calls prog 126 #[gP g,iV nd] w λe d=>e=.returned (.func (.func 186) #[] #[gP (w.heap.size+1),gP w.heap.size])∧d=(w.alloc (.cells #[gP g] 252)).alloc (.cells #[iV nd] 3):=by
 go_enter func126,ntmps126;go_wp2;go_ret;simp_all
end
section
attribute [local go_sem] Oper.semAt_some
theorem LS(n:Nat)(hn:1≤n)(E s g:Nat)(a0 a1 a2 a3 H:bH)(nx:List Nat)(wd:List Int)(nd:Nat)(w0 w:bu)
  (U:Box w0 g 256 (Nt a0 a1 a2 a3 H))(hL:eT nx H w0)(V:eQ wd a2 w0)(h:wd.length=nx.length)(hD:Down nx)(I:nd<nx.length)(Y:Ext w0 w)(O:Box w s 252 #[gP g])(T:Box w E 3 #[iV nd]) :
  oD bR n prog 186 #[gP E,gP s] (λx:Nat=>#[iV x]) (fc w0.heap.size [s,E]) (λW W'=>W'=W) (λ_ _=>True) (λxs=>xs=jl nx wd nd nd) (λd=>d<+:jl nx wd nd nd) (λd=>d<+:jl nx wd nd nd) w:=λl J Jx W hE _ hY h0=>
 LQ n hn l E s g _ a0 a1 a2 a3 H nx wd nd w0 rfl J Jx hY U hL V h hD I W (Y.tr hE) (O.ext hE) (T.ext hE) h0
def Oj:VP:=⟨λv _=>∃z:Int,v=iV z,λ_ _ _ h _=>h⟩
def SK(w:bu)(_:List Nat)(W:bu):Prop:=Ext w W∧(∃z:Int,Box W w.heap.size 3 #[iV z])∧w.heap.size+3≤W.heap.size
theorem LU(w:bu)(B:Nat)(H:w.heap.size≤B):OwnFrom B (SK w):=by
 rintro E W T s ⟨O,⟨z,J⟩,I⟩ d h;exact⟨mI O d H h zO,⟨z,jc J d h⟩,bJ I d.size⟩
theorem I2(g E:Nat)(a0 a1 a2 a3 U:bH)(nx:List Nat)(wd:List Int)(nd:Nat)(w:bu)(H:Box w E 252 #[gP g])(ab:Box w g 256 (Nt a0 a1 a2 a3 U))(hL:eT nx U w)(ag:eQ wd a2 w)(I:wd.length=nx.length)(hD:Down nx)(aa:nd<nx.length) :
  Calls prog 125 #[iV nd,gP E] w (eB w Oj):=by
 have ai:prog.follows .mixedOrders=true:=by rfl
 refine(callsIn_wide (n:=9)).1 ?_;have h1:1≤9:=zO;have hd:=(H.alloc (.cells #[iV 0] 3)).at_ 0 rfl;refine callsIn_of_wp_marks func125 rfl trivial ?_ rfl;simp only[ntmps125,List.size_toArray,List.length_cons,List.length_nil,Nat.reduceAdd,Nat.reduceSub,bO,bP,List.push_toArray,bQ,bM,List.cons_append];gi_wp2_with (refine⟨trivial,?_⟩;gi_at_call 126;refine(callsIn_wide.2 (LR g nd _)).mono ?_;rintro e w2 ⟨rfl,rfl⟩)
 obtain⟨s,d⟩:∃s,(((w.alloc (.cells #[iV 0] 3)).alloc (.cells #[gP g] 252)).alloc (.cells #[iV nd] 3))=s:=⟨_,rfl⟩
 have J:Ext w s:=by rw[←d];exact((ek _ _).tr (ek _ _)).tr (ek _ _)
 have aj:s.heap.size=w.heap.size+3:=by rw[←d];simp
 have af:Box s w.heap.size 3 #[iV 0]:=by rw[←d];exact((Box.new _ _ _).alloc _).alloc _
 have ae:Box s (w.heap.size+1) 252 #[gP g]:=by
  rw[←d];have:=(Box.new (w.alloc (.cells #[iV 0] 3)) 252 #[gP g]).alloc (.cells #[iV nd] 3);simp_all
 have ad:Box s (w.heap.size+2) 3 #[iV nd]:=by
  grind[Box.new,World.size_alloc]
 rw[d];clear hd;refine je (F:=bR) rfl h1 (gf:=186) (lb:=#[gP (w.heap.size+1+1),gP (w.heap.size+1)]) rfl trivial (enters_of func186 zR rfl)
  (LS 8 zO (w.heap.size+2) (w.heap.size+1) g a0 a1 a2 a3 U nx wd nd w s ab hL ag I hD aa J ae ad) fc.t
  (λW l o' hl=>fc.put (M:=s.heap.size) zO zG W l o' hl)
  (λW W' k hO hk ak=>by rw[hO]) (λV W l o' hl hT=>trivial) (λ_=>rfl)
  (SK w) (λ_ _ _=>False) (LU w _ zO) (λ_ _ _ _ _ h _ _=>h.elim) (λ_ W W' h e=>by grind)
  ⟨J,⟨0,af⟩,by omega⟩
  (λx=>{ tmps:=#[iV nd,gP E,undef,iV 0,gP w.heap.size,gP g,iV nd,.func (.func 186) #[] #[gP (w.heap.size+1+1),gP (w.heap.size+1)],iV x,undef,undef,undef],defers:=[] }) ?assign ?body ?done ?stop
 case assign=>
  intro l x W K' hK;gi_wp2;simp_all
 case body=>
  rintro l V x W ⟨T,⟨z,O⟩,Y⟩ ah;have hc:=O.at_ 0 rfl;have hf:=O.frozen 0;gi_wp2;exact⟨(KeepsOthers.setCell W _ _).from _,fc.set (fc.rf _ _ W) _ _ (bD _) zS,T.setCell (p:=⟨w.heap.size,0,bp⟩) (bD _) _,⟨_,O.eL 0 _⟩,by simp_all⟩
 case done=>
  rintro D xs W hD rfl-⟨T,⟨z,O⟩,Y⟩ hK;have al:=O.at_ 0 rfl;have HE:=hide T;clear T;gi_wp2;refine⟨by simp,.inl ⟨_,_,rfl,run_takeDeferred hK,?_⟩⟩;refine⟨iV z,by simp[results,results125],eB.mk (fx HE.out zO _) ⟨z,rfl⟩⟩
 grind
theorem CA(ws:LL)(v:bH)(w:bu)(hT:nu (fF ws) v w)(hm:j1 (fF ws) (ey ws) ws):Calls prog 79 #[v] w (eB w Oj):=by
 have ag:=hT;have hN:=ic ws;have av:=qi ws;have ak:=hm.ok.n2;have aa:=hm.ok.word;obtain⟨u0,u1,u2,u3,rfl,p0,p1,p2,p3⟩:=hT;obtain⟨a0,b0,c0,rfl⟩:=jY.slice p0;obtain⟨a1,b1,c1,rfl⟩:=jY.slice p1;obtain⟨a2,b2,c2,rfl⟩:=jY.slice p2;obtain⟨a3,b3,c3,rfl⟩:=jY.slice p3;clear p0 p1 p2 p3;have I:=ek w (.cells #[.slice a0 b0 c0,.slice a1 b1 c1,.slice a2 b2 c2,.slice a3 b3 c3] 154);have s:=Box.new w 154 #[.slice a0 b0 c0,.slice a1 b1 c1,.slice a2 b2 c2,.slice a3 b3 c3];have ae:=tX ws _ _ (VP.st _ _ _ _ ag I) hm;have ad:(nextL (ey ws) ws).length≤maxLen:=by grind[jg,bF]
 have Hll:=hide ad;clear ad hm ag;go_enter func79,ntmps79;go_upto_region 1 with(fail)
 generalize w.alloc (.cells #[.slice a0 b0 c0,.slice a1 b1 c1,.slice a2 b2 c2,.slice a3 b3 c3] 154)=w1 at*;have ap:=s.at_ 0 rfl;have ao:=s.at_ 1 rfl;have an:=s.at_ 2 rfl;have am:=s.at_ 3 rfl;go_wp2_with fail;refine ae.mono ?_;rintro _ U ⟨u,rfl,ah,hu⟩;obtain⟨sp,_,rfl,ai,rfl⟩:=eR.inv2 hu;obtain⟨g,x0,x1,x2,x3,gl,rfl,hg,E,V⟩:=ai;rw[←jg (L:=ey ws) (ws:=ws)]at hg;have hL:=qj E Hll.out;have hD:Down (nextL (ey ws) ws):=λi h0 hi=>by
  rw[jg]at hi;rw[wy hi];simp_all[wx]
 have H:(fF ws).word.length=(nextL (ey ws) ws).length:=by rw[aa,jg]
 have aj:(nextL (ey ws) ws).length≤400:=zO;have hE:=I.tr ah;clear ae hu ap ao an am E ak aa Hll ah I s;generalize nextL (ey ws) ws=nx at*;obtain⟨J,hn⟩:∃J,nx.length=J:=⟨_,rfl⟩
 rw[hn]at hg aj hL;go_upto_region 5 with(fail)
 have d:Ext U (U.alloc (.cells #[gP g] 252)):=ek _ _;have O:=Box.new U 252 #[gP g];obtain⟨lx,Y⟩:∃lx,U.heap.size=lx:=⟨_,rfl⟩
 rw[Y]at O ⊢;change Code.wp _ _ _ _ (U.alloc (.cells #[gP g] 252));generalize U.alloc (.cells #[gP g] 252)=w3 at*;have rq:=hide (λ(nd:Nat) (h:nd<nx.length) (W:bu) (I:Ext w3 W)=>I2 g lx x0 x1 x2 x3 _ nx _ nd W (O.ext I) (hg.ext (d.tr I)) (VP.st _ _ _ _ hL (d.tr I)) (VP.st _ _ _ _ V (d.tr I)) H hD h);have au:=hE.tr d;have af:=hg.ext d;have hd:=O.at_ 0 rfl;have al:=af.at_ 4 rfl;clear hL hD H V hE d hg Y;go_upto_region 7 with(fail)
 clear hd al af
 go_loopw [6,7,21] (λm y i wr=>∃(z:Int) (k:Nat),k≤J∧m=iV z∧i=iV k∧Ext w3 wr) (λ_ _ i _=>J-(bL i).toNat)
 case atStart=>exact⟨0,0,by omega,rfl,rfl,Ext.rf _⟩
 case round=>
  obtain⟨z,k,hk,rfl,rfl,T⟩:=hrel;by_cases aw:k<J
  ·have ab:(k:Int)<(J:Int):=zO;go_wp2_with fail;refine(rq.out k zO _ T).mono ?_;rintro _ w4 ⟨u,rfl,ar,zz,rfl⟩;have aq:=T.tr ar;go_wp2_with fail;exact⟨⟨_,k+1,by omega,rfl,by go_num,aq⟩,by grind[bL]⟩
  ·have ab:¬(k:Int)<(J:Int):=zO;have hf:=au.tr T;go_wp2_with fail;go_ret;exact eB.mk hf ⟨z,rfl⟩
end
end Go.Proofs.YtofgfpffcegioaaGreat
