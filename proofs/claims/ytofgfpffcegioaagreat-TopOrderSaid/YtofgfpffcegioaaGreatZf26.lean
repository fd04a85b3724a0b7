/- A part of the proof. -/
import Derived.Test.YtofgfpffcegioaaGreatZf02
import Derived.Test.YtofgfpffcegioaaGreatZf12
import Derived.Test.YtofgfpffcegioaaGreatZf25
import Derived.RangeFuncNested
import Derived.RangeFuncBound
import Derived.OwnWalkIn
import Derived.LoopNIn
set_option maxRecDepth 100000
set_option maxHeartbeats 8000000
namespace Go.Proofs.YtofgfpffcegioaaGreat
open Go.RowKit Go.Shelf Go.Proofs.Tryz
open _root_.Array renaming getElem?_setIfInBounds_ne → aJ,getElem?_eq_some_iff → aL
open Bool renaming true → aK
open Go renaming World → aI,getD_set_ne → aN,Oper → aQ
open Go.Act renaming put → aP
open Go.Fence renaming wide → aV
open Go.Region renaming ready → aO
open Go.RowKit.Below renaming trans → aR,heap_setCell → aS
open Nat renaming le_refl → aU
open Option renaming some → aM,none → aT
def fc(N:Nat)(d:List Nat)(W W':aI):Prop:=Below N W W'∧∀k∈d,W'.heap[k]?=W.heap[k]?
theorem fc.t{N:Nat}{d:List Nat}{A B C:aI}(h:fc N d A B)(k:fc N d B C):fc N d A C:=⟨aR h.1 k.1,λj s=>(k.2 j s).trans (h.2 j s)⟩
theorem fc.rf(N:Nat)(d:List Nat)(W:aI):fc N d W W:=⟨Below.refl _ _,λ_ _=>rfl⟩
theorem fx{N:Nat}{a W:aI}{l:Nat}(h:Below N a W)(s:N≤l)(o:Obj):Below N a (W.putObj l o):=⟨h.os,h.tape,h.output,by simpa using h.size,λk d=>(World.putObj_heap_other zO).trans (h.block k d)⟩
theorem fc.put{N M:Nat}{d:List Nat}(H:N≤M)(E:∀k∈d,k<M)(W:aI)(l:Nat)(o:Obj)(s:M≤l):fc N d W (W.putObj l o):=
 ⟨fx (Below.refl _ _) zO o,λk h=>World.putObj_heap_other zG⟩
theorem fc.set{N b:Nat}{d:List Nat}{W W':aI}(h:fc N d W W')(i:Nat)(u:Value)(H:N≤b)(E:b∉d):fc N d W (W'.setCell ⟨b,i,aT⟩ u):=
 ⟨h.1.setCell (p:=⟨b,i,aT⟩) H u,λk s=>(aS W' _ u k (λe=>E zG)).trans (h.2 k s)⟩
theorem fc.ext{N:Nat}{s:List Nat}{W A B:aI}(h:fc N s W A)(E:Ext A B)(I:N≤A.heap.size)(H:∀k∈s,k<A.heap.size):fc N s W B:=
 ⟨aR h.1 (E.mono I),λk d=>(E.block k (H k d)).trans (h.2 k d)⟩
theorem fc.box{N:Nat}{d:List Nat}{W W':aI}(h:fc N d W W'){g:Nat}{T:TypeId}{cs:AV}(E:Box W g T cs)(s:g∈d):Box W' g T cs:=(h.2 g s).trans E
def oM(g:Nat)(W W':aI):Prop:=W.grownBy W' (aM g)
theorem eM{w w1:aI}{g:Nat}(h:w.grownBy w1 (aM g))(i:Nat)(u:Value):w.grownBy (w1.setCell ⟨g,i,aT⟩ u) (aM g):=
 ⟨h.os,h.tape,h.output,by simpa[World.setCell]using h.size,λk s d=>(aS w1 ⟨g,i,aT⟩ u k (λe=>d (by rw[e]))).trans (h.block k s d)⟩
theorem so{w w1 s:aI}{row:Option Nat}(h:w.grownBy w1 row)(d:Ext w1 s):w.grownBy s row:=⟨d.os.trans h.os,d.tape.trans h.tape,d.output.trans h.output,Nat.le_trans h.size d.size,λk E H=>(d.block k (Nat.lt_of_lt_of_le E h.size)).trans (h.block k E H)⟩
theorem jc{B g:Nat}{t:TypeId}{cs:AV}{W W':aI}{row:Option Nat}(h:Box W g t cs)(E:W.grownBy W' row)(s:∀r,row=aM r→B≤r∧∃o:Obj,W.heap[r]?=aM o∧o.isCells=false):Box W' g t cs:=
 (E.block g h.lt (λe=>by
  obtain⟨_,o,d,H⟩:=s g e.symm;rw[show W.heap[g]?=_ from h]at d;cases d;cases H)).trans h
theorem Cq{g k:Nat}{t:TypeId}{cs:AV}{W W':aI}(h:Box W k t cs)(s:oM g W W')(d:k≠g):Box W' k t cs:=(s.block k h.lt zG).trans h
theorem mI{N B:Nat}{a W W':aI}{row:Option Nat}(h:Below N a W)(E:W.grownBy W' row)(H:N≤B)(d:∀r,row=aM r→B≤r∧∃o:Obj,W.heap[r]?=aM o∧o.isCells=false)(hs:N≤W.heap.size):Below N a W':=
 h.grown E hs (λk s=>Nat.le_trans H (d k s).1)
theorem gZ{w d:aI}(h:Ext w d):w.grownBy d none:=⟨h.os,h.tape,h.output,h.size,λk s _=>h.block k s⟩
theorem sq{N g:Nat}{a W W':aI}(h:Below N a W)(d:oM g W W')(E:N≤g)(hs:N≤W.heap.size):Below N a W':=h.grown d hs (λk s=>by grind)
section
attribute [local go_sem] Oper.semAt_some
def gO(lk:List Nat):Nat→Nat→List Nat
 |0,n=>[n]
 |f+1,n=>n::if n=0 then []else gO lk f (lk.getD n 0)
def Down(lk:List Nat):Prop:=∀i,0<i→i<lk.length→lk.getD i 0<i
def sr(K:List ((Int×UInt8)×Int))(lk:List Nat)(n:Nat)(c:UInt8):Int:=((gO lk n n).findSome? λx:Nat=>jx K ((x:Int),c)).getD 0
theorem pJ(lk:List Nat)(f:Nat):gO lk f 0=[0]:=by cases f<;>simp[gO]
theorem wh{lk:List Nat}{f n:Nat}(h:n≤f)(d:0<n):∃g,f=g+1∧gO lk f n=n::gO lk g (lk.getD n 0):=by
 obtain⟨g,rfl⟩:∃g,f=g+1:=⟨f-1,by omega⟩
 exact⟨g,rfl,by rw[gO,if_neg zO]⟩
theorem Cr{lk:List Nat}{f n:Nat}:[n]<+:gO lk f n:=by cases f<;>simp[gO]
theorem LB{lk:List Nat}{i:Nat}(h:i<lk.length):(lk.map (λn:Nat=>(n:Int)))[i]'zG=((lk.getD i 0:Nat):Int):=by
 grind
def Ns(a0 H E s:Value)(h:Nat)(d:Value):AV:=#[a0,H,E,s,.map (aM h),d]
def eT(lk:List Nat):VP:=eQ (lk.map λn:Nat=>(n:Int))
theorem eT.form{lk:List Nat}{u:Value}{w:aI}(h:eT lk u w):∃A c,u=.slice A lk.length c∧lk.length≤c∧c≤maxLen∧(0<lk.length→∃b d,A=aM ⟨b,d,aT⟩∧b<w.heap.size∧∀j,j<lk.length→w.cell? ⟨b,d+j,aT⟩=aM (iV ((lk.getD j 0:Nat):Int))):=by
 obtain⟨A,c,I,H,E,s⟩:=eQ.form h;grind
attribute [local irreducible] ew ed in
theorem IN(n:Nat)(hn:1≤n)(l U lx g N:Nat)(a0 a1 a2 a3 vl:Value)(gm:Nat)(lk:List Nat)(nd:Nat)(w0:aI)(al:w0.heap.size=N)(J Jx:List Nat→aI→Prop)
  (hJ:∀d W1 W2,J d W1→oM U W1 W2→J d W2)
  (hY:∀d (x:Nat) W,J d W→d++[x]<+:gO lk nd nd→YieldAt aV (n-1) prog l #[iV x] W λe W'=>
   fc N [lx,U] W W'∧((e=.returned (.bool aK)∧J (d++[x]) W')∨(e=.returned (.bool false)∧Jx (d++[x]) W')))
  (ag:Box w0 g 316 (Ns a0 a1 a2 a3 gm vl))(hL:eT lk vl w0)(hD:Down lk)(am:nd<lk.length)
  (W:aI)(hE:Ext w0 W)(an:Box W lx 311 #[gP g])(au:Box W U 3 #[iV nd])(ao:lx≠U)(aG:N≤U)(h0:J [] W) :
  CallsIn aV n prog 300 #[.func (.yield l) #[] #[],gP U,gP lx] W λe W'=>(∃v,e=.returned v)∧
   ((∃xs,xs=gO lk nd nd∧True∧J xs W')∨(∃d,d<+:gO lk nd nd∧True∧Jx d W')):=by
 obtain⟨A,c,rfl,aE,ar,hx⟩:=eT.form hL;obtain⟨b,ab,rfl,hb,O⟩:=hx zO;unfold maxLen at ar;clear hL hx;have gV:=hide O;have HD:=hide hD;have DX:=hide ag;have HW0:=hide al;clear O hD ag;refine callsIn_of_wp func300 rfl trivial ?_ rfl;simp only[ntmps300,List.size_toArray,List.length_cons,List.length_nil,Nat.reduceAdd,Nat.reduceSub,Array.replicate_succ,Array.replicate_zero,List.push_toArray,List.append_toArray,List.nil_append,List.cons_append];gi_wp2
 gi_loopw [] (λwr=>∃(x f:Nat) (d:List Nat),x≤f∧x<lk.length∧Hid (d++gO lk f x=gO lk nd nd)∧Hid (J d wr)∧Hid (Ext w0 wr)∧Box wr lx 311 #[gP g]∧Box wr U 3 #[iV x])
  (λwr=>match wr.cell? ⟨U,0,aT⟩with|some (.int _ n)=>n.toNat|_=>0)
 case atStart=>exact⟨nd,nd,[],aU _,am,rfl,h0,hE,an,au⟩
 case round=>
  obtain⟨x,f,d,aj,af,Hp,HJ,HE,E,s⟩:=hrel;have H:d++[x]<+:gO lk nd nd:=by
   rw[←Hp.out];grind[List.prefix_append_right_inj,Cr]
  have hd:=s.at_ 0 rfl;have Hd:=hide hd;obtain⟨fn,az,ai,aA,hy,hR⟩:=hY d x wr HJ.out H;have lB:=hide H;clear H HJ;gi_wp2;refine hR.mono ?_;rintro e W3 ⟨V,(⟨rfl,ad⟩|⟨rfl,ah⟩)⟩
  ·have E:=fc.box V E zS;have s:=fc.box V s zS;have T:Ext w0 W3:=aR HE.out (by rw[HW0.out];exact V.1);clear hd;have hd:=s.at_ 0 rfl;by_cases ak:x=0
   ·have aa:d++[x]=gO lk nd nd:=by rw[←Hp.out,ak,pJ]
    have kJ:=hide aa;clear aa;gi_wp2
    go_end0
    exact⟨⟨_,rfl⟩,.inl ⟨_,kJ.out,trivial,ad⟩⟩
   ·have aB:¬(x:Int)=0:=zO;obtain⟨f',ap,aq⟩:=wh (lk:=lk) aj zO;have aC:=HD.out x zO af;have Hn:Hid ((d++[x])++gO lk f' (lk.getD x 0)=gO lk nd nd):=zG;have aD:W3.cell? ⟨b,ab+x,aT⟩=aM (iV ((lk.getD x 0:Nat):Int)):=(T.cell (p:=⟨b,ab+x,aT⟩) hb).trans (gV.out x af);have aF:W3.cell? ⟨g,5,aT⟩=aM (.slice (aM ⟨b,ab,aT⟩) lk.length c):=(T.cell (p:=⟨g,5,aT⟩) DX.out.lt).trans (DX.out.at_ 5 rfl);have ss:=hide ad;have mS:=hide T;have aH:N≤W3.heap.size:=by have:=T.size;omega
    have Px:Hid (lk.getD x 0≤f'):=zG;clear aq ad T V hy hR ap;generalize lk.getD x 0=y at*;gi_wp2_with fail;refine fR fe (λ⟨_,_,h⟩=>by obtain⟨⟨_,h⟩,-⟩:=h;cases h) zR 7 zR zK (.g ?_);refine ed.gG 311 _ rfl wA oA (λ_=>by rfl) (E.at_ 0 rfl) (eh _) (.g ?_);refine ed.fD (i:=x) 28 3 _ _ rfl underlying28 zR zO wA oA oA (.g ?_);intro W1 ae;have E:=E.drew.ext ae;have s:=s.drew.ext ae;have hd:=s.at_ 0 rfl;have hf:=s.frozen 0;go_wp2;have Y:=s.eL 0 (iV y);have av:=E.far (p:=⟨U,0,aT⟩) ao (iV y);have I:oM U W3 (W1.setCell ⟨U,0,aT⟩ (iV y)):=eM (so (World.grownBy.refl W3 _) ((eh _).tr ae)) 0 _;have aw:=hide (hJ _ _ _ ss.out I);have ay:=hide (sq mS.out I zO zO);clear I ss mS
    go_roundw
    case rel=>exact⟨y,f',d++[x],Px.out,by omega,Hn,aw,ay,av,Y⟩
    case measure=>rw[Y.at_ 0 rfl,Hd.out];grind
  ·have ss:=hide ah;gi_wp2
   go_end0
   exact⟨⟨_,rfl⟩,.inr ⟨_,lB.out,trivial,ss.out⟩⟩
theorem IP(g:Nat)(nd:Nat)(w:aI):Calls prog 273 #[gP g,iV nd] w λe d=>e=.returned (.func (.func 300) #[] #[gP (w.heap.size+1),gP w.heap.size])∧d=(w.alloc (.cells #[gP g] 311)).alloc (.cells #[iV nd] 3):=by
 go_enter func273,ntmps273;go_wp2;go_ret;simp_all
theorem IQ(n:Nat)(hn:1≤n)(h s g:Nat)(a0 a1 a2 a3 E:Value)(gm:Nat)(lk:List Nat)(nd:Nat)(w0 w:aI)
  (U:Box w0 g 316 (Ns a0 a1 a2 a3 gm E))(hL:eT lk E w0)(hD:Down lk)(H:nd<lk.length)(Y:Ext w0 w)(I:Box w s 311 #[gP g])(T:Box w h 3 #[iV nd])(O:s≠h)(V:w0.heap.size≤h) :
  oD aV n prog 300 #[gP h,gP s] (λx:Nat=>#[iV x]) (fc w0.heap.size [s,h]) (oM h) (λ_ _=>True) (λxs=>xs=gO lk nd nd) (λd=>d<+:gO lk nd nd) (λd=>d<+:gO lk nd nd) w:=λl J Jx W hE hJ hY h0=>
 IN n hn l h s g _ a0 a1 a2 a3 E gm lk nd w0 rfl J Jx hJ hY U hL hD H W (Y.tr hE) (I.ext hE) (T.ext hE) O V h0
end
section
variable {P:Program} {ops:Array aQ} {Q:Exit→Act→aI→Prop} {F:Fence} {n:Nat}
theorem LC(m:Nat)(U:tc ops=aK)(ht:yx ops m []=aK):∀(r k:Nat),k+r=ops.size→m≤k→∀(s:Nat) (d:Array Bool) (a:Act) (w:aI),r≤s→d.size=ops.size→Closed ops d→
  (∀j,j<k→d.getD j aK=aK)→(∀j,k≤j→j<ops.size→d.getD j aK=false)→wpOpsIn F n P ops Q (List.range' k r) a w→wpAnyIn F n P .any ops Q s d a w:=by
 intro r
 induction r with
 |zero=>
  intro k hk _ s d a w _ H _ V _ h;have hr:aO .any ops d=[]:=by
   simp_all[aO]
  cases s with
  |zero=>exact⟨hr,h⟩
  |succ f=>exact⟨λ_=>h,λi T=>by grind⟩
 |succ r Y=>
  intro k hk aa s d a w af H J V h2 h;cases s with
  |zero=>omega
  |succ f=>
   have ab:k∈aO .any ops d:=kB U zO (h2 k zO zO) V H;refine⟨λh0=>zG,λi T=>?_⟩;obtain⟨hu,o,O,E⟩:=mem_ready.1 T;have ae:i<ops.size:=(aL.1 O).1;have I:i=k:=by
    grind[Nat.lt_trichotomy,dW,iw,iQ]
   subst I;rw[List.range'_succ,wpOpsIn_cons]at h;refine wpOpIn_mono (λa' W h'=>?_) h;refine Y (i+1) zO zO f _ a' W zO zG (oB H U J O E) (λj hj=>?_) (λj hj ad=>?_) h'
   ·by_cases e:i=j
    ·simp_all
    ·rw[aN aK e];grind
   ·rw[aN aK zO];grind
theorem Og(aj:pa F)(ao:∀o:aQ,o∈ops→∀c,o.op≠.defer c)(m:Nat)(a0:Act)(w0:aI)(O:Nat→VP)(au:m≤ops.size)(hf:tc ops=aK)(ht:yx ops m []=aK)(hd:Ij ops m a0.tmps.size=aK)
  (an:∀i o,i<m→ops[i]?=aM o→Spec P Q ops m a0 w0 O o (O i))
  (ai:∀a w,Ext w0 w→Ctx ops m a0 a→(∀i,i<m→∃v,O i v w∧∀d,fC ops i=aM d→v=a.tmps.getD d undef)→wpOpsIn F n P ops Q (List.range' m (ops.size-m)) a w) :
  ∀(E:Nat) (s:Array Bool) (a:Act) (w:aI),cnt (λi=>!s.getD i aK) ops.size≤E→Inv ops m a0 w0 O s a w→wpAnyIn F n P .any ops Q E s a w:=by
 intro E;have ak:∀(E:Nat) (s:Array Bool) (a:Act) (w:aI),cnt (λi=>!s.getD i aK) ops.size≤E→Inv ops m a0 w0 O s a w→(∀i,i<m→s.getD i aK=aK)→wpAnyIn F n P .any ops Q E s a w:=by
  intro E s a w hc H T;refine LC m hf ht (ops.size-m) m zO (aU _) E s a w ?_ H.size H.closed T H.tail (ai a w H.ext H.ctx λi hi=>H.facts i hi (T i hi));have:∀r,r≤ops.size-m→r≤cnt (λi=>!s.getD i aK) (m+r):=by
   intro r
   induction r with
   |zero=>omega
   |succ r ih=>
    intro hr;have h1:=ih zO;have h2:=H.tail (m+r) zO zO;simp_all[cnt,Bool.not_false,Nat.succ_le_succ]
  have h2:=this (ops.size-m) (aU _);grind
 induction E with
 |zero=>
  intro s a w hc H;refine ak 0 s a w hc H λi hi=>?_;have:=uY (p:=λi=>!s.getD i aK) ops.size zO i (show i<ops.size by omega);grind
 |succ E ih=>
  intro s a w hc H;by_cases T:∀i,i<m→s.getD i aK=aK
  ·exact ak _ s a w hc H T
  ·have ar:∃j,j<m∧(!s.getD j aK)=true:=by
    grind
   obtain⟨j0,aB,az,aA⟩:=mB (p:=λi=>!s.getD i aK) m ar;have ay:j0∈aO .any ops s:=kB hf zO zG (λi hi=>by grind) H.size;have next:∀i o,i<m→ops[i]?=aM o→s.getD i aK=false→(∀e∈o.after,Region.binds .any e=aK→s.getD e.on false=aK)→∀v W,Grow w0.heap.size w W→O i v W→wpAnyIn F n P .any ops Q E (s.setIfInBounds i aK) (a.put o.dst v) W:=by
    intro i o J U hu I v W hE hF;have ah:i<ops.size:=(aL.1 U).1;refine ih _ _ _ ?_ ⟨by simpa using H.size,oB H.size hf H.closed U I,λj hj aq=>by rw[aN aK zO];exact H.tail j hj aq,aR H.ext hE.1,?_,?_⟩
    ·have:=uX (p:=λi=>!s.getD i aK) (q:=λj=>!(s.setIfInBounds i aK).getD j aK) (i:=i) zG (by simp_all)
      (λj hj=>by rw[aN aK (Ne.symm hj)]) ops.size ah
     omega
    ·cases aa:o.dst with
     |none=>exact H.ctx
     |some d=>
      refine⟨by simp only[aP,Array.size_setIfInBounds];exact H.ctx.size,H.ctx.defers,λt ad=>?_⟩;have Y:d≠t:=λe=>ad i J (by grind[fC]);simp only[aP,aJ Y];exact H.ctx.frame t ad
    ·intro k hk ag;by_cases e:i=k
     ·subst e;refine⟨v,hF,λd V=>?_⟩;have aa:o.dst=aM d:=by grind[fC]
      have af:=(kP hd J V).1;rw[aa];simp[aP,H.ctx.size,af]
     ·rw[aN aK e]at ag;obtain⟨u,am,al⟩:=H.facts k hk ag;refine⟨u,(O k).wk u w W am hE.2,λd V=>?_⟩;rw[al d V];cases aa:o.dst with
      |none=>rfl
      |some d2=>
       have Y:d2≠d:=λe2=>(kP hd hk V).2 i J e (by grind[fC]);simp[aP,aJ Y]
   have ab:∀i o,i<m→ops[i]?=aM o→(∀e∈o.after,Region.binds .any e=aK→s.getD e.on false=aK)→
     if Region.wanted o (yielded ops a.tmps)=aK then o.wp P a w (λa' W=>∃v,a'=a.put o.dst v∧Grow w0.heap.size w W∧O i v W) Q else O i undef w:=by
    intro i o J U I;refine an i o J U a w H.ext H.ctx ?_;intro e he hb d V;have af:=iw hf U he hb;obtain⟨v,hv,av⟩:=H.facts e.on zO zG;grind
   refine⟨λh0=>zG,λi hi=>?_⟩;obtain⟨hu,o,U,I⟩:=mem_ready.1 hi;have ah:i<ops.size:=(aL.1 U).1;have J:i<m:=by
    rcases Nat.lt_or_ge i m with h|h
    ·exact h
    ·obtain⟨e,he,hb,aw⟩:=dW ht hf H.closed U h (show j0<i by omega) (λae=>by cases ae) zG;grind
   have hs:=ab i o J U I;have ap:o∈ops:=Array.mem_of_getElem? U;unfold wpOpIn;simp only[U];split
   ·rename_i hw;rw[if_pos hw]at hs;exact Gu aj (ao o ap) (λa' W ⟨v,e1,hE,hF⟩=>by subst e1;exact next i o J U hu I v W hE hF) hs
   ·rename_i hw;rw[if_neg hw]at hs;exact⟨λf _=>aj.fn f,next i o J U hu I undef w ((Ext.rf _).grow H.ext.size) hs⟩
def iC(F:Fence)(n:Nat)(P:Program)(Q:Exit→Act→aI→Prop)(ops:Array aQ)(tail:List aQ):List aQ→List VP→Act→aI→Prop
 |o::os,G::Gs,a,w=>∀v,G v w→iC F n P Q ops tail os Gs (a.put o.dst v) w
 |_,_,a,w=>wpListIn F n P ops Q tail a w
theorem yR{tail:List aQ}{w:aI}{b:Act}(E:Nat)(W:b.tmps.size=E):∀(l:List aQ) (s:List VP) (a:Act),l.length=s.length→a.tmps.size=E→a.defers=b.defers→
  (∀(i:Nat) (G:VP),s[i]?=aM G→∃v,G v w∧∀(o:aQ) (d:Tmp),l[i]?=aM o→o.dst=aM d→v=b.tmps.getD d undef)→
  (∀t:Nat,a.tmps[t]?=b.tmps[t]?∨∃(i:Nat) (o:aQ),l[i]?=aM o∧o.dst=aM t)→
  iC F n P Q ops tail l s a w→wpListIn F n P ops Q tail b w
 |[],[],a,_,hs,hd,_,hf,h=>by
  have:a=b:=by
   obtain⟨O,d1⟩:=a;obtain⟨J,d2⟩:=b;have:O=J:=by
    apply Array.ext_getElem?;grind
   grind
  subst this;exact h
 |[],_::_,_,hl,_,_,_,_,_=>by simp at hl
 |_::_,[],_,hl,_,_,_,_,_=>by simp at hl
 |o::l,G::s,a,hl,hs,hd,hF,hf,h=>by
  obtain⟨v,T,H⟩:=hF 0 G rfl;refine yR E W l s (a.put o.dst v) zG (by cases o.dst<;>simp[aP,hs]) (by cases o.dst<;>simp[aP,hd]) (λi G' V=>?_) (λt=>?_) (h v T)
  ·obtain⟨u,h1,Y⟩:=hF (i+1) G' V;grind
  ·cases I:o.dst with
   |none=>
    rcases hf t with h'|⟨i,o',h1,Y⟩
    ·exact .inl h'
    grind
   |some d=>
    by_cases e:d=t
    ·subst e;left;have:=H o d rfl I;rw[this];simp only[aP];by_cases U:d<a.tmps.size
     ·simp_all
     grind
    grind[aP,aJ,absurd]
theorem iC.eq{tail os:List aQ}{o:aQ}{x:Value}{Fs:List VP}{a:Act}{w:aI}(h:iC F n P Q ops tail os Fs (a.put o.dst x) w):iC F n P Q ops tail (o::os) (eC x::Fs) a w:=by
 intro v d;rw[show v=x from d];exact h
theorem iC.any{tail os:List aQ}{o:aQ}{G:VP}{Fs:List VP}{a:Act}{w:aI}(h:∀v,G v w→iC F n P Q ops tail os Fs (a.put o.dst v) w):iC F n P Q ops tail (o::os) (G::Fs) a w:=h
theorem iC.nil{tail:List aQ}{a:Act}{w:aI}(h:wpListIn F n P ops Q tail a w):iC F n P Q ops tail [] [] a w:=h
theorem LD{l:List aQ}{a0 a:Act}{E:aI}{m:Nat}{Fs:List VP}{tail:List aQ}(V:m≤l.length)(h1:Fs.length=m)(T:Ctx l.toArray m a0 a)(Y:qI l.toArray m Fs a E)
  (h:iC F n P Q l.toArray tail (l.take m) Fs.reverse a0 E):wpListIn F n P l.toArray Q tail a E:=by
 refine yR a0.tmps.size T.size (l.take m) Fs.reverse a0 zG rfl T.defers.symm (λi G O=>?_) (λt=>?_) h
 ·have J:i<m:=zG;obtain⟨v,hv,H⟩:=Y i J;refine⟨v,by grind[kl],λo d U W=>H d ?_⟩;rw[List.getElem?_take]at U;simp_all[fC]
 ·by_cases s:∃i,i<m∧fC l.toArray i=aM t
  ·obtain⟨i,O,s⟩:=s;right;unfold fC at s;obtain⟨o,U,I⟩:=Option.bind_eq_some_iff.1 s;exact⟨i,o,by grind,I⟩
  ·left;exact(T.frame t λi O e=>s ⟨i,O,e⟩).symm
theorem wi{l:List aQ}{a0:Act}{w0:aI}(m:Nat)(H:m≤l.length):∀(k:Nat) (r:List aQ) (d:List VP),ed P Q l.toArray m a0 w0 (λs d=>decide (d.length=m)=aK∧∀E,Ext w0 E→iC F n P Q l.toArray s (l.take m) d.reverse a0 E) k r d→
  ed P Q l.toArray m a0 w0 (λs d=>∀a E,Ext w0 E→Ctx l.toArray m a0 a→qI l.toArray m d a E→wpListIn F n P l.toArray Q s a E) k r d
 |0,r,d,h=>λa E J O I=>LD H (of_decide_eq_true h.1) O I (h.2 E J)
 |k+1,[],d,h=>h
 |k+1,o::r,d,h=>by
  obtain⟨G,U,T⟩:=h;exact⟨G,U,wi m H k _ _ T⟩
theorem ml{id:Nat}{l:List aQ}{a0:Act}{w:aI}(T:pa F)(hd:lY l=aK)(m:Nat)(hm:P.follows .mixedOrders=aK)(U:preB l.toArray m a0.tmps.size []=aK)
  (h:ed P Q l.toArray m a0 w.drew (λd H=>decide (H.length=m)=aK∧∀I,Ext w.drew I→iC F n P Q l.toArray d (l.take m) H.reverse a0 I) m l []):(Code.region id l.toArray aK).wpIn F n P Q a0 w:=by
 have J:=ux U;have h:=wi m J _ _ _ h;refine wpIn_region_any hm ?_;simp only[preB,Bool.and_eq_true,decide_eq_true_eq]at U;obtain⟨⟨⟨⟨⟨s,W⟩,ht⟩,O⟩,aa⟩,V⟩:=U;obtain⟨h0,Fs,h1,h2,Y⟩:=ed.spec W m l [] (λj=>by simp) h;simp only[List.append_nil,List.length_nil,Nat.zero_add]at h2 Y;refine Og T (λo ho=>sf hd zG) m a0 w.drew (kl Fs) s W ht O Y ?_ _ _ _ _ ?_ ⟨by simp,tK _,λj _ hj=>by simp_all,Ext.rf _,⟨rfl,rfl,λ_ _=>rfl⟩,λi hi hl=>?_⟩
 ·intro a I hE hC hF;have E:(l.drop m).length=l.toArray.size-m:=by simp
  rw[←E,wpOpsIn_eq_wpListIn (l.drop m) m (λj=>by simp)];exact h2 a I hE hC hF
 ·have:∀n p,cnt p n≤n:=by
   intro n p
   induction n with
   |zero=>simp[cnt]
   |succ n ih=>grind[cnt]
  grind
 ·exfalso;have:i<l.length:=zO;simp_all
end
end Go.Proofs.YtofgfpffcegioaaGreat
