/- A part of the proof. -/
import Derived.Test.YtofgfpffcegioaaGreatZf44
set_option maxRecDepth 100000
set_option maxHeartbeats 8000000
namespace Go.Proofs.YtofgfpffcegioaaGreat
open Go.RowKit Go.Shelf Go.Sort iT jH fq Go.Proofs.Tryz
open _root_.Array renaming getElem?_eq_some_iff → et
open _root_.Go renaming World → ei,Value → bs,Deferred → cq
open Go.RowKit.Below renaming heap_setCell → cm
open Go.World.grownBy renaming refl → cr
open List renaming mem_cons_self → ck,mem_cons_of_mem → cp
open Nat renaming le_trans → fb
open Option renaming some → er,map_eq_some_iff → cn,none → b4
open Option.some renaming inj → ct
structure xC(w6 wB:ei)(bM g8 gW n:Nat)(cM:AV)(vs:bs)(ws:LL)(Z:List Nat)(L:Nat→List Nat)(W:ei):Prop where
 ext:Ext w6 W
 Rk:w6.heap.size≤bM
 Rl:w6.heap.size≤g8
 FZ:w6.heap.size≤gW
 b8:Box W g8 88 #[gP bM]
 bm:Box W bM 166 cM
 T1:g8<wB.heap.size
 hiM:bM<wB.heap.size
 PV:gW<wB.heap.size
 st:nB wB vs ws
 Sf:∀(k:Nat) (cs:AV) (T:TypeId) (m:Nat×Nat),wB.heap[k]?=er (.cells cs T m)→T=43∨T=5→W.heap[k]?=wB.heap[k]?
 Tl:wB.heap.size≤W.heap.size
 Tm:∀z∈Z,z<W.heap.size
 rows:∃(t:ez) (cells:AV),(∀z,z<w6.heap.size∨z∈gW::Z→t z=0)∧Box W gW 28 cells∧cells.size=n∧∀j,j<n→∃v,cells[j]?=er v∧eO (j+1) 3 1 v (L j).length ((L j).map vN) W t
section
variable {w6 wB W W':ei} {bM g8 gW n:Nat} {cM:Array bs} {vs:bs} {ws:List (List UInt8)} {Z Z':List Nat} {L:Nat→List Nat}
theorem xC.grown{row:Option Nat}(h:xC w6 wB bM g8 gW n cM vs ws Z L W)(U:W.grownBy W' row)(hr:∀r,row=er r→w6.heap.size≤r∧((∃o:Obj,W.heap[r]?=er o∧o.isCells=false)∨(r∈Z∧wB.heap.size≤r)))
  (hz:∀z∈Z',z∈Z∨(W.heap.size≤z∧z<W'.heap.size)):xC w6 wB bM g8 gW n cM vs ws Z' L W':=by
 have s:∀(k:Nat) (H:AV) (T:TypeId) (m:Nat×Nat),W.heap[k]?=er (.cells H T m)→k<wB.heap.size→W'.heap[k]?=W.heap[k]?:=λk H T m d hT=>U.block k (et.1 d).1 λe=>by
  rcases(hr k e.symm).2 with⟨o,O,hc⟩|⟨-,hb⟩
  ·rw[d]at O;cases O;cases hc
  ·omega
 obtain⟨t,E,ht,hb,Y,aa⟩:=h.rows;refine⟨h.ext.grown U h.ext.size (λk d=>(hr k d).1),h.Rk,h.Rl,h.FZ,(s _ _ _ _ h.b8 h.T1).trans h.b8,(s _ _ _ _ h.bm h.hiM).trans h.bm,h.T1,h.hiM,h.PV,h.st,λk H T m d hT=>(s k H T m ((h.Sf k H T m d hT).trans d) (et.1 d).1).trans (h.Sf k H T m d hT),fb h.Tl U.size,λz J=>?_,t.up W.heap.size 0,E,λz J=>?_,(s _ _ _ _ hb h.PV).trans hb,Y,λj hj=>?_⟩
 ·rcases hz z J with h1|h1
  ·exact Nat.lt_of_lt_of_le (h.Tm z h1) U.size
  omega
 ·grind[ez.fB,ck,cp,ez.fJ]
 ·obtain⟨v,hv,O⟩:=aa j hj;refine⟨v,hv,O.grown U (λk d e=>?_) (λk d=>ez.fB d)⟩;obtain⟨h1,ab,h2⟩:=O.at_ d;rcases(hr k e).2 with⟨o,h3,hc⟩|⟨h3,-⟩
  ·rw[h2]at h3;cases h3;cases hc
  grind
theorem xC.more(h:xC w6 wB bM g8 gW n cM vs ws Z L W)(s:Ext W W')(d:∀z∈Z',z∈Z∨(W.heap.size≤z∧z<W'.heap.size)):xC w6 wB bM g8 gW n cM vs ws Z' L W':=h.grown (gZ s) (λr e=>by cases e) d
theorem xC.push{t:ez}{cells:AV}{k x:Nat}{v s:bs}{E:ei}{t':ez}(h:xC w6 wB bM g8 gW n cM vs ws Z L W)(ht:∀z,z<w6.heap.size∨z∈gW::Z→t z=0)(H:Box W gW 28 cells)(am:cells.size=n)
  (ab:∀j,j<n→∃v,cells[j]?=er v∧eO (j+1) 3 1 v (L j).length ((L j).map vN) W t)(hk:k<n)(hv:cells[k]?=er v)(ho:eO (k+1) 3 1 v (L k).length ((L k).map vN) W t)
  (hown:eO (k+1) 3 1 s ((L k).length+1) ((L k).map vN++[vN x]) E t')(U:∀j,j<W.heap.size→t' j=t j)(J:W.grownBy E v.ownBlock) :
  xC w6 wB bM g8 gW n cM vs ws Z (λj=>if j=k then L k++[x]else L j) (E.setCell ⟨gW,k,b4⟩ s)∧(∀z,z<w6.heap.size∨z∈Z→z≠gW→z<W.heap.size→(E.setCell ⟨gW,k,b4⟩ s).heap[z]?=W.heap[z]?)∧(∀(q:Nat) (o:Obj),W.heap[q]?=er o→o.isCells=false→(E.setCell ⟨gW,k,b4⟩ s).heap[q]?=er o):=by
 have ak:∀b,v.ownBlock=er b→t b=k+1:=λb e=>(ho.at_ e).1;have ae:∀b,v.ownBlock=er b→w6.heap.size≤b:=λb e=>by
  grind
 have af:t gW=0:=ht gW (.inr ck);have O:∀(q:Nat) (cs:AV) (T:TypeId) (m:Nat×Nat),W.heap[q]?=er (.cells cs T m)→T≠3→E.heap[q]?=W.heap[q]?:=λq cs T m d hT=>J.block q (et.1 d).1 λe=>by
  obtain⟨-,aj,h2⟩:=ho.at_ e.symm;grind
 have ag:Box E gW 28 cells:=(O _ _ _ _ H zD).trans H;have ai:g8≠gW:=mu h.b8 H zD;have ah:bM≠gW:=mu h.bm H zD;refine⟨⟨Ext.fS (w:=w6) (show Ext w6 E from h.ext.grown J h.ext.size ae) h.FZ k s,h.Rk,h.Rl,h.FZ,Box.far (p:=⟨gW,k,b4⟩) ((O _ _ _ _ h.b8 zD).trans h.b8) ai s,Box.far (p:=⟨gW,k,b4⟩) ((O _ _ _ _ h.bm zD).trans h.bm) ah s,
  h.T1,h.hiM,h.PV,h.st,λq cs T m d hT=>?_,fb h.Tl (fb J.size (by simp_all)),λz hz=>?_,t',cells.setIfInBounds k s,λz hz=>?_,ag.eL k s,by grind,λj hj=>?_⟩,λz hz ad aa=>?_,λq o d hc=>?_⟩
 ·have h1:=(h.Sf q cs T m d hT).trans d;have h2:q≠gW:=λe=>by
   rw[e]at h1;have h3:=h1.symm.trans H;grind
  grind[cm,trans]
 ·have:=h.Tm z hz;have:=J.size;grind[World.setCell,Array.size_modify]
 ·have aa:z<W.heap.size:=by
   rcases hz with h1|h1
   ·exact Nat.lt_of_lt_of_le h1 h.ext.size
   ·rcases List.mem_cons.1 h1 with e|h2
    ·rw[e];exact H.lt
    ·exact h.Tm z h2
  grind
 ·have al:t' gW=0:=by rw[U gW H.lt];exact af
  by_cases e:j=k
  ·subst e;refine⟨s,by grind,?_⟩;simp only[if_true,List.length_append,List.map_append,List.length_singleton,List.map_cons,List.map_nil];exact hown.grown (eM (cr E _) j s) (λq d e=>by have e2:gW=q:=ct e;have h5:=(hown.at_ d).1;grind) (λ_ _=>rfl)
  ·obtain⟨u,hu,Y⟩:=ab j hj;refine⟨u,by grind,?_⟩;simp only[if_neg e];have h1:eO (j+1) 3 1 u (L j).length ((L j).map vN) E t':=Y.grown J (λq d e2=>by have:=(Y.at_ d).1;grind) U;exact h1.grown (eM (cr E _) k s) (λq d e=>by have e2:gW=q:=ct e;have h5:=(h1.at_ d).1;grind) (λ_ _=>rfl)
 ·refine(cm E ⟨gW,k,b4⟩ s z ad).trans (J.block z aa λe=>?_);grind
 ·refine((cm E ⟨gW,k,b4⟩ s q (λe=>?_)).trans (J.block q (et.1 d).1 λe=>?_)).trans d
  ·rw[show q=gW from e]at d;have h3:=d.symm.trans H;cases h3;cases hc
  ·obtain⟨-,aj,h2⟩:=ho.at_ e.symm;rw[d]at h2;cases h2;cases hc
theorem xC.set(h:xC w6 wB bM g8 gW n cM vs ws Z L W):nB W vs ws:=fE.same h.st h.Tl h.Sf
end
def xD(f:Bool)(ws:LL)(g:Nat)(w:ei):Prop:=iM (l6 f ws) g w∧∃(O:Nat→Int) (m n:Nat) (E d:bs) (J H:Int) (s:bs),Box w g 166 (mA O m n E f d J H s)∧jj f ws (.agg #[.bool f,d]) w
theorem xD.ext{f:Bool}{ws:LL}{g:Nat}{w s:ei}(h:xD f ws g w)(d:Ext w s):xD f ws g s:=by
 obtain⟨h1,cl,m,n,J,H,T,O,E,Y,U⟩:=h;exact⟨h1.ext d,cl,m,n,J,H,T,O,E,Y.ext d,VP.st _ _ _ _ U d⟩
theorem M1{i:Nat}{v:bs}{l:List Nat}{w:ei}{t:ez}(h:eO i 3 1 v l.length (l.map vN) w t):eT l v w:=by
 have U:=h;obtain⟨h1,⟨rfl,J⟩|⟨g,d,s,Y,rfl,ht,O,h3,T,h5,h6⟩⟩:=h
 ·obtain rfl:=List.eq_nil_of_length_eq_zero J;exact⟨b4,0,by simp,Nat.le_refl _,by decide,λh=>by simp at h⟩
 ·refine⟨er ⟨g,d,b4⟩,s,by simp,by grind,T,λhp=>⟨g,d,rfl,(et.1 O).1,λj F E=>?_⟩⟩;rw[List.getElem?_map,List.getElem?_map]at E;obtain⟨x,H,rfl⟩:=cn.1 E;obtain⟨y,hy,rfl⟩:=cn.1 H;exact⟨vN y,U.cell j _ zG,rfl⟩
theorem M3{f:Bool}{ws:LL}(O:eS f ws=true){m n:Nat}(hm:(m:Int)=qO f ws){w6 wB W:ei}{bM g8 T gr:Nat}{vs:bs}{J:Int}{Z:List Nat}(hn:(ey ws).length=n)
  (E:Box w6 gr 3 (fA (n*m) (TF (ey ws) f ws m n)))
  (h:xC w6 wB bM g8 T n (mA (fO f ws) m n (.slice (er ⟨gr,0,b4⟩) (n*m) (n*m)) f vs (fG ws:Int) J (.slice (er ⟨T,0,b4⟩) n n)) vs ws Z (λj=>if j<n then ju ws ((ey ws).getD j [])else []) W):xD f ws bM W:=by
 have s:=CT (f:=f) O;have ab:=oQ f ws;have H:=wK O;refine⟨⟨fO f ws,m,gr,TF (ey ws) f ws m (ey ws).length,f,vs,J,T,n,?_,?_,by omega,by omega,s.1,s.2,H.1,H.2,λb=>?_,λj b d=>Ji j b,?_⟩,fO f ws,m,n,_,vs,_,J,_,h.bm,_,rfl,fE.parts h.set⟩
 ·show Box W bM _ (mA (fO f ws) m (ey ws).length (.slice (er ⟨gr,0,b4⟩) ((ey ws).length*m) ((ey ws).length*m)) f vs (fG ws:Int) J (.slice (er ⟨T,0,b4⟩) (ey ws).length n));rw[hn];exact h.bm
 ·show Box W gr _ (fA ((ey ws).length*m) _);rw[hn];exact E.ext h.ext
 ·obtain⟨h1,h2⟩:=oP f ws b;refine⟨(fO f ws b.toNat).toNat,by omega,by omega,λj d=>?_⟩;have d:j<(ey ws).length:=d;have hk:(fO f ws b.toNat).toNat<m:=zO;have e1:(j*m+(fO f ws b.toNat).toNat)/m=j:=by rw[Nat.mul_comm,Nat.mul_add_div zO,Nat.div_eq_of_lt hk,Nat.add_zero]
  have e2:(j*m+(fO f ws b.toNat).toNat)%m=(fO f ws b.toNat).toNat:=by rw[Nat.mul_comm,Nat.mul_add_mod,Nat.mod_eq_of_lt hk]
  unfold TF;rw[e1,e2,if_pos d];exact QD O (ic ws) (λx=>iK x ws) zO j
 ·obtain⟨t,Y,-,hb,aa,U⟩:=h.rows;refine⟨hb.lt,λj d=>?_⟩;have d:j<n:=by have d:j<(ey ws).length:=d;omega
  obtain⟨v,hv,ho⟩:=U j d;rw[if_pos d]at ho;exact⟨v,(hb.cell j).trans hv,M1 ho,wM O j⟩
def Kb(P:Program)(d:Func)(R:Ending→ei→Prop):Exit→Act→ei→Prop
 |.normal,a,w|.ret,a,w=>LeavesInM Fence.wide 9 P d a.tmps R a.defers .returning w
 |_,_,_=>False
theorem ui{P:Program}{f:FuncId}{d:Func}{c:Code}{args:AV}{w:ei}{R:Ending→ei→Prop}(E:P.funcs[f]?=er d)(H:d.body=er c)
  (h:c.wp P (Kb P d R) { tmps:=args++Array.replicate (d.ntmps-args.size) undef,defers:=[] } w):Calls P f args w R:=by
 refine(callsIn_wide (n:=9)).1 ?_;refine callsIn_of_wp_marks E H trivial ?_ rfl;refine wpIn_wide.2 ?_;refine wp_mono h λe a w s=>?_;cases e with
 |normal=>exact s
 |ret=>exact s
 |_=>exact s.elim
def Marks(base:Nat)(s:List cq)(w:ei):Prop:=∃d:List Nat,s=d.map (λD=>{ target:=.collected D,args:=#[] })∧d.Nodup∧∀D∈d,base≤D∧w.heap[D]?=er (.deferred (er []))
theorem Marks.nil(base:Nat)(w:ei):Marks base [] w:=⟨[],rfl,List.nodup_nil,λ_ h=>by cases h⟩
theorem Marks.cons{base D:Nat}{s:List cq}{w:ei}(h:Marks base s w)(hD:base≤D)(U:w.heap[D]?=er (.deferred (er [])))(H:∀d∈s,d.target≠.collected D):Marks base ({ target:=.collected D,args:=#[] }::s) w:=by
 obtain⟨T,rfl,O,h3⟩:=h;refine⟨D::T,rfl,List.nodup_cons.2 ⟨λJ=>H _ (List.mem_map.2 ⟨D,J,rfl⟩) rfl,O⟩,λE Y=>?_⟩;grind
theorem oY{P:Program}{T:Func}{tmps:AV}{R:Ending→ei→Prop}{base:Nat}(I:ei→Prop)(J:∀W U D,I W→W.grownBy U (er D)→base≤D→(∃o:Obj,W.heap[D]?=er o∧o.isCells=false)→I U)
  (H:∀W,I W→∃v,(results T tmps).run P W=.ok v W∧R (.returned v) W):∀(d:List Nat) (w:ei),d.Nodup→(∀D∈d,base≤D∧w.heap[D]?=er (.deferred (er [])))→I w→LeavesInM Fence.wide 9 P T tmps R (d.map (λD=>{ target:=.collected D,args:=#[] })) .returning w
 |[],w,_,_,h=>H w h
 |D::d,w,hn,hD,h=>by
  obtain⟨Y,s⟩:=List.nodup_cons.1 hn;obtain⟨h1,O⟩:=hD D ck;refine⟨by simp,.inl ⟨D,_,rfl,run_takeDeferred O,oY I J H d _ s (λE hE=>?_) (J w _ D h (grownBy_putObj' w D _) h1 ⟨_,O,rfl⟩)⟩⟩;grind[cp,World.putObj_heap_other,trans]
theorem F0{P:Program}{c:Code}{Q:Exit→Act→ei→Prop}{w:ei}{c0 c1 c2 c3 c4 c5 c6 c7 c8 aY aX aW aV aU aT aS aR aQ aP aO aN aM aL aK aJ aI aH aG aF aE aD aC aB aA az ay aw av au ar aq ap ao an am al ak aj ai ah ag af ae ad ab aa Y U T O J H u9 cj bR ci ch cg cf ce cd cc cb ca b9 b7 b6 b5 b3 b2 b1 b0 bZ bY bX bW bV bU bT:bs}(I:bs→List cq→ei→Prop)(h0:I bR [] w)(μ:bs→Nat)
  (bS:∀(v9 bQ s bP bO bN bM bL bK bJ bI bH bG bF bE bD bC bB bA bz bx bw bv bu bt br bq:bs) (ds:List cq) (wr:ei),I s ds wr→c.wp P (Exit.then (λa' w'=>(∃(x9 bp d bo bn bl bk bj bi bh bg bf be bd bc bb ba a9 a8 a7 a6 a5 a4 a3 a2 a1 aZ:bs) (E:List cq),I d E w'∧a'={ tmps:=#[c0,c1,c2,c3,c4,c5,c6,c7,c8,x9,bp,aY,aX,aW,aV,aU,aT,aS,aR,aQ,aP,aO,aN,aM,aL,aK,aJ,aI,aH,aG,aF,aE,aD,aC,aB,aA,az,ay,aw,av,au,ar,aq,ap,ao,an,am,al,ak,aj,ai,ah,ag,af,ae,ad,ab,aa,Y,U,T,O,J,d,bo,bn,bl,bk,bj,bi,bh,bg,bf,be,bd,bc,bb,ba,a9,a8,a7,a6,a5,a4,a3,a2,a1,aZ,H],defers:=E })∧μ (a'.tmps.getD 63 undef)<μ s) Q) { tmps:=#[c0,c1,c2,c3,c4,c5,c6,c7,c8,v9,bQ,aY,aX,aW,aV,aU,aT,aS,aR,aQ,aP,aO,aN,aM,aL,aK,aJ,aI,aH,aG,aF,aE,aD,aC,aB,aA,az,ay,aw,av,au,ar,aq,ap,ao,an,am,al,ak,aj,ai,ah,ag,af,ae,ad,ab,aa,Y,U,T,O,J,s,bP,bO,bN,bM,bL,bK,bJ,bI,bH,bG,bF,bE,bD,bC,bB,bA,bz,bx,bw,bv,bu,bt,br,bq,H],defers:=ds } wr) :
  (Code.loop c).wp P Q { tmps:=#[c0,c1,c2,c3,c4,c5,c6,c7,c8,u9,cj,aY,aX,aW,aV,aU,aT,aS,aR,aQ,aP,aO,aN,aM,aL,aK,aJ,aI,aH,aG,aF,aE,aD,aC,aB,aA,az,ay,aw,av,au,ar,aq,ap,ao,an,am,al,ak,aj,ai,ah,ag,af,ae,ad,ab,aa,Y,U,T,O,J,bR,ci,ch,cg,cf,ce,cd,cc,cb,ca,b9,b7,b6,b5,b3,b2,b1,b0,bZ,bY,bX,bW,bV,bU,bT,H],defers:=[] } w:=by
 refine wp_loop (λa' w'=>∃(x9 bp d bo bn bl bk bj bi bh bg bf be bd bc bb ba a9 a8 a7 a6 a5 a4 a3 a2 a1 aZ:bs) (E:List cq),I d E w'∧a'={ tmps:=#[c0,c1,c2,c3,c4,c5,c6,c7,c8,x9,bp,aY,aX,aW,aV,aU,aT,aS,aR,aQ,aP,aO,aN,aM,aL,aK,aJ,aI,aH,aG,aF,aE,aD,aC,aB,aA,az,ay,aw,av,au,ar,aq,ap,ao,an,am,al,ak,aj,ai,ah,ag,af,ae,ad,ab,aa,Y,U,T,O,J,d,bo,bn,bl,bk,bj,bi,bh,bg,bf,be,bd,bc,bb,ba,a9,a8,a7,a6,a5,a4,a3,a2,a1,aZ,H],defers:=E }) (λa' _=>μ (a'.tmps.getD 63 undef)) ⟨u9,cj,bR,ci,ch,cg,cf,ce,cd,cc,cb,ca,b9,b7,b6,b5,b3,b2,b1,b0,bZ,bY,bX,bW,bV,bU,bT,[],h0,rfl⟩ ?_;rintro a wr ⟨v9,bQ,s,bP,bO,bN,bM,bL,bK,bJ,bI,bH,bG,bF,bE,bD,bC,bB,bA,bz,bx,bw,bv,bu,bt,br,bq,ds,hI,rfl⟩;exact bS v9 bQ s bP bO bN bM bL bK bJ bI bH bG bF bE bD bC bB bA bz bx bw bv bu bt br bq ds wr hI
def Sg(E s:ei)(bM J H n:Nat)(O:AV)(vs:bs)(ws:LL)(d Y T U k:Nat)(Ds:List Nat)(Lk:List Nat→Nat→List Nat)(pre:List Nat)(W:ei):Prop:=
 xC E s bM J H n O vs ws [d,Y,T,U] (Lk pre) W∧Box W d 3 #[iV k]∧∀q∈Ds,W.heap[q]?=er (.deferred (er []))
section
variable {w6 wB:ei} {bM g8 gW n:Nat} {cM:Array bs} {vs:bs} {ws:List (List UInt8)} {b9 bn bx bt k:Nat} {Ds:List Nat} {Lk:List Nat→Nat→List Nat}
theorem OP(B:Nat)(_:wB.heap.size≤B)(U:w6.heap.size≤B)(hD:∀q∈Ds,q<B):OwnFrom B (Sg w6 wB bM g8 gW n cM vs ws b9 bn bx bt k Ds Lk):=by
 rintro O W W' J ⟨h1,Y,H⟩ s d;refine⟨h1.grown s (λr e=>⟨fb U (d r e).1,.inl (d r e).2⟩) (λz T=>.inl T),jc Y s d,λq E=>(s.block q (et.1 (H q E)).1 λe=>?_).trans (H q E)⟩;grind
theorem Tn(Y:wB.heap.size≤bn)(h6:w6.heap.size≤bn)(d:b9≠bn)(U:∀q∈Ds,q<bn)(pre:List Nat)(W W':ei)(h:Sg w6 wB bM g8 gW n cM vs ws b9 bn bx bt k Ds Lk pre W)(s:oM bn W W'):Sg w6 wB bM g8 gW n cM vs ws b9 bn bx bt k Ds Lk pre W':=by
 obtain⟨T,O,H⟩:=h;refine⟨T.grown s (λr e=>by grind) (λz J=>.inl J),Cq O s d,λq E=>(s.block q (et.1 (H q E)).1 λe=>?_).trans (H q E)⟩;grind
end
theorem M4(T:AV)(p:Nat)(v:bs):(#[p].zip #[v]).foldl (λt (p,v)=>t.setIfInBounds p v) T=T.setIfInBounds p v:=by simp
end Go.Proofs.YtofgfpffcegioaaGreat
namespace Go.Proofs.YtofgfpffcegioaaGreat
open Go.RowKit Go.Proofs.Tryz
theorem sW{F:Fence}{n:Nat}{P:Program}{l:List Oper}{Q:Exit→Act→World→Prop}{d:Nat}{a:Act}{w:World}{S:World→Prop}(H:pa F)(E:¬LetsOut Q)(s:lY l=true)(hm:P.follows .mixedOrders=true)
  (h:wpAnyH P .any l.toArray Q S l.toArray.size (Array.replicate l.toArray.size false) a w.drew):(Code.region d l.toArray true).wpIn F n P Q a w:=
 wpIn_region_any hm (sg H E s _ _ _ _ (wpAny_of_held _ _ _ _ h))
end Go.Proofs.YtofgfpffcegioaaGreat
namespace Go.Proofs.YtofgfpffcegioaaGreat
open Go.RowKit Go.Shelf Go.Sort iT jH fq Go.Proofs.Tryz
theorem Bm(f:Bool)(ws:List (List UInt8))(u:Value)(w:World)(hS:jj f ws u w)(hlen:ws.flatten.length≤1000000)(hn:ws.length≤1000000)(hr:eS f ws=true):Calls prog 37 #[u] w (eY w λv w'=>∃g,v=.tuple #[.pointer (some ⟨g,0,none⟩),.int .i64 0]∧w.heap.size≤g∧xD f ws g w'):=by
 have bp:=hS;obtain⟨sl,rfl,hP⟩:=hS;obtain⟨A,c,rfl,-⟩:=eD.form hP;clear hP;have hX:Ext w (w.alloc (.cells #[.bool f,.slice A ws.length c] 24)):=ek _ _;have Y:=Box.new w 24 #[.bool f,.slice A ws.length c];refine ui func37 rfl ?_;simp only[ntmps37,List.size_toArray,List.length_cons,List.length_nil,Nat.reduceAdd,Nat.reduceSub,Array.replicate_succ,Array.replicate_zero,List.push_toArray,List.append_toArray,List.nil_append,List.cons_append];go_upto_region 1 with(fail)
 generalize w.alloc (.cells #[.bool f,.slice A ws.length c] 24)=w1 at*;have aq:=Y.at_ 0 rfl;have ap:=Y.at_ 1 rfl;have aG:=hide (Jj f ws _ w1 (VP.st _ _ _ _ bp hX) hlen hn hr);go_wp2_with fail;refine aG.out.mono ?_;rintro _ w2 ⟨v,rfl,bt,hu⟩;obtain⟨dv,_,rfl,⟨m,gr,hm,rfl,aa⟩,rfl⟩:=eR.inv2 hu;have Y:=Y.ext bt;have ae:=hX.tr bt;have Hm:=hide hm;clear aq ap aG hX bt hu hm;go_upto_region 2 with(first|refine qL rfl 150 rfl _ PD ?_|refine wpList_store_row rfl 150 _ _ rfl w2.heap.size (eA (fO f ws) m (.slice (some ⟨gr,0,none⟩) ((ey ws).length*m) ((ey ws).length*m))) rfl rfl 150 (eA (λ_=>0) 0 (.slice none 0 0)) (Box.new _ _ _) (by rw[l7];kernel_rfl) (by grind[l7]) (Mn _ _ rfl) ?_)
 have ab:Box ((w2.alloc (.cells (eA (λ_=>0) 0 (.slice none 0 0)) 150)).setRow w2.heap.size (eA (fO f ws) m (.slice (some ⟨gr,0,none⟩) ((ey ws).length*m) ((ey ws).length*m)))) w2.heap.size 150 (eA (fO f ws) m (.slice (some ⟨gr,0,none⟩) ((ey ws).length*m) ((ey ws).length*m))):=setRow_heap _ _ _ _ _ _ (Box.new _ _ _);have aM:Ext w2 ((w2.alloc (.cells (eA (λ_=>0) 0 (.slice none 0 0)) 150)).setRow w2.heap.size (eA (fO f ws) m (.slice (some ⟨gr,0,none⟩) ((ey ws).length*m) ((ey ws).length*m)))):=below_setRow (ek _ _) (Nat.le_refl _) _;obtain⟨g3,bP⟩:∃g3,w2.heap.size=g3:=⟨_,rfl⟩
 rw[bP]at ab aM ⊢;generalize(w2.alloc (.cells (eA (λ_=>0) 0 (.slice none 0 0)) 150)).setRow g3 (eA (fO f ws) m (.slice (some ⟨gr,0,none⟩) ((ey ws).length*m) ((ey ws).length*m)))=w3 at*;have Y:=Y.ext aM;have aa:=aa.ext aM;have ae:=ae.tr aM;clear aM bP;have aq:=Y.at_ 0 rfl;have ap:=Y.at_ 1 rfl;have aG:=hide (vW f ws _ w3 (VP.st _ _ _ _ bp ae) hlen hn hr);go_wp2_with fail;refine aG.out.mono ?_;rintro _ w4 ⟨v,rfl,aS,hu⟩;obtain⟨tv,_,rfl,hT,rfl⟩:=eR.inv2 hu;have bW:=hT;obtain⟨u0,u1,u2,u3,rfl,p0,p1,p2,p3⟩:=hT;obtain⟨A0,b0,c0,rfl⟩:=jY.slice p0;obtain⟨A1,b1,c1,rfl⟩:=jY.slice p1;obtain⟨A2,b2,c2,rfl⟩:=jY.slice p2;obtain⟨A3,b3,c3,rfl⟩:=jY.slice p3;have Y:=Y.ext aS;have ab:=ab.ext aS;have aa:=aa.ext aS;have ae:=ae.tr aS;clear aq ap aG aS hu;go_upto_region 5 with(fail)
 have av:Ext w4 (w4.alloc (.cells #[.slice A0 b0 c0,.slice A1 b1 c1,.slice A2 b2 c2,.slice A3 b3 c3] 154)):=ek _ _;have ah:=Box.new w4 154 #[.slice A0 b0 c0,.slice A1 b1 c1,.slice A2 b2 c2,.slice A3 b3 c3];obtain⟨s4,bB⟩:∃s4,w4.heap.size=s4:=⟨_,rfl⟩
 rw[bB]at ah ⊢;change Code.wp _ _ _ _ (w4.alloc (.cells #[.slice A0 b0 c0,.slice A1 b1 c1,.slice A2 b2 c2,.slice A3 b3 c3] 154));generalize w4.alloc (.cells #[.slice A0 b0 c0,.slice A1 b1 c1,.slice A2 b2 c2,.slice A3 b3 c3] 154)=w5 at*;have bo:=VP.st _ _ _ _ bW av;have Y:=Y.ext av;have ab:=ab.ext av;have aa:=aa.ext av;have ae:=ae.tr av;have hm:=ti hr;have bC:=hide (Cz ws _ w5 bo hm);have aq:=ah.at_ 0 rfl;have ap:=ah.at_ 1 rfl;have bh:=ah.at_ 2 rfl;have bg:=ah.at_ 3 rfl;clear av p0 p1 p2 p3 bW bB;go_wp2_with fail;refine bC.out.mono ?_;rintro _ w6 ⟨v,rfl,ar,hu⟩;obtain⟨nv,_,rfl,hN,rfl⟩:=eR.inv2 hu;obtain⟨AN,cN,rfl,dr,cF,-⟩:=eT.form hN;have Y:=Y.ext ar;have ab:=ab.ext ar;have ah:=ah.ext ar;have aa:=aa.ext ar;have bV:=VP.st _ _ _ _ bo ar;have ae:=ae.tr ar;clear aq ap bh bg bC hu ar bo;have bX:=VP.st _ _ _ _ bp ae;obtain⟨cw,cu⟩:1≤m∧m≤257:=by have:=oQ f ws;have:=Hm.out;omega
 have bG:=ru hr;have ct:=(ic ws).pos;have bL:∀b∈ws,b.length≤1000000:=λb hb=>Nat.le_trans (oI b hb) hlen;obtain⟨n,bD⟩:∃n,(ey ws).length=n:=⟨_,rfl⟩
 rw[bD]at ab aa bG ct;unfold maxLen at cF;go_upto_region 10 with(fail)
 refine fK 18 [] zR zK (λ_ _ _ _ _ h=>h) ?_;refine ed.gF (Operand.tmp 4) (ee rfl) (mf 4 rfl zR) (λρ w hE O=>by simp[execOp,O,go_sem];rfl) ?_;refine ed.loadAt (cs:=iL (fO f ws)) 148 _ rfl (ee rfl) (od 0 32 0 rfl) underlying148 rfl (by rw[fo];rfl) ab.lt (λj v h=>by rw[Nat.zero_add,ab.cell];exact Rf h) (eh _) ?_;refine ed.gF (Operand.tmp 4) (ee rfl) (mf 4 rfl zR) (λρ w hE O=>by simp[execOp,O,go_sem];rfl) ?_;refine ed.gG 3 _ rfl (ee rfl) (od 2 34 0 rfl) (λ_=>by rfl) ((ab.cell 256).trans ON) (eh _) ?_;refine ed.eU 150 _ rfl (ee rfl) (mf 4 rfl zR) underlying150 rfl (by rw[l7];rfl) ab (eh _) ?_;refine ed.gz 76 _ _ rfl (enters_of func76 zR rfl) (ee rfl) (od 4 36 0 rfl) (F:=eC (.int .i64 (n:Int))) (λ_ W hX O=>by cases O;exact E8 _ n m _ W cw cu bG) ?_;refine ed.gF (Operand.tmp 4) (ee rfl) (mf 4 rfl zR) (λρ w hE O=>by simp[execOp,O,go_sem];rfl) ?_;refine ed.gG 28 _ rfl (ee rfl) (od 6 38 0 rfl) (λ_=>by rfl) ((ab.cell 257).trans Rh) (eh _) ?_;refine ed.FV (vs:=[(0,.agg (iL (fO f ws))),(1,.int .i64 (m:Int)),(2,.int .i64 (n:Int)),(3,.slice (some ⟨gr,0,none⟩) (n*m) (n*m))]) 161 [(0,Operand.tmp 33),(1,Operand.tmp 35),(2,Operand.tmp 37),(3,Operand.tmp 39)] rfl (ee rfl) (ku.cons (od 1 33 6 rfl) (ku.cons (od 3 35 4 rfl) (ku.cons (od 5 37 2 rfl) (ku.cons (od 7 39 0 rfl) ku.nil)))) rfl (Rc _ _ _ _ _ _) ?_;refine ed.eU 24 _ rfl (ee rfl) (mf 1 rfl zR) underlying24 rfl zR Y (eh _) ?_;refine ed.gz 77 _ _ rfl (enters_of func77 zR rfl) (ee rfl) (od 9 41 0 rfl) (F:=MZ f ws) (λ_ W hX O=>by cases O;exact FY f ws _ W (VP.st _ _ _ _ bX ((eh _).tr hX)) bL hn) ?_;refine ed.eU 24 _ rfl (ee rfl) (mf 1 rfl zR) underlying24 rfl zR Y (eh _) ?_;refine ed.gz 78 _ _ rfl (enters_of func78 zR rfl) (ee rfl) (od 11 43 0 rfl) (F:=eC (.int .i64 (fG ws:Int))) (λ_ W hX O=>by cases O;exact sm f ws _ W (VP.st _ _ _ _ bX ((eh _).tr hX)) bL) ?_;refine ed.eU 154 _ rfl (ee rfl) (mf 6 rfl zR) underlying154 rfl zR ah (eh _) ?_;refine ed.gz 79 _ _ rfl (enters_of func79 zR rfl) (ee rfl) (od 13 45 0 rfl) (F:=Oj) (λ_ W hX O=>by cases O;exact CA ws _ W (VP.st _ _ _ _ bV ((eh _).tr hX)) hm) ?_;refine ed.Ka _ _ _ _ rfl (ee rfl) (od 8 40 6 rfl) (od 10 42 4 rfl) (od 12 44 2 rfl) (od 14 46 0 rfl) ?_;refine ed.OO _ rfl (ee rfl) (od 15 47 0 rfl) ?_;refine ed.alloc (z:=.pointer none) 88 rfl (ee rfl) zR zR ?_;refine⟨rfl,λCi bb=>?_⟩;iterate 10 refine ew.eq ?_
 refine ew.any λcg aD=>?_;iterate 3 refine ew.eq ?_
 refine ew.any λcf aC=>?_;refine ew.any λce aB=>?_;refine ew.any λcd aA=>?_;refine ew.any λcc az=>?_;refine ew.nil ?_;simp only[Act.put,List.setIfInBounds_toArray,List.set_cons_zero,List.set_cons_succ];obtain⟨U,vs,mo,rfl,aL,aj,bU⟩:=aA;obtain⟨g8,rfl,a2,al,-⟩:=az;have b6:=(eh w6).tr bb;have al:Box Ci g8 88 #[.pointer none]:=al;have a2:w6.heap.size≤g8:=a2;have aL:w6.heap.size≤U:=aL;have a5:U≠g8:=mu aj al zD;have c8:=al.at_ 0 rfl;have f8:=al.frozen 0;have ak:Box (Ci.setCell ⟨g8,0,none⟩ (.pointer (some ⟨U,0,none⟩))) g8 88 #[.pointer (some ⟨U,0,none⟩)]:=al.eL 0 _;have au:=aj.far (p:=⟨g8,0,none⟩) a5 (.pointer (some ⟨U,0,none⟩));have aP:=bU.far al zD zD (eM (World.grownBy.refl Ci _) 0 (.pointer (some ⟨U,0,none⟩)));have aR:=b6.fS a2 0 (.pointer (some ⟨U,0,none⟩));have OV:=hide ak;have Wj:=hide au;have Wl:=hide aP;have Vm:=hide aR;clear bb b6 aD aC aB ab al ak au aP aR aj bU;go_wp2_with fail;generalize Ci.setCell ⟨g8,0,none⟩ (.pointer (some ⟨U,0,none⟩))=RN at*;have ak:=OV.out;have au:=Wj.out;clear c8 f8;obtain⟨i0,hi,aH,bN,cy⟩:=info_parts Tryz.Ri;refine fK 9 [] zR zK (λ_ _ _ _ _ h=>h) ?_;refine ed.gG 88 _ rfl (ee rfl) (mf 8 rfl zR) (λ_=>by rfl) (ak.at_ 0 rfl) (eh _) ?_;refine ed.gG 88 _ rfl (ee rfl) (mf 8 rfl zR) (λ_=>by rfl) (ak.at_ 0 rfl) (eh _) ?_;refine .rc 1 50 0 ?_;refine .rd 2 51 0 ?_;refine .rd 3 52 0 ?_;refine ed.gG 3 _ rfl (ee rfl) (od 4 53 0 rfl) (λ_=>by rfl) ((au.cell 257).trans qm) (eh _) ?_;refine ed.newRow 164 28 _ _ i0 (.slice none 0 0) 1 n rfl underlying164 hi aH bN zG (ee rfl) (od 5 54 0 rfl) (od 5 54 0 rfl) zO ?_;refine .rc 0 49 6 ?_;refine .rd 7 56 0 ?_;refine⟨rfl,λPA af=>?_⟩;iterate 6 refine ew.eq ?_
 refine ew.any λch aU=>?_;iterate 2 refine ew.eq ?_
 refine ew.nil ?_;simp only[Act.put,List.setIfInBounds_toArray,List.set_cons_zero,List.set_cons_succ];obtain⟨H,rfl,bf,cb⟩:=aU;have af:=(eh RN).tr af;have bf:RN.heap.size≤H:=bf;have cj:w6.heap.size≤H:=Nat.le_trans Vm.out.size bf;have ak:=ak.ext af;have aj:=au.ext af;have aP:=Wl.out.ext af;have aR:=Vm.out.tr af;have cQ:=au.lt;have bE:H≠U:=zO;have cW:=(aj.cell 263).trans wQ;have fW:=aj.frozen 263;have aT:=aj.eL 263 (.slice (some ⟨H,0,none⟩) n n);rw[Be]at aT;have cK:g8≠U:=λe=>a5 e.symm;have bd:=ak.far (p:=⟨U,263,none⟩) cK (.slice (some ⟨H,0,none⟩) n n);have bc:=cb.far (p:=⟨U,263,none⟩) bE (.slice (some ⟨H,0,none⟩) n n);have a9:=aP.far aj zD zD (eM (World.grownBy.refl PA _) 263 (.slice (some ⟨H,0,none⟩) n n));have ba:=aR.fS aL 263 (.slice (some ⟨H,0,none⟩) n n);have HE2:=hide ba;have HS2:=hide a9;have HW2:=hide bc;have T2:=hide bd;have Nr:=hide aT;have HEX:=hide ae;clear af aj aP aR aT bd bc a9 ba OV Wj Wl Vm ak au cb hi aH bN cy ae;go_upto_region 12 with(fail)
 generalize PA.setCell ⟨U,263,none⟩ (.slice (some ⟨H,0,none⟩) n n)=D1 at*;clear cW fW;have c8:=T2.out.at_ 0 rfl;have cn:=(Nr.out.cell 257).trans qm;have P1:=hide (show xC w6 D1 U g8 H n (mA (fO f ws) m n (.slice (some ⟨gr,0,none⟩) (n*m) (n*m)) f vs (fG ws:Int) mo (.slice (some ⟨H,0,none⟩) n n)) vs ws [] (λj=>if j<0 then ju ws ((ey ws).getD j [])else []) D1 from
  { ext:=HE2.out,Rk:=aL,Rl:=a2,FZ:=cj,b8:=T2.out,bm:=Nr.out,T1:=T2.out.lt,hiM:=Nr.out.lt,PV:=HW2.out.lt,st:=HS2.out,Sf:=λ_ _ _ _ _ _=>rfl,Tl:=Nat.le_refl _,Tm:=λz hz=>(by cases hz),rows:=⟨λ_=>0,_,λ_ _=>rfl,HW2.out,by simp[madeCells],λj hj=>⟨.slice none 0 0,by simp_all[gX,Value.cells,Nat.mod_one],by simp_all[Nat.not_lt_zero,eO.nil]⟩⟩ })
 clear HE2 HS2 HW2 T2 Nr;go_wp2_with fail;clear c8 cn;refine F0 (λi ds wr=>∃k:Nat,k≤n∧i=.int .i64 (k:Int)∧Hid (Marks D1.heap.size ds wr)∧Hid (xC w6 D1 U g8 H n (mA (fO f ws) m n (.slice (some ⟨gr,0,none⟩) (n*m) (n*m)) f vs (fG ws:Int) mo (.slice (some ⟨H,0,none⟩) n n)) vs ws [] (λj=>if j<k then ju ws ((ey ws).getD j [])else []) wr)) ⟨0,Nat.zero_le _,rfl,Marks.nil _ _,P1⟩ (λi=>n-(intOf i).toNat) ?_;intro u9 dn dm dl dk dj di dh dg df de dd dc db da c9 c7 c6 c5 cZ cY cX cV cU cT cS cR ds wr hrel;clear P1;obtain⟨k,hk,rfl,HD,P1⟩:=hrel;by_cases ao:k<n
 ·have bH:(k:Int)<(n:Int):=zO;obtain⟨Ds,rfl,cH,bu⟩:=HD.out;have b7:∀q∈Ds,q<wr.heap.size:=λq hq=>(Array.getElem?_eq_some_iff.1 (bu q hq).2).1;have ca:∀q∈Ds,(wr.alloc (.cells #[.int .i64 (k:Int)] 3)).heap[q]?=some (.deferred (some [])):=λq hq=>((ek wr (.cells #[.int .i64 (k:Int)] 3)).block q (b7 q hq)).trans (bu q hq).2;have XC:=hide ca;clear ca;have bS:=Box.new wr 3 #[.int .i64 (k:Int)];have bT:=ek wr (.cells #[.int .i64 (k:Int)] 3);have bY:=P1.out.more (Z':=[wr.heap.size]) bT (λz hz=>.inr (by simp_all));have bO:D1.heap.size≤wr.heap.size:=P1.out.Tl;have Vn:=hide bY;have Wm:=hide bS;clear bY bT P1 bS;go_upto_region 15 with(fail)
  generalize wr.alloc (.cells #[.int .i64 (k:Int)] 3)=E at*;generalize wr.heap.size=b9 at*;have am:=ah.ext Vn.out.ext;have aq:=am.at_ 0 rfl;have ap:=am.at_ 1 rfl;have bh:=am.at_ 2 rfl;have bg:=am.at_ 3 rfl;have cA:=Wm.out.at_ 0 rfl;go_wp2_with fail;refine(Jl _ _ _ _ _ _ _ k E).mono ?_;rintro _ w0 ⟨rfl,rfl⟩;clear aq ap bh bg cA am;obtain⟨W0,aw⟩:∃W0,((E.alloc (.cells #[.slice A0 b0 c0,.slice A1 b1 c1,.slice A2 b2 c2,.slice A3 b3 c3] 154)).alloc (.cells #[.slice AN (nextL (ey ws) ws).length cN] 28)).alloc (.cells #[.int .i64 (k:Int)] 3)=W0:=⟨_,rfl⟩
  have an:Ext E W0:=by rw[←aw];exact((ek _ _).tr (ek _ _)).tr (ek _ _)
  have aV:W0.heap.size=E.heap.size+3:=by rw[←aw];simp
  have aJ:Box W0 E.heap.size 154 #[.slice A0 b0 c0,.slice A1 b1 c1,.slice A2 b2 c2,.slice A3 b3 c3]:=by rw[←aw];exact((Box.new _ _ _).alloc _).alloc _
  have aI:Box W0 (E.heap.size+1) 28 #[.slice AN (nextL (ey ws) ws).length cN]:=by
   rw[←aw];have:=(Box.new (E.alloc (.cells #[.slice A0 b0 c0,.slice A1 b1 c1,.slice A2 b2 c2,.slice A3 b3 c3] 154)) 28 #[.slice AN (nextL (ey ws) ws).length cN]).alloc (.cells #[.int .i64 (k:Int)] 3);simp_all
  have aK:Box W0 (E.heap.size+2) 3 #[.int .i64 (k:Int)]:=by
   rw[←aw];have:=Box.new ((E.alloc (.cells #[.slice A0 b0 c0,.slice A1 b1 c1,.slice A2 b2 c2,.slice A3 b3 c3] 154)).alloc (.cells #[.slice AN (nextL (ey ws) ws).length cN] 28)) 3 #[.int .i64 (k:Int)];simp_all
  rw[aw];have HW0:=hide (And.intro an (And.intro aV (And.intro aJ (And.intro aI aK))));clear an aV aJ aI aK;go_wp2_with fail;refine(wpIn_wide (n:=9)).1 ?_;obtain⟨an,aV,aJ,aI,aK⟩:=HW0.out;have cE:=bV;obtain⟨v0,v1,v2,v3,ck,-,-,cD,-⟩:=cE;cases ck;have hm:=ti hr;have bq:=ic ws;have aE:=qi ws;have hlen:(fF ws).word.length=(nextL (ey ws) ws).length:=by rw[hm.ok.word,jg]
  have cG:Down (nextL (ey ws) ws):=λi h0 hi=>by
   rw[jg]at hi;rw[wy hi];simp_all[wx]
  have cr:k<(nextL (ey ws) ws).length:=by grind[jg]
  have cL:=Vn.out.ext;have br:=Vn.out;have bR:=Wm.out;have cP:=bR.lt;have du:w6.heap.size≤b9:=Nat.le_trans (Nat.le_trans br.FZ (Nat.le_of_lt br.PV)) bO;refine je (F:=Fence.wide) rfl zO (gf:=127) (lb:=#[.pointer (some ⟨E.heap.size+2,0,none⟩),.pointer (some ⟨E.heap.size+1,0,none⟩),.pointer (some ⟨E.heap.size,0,none⟩)]) rfl trivial (enters_of func127 zR rfl)
   (Jm 8 zO (E.heap.size+2) (E.heap.size+1) E.heap.size _ _ _ _ _ (nextL (ey ws) ws) (fF ws).word k w6 W0 hN cD hlen cG cr (cL.tr an) aK aI aJ zO zO zO) fc.t
   (λW l o' hl=>fc.put (M:=W0.heap.size) zO zG W l o' hl)
   (λW W' q hO hq aX=>hO.block q aX zG) (λad W l o' hl hT=>trivial) (λ_=>rfl)
   (Sg w6 D1 U g8 H n (mA (fO f ws) m n (.slice (some ⟨gr,0,none⟩) (n*m) (n*m)) f vs (fG ws:Int) mo (.slice (some ⟨H,0,none⟩) n n)) vs ws b9 (E.heap.size+2) (E.heap.size+1) E.heap.size k Ds (λad j=>if j=k then ad.map (λx=>((fF ws).word.getD x (-1)).toNat)else if j<k then ju ws ((ey ws).getD j [])else []))
   (λ_ _ _=>False) (OP _ zO zO (λq hq=>by grind)) (λ_ _ _ _ _ h _ _=>h.elim) (Tn zO zO zO (λq hq=>by grind))
   ?h0 ?a1 ?assign ?body ?done ?stop
  case h0=>
   refine⟨?_,bR.ext an,λq hq=>(an.block q zG).trans (XC.out q hq)⟩;have e:(λj=>if j=k then([]:List Nat).map (λx=>((fF ws).word.getD x (-1)).toNat)else if j<k then ju ws ((ey ws).getD j [])else [])=λj=>if j<k then ju ws ((ey ws).getD j [])else []:=by
    grind
   refine Eq.mp (congrArg (λL=>xC w6 D1 U g8 H n (mA (fO f ws) m n (.slice (some ⟨gr,0,none⟩) (n*m) (n*m)) f vs (fG ws:Int) mo (.slice (some ⟨H,0,none⟩) n n)) vs ws [b9,E.heap.size+2,E.heap.size+1,E.heap.size] L W0) e.symm) (br.more an λz hz=>?_);grind
  case assign=>
   intro l x W K' hK;dsimp only;rw[M4];simp only[List.setIfInBounds_toArray,List.set_cons_zero,List.set_cons_succ];gi_wp2;exact hK
  case body=>
   rintro l ad x W ⟨O,h2,h3⟩ a4;obtain⟨y,hy⟩:∃y:Nat,(fF ws).word.getD x (-1)=(y:Int):=by
    have ay:=rB hm bq aE k k (Nat.le_refl k) zO;have dp:x∈jl (nextL (ey ws) ws) (fF ws).word k k:=a4.subset (List.mem_append_right _ List.mem_cons_self);grind[List.mem_map_of_mem,fF]
   have ci:((fF ws).word.getD x (-1)).toNat=y:=zO;have co:ad.length≤64:=by
    have ay:=rB hm bq aE k k (Nat.le_refl k) zO;have h8:=congrArg List.length ay;rw[List.length_map,List.length_map]at h8;have h9:=wM (f:=f) hr k;grind[List.length_append,l6,ju,ey]
   obtain⟨i0,aH,bz,bx,bw⟩:=info_parts Tryz.oG;obtain⟨L,hL⟩:∃L:Nat→List Nat,(λj=>if j=k then ad.map (λx=>((fF ws).word.getD x (-1)).toNat)else if j<k then ju ws ((ey ws).getD j [])else [])=L:=⟨_,rfl⟩
   have dt:(L k).length≤64:=zG;have b5:(λj=>if j=k then L k++[y]else L j)=λj=>if j=k then(ad++[x]).map (λx=>((fF ws).word.getD x (-1)).toNat)else if j<k then ju ws ((ey ws).getD j [])else []:=by
    grind
   have O:xC w6 D1 U g8 H n (mA (fO f ws) m n (.slice (some ⟨gr,0,none⟩) (n*m) (n*m)) f vs (fG ws:Int) mo (.slice (some ⟨H,0,none⟩) n n)) vs ws [b9,E.heap.size+2,E.heap.size+1,E.heap.size] L W:=zG;have HLn:=hide b5;clear hL b5 co ci;obtain⟨t,bv,ht,ag,a3,aW⟩:=O.rows;obtain⟨v,hv,ho⟩:=aW k ao;obtain⟨Av,cv,rfl⟩:=ho.form;have bl:=O.b8.at_ 0 rfl;have bj:=(O.bm.cell 263).trans wQ;have bk:=h2.at_ 0 rfl;have bi:=(ag.cell k).trans hv;have n8:g8≠H:=mu O.b8 ag zD;have nM:U≠H:=mu O.bm ag zD;have n9:b9≠H:=mu h2 ag zD;obtain⟨V1,aO⟩:∃V1,(W.alloc (.cells #[.int .i64 (y:Int)] 3)).drew=V1:=⟨_,rfl⟩
   have J:Ext W V1:=by rw[←aO];exact(ek _ _).tr (eh _)
   have a8:V1.cell? ⟨W.heap.size,0,none⟩=some (.int .i64 (y:Int)):=by
    rw[←aO];simp
   have xB:=hide (show Src V1 (.slice (some ⟨W.heap.size,0,none⟩) 1 1) 1 [vN y]from⟨_,_,rfl,λ_=>⟨_,_,rfl,λj z hz=>by
    cases j with
    |zero=>cases hz;exact a8
    |succ j=>simp at hz⟩⟩)
   have bK:=Nat.lt_of_lt_of_le O.b8.lt J.size;have bI:=Nat.lt_of_lt_of_le O.bm.lt J.size;have bJ:=Nat.lt_of_lt_of_le h2.lt J.size;have aZ:=Nat.lt_of_lt_of_le ag.lt J.size;have ai:=And.intro ((J.cell (p:=⟨g8,0,none⟩) O.b8.lt).trans bl) (And.intro ((J.cell (p:=⟨U,263,none⟩) O.bm.lt).trans bj) ((J.cell (p:=⟨b9,0,none⟩) h2.lt).trans bk));have a7:=(J.cell (p:=⟨H,k,none⟩) ag.lt).trans bi;have RR:=hide a7;have a6:=(ag.ext J).frozen k;have HO:=hide ((eO.keeps _ _ _ _ _ _).ext ho J);have Wn:=hide (λj (hj:j<n)=>by
    obtain⟨u,hu,cp⟩:=aW j hj;exact(⟨u,hu,(eO.keeps _ _ _ _ _ _).ext cp J⟩:∃v,bv[j]?=some v∧eO (j+1) 3 1 v (L j).length ((L j).map vN) V1 t))
   have Wo:=hide (ag.ext J);have HM:=hide (O.more (Z':=[b9,E.heap.size+2,E.heap.size+1,E.heap.size]) J (λz hz=>.inl hz));have aY:∀q,(∃cs T,(Box V1 q T cs)∧T≠3)→some q≠(Value.slice Av (L k).length cv).ownBlock:=by
    rintro q ⟨cs,T,hb,hT⟩ e;obtain⟨-,dw,hc⟩:=HO.out.at_ e.symm;have h9:=hb.symm.trans hc;grind
   have Wp:=hide (aY g8 ⟨_,_,O.b8.ext J,by decide⟩);have Wq:=hide (aY U ⟨_,_,O.bm.ext J,by decide⟩);have T3:=hide (aY H ⟨_,_,ag.ext J,by decide⟩);have Wr:=hide (show some b9≠(Value.slice Av (L k).length cv).ownBlock from λe=>by
    have h9:=(HO.out.at_ e.symm).1;grind)
   have PV:=O.PV;have HFin:=hide (λ(w':World) (v':Value) (hg:V1.grownBy w' (Value.slice Av (L k).length cv).ownBlock) (hp:xC w6 D1 U g8 H n (mA (fO f ws) m n (.slice (some ⟨gr,0,none⟩) (n*m) (n*m)) f vs (fG ws:Int) mo (.slice (some ⟨H,0,none⟩) n n)) vs ws [b9,E.heap.size+2,E.heap.size+1,E.heap.size] (λj=>if j=k then L k++[y]else L j) (w'.setCell ⟨H,k,none⟩ v')∧(∀z,z<w6.heap.size∨z∈[b9,E.heap.size+2,E.heap.size+1,E.heap.size]→z≠H→z<V1.heap.size→(w'.setCell ⟨H,k,none⟩ v').heap[z]?=V1.heap[z]?)∧(∀(q:Nat) (o:Obj),V1.heap[q]?=some o→o.isCells=false→(w'.setCell ⟨H,k,none⟩ v').heap[q]?=some o))=>show Exit.normal=Exit.normal∧KeepsFrom W0.heap.size W (w'.setCell ⟨H,k,none⟩ v')∧fc w6.heap.size [E.heap.size+2,E.heap.size+1,E.heap.size] W (w'.setCell ⟨H,k,none⟩ v')∧Sg w6 D1 U g8 H n (mA (fO f ws) m n (.slice (some ⟨gr,0,none⟩) (n*m) (n*m)) f vs (fG ws:Int) mo (.slice (some ⟨H,0,none⟩) n n)) vs ws b9 (E.heap.size+2) (E.heap.size+1) E.heap.size k Ds (λad j=>if j=k then ad.map (λx=>((fF ws).word.getD x (-1)).toNat)else if j<k then ju ws ((ey ws).getD j [])else []) (ad++[x]) (w'.setCell ⟨H,k,none⟩ v')from by
    obtain⟨p1,p2,p3⟩:=hp;have bA:W.heap.size≤(w'.setCell ⟨H,k,none⟩ v').heap.size:=Nat.le_trans J.size (Nat.le_trans hg.size zS);have bn:∀z,z<w6.heap.size∨z∈[b9,E.heap.size+2,E.heap.size+1,E.heap.size]→z≠H→z<W.heap.size→(w'.setCell ⟨H,k,none⟩ v').heap[z]?=W.heap[z]?:=λz hz cq ao=>(p2 z hz cq (Nat.lt_of_lt_of_le ao J.size)).trans (J.block z ao);have bF:∀(q:Nat) (o:Obj),W.heap[q]?=some o→o.isCells=false→(w'.setCell ⟨H,k,none⟩ v').heap[q]?=some o:=λq o hq hc=>p3 q o ((J.block q (Array.getElem?_eq_some_iff.1 hq).1).trans hq) hc;have dq:w6.heap.size≤W.heap.size:=O.ext.size;refine⟨rfl,⟨bA,λq o _ hq hc=>bF q o hq hc⟩,⟨⟨?_,?_,?_,bA,λq hq=>bn q (.inl hq) zO zO⟩,λq hq=>?_⟩,?_,?_,λq hq=>bF q _ (h3 q hq) rfl⟩
    ·exact(hg.os).trans J.os
    ·exact(hg.tape).trans J.tape
    ·exact(hg.output).trans J.output
    ·have aX:q∈[b9,E.heap.size+2,E.heap.size+1,E.heap.size]:=List.mem_cons_of_mem _ hq;have cm:=O.Tm q aX;refine bn q (.inr aX) ?_ cm;simp only[List.mem_cons,List.not_mem_nil,or_false]at hq;omega
    ·exact Eq.mp (congrArg (λL=>xC w6 D1 U g8 H n (mA (fO f ws) m n (.slice (some ⟨gr,0,none⟩) (n*m) (n*m)) f vs (fG ws:Int) mo (.slice (some ⟨H,0,none⟩) n n)) vs ws [b9,E.heap.size+2,E.heap.size+1,E.heap.size] L (w'.setCell ⟨H,k,none⟩ v')) HLn.out) p1
    ·exact(bn b9 (.inr List.mem_cons_self) n9 h2.lt).trans h2)
   have Ty:=hide (And.intro O (And.intro h2 (And.intro h3 (And.intro a3 (And.intro aW (And.intro hv ho))))));have aN:=eh W;have hS:=And.intro ((aN.cell (p:=⟨g8,0,none⟩) O.b8.lt).trans bl) (And.intro ((aN.cell (p:=⟨U,263,none⟩) O.bm.lt).trans bj) ((aN.cell (p:=⟨b9,0,none⟩) h2.lt).trans bk));have bQ:=(aN.cell (p:=⟨H,k,none⟩) ag.lt).trans bi;clear O h2 h3 a3 aW ho a4 aY bl bj bk bi aN a8
   gi_upto_region 17 with(fail)
   refine wpIn_mono (Q:=λe _ V=>e=.normal∧KeepsFrom W0.heap.size W V∧fc w6.heap.size [E.heap.size+2,E.heap.size+1,E.heap.size] W V∧Sg w6 D1 U g8 H n (mA (fO f ws) m n (.slice (some ⟨gr,0,none⟩) (n*m) (n*m)) f vs (fG ws:Int) mo (.slice (some ⟨H,0,none⟩) n n)) vs ws b9 (E.heap.size+2) (E.heap.size+1) E.heap.size k Ds (λad j=>if j=k then ad.map (λx=>((fF ws).word.getD x (-1)).toNat)else if j<k then ju ws ((ey ws).getD j [])else []) (ad++[x]) V) ?reg ?post;case post=>rintro e a V ⟨rfl,h⟩;exact h
   case reg=>
   rw[hy];refine sW (S:=λV=>V.cell? ⟨g8,0,none⟩=some (.pointer (some ⟨U,0,none⟩))∧V.cell? ⟨U,263,none⟩=some (.slice (some ⟨H,0,none⟩) n n)∧V.cell? ⟨b9,0,none⟩=some (.int .i64 (k:Int))) (gJ _) (λ⟨_,_,h⟩=>by cases h.1) zR zR ?_;refine wpAnyH_take (i:=0) (v:=?v0) rfl zK zK zK (λ_ _ _ h=>h) (Or.inl ⟨by rfl,?y0⟩) hS ?r0;case y0=>intro V hV;obtain⟨s1,s2,s3⟩:=hV;go_simp;first|done|with_reducible rfl|rfl
   case r0=>
   simp only[Act.put,List.setIfInBounds_toArray];refine wpAnyH_take (i:=1) (v:=?v1) rfl zK zK zK (λ_ _ _ h=>h) (Or.inl ⟨by rfl,?y1⟩) hS ?r1;case y1=>intro V hV;go_simp;first|done|with_reducible rfl|rfl
   case r1=>
   simp only[Act.put];refine wpAnyH_take (i:=2) (v:=?v2) rfl zK zK zK (λ_ _ _ h=>h) (Or.inl ⟨by rfl,?y2⟩) hS ?r2;case y2=>intro V hV;go_simp;first|done|with_reducible rfl|rfl
   case r2=>
   simp only[Act.put];refine wpAnyH_take (i:=3) (v:=?v3) rfl zK zK zK (λ_ _ _ h=>h) (Or.inl ⟨by rfl,?y3⟩) hS ?r3;case y3=>intro V hV;obtain⟨s1,s2,s3⟩:=hV;go_simp;first|done|with_reducible rfl|rfl
   case r3=>
   simp only[Act.put];refine wpAnyH_take (i:=4) (v:=?v4) rfl zK zK zK (λ_ _ _ h=>h) (Or.inl ⟨by rfl,?y4⟩) hS ?r4;case y4=>intro V hV;obtain⟨s1,s2,s3⟩:=hV;go_simp;first|done|with_reducible rfl|rfl
   case r4=>
   simp only[Act.put];refine wpAnyH_take (i:=5) (v:=?v5) rfl zK zK zK (λ_ _ _ h=>h) (Or.inl ⟨by rfl,?y5⟩) hS ?r5;case y5=>intro V hV;obtain⟨s1,s2,s3⟩:=hV;go_simp;first|done|with_reducible rfl|rfl
   case r5=>
   simp only[Act.put];refine wpAnyH_take (i:=6) (v:=?v6) rfl zK zK zK (λ_ _ _ h=>h) (Or.inl ⟨by rfl,?y6⟩) hS ?r6;case y6=>intro V hV;go_simp;first|done|with_reducible rfl|rfl
   case r6=>
   simp only[Act.put];refine wpAnyH_take (i:=7) (v:=?v7) rfl zK zK zK (λ_ _ _ h=>h) (Or.inl ⟨by rfl,?y7⟩) hS ?r7;case y7=>intro V hV;go_simp;first|done|with_reducible rfl|rfl
   case r7=>
   simp only[Act.put];refine wpAnyH_take (i:=8) (v:=?v8) rfl zK zK zK (λ_ _ _ h=>h) (Or.inl ⟨by rfl,?y8⟩) hS ?r8;case y8=>intro V hV;obtain⟨s1,s2,s3⟩:=hV;go_simp;first|done|with_reducible rfl|rfl
   case r8=>
   simp only[Act.put];refine wpAnyH_take (i:=9) (v:=?v9) rfl zK zK zK (λ_ _ _ h=>h) (Or.inl ⟨by rfl,?y9⟩) hS ?r9;case y9=>intro V hV;obtain⟨s1,s2,s3⟩:=hV;go_simp;first|done|with_reducible rfl|rfl
   case r9=>
   simp only[Act.put];refine wpAnyH_take (i:=10) (v:=?v10) rfl zK zK zK (λ_ _ _ h=>h) (Or.inl ⟨by rfl,?XD⟩) hS ?r10;case XD=>intro V hV;go_simp;first|done|with_reducible rfl|rfl
   case r10=>
   simp only[Act.put];refine wpAnyH_take (i:=12) (v:=?v12) rfl zK zK zK (λ_ _ _ h=>h) (Or.inl ⟨by rfl,?XE⟩) hS ?r12;case XE=>intro V hV;go_simp;first|done|with_reducible rfl|rfl
   case r12=>
   simp only[Act.put];refine wpAnyH_ready (rs:=[11,13]) zK zS ?_;refine AllReadyH.cons rfl (λK hK=>?_) (AllReadyH.cons rfl (λK hK=>?_) AllReadyH.nil)
   ·go_simp
    refine hK.out _ _ hS (λ_=>?_);clear hK K a7;refine wpAnyH_ready (rs:=[13]) zK zS ?_;refine AllReadyH.cons rfl (λK hK=>?_) AllReadyH.nil
    go_simp
    try rw[aO]
    refine hK.out _ _ ai (λ_=>?_);clear hK K;refine wpAnyH_ready (rs:=[14]) zK zS ?_;refine AllReadyH.cons rfl (λK hK=>?_) AllReadyH.nil;refine kK zR (Operand.tmp 82) (Operand.tmp 84) 28 zR (k+1) t 3 i0 (.int .i64 0) 1 8 underlying28 aH bz bx bw rfl zO (.slice Av (L k).length cv) (.slice (some ⟨W.heap.size,0,none⟩) 1 1) (L k).length 1 ((L k).map vN) [vN y] zR HO.out zR zR xB.out (by intro z hz;cases List.mem_singleton.1 hz;rfl) zO ?_;intro A4 c4 w' t' aF be s cC;have aQ:=And.intro ((s.cell_far ⟨g8,0,none⟩ bK Wp.out).trans ai.1) (And.intro ((s.cell_far ⟨U,263,none⟩ bI Wq.out).trans ai.2.1) ((s.cell_far ⟨b9,0,none⟩ bJ Wr.out).trans ai.2.2));have cz:=(s.frozen_far ⟨H,k,none⟩ aZ T3.out).trans a6;have cB:=(s.cell_far ⟨H,k,none⟩ aZ T3.out).trans (RR.out);refine hK.out _ _ aQ (λ_=>?_);clear hK K;simp only[Act.put,List.setIfInBounds_toArray];refine wpAnyH_take (i:=15) (v:=?v15) rfl zK zK zK (λ_ _ _ h=>h) (Or.inl ⟨by rfl,?Vo⟩) aQ ?Vp;case Vo=>intro V hV;go_simp;first|done|with_reducible rfl|rfl
    case Vp=>
    simp only[Act.put];have HP:=hide (xC.push (x:=y) HM.out ht Wo.out Ty.out.2.2.2.1 Wn.out ao hv HO.out aF be s);refine wpAnyH_ready (rs:=[16]) zK zS ?_;refine AllReadyH.cons rfl (λK hK=>?_) AllReadyH.nil
    go_simp
    refine hK.out _ _ ?hS3 (λ_=>?_);case hS3=>grind[World.cell?_setCell_far,trans]
    clear hK K;refine wpAnyH_done zR ?_ _;exact HFin.out w' (.slice A4 ((L k).length+1) c4) s HP.out
   ·clear bQ
    go_simp
    try rw[aO]
    refine hK.out _ _ ai (λ_=>?_);clear hK K;refine wpAnyH_ready (rs:=[11]) zK zS ?_;refine AllReadyH.cons rfl (λK hK=>?_) AllReadyH.nil
    go_simp
    try rw[aO]
    refine hK.out _ _ ai (λ_=>?_);clear hK K;refine wpAnyH_ready (rs:=[14]) zK zS ?_;refine AllReadyH.cons rfl (λK hK=>?_) AllReadyH.nil;refine kK zR (Operand.tmp 82) (Operand.tmp 84) 28 zR (k+1) t 3 i0 (.int .i64 0) 1 8 underlying28 aH bz bx bw rfl zO (.slice Av (L k).length cv) (.slice (some ⟨W.heap.size,0,none⟩) 1 1) (L k).length 1 ((L k).map vN) [vN y] zR HO.out zR zR xB.out (by intro z hz;cases List.mem_singleton.1 hz;rfl) zO ?_;intro A4 c4 w' t' aF be s cC;have aQ:=And.intro ((s.cell_far ⟨g8,0,none⟩ bK Wp.out).trans ai.1) (And.intro ((s.cell_far ⟨U,263,none⟩ bI Wq.out).trans ai.2.1) ((s.cell_far ⟨b9,0,none⟩ bJ Wr.out).trans ai.2.2));have cz:=(s.frozen_far ⟨H,k,none⟩ aZ T3.out).trans a6;have cB:=(s.cell_far ⟨H,k,none⟩ aZ T3.out).trans (RR.out);refine hK.out _ _ aQ (λ_=>?_);clear hK K;simp only[Act.put,List.setIfInBounds_toArray];refine wpAnyH_take (i:=15) (v:=?v15) rfl zK zK zK (λ_ _ _ h=>h) (Or.inl ⟨by rfl,?Vo⟩) aQ ?Vp;case Vo=>intro V hV;go_simp;first|done|with_reducible rfl|rfl
    case Vp=>
    simp only[Act.put];have HP:=hide (xC.push (x:=y) HM.out ht Wo.out Ty.out.2.2.2.1 Wn.out ao hv HO.out aF be s);refine wpAnyH_ready (rs:=[16]) zK zS ?_;refine AllReadyH.cons rfl (λK hK=>?_) AllReadyH.nil
    go_simp
    refine hK.out _ _ ?hS3 (λ_=>?_);case hS3=>grind[World.cell?_setCell_far,trans]
    clear hK K;refine wpAnyH_done zR ?_ _;exact HFin.out w' (.slice A4 ((L k).length+1) c4) s HP.out
  case done=>
   rintro D xs W hD rfl-⟨O,h2,h3⟩ hK;have ay:=rB hm bq aE k k (Nat.le_refl k) zO;have hL:(λj=>if j=k then(jl (nextL (ey ws) ws) (fF ws).word k k).map (λx=>((fF ws).word.getD x (-1)).toNat)else if j<k then ju ws ((ey ws).getD j [])else [])=λj=>if j<k+1 then ju ws ((ey ws).getD j [])else []:=by
    funext j;by_cases e:j=k
    ·subst e;rw[if_pos rfl,if_pos (Nat.lt_succ_self _)];have h:=congrArg (List.map Int.toNat) ay;rw[List.map_map,List.map_map]at h;refine Eq.trans h ?_;rw[show(Int.toNat∘λk:Nat=>(k:Int))=id from rfl,List.map_id]
    grind
   have bZ:=O.more (Z':=[]) (Ext.rf W) (λz hz=>by cases hz);have cO:=hide (Eq.mp (congrArg (λL=>xC w6 D1 U g8 H n (mA (fO f ws) m n (.slice (some ⟨gr,0,none⟩) (n*m) (n*m)) f vs (fG ws:Int) mo (.slice (some ⟨H,0,none⟩) n n)) vs ws [] L W) hL) bZ);have cM:=hide ((show Marks D1.heap.size (Ds.map (λD=>{ target:=.collected D,args:=#[] })) W from⟨Ds,rfl,cH,λq hq=>⟨(bu q hq).1,h3 q hq⟩⟩).cons (D:=D) zO hK (λd hd e=>by
    grind))
   clear bZ hL ay O h2 h3 an aV aJ aI aK;go_wp2_with fail;refine⟨⟨_,_,_,_,_,_,_,_,_,_,_,_,_,_,_,_,_,_,_,_,_,_,_,_,_,_,_,_,⟨k+1,by omega,?hi,cM,cO⟩,rfl⟩,?hm⟩;case hi=>rfl
   case hm=>exact(show n-(k+1)<n-k by omega)
  grind
 ·have bH:¬(k:Int)<(n:Int):=zO;have cx:k=n:=zO;subst cx;have c8:=P1.out.b8.at_ 0 rfl;clear ao;go_wp2_with fail;obtain⟨Ds,rfl,cJ,cI⟩:=HD.out;exact oY (base:=D1.heap.size) (λW=>xC w6 D1 U g8 H k (mA (fO f ws) m k (.slice (some ⟨gr,0,none⟩) (k*m) (k*m)) f vs (fG ws:Int) mo (.slice (some ⟨H,0,none⟩) k k)) vs ws [] (λj=>if j<k then ju ws ((ey ws).getD j [])else []) W)
   (λW W' D h hg hb ho=>h.grown hg (λr e=>by cases e;exact⟨Nat.le_trans (Nat.le_trans h.FZ (Nat.le_of_lt h.PV)) hb,.inl ho⟩) (λz hz=>.inl hz))
   (λW h=>⟨.tuple #[.pointer (some ⟨U,0,none⟩),.int .i64 0],by simp[results,results37],eY.mk (HEX.out.tr h.ext) ⟨U,rfl,Nat.le_trans HEX.out.size aL,M3 hr Hm.out bD aa h⟩⟩) Ds wr cJ cI P1.out
end Go.Proofs.YtofgfpffcegioaaGreat
