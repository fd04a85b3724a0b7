/- A part of the proof. -/
import Derived.Test.YtofgfpffcegioaaGreatZf22
set_option maxRecDepth 100000
set_option maxHeartbeats 8000000
namespace Go.Proofs.YtofgfpffcegioaaGreat
open Go.RowKit Go.Shelf iT jH Go.Proofs.Tryz
open Bool renaming false → bp
open Go renaming World → br,undef → bt,Value → bu,Calls → bz,bodyPost_ret → bD
open Go.Operand renaming tmp → bJ
open Go.Proofs.Tryz renaming prog → bG,underlying22 → bI
open Go.RowKit renaming Below → bA,intOf → bB
open Go.RowKit.Below renaming heap_setCell → bk
open Go.Value renaming bool → bw,int → bE
open Go.World renaming size_alloc → bl
open Go.World.grownBy renaming refl → bq
open List renaming take_succ_eq_append_getElem → bm,mem_singleton → bx,getElem_mem → bH
open Nat renaming le_refl → bo,le_trans → bC
open Option renaming none → bn,some → bF
section
attribute [local go_sem] Oper.semAt_some
def IG(b s h d:Nat)(pre:List (Bool×UInt8))(W:br):Prop:=
 pG W b (lK (1,0,[]) pre).2.2∧Box W s 389 #[.map (bF b)]∧Box W h 3 #[iV ((lK (1,0,[]) pre).1:Int)]∧Box W d 3 #[iV ((lK (1,0,[]) pre).2.1:Int)]
theorem pG.ext{w d:br}{b:Nat}{l:Tab}(h:pG w b l)(s:Ext w d):pG d b l:=h.same (s.block b h.lt)
theorem kH.wide{K s:Nat→Prop}{d:LL}{v:bu}{w:br}(h:kH K d v w)(O:∀k,K k→s k):kH s d v w:=by
 obtain⟨A,c,I,H,E,T⟩:=h;refine⟨A,c,I,H,E,λJ=>?_⟩;grind
theorem kR{K:Nat→Prop}{W:br}(p:Addr)(u:bu)(d:¬K p.block):ia K W (W.setCell p u):=⟨by simp,λk h=>bk W p u k (λe=>d (e▸h))⟩
theorem tS{K:Nat→Prop}{W W':br}{r:Nat}(d:W.grownBy W' (bF r))(E:∀k,K k→k<W.heap.size)(h:¬K r):ia K W W':=⟨d.size,λk s=>d.block k (E k s) (λe=>h zG)⟩
theorem Lj(B b H E h:Nat)(hb:b<B)(h5:H<B)(h6:E<B)(h7:h<B):OwnFrom B (IG b H E h):=by
 intro s W W' U V Y hr;obtain⟨T,O,J,I⟩:=V;have d:∀g,g<B→g<W.heap.size→W'.heap[g]?=W.heap[g]?:=λg hB hW=>Y.block g hW (λe=>by grind);exact⟨T.same (d b hb T.lt),(d H h5 O.lt).trans O,(d E h6 J.lt).trans J,(d h h7 I.lt).trans I⟩
theorem Ez(H:Bool)(ws:LL)(v:bu)(w:br)(hP:eD ws v w)(bd:ws.flatten.length≤1000000):bz bG 218 #[.bool H,v] w (eB w (eC (iV (fj H ws:Int)))):=by
 have bb:=hP;obtain⟨A,c,rfl,bi,a9,-⟩:=eD.form hP;unfold maxLen at a9;clear hP;refine(callsIn_wide (n:=9)).1 ?_;have h1:1≤9:=zO;refine callsIn_of_wp_marks func218 rfl trivial ?_ rfl;simp only[ntmps218,List.size_toArray,List.length_cons,List.length_nil,Nat.reduceAdd,Nat.reduceSub,Array.replicate_succ,Array.replicate_zero,List.push_toArray,List.append_toArray,List.nil_append,List.cons_append];have a2:(Instr.makeMap 389 bn).run bG w=.ok (.map (bF w.heap.size)) (w.alloc (.map #[] 0)):=by simp[Instr.makeMap,newObj,Sem.run]
 gi_wp2_with (refine⟨trivial,?_⟩;gi_at_call 262;refine(callsIn_wide.2 (vS _ _ _ _ _)).mono ?_;rintro e w2 ⟨rfl,rfl⟩)
 clear a2;obtain⟨s,hs⟩:∃s,w.heap.size=s:=⟨_,rfl⟩
 have aV:=pG.made w;have aR:Ext w (w.alloc (.map #[] 0)):=ek _ _;have J:=Box.new (w.alloc (.map #[] 0)) 389 #[.map (bF w.heap.size)];have aE:Ext (w.alloc (.map #[] 0)) ((w.alloc (.map #[] 0)).alloc (.cells #[.map (bF w.heap.size)] 389)):=ek _ _;have I:=Box.new ((w.alloc (.map #[] 0)).alloc (.cells #[.map (bF w.heap.size)] 389)) 3 #[iV 1];have aB:Ext ((w.alloc (.map #[] 0)).alloc (.cells #[.map (bF w.heap.size)] 389)) (((w.alloc (.map #[] 0)).alloc (.cells #[.map (bF w.heap.size)] 389)).alloc (.cells #[iV 1] 3)):=ek _ _;have d:=Box.new (((w.alloc (.map #[] 0)).alloc (.cells #[.map (bF w.heap.size)] 389)).alloc (.cells #[iV 1] 3)) 3 #[iV 0];have au:Ext (((w.alloc (.map #[] 0)).alloc (.cells #[.map (bF w.heap.size)] 389)).alloc (.cells #[iV 1] 3)) ((((w.alloc (.map #[] 0)).alloc (.cells #[.map (bF w.heap.size)] 389)).alloc (.cells #[iV 1] 3)).alloc (.cells #[iV 0] 3)):=ek _ _;obtain⟨W4,aM⟩:∃W4,((((w.alloc (.map #[] 0)).alloc (.cells #[.map (bF w.heap.size)] 389)).alloc (.cells #[iV 1] 3)).alloc (.cells #[iV 0] 3))=W4:=⟨_,rfl⟩
 have aw:=((aV.ext aE).ext aB).ext au;have ar:=(J.ext aB).ext au;have aq:=I.ext au;have aO:=((aR.tr aE).tr aB).tr au;have aD:W4.heap.size=s+1+1+1+1:=by rw[←aM,←hs];simp
 rw[bl]at ar;rw[bl,bl]at aq;rw[bl,bl,bl]at d;rw[aM]at aw ar aq d aO ⊢;clear aV aR J aE I aB au aM;have aC:=Box.new W4 4 #[.bool H];have aK:=Box.new (W4.alloc (.cells #[.bool H] 4)) 22 #[.slice A ws.length c];rw[bl]at aK;have an:Ext W4 (W4.alloc (.cells #[.bool H] 4)):=ek _ _;have ag:Ext (W4.alloc (.cells #[.bool H] 4)) ((W4.alloc (.cells #[.bool H] 4)).alloc (.cells #[.slice A ws.length c] 22)):=ek _ _;have aC:=aC.ext ag;have aw:=(aw.ext an).ext ag;have ar:=(ar.ext an).ext ag;have aq:=(aq.ext an).ext ag;have d:=(d.ext an).ext ag;have aW:=(aO.tr an).tr ag;have be:((W4.alloc (.cells #[.bool H] 4)).alloc (.cells #[.slice A ws.length c] 22)).heap.size=s+1+1+1+1+1+1:=by simp[aD]
 rw[aD]at aC aK;generalize(W4.alloc (.cells #[.bool H] 4)).alloc (.cells #[.slice A ws.length c] 22)=W0 at*;rw[hs]at aw ar aq d ⊢;clear an ag aO aD;have aa:∀k,(k<s∨k=s+1+1+1+1)→k<W0.heap.size:=λk hk=>by omega
 have ba:kH (λk=>k<s∨k=s+1+1+1+1) ws (.slice A ws.length c) W0:=kH.wide (Ey (K:=λk=>k<s) (kH.of bb λk hk=>by omega) aW (λk hk=>by omega)) (λk hk=>Or.inl hk);refine wpIn_rangeFunc_ownG (F:=Fence.wide) rfl h1 (gf:=292) (lb:=#[gP (s+1+1+1+1+1),gP (s+1+1+1+1)]) rfl trivial (enters_of func292 zK rfl)
  (IF 8 zO (s+1+1+1+1+1) (s+1+1+1+1) (λk=>k<s∨k=s+1+1+1+1) (Or.inr rfl) H ws _ W0 ba (aK.at_ 0 rfl) (aC.at_ 0 rfl) aa) ia.t (N6 aa) (Below.refl _ _) (λ_=>rfl)
  (λam W=>IG s (s+1) (s+1+1) (s+1+1+1) am W∧bA s w W∧W0.heap.size≤W.heap.size) (λ_ _ _=>False)
  (OwnFrom.and (Lj W0.heap.size _ _ _ _ zO zO zO zO) (OwnFrom.and (ownFrom_below zO zO) (λ_ _ _ _ hs hg _=>bC hs hg.size)))
  (λ_ _ _ _ _ hs _ _=>hs) ⟨⟨aw,ar,aq,d⟩,by rw[←hs];exact aW,bo _⟩
  (λx=>{ tmps:=#[.bool H,.slice A ws.length c,bt,bt,iV 0,gP (s+1),gP (s+1+1),gP (s+1+1+1),.bool x.1,.int .u8 (x.2.toNat:Int),bt,bt,bt,
   .map (bF s),.bool H,.slice A ws.length c,.func (.func 292) #[] #[gP (s+1+1+1+1+1),gP (s+1+1+1+1)],.bool x.1,.int .u8 (x.2.toNat:Int),
   bt,bt,bt,bt,bt,bt,bt,bt,bt,bt,bt,bt,bt,bt,bt,bt,bt,bt,bt,bt],defers:=[] }) ?assign ?body ?done ?stop
 case assign=>
  intro l x W K hK;unfold Li;gi_wp2;exact hK
 case body=>
  rintro l am ⟨first,ch⟩ W ⟨⟨hM,J,I,d⟩,hB,aL⟩ a1;have a3:=(Nw (1,0,[]) am).1;rw[By]at a1;have aS:=yn (1,0,[]) am (first,ch);generalize lK (1,0,[]) am=st at*;obtain⟨E,U,aQ⟩:=st;dsimp only at*;have bg:E≤1000001:=zO;have DW:=hide aS;clear aS;cases first
  ·have av:=hM;have ad:=J;have ab:=I;have V:=d;have ap:bA s w W:=hB;have ae:=KeepsFrom.refl W0.heap.size W;have Y:=ia.rf (λk=>k<s∨k=s+1+1+1+1) W;clear hM J I d hB;have hX:Ext W (W.alloc (.cells #[iV U,.int .u8 (ch.toNat:Int)] 394)):=ek _ _;have aj:=Box.new W 394 #[iV U,.int .u8 (ch.toNat:Int)];have ak:=av.ext hX;have J:=ad.ext hX;have I:=ab.ext hX;have d:=V.ext hX;have al:=ap.trans (Below.mono hX zO);have af:=ae.trans ((KeepsOthers.alloc _ (.cells #[iV U,.int .u8 (ch.toNat:Int)] 394)).from _);have az:=Y.t (ia.vP hX (λk hk=>Nat.lt_of_lt_of_le (aa k hk) (bC aL Y.1)));have O:=ak.lookup (U,ch);have a8:=J.at_ 0 rfl;have aJ:=I.at_ 0 rfl;have aI:=d.at_ 0 rfl;have aH:=I.frozen 0;have aG:=d.frozen 0;have a7:=aj.at_ 0 rfl;have aU:=V.at_ 0 rfl;have a6:=aj.at_ 1 rfl;clear hX av ad ab V ap ae Y aj;cases hf:lu aQ (U,ch)with
   |some j=>
    rw[hf]at O;unfold kp at O;dsimp only at O;gi_wp2;refine⟨af.trans ((KeepsOthers.setCell (W.alloc (.cells #[iV U,.int .u8 (ch.toNat:Int)] 394)) ⟨s+1+1+1,0,bn⟩ (iV j)).from _),az.t (kR _ _ (by simp only;omega)),⟨?_,al.setCell (p:=⟨s+1+1+1,0,bn⟩) (by simp only;omega) _,by simp;omega⟩⟩;unfold IG;rw[DW.out];unfold mZ;dsimp only;simp only[if_false,Bool.false_eq_true];rw[hf];exact⟨ak.same (bk _ _ _ _ (by simp only;omega)),(bk _ _ _ _ (by simp only;omega)).trans J,(bk _ _ _ _ (by simp only;omega)).trans I,d.eL 0 _⟩
   |none=>
    rw[hf]at O;obtain⟨w3,ao,aN,T,aX,-⟩:=ak.push (U,ch) E hf;unfold kp at O ao;dsimp only at O ao;have aF:=(T.block (s+1) J.lt zS).trans J;have ai:Box w3 (s+1+1) 3 #[iV E]:=(T.block (s+1+1) I.lt zT).trans I;have ah:Box w3 (s+1+1+1) 3 #[iV U]:=(T.block (s+1+1+1) d.lt zT).trans d;have aZ:=ai.at_ 0 rfl;have aY:=ah.at_ 0 rfl;have a5:=ai.frozen 0;have a4:=ah.frozen 0;have aA:=af.trans (KeepsFrom.of_grownBy (B:=W0.heap.size) T (λj e=>by cases e;omega));have ay:=az.t (tS T (λk hk=>by have:=aa k hk;have:=af.size;omega) zO);have aP:=al.grown T (by have:=al.size;omega) (λk e=>by cases e;exact bo _);clear aI aH aG;gi_wp2;refine⟨(aA.trans ((KeepsOthers.setCell w3 ⟨s+1+1,0,bn⟩ (iV ((E:Int)+1))).from _)).trans ((KeepsOthers.setCell _ ⟨s+1+1+1,0,bn⟩ (iV E)).from _),(ay.t (kR _ _ (by simp only;omega))).t (kR _ _ (by simp only;omega)),⟨?_,(aP.setCell (p:=⟨s+1+1,0,bn⟩) (by simp only;omega) _).setCell (p:=⟨s+1+1+1,0,bn⟩) (by simp only;omega) _,by have:=aA.size;simp;omega⟩⟩;unfold IG;rw[DW.out];unfold mZ;dsimp only;simp only[if_false,Bool.false_eq_true];rw[hf];dsimp only;rw[show((E+1:Nat):Int)=(E:Int)+1 by omega];exact⟨aN.same ((bk _ _ _ _ (by simp only;omega)).trans (bk _ _ _ _ (by simp only;omega))),((bk _ _ _ _ (by simp only;omega)).trans (bk _ _ _ _ (by simp only;omega))).trans aF,(bk _ _ _ _ (by simp only;omega)).trans (ai.eL 0 _),Box.eL ((bk _ _ _ _ (by simp only;omega)).trans ah) 0 _⟩
  ·have av:=hM.same (bk W ⟨s+1+1+1,0,bn⟩ (iV 0) s (by simp only;omega));have ad:Box (W.setCell ⟨s+1+1+1,0,bn⟩ (iV 0)) _ _ _:=(bk W ⟨s+1+1+1,0,bn⟩ (iV 0) (s+1) (by simp only;omega)).trans J;have ab:Box (W.setCell ⟨s+1+1+1,0,bn⟩ (iV 0)) (s+1+1) 3 #[iV E]:=(bk W ⟨s+1+1+1,0,bn⟩ (iV 0) (s+1+1) (by simp only;omega)).trans I;have V:=d.eL 0 (iV 0);have ap:=hB.setCell (p:=⟨s+1+1+1,0,bn⟩) (by simp only;omega) (iV 0);have ae:=(KeepsOthers.setCell W ⟨s+1+1+1,0,bn⟩ (iV 0)).from W0.heap.size;have Y:ia (λk=>k<s∨k=s+1+1+1+1) W (W.setCell ⟨s+1+1+1,0,bn⟩ (iV 0)):=kR _ _ (by simp only;omega);have bf:=d.at_ 0 rfl;have bh:=d.frozen 0;clear hM J I d hB;have hX:Ext (W.setCell ⟨s+1+1+1,0,bn⟩ (iV 0)) ((W.setCell ⟨s+1+1+1,0,bn⟩ (iV 0)).alloc (.cells #[iV 0,.int .u8 (ch.toNat:Int)] 394)):=ek _ _;have aj:=Box.new (W.setCell ⟨s+1+1+1,0,bn⟩ (iV 0)) 394 #[iV 0,.int .u8 (ch.toNat:Int)];have ak:=av.ext hX;have J:=ad.ext hX;have I:=ab.ext hX;have d:=V.ext hX;have al:=ap.trans (Below.mono hX (by have:=ap.size;omega));have af:=ae.trans ((KeepsOthers.alloc _ (.cells #[iV 0,.int .u8 (ch.toNat:Int)] 394)).from _);have az:=Y.t (ia.vP hX (λk hk=>Nat.lt_of_lt_of_le (aa k hk) (bC aL Y.1)));have O:=ak.lookup (0,ch);have a8:=J.at_ 0 rfl;have aJ:=I.at_ 0 rfl;have aI:=d.at_ 0 rfl;have aH:=I.frozen 0;have aG:=d.frozen 0;have a7:=aj.at_ 0 rfl;have aU:=V.at_ 0 rfl;have a6:=aj.at_ 1 rfl;clear hX av ad ab V ap ae Y aj;cases hf:lu aQ (0,ch)with
   |some j=>
    rw[hf]at O;unfold kp at O;dsimp only at O;rw[show((0:Nat):Int)=0 from rfl]at O;gi_wp2;refine⟨af.trans ((KeepsOthers.setCell ((W.setCell ⟨s+1+1+1,0,bn⟩ (iV 0)).alloc (.cells #[iV 0,.int .u8 (ch.toNat:Int)] 394)) ⟨s+1+1+1,0,bn⟩ (iV j)).from _),az.t (kR _ _ (by simp only;omega)),⟨?_,al.setCell (p:=⟨s+1+1+1,0,bn⟩) (by simp only;omega) _,by have:=af.size;simp;omega⟩⟩;unfold IG;rw[DW.out];unfold mZ;dsimp only;simp only[if_true];rw[hf];exact⟨ak.same (bk _ _ _ _ (by simp only;omega)),(bk _ _ _ _ (by simp only;omega)).trans J,(bk _ _ _ _ (by simp only;omega)).trans I,d.eL 0 _⟩
   |none=>
    rw[hf]at O;obtain⟨w3,ao,aN,T,aX,-⟩:=ak.push (0,ch) E hf;unfold kp at O ao;dsimp only at O ao;rw[show((0:Nat):Int)=0 from rfl]at O ao;have aF:=(T.block (s+1) J.lt zS).trans J;have ai:Box w3 (s+1+1) 3 #[iV E]:=(T.block (s+1+1) I.lt zT).trans I;have ah:Box w3 (s+1+1+1) 3 #[iV 0]:=(T.block (s+1+1+1) d.lt zT).trans d;have aZ:=ai.at_ 0 rfl;have aY:=ah.at_ 0 rfl;have a5:=ai.frozen 0;have a4:=ah.frozen 0;have aA:=af.trans (KeepsFrom.of_grownBy (B:=W0.heap.size) T (λj e=>by cases e;omega));have ay:=az.t (tS T (λk hk=>by have:=aa k hk;have:=af.size;omega) zO);have aP:=al.grown T (by have:=al.size;omega) (λk e=>by cases e;exact bo _);clear aI aH aG;gi_wp2;refine⟨(aA.trans ((KeepsOthers.setCell w3 ⟨s+1+1,0,bn⟩ (iV ((E:Int)+1))).from _)).trans ((KeepsOthers.setCell _ ⟨s+1+1+1,0,bn⟩ (iV E)).from _),(ay.t (kR _ _ (by simp only;omega))).t (kR _ _ (by simp only;omega)),⟨?_,(aP.setCell (p:=⟨s+1+1,0,bn⟩) (by simp only;omega) _).setCell (p:=⟨s+1+1+1,0,bn⟩) (by simp only;omega) _,by have:=aA.size;simp;omega⟩⟩;unfold IG;rw[DW.out];unfold mZ;dsimp only;simp only[if_true];rw[hf];dsimp only;rw[show((E+1:Nat):Int)=(E:Int)+1 by omega];exact⟨aN.same ((bk _ _ _ _ (by simp only;omega)).trans (bk _ _ _ _ (by simp only;omega))),((bk _ _ _ _ (by simp only;omega)).trans (bk _ _ _ _ (by simp only;omega))).trans aF,(bk _ _ _ _ (by simp only;omega)).trans (ai.eL 0 _),Box.eL ((bk _ _ _ _ (by simp only;omega)).trans ah) 0 _⟩
 case done=>
  rintro D ys W hD rfl ⟨⟨hM,J,I,d⟩,hB,aL⟩ hK;have aT:=BA H ws;have aJ:=I.at_ 0 rfl;have bj:s≤D:=zO;clear hM J d;rw[aT]at aJ;gi_wp2;refine⟨by simp,.inl ⟨_,_,rfl,run_takeDeferred hK,?_⟩⟩;refine⟨iV (fj H ws:Int),by simp[results,results218,go_sem],?_⟩;have bc:Ext w W:=by rw[←hs]at hB;exact hB
  exact eB.mk (bc.trans (belowK_b (w:=w) (bo _) _ D _ _ zO hK rfl rfl)) rfl
 case stop=>
  rintro D c am W _ _ h _;exact h.elim
end
structure vT where
 a:Nat
 b:Nat
 l:Nat
 s:Nat
def vT.put(c:vT)(n:Nat):vT:=⟨c.a+1,c.b+n,max c.l n,if c.a=0∨n<c.s then n else c.s⟩
def mH(c:vT)(h d:bu):AV:=#[iV (c.a:Int),iV (c.b:Int),iV (c.l:Int),iV (c.s:Int),h,d]
theorem lZ{w s:br}{g:Nat}(h:w.grownBy s (bF g))(o:Nat)(v:bu):w.grownBy (s.setCell ⟨g,o,bn⟩ v) (bF g):=
 ⟨h.os,h.tape,h.output,by simpa using h.size,λk E d=>(bk s ⟨g,o,bn⟩ v k (λe=>d (by rw[e]))).trans (h.block k E d)⟩
theorem count_any(c:vT)(g:Nat)(V U:bu)(A:Option Addr)(n d:Nat)(w:br)(h:Box w g 287 (mH c V U))(ha:c.a≤1000000)(W:c.b≤1000000)(hl:c.l≤1000000)(hs:c.s≤1000000)(Y:n≤1000000) :
  bz bG 159 #[gP g,.slice A n d] w (λe T=>e=.returned (.tuple #[])∧w.grownBy T (bF g)∧Box T g 287 (mH (c.put n) V U)):=by
 obtain⟨a,b,l,s⟩:=c;unfold mH at h;dsimp only at*;have h0:=h.at_ 0 rfl;have h1:=h.at_ 1 rfl;have h2:=h.at_ 2 rfl;have h3:=h.at_ 3 rfl;have f0:=h.frozen 0;have f1:=h.frozen 1;have f2:=h.frozen 2;have f3:=h.frozen 3;have H:=hide h;clear h;go_enter func159,ntmps159;by_cases hm:(l:Int)<(n:Int)
 ·by_cases E:a=0
  ·subst E;go_wp2
   go_end0
   refine⟨rfl,lZ (lZ (lZ (lZ (bq w _) 3 _) 2 _) 0 _) 1 _,?_⟩;have I:=(((H.out.eL 3 (iV n)).eL 2 (iV n)).eL 0 (iV 1)).eL 1 (iV ((b:Int)+(n:Int)));unfold mH vT.put;grind
  have J:((a:Int)==0)=false:=zG;by_cases O:(n:Int)<(s:Int)
  ·go_wp2
   go_end0
   refine⟨rfl,lZ (lZ (lZ (lZ (bq w _) 3 _) 2 _) 0 _) 1 _,?_⟩;have I:=(((H.out.eL 3 (iV n)).eL 2 (iV n)).eL 0 (iV ((a:Int)+1))).eL 1 (iV ((b:Int)+(n:Int)));unfold mH vT.put;grind
  ·go_wp2
   go_end0
   refine⟨rfl,lZ (lZ (lZ (bq w _) 2 _) 0 _) 1 _,?_⟩;have I:=((H.out.eL 2 (iV n)).eL 0 (iV ((a:Int)+1))).eL 1 (iV ((b:Int)+(n:Int)));unfold mH vT.put;grind
 ·by_cases E:a=0
  ·subst E;go_wp2
   go_end0
   refine⟨rfl,lZ (lZ (lZ (lZ (bq w _) 3 _) 2 _) 0 _) 1 _,?_⟩;have I:=(((H.out.eL 3 (iV n)).eL 2 (iV l)).eL 0 (iV 1)).eL 1 (iV ((b:Int)+(n:Int)));unfold mH vT.put;grind
  have J:((a:Int)==0)=false:=zG;by_cases O:(n:Int)<(s:Int)
  ·go_wp2
   go_end0
   refine⟨rfl,lZ (lZ (lZ (lZ (bq w _) 3 _) 2 _) 0 _) 1 _,?_⟩;have I:=(((H.out.eL 3 (iV n)).eL 2 (iV l)).eL 0 (iV ((a:Int)+1))).eL 1 (iV ((b:Int)+(n:Int)));unfold mH vT.put;grind
  ·go_wp2
   go_end0
   refine⟨rfl,lZ (lZ (lZ (bq w _) 2 _) 0 _) 1 _,?_⟩;have I:=((H.out.eL 2 (iV l)).eL 0 (iV ((a:Int)+1))).eL 1 (iV ((b:Int)+(n:Int)));unfold mH vT.put;grind
section
theorem Ll(c:vT)(q g:Nat)(H E:bu)(w:br)(h:Box w q 350 #[gP g])(d:Box w g 287 (mH c H E)):bz bG 212 #[gP q] w (eB w (eC (.bool (decide ((c.a:Int)=0))))):=by
 obtain⟨a,b,l,s⟩:=c;unfold mH at d;dsimp only at*;have J:=d.at_ 0 rfl;have I:=h.at_ 0 rfl;clear d h;go_enter func212,ntmps212;go_wp2;go_ret;exact eB.mk (Ext.rf _) (congrArg bw zR)
theorem Lm(c:vT)(q g:Nat)(H E:bu)(w:br)(h:Box w q 350 #[gP g])(d:Box w g 287 (mH c H E)):bz bG 213 #[gP q] w (eB w (eC (.bool (decide (64<(c.a:Int)))))):=by
 obtain⟨a,b,l,s⟩:=c;unfold mH at d;dsimp only at*;have J:=d.at_ 0 rfl;have I:=h.at_ 0 rfl;clear d h;go_enter func213,ntmps213;go_wp2;go_ret;exact eB.mk (Ext.rf _) (congrArg bw zR)
theorem Ln(c:vT)(q g:Nat)(H E:bu)(w:br)(h:Box w q 350 #[gP g])(d:Box w g 287 (mH c H E)):bz bG 214 #[gP q] w (eB w (eC (.bool (decide ((c.s:Int)=0))))):=by
 obtain⟨a,b,l,s⟩:=c;unfold mH at d;dsimp only at*;have J:=d.at_ 3 rfl;have I:=h.at_ 0 rfl;clear d h;go_enter func214,ntmps214;go_wp2;go_ret;exact eB.mk (Ext.rf _) (congrArg bw zR)
theorem Lo(c:vT)(q g:Nat)(H E:bu)(w:br)(h:Box w q 350 #[gP g])(d:Box w g 287 (mH c H E)):bz bG 215 #[gP q] w (eB w (eC (.bool (decide (32<(c.l:Int)))))):=by
 obtain⟨a,b,l,s⟩:=c;unfold mH at d;dsimp only at*;have J:=d.at_ 2 rfl;have I:=h.at_ 0 rfl;clear d h;go_enter func215,ntmps215;go_wp2;go_ret;exact eB.mk (Ext.rf _) (congrArg bw zR)
theorem Lp(c:vT)(q g:Nat)(H E:bu)(w:br)(h:Box w q 350 #[gP g])(d:Box w g 287 (mH c H E)):bz bG 216 #[gP q] w (eB w (eC (.bool (decide (600<(c.b:Int)))))):=by
 obtain⟨a,b,l,s⟩:=c;unfold mH at d;dsimp only at*;have J:=d.at_ 1 rfl;have I:=h.at_ 0 rfl;clear d h;go_enter func216,ntmps216;go_wp2;go_ret;exact eB.mk (Ext.rf _) (congrArg bw zR)
attribute [local irreducible] ew ed in
theorem Lq(c:vT)(q g:Nat)(d:Bool)(ws:LL)(sv:bu)(w:br)(hP:eD ws sv w)(T:ws.flatten.length≤1000000)(V:Box w q 350 #[gP g])(U:Box w g 287 (mH c (.bool d) sv)):bz bG 217 #[gP q] w (eB w (eC (.bool (decide (400<(fj d ws:Int)))))):=by
 obtain⟨a,b,l,s⟩:=c;unfold mH at U;dsimp only at*;have O:=λu v W (J:u=bw d) (I:eD ws v W)=>show bz bG 218 #[u,v] W _ from J▸Ez d ws v W I T;generalize fj d ws=nd at*;go_enter func217,ntmps217;by_cases hx:(400:Int)<(nd:Int)
 ·rw[decide_eq_true hx];go_upto_region 1 with(fail)
  refine vQ 10 (.g ?_);refine ed.gG 350 _ rfl wA oA (λ_=>by rfl) (V.at_ 0 rfl) (eh _) (.g ?_);refine ed.gG 4 _ rfl wA oA (λ_=>by rfl) (U.at_ 4 rfl) (eh _) ?_;refine ed.gG 350 _ rfl wA oA (λ_=>by rfl) (V.at_ 0 rfl) (eh _) (.g ?_);refine ed.jQ (F:=eD ws) 22 _ rfl wA oA (λ_=>by rfl) (U.at_ 5 rfl) hP (eh _) ?_;refine ed.call2 218 _ _ _ rfl (enters_of func218 zR rfl) wA oA oA (λu v W hX J I=>O u v W J I) ?_;refine ed.KS _ _ _ _ rfl wA oA (eE _) zO (.g ?_);intro W1 E;refine .any λH h=>?_;refine .e ?_;clear h;have Y:=((eh _).tr E)
  go_wp2;go_ret;exact eB.mk Y rfl
 ·rw[decide_eq_false hx];go_upto_region 1 with(fail)
  refine vQ 10 (.g ?_);refine ed.gG 350 _ rfl wA oA (λ_=>by rfl) (V.at_ 0 rfl) (eh _) (.g ?_);refine ed.gG 4 _ rfl wA oA (λ_=>by rfl) (U.at_ 4 rfl) (eh _) ?_;refine ed.gG 350 _ rfl wA oA (λ_=>by rfl) (V.at_ 0 rfl) (eh _) (.g ?_);refine ed.jQ (F:=eD ws) 22 _ rfl wA oA (λ_=>by rfl) (U.at_ 5 rfl) hP (eh _) ?_;refine ed.call2 218 _ _ _ rfl (enters_of func218 zR rfl) wA oA oA (λu v W hX J I=>O u v W J I) ?_;refine ed.Ei _ _ _ _ rfl wA oA (eE _) zO (.g ?_);intro W1 E;refine .any λH h=>?_;refine .e ?_;clear h;have Y:=((eh _).tr E)
  go_wp2;go_ret;exact eB.mk Y rfl
def IH(k:FuncId)(q:Nat):Value:=.func (.func k) #[] #[gP q]
def tT(q:Nat):AV:=#[iV 50,IH 212 q,iV 51,IH 213 q,iV 52,IH 214 q,iV 53,IH 215 q,iV 54,IH 216 q,iV 55,IH 217 q]
theorem Lr(g:Nat)(w:br):bz bG 160 #[gP g] w λe d=>e=.returned (.slice (bF ⟨w.heap.size+1,0,bn⟩) 6 6)∧d=(w.alloc (.cells #[gP g] 350)).alloc (.cells (tT w.heap.size) 292):=by
 unfold tT IH;go_enter func160,ntmps160;go_wp2;go_ret;simp_all
end
def oJ(ws:LL):vT:=ws.foldl (λc w=>c.put w.length) ⟨0,0,0,0⟩
theorem yM(ws:LL)(k:Nat)(h:k<ws.length):oJ (ws.take (k+1))=(oJ (ws.take k)).put ws[k].length:=by
 grind[oJ,bm]
theorem vU(ws:LL):∀k,k≤ws.length→(oJ (ws.take k)).a=k∧(oJ (ws.take k)).b=(ws.take k).flatten.length∧(oJ (ws.take k)).l≤(oJ (ws.take k)).b∧(oJ (ws.take k)).s≤(oJ (ws.take k)).b∧
  (32<(oJ (ws.take k)).l↔∃w∈ws.take k,32<w.length)∧(0<k→((oJ (ws.take k)).s=0↔∃w∈ws.take k,w=[])):=by
 intro k
 induction k with
 |zero=>grind[oJ]
 |succ k H=>
  intro O;obtain⟨Y,W,V,U,J,T⟩:=H zO;have E:k<ws.length:=zO;rw[yM ws k E,yK ws k E];have d:∀p:L8→Prop,(∃w∈ws.take (k+1),p w)↔(∃w∈ws.take k,p w)∨p ws[k]:=λp=>by
   grind[bm,bx]
  have h:ws[k]=[]↔ws[k].length=0:=⟨λe=>by grind,λe=>List.eq_nil_of_length_eq_zero e⟩
  rw[d (λw=>32<w.length),d (λw=>w=[]),←J,h];generalize oJ (ws.take k)=c at*;unfold vT.put;dsimp only;refine⟨by omega,by omega,by omega,?_,by omega,λ_=>?_⟩
  ·grind
  ·by_cases I:k=0
   ·grind
   grind
def jR(c:vT)(nd:Nat):Nat→Bool
 |0=>decide ((c.a:Int)=0)
 |1=>decide (64<(c.a:Int))
 |2=>decide ((c.s:Int)=0)
 |3=>decide (32<(c.l:Int))
 |4=>decide (600<(c.b:Int))
 |_=>decide (400<(nd:Int))
theorem tU(_:Bool)(ws:LL)(cs:vT)(h:oJ ws=cs):cs.a=ws.length∧cs.b=ws.flatten.length∧(32<cs.l↔∃w∈ws,32<w.length)∧(0<ws.length→(cs.s=0↔∃w∈ws,w=[])):=by
 obtain⟨I,H,_,_,E,s⟩:=vU ws ws.length (bo _);grind
theorem ks(d:Bool)(ws:LL)(cs:vT)(nd:Nat)(U:oJ ws=cs)(Y:fj d ws=nd)(k:Nat)(hk:k<6)(T:∀i,i<k→jR cs nd i=bp)(J:jR cs nd k=true):fX d ws=50+(k:Int):=by
 obtain⟨h1,h2,W,V⟩:=tU d ws cs U;unfold fX;have s:0<k→¬ws.length=0:=λh=>by grind[jR]
 have E:1<k→¬64<ws.length:=λh=>by grind[jR]
 have H:2<k→¬∃w∈ws,w=[]:=λh=>by grind[jR]
 have I:3<k→¬∃w∈ws,32<w.length:=λh=>by grind[jR]
 have O:4<k→¬600<ws.flatten.length:=λh=>by grind[jR]
 rcases k with _|_|_|_|_|_|k
 ·simp_all[jR]
 ·rw[if_neg (s zO),if_pos (by grind[jR])];rfl
 ·rw[if_neg (s zO),if_neg (E zO),if_pos ((V zO).1 (by grind[jR]))];rfl
 ·rw[if_neg (s zO),if_neg (E zO),if_neg (H zO),if_pos (W.1 (by grind[jR]))];rfl
 ·rw[if_neg (s zO),if_neg (E zO),if_neg (H zO),if_neg (I zO),if_pos (by grind[jR])];rfl
 ·rw[if_neg (s zO),if_neg (E zO),if_neg (H zO),if_neg (I zO),if_neg (O zO),if_pos (by grind[jR])];rfl
 ·omega
theorem EA(d:Bool)(ws:LL)(cs:vT)(nd:Nat)(s:oJ ws=cs)(U:fj d ws=nd)(h:∀i,i<6→jR cs nd i=bp):fX d ws=0:=by
 obtain⟨h1,Y,W,V⟩:=tU d ws cs s;unfold fX;have T:¬ws.length=0:=by have:=h 0 zO;grind[jR]
 have O:¬64<ws.length:=by have:=h 1 zO;grind[jR]
 have J:¬∃w∈ws,w=[]:=by have:=h 2 zO;grind[jR]
 have I:¬∃w∈ws,32<w.length:=by have:=h 3 zO;grind[jR]
 have H:¬600<ws.flatten.length:=by have:=h 4 zO;grind[jR]
 have E:¬400<fj d ws:=by have:=h 5 zO;grind[jR]
 grind
theorem EB(d:Bool)(ws:LL)(v:bu)(w:br)(hP:eD ws v w)(aw:ws.flatten.length≤1000000)(hn:ws.length≤1000000):bz bG 103 #[.bool d,v] w (eB w (eC (iV (fX d ws)))):=by
 have ak:=hP;obtain⟨A,c,rfl,aI,aD,hx⟩:=eD.form hP;unfold maxLen at aD;clear hP;have hb:=Box.new w 287 #[iV 0,iV 0,iV 0,iV 0,.bool d,.slice A ws.length c];have hX:Ext w (w.alloc (.cells #[iV 0,iV 0,iV 0,iV 0,.bool d,.slice A ws.length c] 287)):=ek _ _;have HB:=hide hb;have HX:=hide hX;clear hb hX;go_enter func103,ntmps103;go_wp2
 go_loopw [15] (λi wr=>∃k:Nat,k≤ws.length∧i=iV k∧Hid (Box wr w.heap.size 287 (mH (oJ (ws.take k)) (.bool d) (.slice A ws.length c)))∧Hid (bA w.heap.size w wr)) (λi _=>ws.length-(bB i).toNat)
 case atStart=>exact⟨0,by omega,rfl,HB,HX⟩
 case round=>
  clear HB HX;obtain⟨k,hk,rfl,HB,HE⟩:=hrel;have am:Ext w wr:=HE.out;obtain⟨f1,f2,f3,f4,-,-⟩:=vU ws k hk;have aC:(ws.take k).flatten.length≤ws.flatten.length:=by
   conv=>rhs;rw[←List.take_append_drop k ws,List.flatten_append,List.length_append]
   omega
  by_cases an:k<ws.length
  ·obtain⟨b,ar,rfl,hb,al⟩:=hx zO;obtain⟨x,av,au⟩:=al k an;have aF:=(am.cell (p:=⟨b,ar+k,bn⟩) hb).trans av;obtain⟨A2,c2,rfl,-⟩:=eu.form au;have aG:=Aa an;have ao:=count_any (oJ (ws.take k)) w.heap.size (.bool d) (.slice (bF ⟨b,ar,bn⟩) ws.length c) A2 ws[k].length c2 wr HB.out zO zO zO zO zO;rw[←yM ws k an]at ao;clear al hx av au f1 f2 f3 f4 aC;generalize ws[k].length=n at*;go_wp2_with fail;refine ao.mono ?_;rintro e w2 ⟨rfl,ay,aA⟩;have aE:=hide aA;have ad:Hid (bA w.heap.size w w2):=hide (am.grown ay am.size (λj e=>by cases e;exact bo _));clear ao ay aA;go_wp2;exact⟨⟨k+1,by omega,by go_num,aE,ad⟩,by simp[bB];omega⟩
  ·obtain rfl:k=ws.length:=zO;rw[List.take_length]at HB f1 f2 f3 f4;obtain⟨V,ap⟩:∃V,oJ ws=V:=⟨_,rfl⟩
   rw[ap]at HB f1 f2 f3 f4;have Qw:=hide ap;have J:=HB.out;clear hx ap;go_wp2_with fail;refine(Lr _ _).mono ?_;rintro e w3 ⟨rfl,rfl⟩;obtain⟨g,hg⟩:∃g,w.heap.size=g:=⟨_,rfl⟩
   have az:=(Box.new wr 350 #[gP w.heap.size]).alloc (.cells (tT wr.heap.size) 292);have H:=Box.new (wr.alloc (.cells #[gP w.heap.size] 350)) 292 (tT wr.heap.size);have aq:Ext wr ((wr.alloc (.cells #[gP w.heap.size] 350)).alloc (.cells (tT wr.heap.size) 292)):=(ek _ _).tr (ek _ _);rw[bl]at H;have HL:=hide (J.ext aq);have aB:Hid (bA w.heap.size w ((wr.alloc (.cells #[gP w.heap.size] 350)).alloc (.cells (tT wr.heap.size) 292))):=hide (am.tr aq);have HQ:=hide az;have HA:=hide H;clear az H aq J HB HE am;generalize(wr.alloc (.cells #[gP w.heap.size] 350)).alloc (.cells (tT wr.heap.size) 292)=W3 at*;generalize wr.heap.size=q at*;rw[hg]at HL HQ ⊢;go_wp2
   go_loopw [25] (λi wr=>∃k:Nat,k≤6∧i=iV k∧Hid (∀i,i<k→jR V (fj d ws) i=bp)∧Hid (Box wr q 350 #[gP g])∧Hid (Box wr (q+1) 292 (tT q))∧Hid (Box wr g 287 (mH V (.bool d) (.slice A ws.length c)))∧Hid (bA w.heap.size w wr)) (λi _=>6-(bB i).toNat)
   case atStart=>exact⟨0,by omega,rfl,hide (λi h=>by omega),HQ,HA,HL,aB⟩
   case round=>
    clear HQ HA HL aB;obtain⟨k,hk,rfl,HS,HQ,HA,HL,HE⟩:=hrel;by_cases aH:k<6
    ·have:k=0∨k=1∨k=2∨k=3∨k=4∨k=5:=zO;rcases this with rfl|rfl|rfl|rfl|rfl|rfl
     ·have O:=HQ.out;have H:=HA.out;have J:=HL.out;have hP:=VP.st _ _ _ _ ak (show Ext w wr from HE.out);have ae:=H.at_ 0 rfl;have W:=H.at_ 1 rfl;unfold IH at W;have hX:Ext wr (wr.alloc (.cells #[iV 50,.func (.func 212) #[] #[gP q]] 292)):=ek _ _;have aa:=Ll V q g (.bool d) (.slice A ws.length c) _ (O.ext hX) (J.ext hX);have hE:Ext w wr:=HE.out;clear hP;go_wp2_with fail;refine aa.mono ?_;rintro e w4 ⟨u,rfl,T,rfl⟩;have s:=hX.tr T;have ah:=hide (O.ext s);have aj:=hide (H.ext s);have ai:=hide (J.ext s);have ab:=hE.tr s;have Y:=(Box.new wr 292 #[iV 50,.func (.func 212) #[] #[gP q]]).ext T;have af:=Y.at_ 0 rfl;have ad:Hid (bA w.heap.size w w4):=hide ab;clear aa hX O H J ae W T s hE Y;cases U:jR V (fj d ws) 0
      ·have ag:Hid (∀i,i<1→jR V (fj d ws) i=bp):=λi hi=>by
        by_cases e:i=0
        ·subst e;exact U
        ·exact HS.out i zO
       have E:(decide ((V.a:Int)=0))=false:=U;rw[E];clear U E af;go_wp2;exact⟨⟨1,by omega,by go_num,ag,ah,aj,ai,ad⟩,by simp[bB]⟩
      ·have I:=ks d ws V (fj d ws) Qw.out rfl 0 zO HS.out U;have gK:=hide I;have E:(decide ((V.a:Int)=0))=true:=U;rw[E];clear U E I;go_wp2;go_ret;exact eB.mk ab (congrArg (bE .i64) (by rw[gK.out];rfl))
     ·have O:=HQ.out;have H:=HA.out;have J:=HL.out;have hP:=VP.st _ _ _ _ ak (show Ext w wr from HE.out);have ae:=H.at_ 2 rfl;have W:=H.at_ 3 rfl;unfold IH at W;have hX:Ext wr (wr.alloc (.cells #[iV 51,.func (.func 213) #[] #[gP q]] 292)):=ek _ _;have aa:=Lm V q g (.bool d) (.slice A ws.length c) _ (O.ext hX) (J.ext hX);have hE:Ext w wr:=HE.out;clear hP;go_wp2_with fail;refine aa.mono ?_;rintro e w4 ⟨u,rfl,T,rfl⟩;have s:=hX.tr T;have ah:=hide (O.ext s);have aj:=hide (H.ext s);have ai:=hide (J.ext s);have ab:=hE.tr s;have Y:=(Box.new wr 292 #[iV 51,.func (.func 213) #[] #[gP q]]).ext T;have af:=Y.at_ 0 rfl;have ad:Hid (bA w.heap.size w w4):=hide ab;clear aa hX O H J ae W T s hE Y;cases U:jR V (fj d ws) 1
      ·have ag:Hid (∀i,i<2→jR V (fj d ws) i=bp):=λi hi=>by
        by_cases e:i=1
        ·subst e;exact U
        ·exact HS.out i zO
       have E:(decide (64<(V.a:Int)))=false:=U;rw[E];clear U E af;go_wp2;exact⟨⟨2,by omega,by go_num,ag,ah,aj,ai,ad⟩,by simp[bB]⟩
      ·have I:=ks d ws V (fj d ws) Qw.out rfl 1 zO HS.out U;have gK:=hide I;have E:(decide (64<(V.a:Int)))=true:=U;rw[E];clear U E I;go_wp2;go_ret;exact eB.mk ab (congrArg (bE .i64) (by rw[gK.out];rfl))
     ·have O:=HQ.out;have H:=HA.out;have J:=HL.out;have hP:=VP.st _ _ _ _ ak (show Ext w wr from HE.out);have ae:=H.at_ 4 rfl;have W:=H.at_ 5 rfl;unfold IH at W;have hX:Ext wr (wr.alloc (.cells #[iV 52,.func (.func 214) #[] #[gP q]] 292)):=ek _ _;have aa:=Ln V q g (.bool d) (.slice A ws.length c) _ (O.ext hX) (J.ext hX);have hE:Ext w wr:=HE.out;clear hP;go_wp2_with fail;refine aa.mono ?_;rintro e w4 ⟨u,rfl,T,rfl⟩;have s:=hX.tr T;have ah:=hide (O.ext s);have aj:=hide (H.ext s);have ai:=hide (J.ext s);have ab:=hE.tr s;have Y:=(Box.new wr 292 #[iV 52,.func (.func 214) #[] #[gP q]]).ext T;have af:=Y.at_ 0 rfl;have ad:Hid (bA w.heap.size w w4):=hide ab;clear aa hX O H J ae W T s hE Y;cases U:jR V (fj d ws) 2
      ·have ag:Hid (∀i,i<3→jR V (fj d ws) i=bp):=λi hi=>by
        by_cases e:i=2
        ·subst e;exact U
        ·exact HS.out i zO
       have E:(decide ((V.s:Int)=0))=false:=U;rw[E];clear U E af;go_wp2;exact⟨⟨3,by omega,by go_num,ag,ah,aj,ai,ad⟩,by simp[bB]⟩
      ·have I:=ks d ws V (fj d ws) Qw.out rfl 2 zO HS.out U;have gK:=hide I;have E:(decide ((V.s:Int)=0))=true:=U;rw[E];clear U E I;go_wp2;go_ret;exact eB.mk ab (congrArg (bE .i64) (by rw[gK.out];rfl))
     ·have O:=HQ.out;have H:=HA.out;have J:=HL.out;have hP:=VP.st _ _ _ _ ak (show Ext w wr from HE.out);have ae:=H.at_ 6 rfl;have W:=H.at_ 7 rfl;unfold IH at W;have hX:Ext wr (wr.alloc (.cells #[iV 53,.func (.func 215) #[] #[gP q]] 292)):=ek _ _;have aa:=Lo V q g (.bool d) (.slice A ws.length c) _ (O.ext hX) (J.ext hX);have hE:Ext w wr:=HE.out;clear hP;go_wp2_with fail;refine aa.mono ?_;rintro e w4 ⟨u,rfl,T,rfl⟩;have s:=hX.tr T;have ah:=hide (O.ext s);have aj:=hide (H.ext s);have ai:=hide (J.ext s);have ab:=hE.tr s;have Y:=(Box.new wr 292 #[iV 53,.func (.func 215) #[] #[gP q]]).ext T;have af:=Y.at_ 0 rfl;have ad:Hid (bA w.heap.size w w4):=hide ab;clear aa hX O H J ae W T s hE Y;cases U:jR V (fj d ws) 3
      ·have ag:Hid (∀i,i<4→jR V (fj d ws) i=bp):=λi hi=>by
        by_cases e:i=3
        ·subst e;exact U
        ·exact HS.out i zO
       have E:(decide (32<(V.l:Int)))=false:=U;rw[E];clear U E af;go_wp2;exact⟨⟨4,by omega,by go_num,ag,ah,aj,ai,ad⟩,by simp[bB]⟩
      ·have I:=ks d ws V (fj d ws) Qw.out rfl 3 zO HS.out U;have gK:=hide I;have E:(decide (32<(V.l:Int)))=true:=U;rw[E];clear U E I;go_wp2;go_ret;exact eB.mk ab (congrArg (bE .i64) (by rw[gK.out];rfl))
     ·have O:=HQ.out;have H:=HA.out;have J:=HL.out;have hP:=VP.st _ _ _ _ ak (show Ext w wr from HE.out);have ae:=H.at_ 8 rfl;have W:=H.at_ 9 rfl;unfold IH at W;have hX:Ext wr (wr.alloc (.cells #[iV 54,.func (.func 216) #[] #[gP q]] 292)):=ek _ _;have aa:=Lp V q g (.bool d) (.slice A ws.length c) _ (O.ext hX) (J.ext hX);have hE:Ext w wr:=HE.out;clear hP;go_wp2_with fail;refine aa.mono ?_;rintro e w4 ⟨u,rfl,T,rfl⟩;have s:=hX.tr T;have ah:=hide (O.ext s);have aj:=hide (H.ext s);have ai:=hide (J.ext s);have ab:=hE.tr s;have Y:=(Box.new wr 292 #[iV 54,.func (.func 216) #[] #[gP q]]).ext T;have af:=Y.at_ 0 rfl;have ad:Hid (bA w.heap.size w w4):=hide ab;clear aa hX O H J ae W T s hE Y;cases U:jR V (fj d ws) 4
      ·have ag:Hid (∀i,i<5→jR V (fj d ws) i=bp):=λi hi=>by
        by_cases e:i=4
        ·subst e;exact U
        ·exact HS.out i zO
       have E:(decide (600<(V.b:Int)))=false:=U;rw[E];clear U E af;go_wp2;exact⟨⟨5,by omega,by go_num,ag,ah,aj,ai,ad⟩,by simp[bB]⟩
      ·have I:=ks d ws V (fj d ws) Qw.out rfl 4 zO HS.out U;have gK:=hide I;have E:(decide (600<(V.b:Int)))=true:=U;rw[E];clear U E I;go_wp2;go_ret;exact eB.mk ab (congrArg (bE .i64) (by rw[gK.out];rfl))
     ·have O:=HQ.out;have H:=HA.out;have J:=HL.out;have hP:=VP.st _ _ _ _ ak (show Ext w wr from HE.out);have ae:=H.at_ 10 rfl;have W:=H.at_ 11 rfl;unfold IH at W;have hX:Ext wr (wr.alloc (.cells #[iV 55,.func (.func 217) #[] #[gP q]] 292)):=ek _ _;have aa:=Lq V q g d ws (.slice A ws.length c) _ (VP.st _ _ _ _ hP hX) aw (O.ext hX) (J.ext hX);have hE:Ext w wr:=HE.out;clear hP;go_wp2_with fail;refine aa.mono ?_;rintro e w4 ⟨u,rfl,T,rfl⟩;have s:=hX.tr T;have ah:=hide (O.ext s);have aj:=hide (H.ext s);have ai:=hide (J.ext s);have ab:=hE.tr s;have Y:=(Box.new wr 292 #[iV 55,.func (.func 217) #[] #[gP q]]).ext T;have af:=Y.at_ 0 rfl;have ad:Hid (bA w.heap.size w w4):=hide ab;clear aa hX O H J ae W T s hE Y;cases U:jR V (fj d ws) 5
      ·have ag:Hid (∀i,i<6→jR V (fj d ws) i=bp):=λi hi=>by
        by_cases e:i=5
        ·subst e;exact U
        ·exact HS.out i zO
       have E:(decide (400<(fj d ws:Int)))=false:=U;rw[E];clear U E af;go_wp2;exact⟨⟨6,by omega,by go_num,ag,ah,aj,ai,ad⟩,by simp[bB]⟩
      ·have I:=ks d ws V (fj d ws) Qw.out rfl 5 zO HS.out U;have gK:=hide I;have E:(decide (400<(fj d ws:Int)))=true:=U;rw[E];clear U E I;go_wp2;go_ret;exact eB.mk ab (congrArg (bE .i64) (by rw[gK.out];rfl))
    ·obtain rfl:k=6:=zO;have gK:=hide (EA d ws V (fj d ws) Qw.out rfl HS.out);have hE:Ext w wr:=HE.out;clear HS HQ HA HL;go_wp2;go_ret;exact eB.mk hE (congrArg (bE .i64) gK.out.symm)
section
def uy(d:Bool)(word:L8)(ws:LL):Int×Bool:=if which d word ws<0 then(0,bp)else(which d word ws,true)
theorem Cg(f:Bool)(ws:LL)(word:L8)(u v:bu)(w:br)(V:jj f ws u w)(H:eu word v w):bz bG 104 #[u,v] w (eB w (eR [eC (iV (uy f word ws).1),eC (.bool (uy f word ws).2)])):=by
 obtain⟨U,rfl,I⟩:=V;have E:∀o,Ext w (w.alloc o):=λo=>ek _ _;have s:=λo=>IC f word ws v U (w.alloc o) (VP.st _ _ _ _ H (E o)) (VP.st _ _ _ _ I (E o));obtain⟨A,c,rfl,-⟩:=eD.form I;obtain⟨B,d,rfl,-⟩:=eu.form H;unfold uy;clear I H;generalize which f word ws=q at*;by_cases O:q<0
 ·rw[if_pos O];go_enter func104,ntmps104;go_wp2_with fail;refine(s _).mono ?_;rintro e T ⟨u,rfl,h,rfl⟩;have J:=(E (.cells #[.bool f,.slice A ws.length c] 24)).tr h;clear s E h;go_wp2;exact bD (v:=.tuple #[iV 0,.bool bp]) (by simp[results,results104]) rfl (eB.mk J (eR.two rfl rfl))
 ·rw[if_neg O];go_enter func104,ntmps104;go_wp2_with fail;refine(s _).mono ?_;rintro e T ⟨u,rfl,h,rfl⟩;have J:=(E (.cells #[.bool f,.slice A ws.length c] 24)).tr h;clear s E h;go_wp2;exact bD (v:=.tuple #[iV q,.bool true]) (by simp[results,results104]) rfl (eB.mk J (eR.two rfl rfl))
theorem EC(d:Bool)(bs:L8)(v:bu)(w:br)(E:eu bs v w)(s:bs.length≤1000000):bz bG 105 #[.bool d,v] w (eY w (λv V=>OwnB V w.heap.size 5 v (textF d bs))):=by
 obtain⟨i0,hi,J,I,H⟩:=info_parts Tryz.BU;have O:=Ca bs v w E s;have T:=E;obtain⟨A,c,rfl,-⟩:=eu.form E;unfold textF;clear E;cases d
 ·rw[if_neg zD];clear O;go_enter func105,ntmps105;go_wp2_with(at_builtin;refine gC rfl _ _ 43 rfl w.heap.size 5 i0 (.int .u8 0) underlying43 hi J I H rfl nS _ [] bs rfl (OwnB.nil w _ _) rfl T zG (bo _) ?_;intro v' V W h aa)
  go_ret;refine eY.mk (gA h rfl) ?_;simp_all
 ·rw[if_pos rfl];go_enter func105,ntmps105;go_wp2_with fail;refine O.mono ?_;rintro e w2 ⟨u,rfl,U,Y⟩;clear O;have HO:=hide Y;clear Y;go_wp2;go_ret;exact eY.mk U HO.out
theorem vV(d:Bool)(bs:L8)(base:Nat)(u v:bu)(w:br)(s:u=.bool d)(H:eu bs v w)(h:bs.length≤1000000)(E:base≤w.heap.size):bz bG 105 #[u,v] w (eB w (jZ base 5 (textF d bs))):=by
 subst s;exact(EC d bs v w H h).mono λ_ _ ⟨u,O,J,I⟩=>⟨u,O,J,jZ.low (OwnB.Sx I) E⟩
attribute [local irreducible] ew ed in
theorem yN(d:Bool)(ws:LL)(v:bu)(w:br)(hP:eD ws v w)(aL:ws.flatten.length≤1000000)(hn:ws.length≤1000000):bz bG 61 #[.bool d,v] w (eY w λr w'=>∃sv,r=.tuple #[.agg #[.bool (iF d ws).1,sv],iV (iF d ws).2.2]∧fE w' w.heap.size 43 5 sv (iF d ws).2.1):=by
 have af:=λW hP=>EB d ws v W hP aL hn;have an:=hP;obtain⟨A,c,rfl,aU,aT,hx⟩:=eD.form hP;obtain⟨i0,hi,aF,aE,aD⟩:=info_parts Tryz.Eu;unfold maxLen at aT;clear hP;by_cases hz:fX d ws=0;case neg=>
  have hm:iF d ws=(bp,[],fX d ws):=by unfold iF;grind
  rw[hm];dsimp only;have a7:(fX d ws==0)=false:=zG;clear hm hi aF aE aD;generalize fX d ws=z at*;go_enter func61,ntmps61;go_wp2_with fail;have hb:=Box.new w 24 #[.bool bp,nS];refine(af _ (VP.st _ _ _ _ an (ek _ _))).mono ?_;rintro e T ⟨u,rfl,V,rfl⟩;have O:=hb.ext V;have hE:=(ek w (.cells #[.bool bp,nS] 24)).tr V;have bb:=O.frozen 0;have ba:=O.frozen 1;have hs:=O.eL 0 (.bool bp);have aQ:=hs.eL 1 nS;have aV:=O.at_ 0 rfl;have a5:=O.at_ 1 rfl;have aY:=(hE.setCell (p:=⟨w.heap.size,0,bn⟩) (bo _) (.bool bp)).setCell (p:=⟨w.heap.size,1,bn⟩) (bo _) nS;clear af hb V hE hs an;go_wp2;exact bD (iB results61 _ _ w.heap.size 24 #[.bool bp,nS] _ rfl aQ underlying24 rfl zR) rfl (eY.mk aY ⟨_,rfl,fE.nil _ _ _ _⟩)
 have hm:iF d ws=(d,fp d [] ws,0):=by unfold iF;grind
 rw[hm];dsimp only;obtain⟨q0,q1,q2,q3,q4,-⟩:=nJ hz;have Qr:=hide q3;rw[hz]at af;clear hm hz q0 q2 q4 q3;go_enter func61,ntmps61;go_wp2_with fail;have hb:=Box.new w 24 #[.bool bp,nS];refine(af _ (VP.st _ _ _ _ an (ek _ _))).mono ?_;rintro e T ⟨u,rfl,V,rfl⟩;have O:=hb.ext V;have hE:=(ek w (.cells #[.bool bp,nS] 24)).tr V;clear af hb V;go_wp2;have aB:Ext T (T.alloc (.cells #[.bool d,nS] 24)):=ek _ _;have aS:w.heap.size<T.heap.size:=O.lt
 go_loopw [23] (λi wr=>∃(k:Nat) (s:LL) (sv:bu),k≤ws.length∧i=iV k∧s.length≤k∧Hid (fp d s (ws.drop k)=fp d [] ws)∧Hid (∀a∈s,a.length≤32)∧Hid (Box wr T.heap.size 24 #[.bool d,sv])∧Hid (fE wr (T.heap.size+1) 43 5 sv s)∧Hid (Box wr w.heap.size 24 #[.bool bp,nS])∧Hid (bA w.heap.size w wr)) (λi _=>ws.length-(bB i).toNat)
 case atStart=>exact⟨0,[],_,by omega,rfl,by simp,hide rfl,hide (λa h=>by simp at h),Box.new T _ _,fE.nil _ _ _ _,O.ext aB,hE.tr aB⟩
 case round=>
  clear aB O hE;obtain⟨k,s,sv,hk,rfl,bg,HM,HA,HB,HO,HR,HE⟩:=hrel;have ah:Ext w wr:=HE.out;by_cases az:k<ws.length
  ·obtain⟨b,aP,rfl,aW,ag⟩:=hx zO;obtain⟨z,ao,ad⟩:=ag k az;have a6:=(ah.cell (p:=⟨b,aP+k,bn⟩) aW).trans ao;have aa:=VP.st _ _ _ _ ad ah;obtain⟨A9,c9,rfl,-⟩:=eu.form ad;have H:=HB.out;have au:=H.at_ 0 rfl;have ar:=H.at_ 1 rfl;have ay:=fE.parts HO.out;have a8:ws[k].length≤32:=Qr.out _ (bH az);have J:=Cg d s ws[k] (.agg #[.bool d,sv]) _ wr ⟨_,rfl,ay⟩ aa;have U:=yL d ws s k az;rw[HM.out]at U;unfold uy at J;clear ag ao ad hx;by_cases av:which d ws[k] s<0
   ·rw[if_pos av]at U J;clear av;dsimp only at J;go_wp2_with fail;refine J.mono ?_;rintro e w4 ⟨u,rfl,E,hu⟩;obtain⟨_,_,rfl,rfl,rfl⟩:=eR.inv2 hu;have H:=H.ext E;have aa:=VP.st _ _ _ _ aa E;have hE:=ah.tr E;clear J hu au ar;go_upto_region 10 with(fail)
    refine vQ 6 ?_;refine ed.gF (bJ 7) wA oA (λρ w hE h1=>by simp[execOp,h1,go_sem];rfl) ?_;refine ed.gG 22 _ rfl wA oA (λ_=>by rfl) (H.at_ 1 rfl) (eh _) ?_;refine ed.move _ rfl wA oA ?_;refine ed.move _ rfl wA (fU 9 rfl aa (eh _) zR) ?_;refine ed.call2 105 _ _ _ rfl (enters_of func105 zR rfl) wA oA oA (λa b W hX ha hb=>vV d ws[k] w4.heap.size a b W ha hb zO hX.size) ?_;refine ed.lit (Fs:=[_]) [bJ 39] 22 43 1 _ rfl rfl zD zD rfl bI zR zR ⟨pC _ _ _,trivial⟩ wA ⟨oA,trivial⟩ (.g ?_);intro Ci ai;refine ew.any λaO al=>?_;refine ew.any λaN ak=>?_;refine ew.any λaM Y=>?_;refine .e ?_;clear al ak;have H:=H.drew.ext ai;have hE:=hE.tr ((eh _).tr ai);obtain⟨xv,ap,aj⟩:=Src.one Y;have aA:Ext wr Ci:=E.tr ((eh _).tr ai);obtain⟨xs,ab,aJ,aI⟩:=fE.st HO.out aA;have aj:=jZ.low aj (show T.heap.size+1≤w4.heap.size from bC HB.out.lt E.size);have aR:=HR.out.ext aA;have a9:T.heap.size<Ci.heap.size:=H.lt;clear Y aA ay HB HO;refine eJ rfl _ _ 22 rfl (T.heap.size+1) 43 i0 nS 1 24 bI hi aF aE aD rfl zO sv _ s.length 1 xs [xv] rfl ab rfl rfl ap (λy hy=>by grind[bx,jZ.cell1]) zO zO ?_;intro v' w' ae I aX;have aK:sv.ownBlock≠bF T.heap.size:=λe=>by have:=fk ab _ e;omega
    have aq:sv.ownBlock≠bF w.heap.size:=λe=>by have:=fk ab _ e;omega
    have aG:=fE.snoc zD ab aJ aI aj ae I;have am:=Box.grows H I aK;have aH:=Box.grows aR I aq;have E:bA w.heap.size w w':=hE.grown I hE.size (λj hj=>by have:=fk ab j hj;omega);obtain⟨A4,c4,aw⟩:=eI ae;subst aw;have a4:=am.at_ 1 rfl;have a3:=am.frozen 1;have HB:=hide (am.eL 1 (.slice A4 (s.length+1) c4));have HO:=hide (fE.set aG ⟨T.heap.size,1,bn⟩ (Nat.lt_succ_self _) (.slice A4 (s.length+1) c4));have HR:=hide (show Box (w'.setCell ⟨T.heap.size,1,bn⟩ (.slice A4 (s.length+1) c4)) w.heap.size _ _ from(bk w' ⟨T.heap.size,1,bn⟩ _ w.heap.size zG).trans aH);have HE:=hide (E.setCell (p:=⟨T.heap.size,1,bn⟩) (Nat.le_of_lt aS) (.slice A4 (s.length+1) c4));have a2:Hid (∀a∈s++[textF d ws[k]],a.length≤32):=λa ha=>by
     rcases List.mem_append.1 ha with h|h
     ·exact HA.out a h
     grind[bx,kz]
    have aC:=hide U.symm;clear am aH E aG ae I aX aK aq ab aJ aI aj ap H aa hE U;go_wp2;exact⟨⟨k+1,s++[textF d ws[k]],_,by omega,by go_num,by grind,aC,a2,HB,HO,HR,HE⟩,by grind[bB]⟩
   ·rw[if_neg av]at U J;generalize which d ws[k] s=q at*;dsimp only at J;go_wp2_with fail;refine J.mono ?_;rintro e w4 ⟨u,rfl,E,hu⟩;obtain⟨_,_,rfl,rfl,rfl⟩:=eR.inv2 hu;have Bs:=hide (fE.st HO.out E);have aZ:=hide (HR.out.ext E);have a1:=hide (H.ext E);have HE2:Hid (bA w.heap.size w w4):=hide (ah.tr E);have aC:=hide U.symm;clear HB HO HR ay J H au ar hu U aa;go_wp2;exact⟨⟨k+1,s,sv,by omega,by go_num,by omega,aC,HA,a1,Bs,aZ,HE2⟩,by grind[bB]⟩
  ·obtain rfl:k=ws.length:=zO;have hm:=HM.out;rw[List.drop_length]at hm;have Hm:=hide (show fp d [] ws=s from hm.symm);clear HM hm;obtain⟨A4,c4,aw⟩:=fE.form HO.out;subst aw;have hb:=HB.out;have hr:=HR.out;have aV:=hb.at_ 0 rfl;have aU:=hb.at_ 1 rfl;have bf:=hr.at_ 0 rfl;have be:=hr.at_ 1 rfl;have bd:=hr.frozen 0;have bc:=hr.frozen 1;have HS:=hide ((hr.eL 0 (.bool d)).eL 1 (.slice A4 s.length c4));have HE2:=hide ((ah.setCell (p:=⟨w.heap.size,0,bn⟩) (bo _) (.bool d)).setCell (p:=⟨w.heap.size,1,bn⟩) (bo _) (.slice A4 s.length c4));have Bs:=hide (fE.set (fE.set HO.out ⟨w.heap.size,0,bn⟩ zG (.bool d)) ⟨w.heap.size,1,bn⟩ zG (.slice A4 s.length c4));clear HO HB HR hb hr an;go_wp2;refine bD (iB results61 _ _ w.heap.size 24 #[.bool d,.slice A4 s.length c4] _ rfl HS.out underlying24 rfl zR) rfl (eY.mk HE2.out ⟨_,rfl,?_⟩);rw[Hm.out];exact fE.low Bs.out zO
end
section
attribute [local irreducible] ew ed in
theorem II(xs H:L8)(u v:bu)(w:br)(T:eu xs u w)(O:eu H v w):bz bG 237 #[u,v] w (eB w (eC (.bool (decide (xs=H))))):=by
 obtain⟨A,c,rfl,-⟩:=eu.form T;obtain⟨B,d,rfl,-⟩:=eu.form O;go_enter func237,ntmps237;go_upto_region 1 with(fail)
 refine Qk 5 ?_;refine ed.move _ rfl wA (fU 0 rfl T (Ext.rf _) zR) ?_;refine ed.string 43 9 5 _ rfl underlying43 underlying5 underlying9 wA oA ?_;refine ed.move _ rfl wA (fU 1 rfl O (Ext.rf _) zR) ?_;refine ed.string 43 9 5 _ rfl underlying43 underlying5 underlying9 wA oA ?_;refine ed.Qq _ _ _ _ rfl wA oA oA (.g ?_);intro V E;refine ew.any λJ s=>?_;refine .e ?_;refine ew.any λI h=>?_;refine .e ?_;clear s h;have U:=E;go_wp2;go_ret;exact eB.mk U rfl
theorem IJ(T U:Bool)(xs h:LL)(u v:bu)(w:br)(hA:jj T xs u w)(hB:jj U h v w):bz bG 180 #[u,v] w (eB w (eC (.bool (decide (T=U∧xs=h))))):=by
 obtain⟨sa,rfl,hP⟩:=hA;obtain⟨sb,rfl,hR⟩:=hB;have W:=hP;have V:=hR;obtain⟨A,c,rfl,az,am,-⟩:=eD.form hP;obtain⟨B,d,rfl,ay,al,-⟩:=eD.form hR;unfold maxLen at am al;clear hP hR;obtain⟨z,hz⟩:∃z,decide (T=U∧xs=h)=z:=⟨_,rfl⟩
 rw[hz];have hX:Ext w ((w.alloc (.cells #[.bool T,.slice A xs.length c] 24)).alloc (.cells #[.bool U,.slice B h.length d] 24)):=(ek _ _).tr (ek _ _);have H:=(Box.new w 24 #[.bool T,.slice A xs.length c]).alloc (.cells #[.bool U,.slice B h.length d] 24);have s:=Box.new (w.alloc (.cells #[.bool T,.slice A xs.length c] 24)) 24 #[.bool U,.slice B h.length d];rw[bl]at s;have HX:=hide hX;have aa:=hide H;have Y:=hide s;clear hX H s;by_cases hf:T=U;case neg=>
  obtain rfl:z=false:=zG;have aw:(T==U)=false:=zG;clear hz hf W V aa Y;go_enter func180,ntmps180;go_wp2;go_ret;exact eB.mk HX.out rfl
 subst hf;by_cases hl:xs.length=h.length;case neg=>
  obtain rfl:z=false:=zG;have av:((xs.length:Int)==(h.length:Int))=false:=zG;clear hz hl W V aa Y;go_enter func180,ntmps180;go_wp2;go_ret;exact eB.mk HX.out rfl
 have Hz:Hid (decide (xs=h)=z):=by show _=_;grind
 have Hl:=hide hl;have ak:(xs.length:Int)=(h.length:Int):=zO;clear hz hl;go_enter func180,ntmps180;go_wp2
 go_loopw [24] (λi wr=>∃k:Nat,k≤xs.length∧i=iV k∧Hid (∀(i:Nat) (h1:i<xs.length) (h2:i<h.length),i<k→xs[i]=h[i])∧Hid (bA w.heap.size w wr)∧Hid (Box wr w.heap.size 24 #[.bool T,.slice A xs.length c])∧Hid (Box wr (w.heap.size+1) 24 #[.bool T,.slice B h.length d])) (λi _=>xs.length-(bB i).toNat)
 case atStart=>grind[hide]
 case round=>
  clear HX aa Y;obtain⟨k,hk,rfl,HS,HE,HA,HB⟩:=hrel;have hE:Ext w wr:=HE.out;have H:=HA.out;have s:=HB.out;have ai:=H.at_ 1 rfl;by_cases aj:k<xs.length
  ·have ag:k<h.length:=zO;have hP:=VP.st _ _ _ _ W hE;have hR:=VP.st _ _ _ _ V hE;have ah:=s.at_ 1 rfl;obtain⟨A',c',e1,_,_,hx⟩:=eD.form hP;obtain⟨B',d',e2,_,_,hy⟩:=eD.form hR;cases e1;cases e2;obtain⟨b1,o1,rfl,au,af⟩:=hx zO;obtain⟨b2,o2,rfl,ak,ae⟩:=hy zO;obtain⟨zx,ad,J⟩:=af k aj;obtain⟨zy,ab,I⟩:=ae k ag;have E:=II xs[k] h[k] zx zy wr J I;obtain⟨Ax,cx,rfl,-⟩:=eu.form J;obtain⟨Ay,cy,rfl,-⟩:=eu.form I;clear hx hy af ae J I hP hR H s;by_cases he:xs[k]=h[k]
   ·have ao:Hid (∀(i:Nat) (h1:i<xs.length) (h2:i<h.length),i<k+1→xs[i]=h[i]):=λi h1 h2 h3=>by
     by_cases e:i=k
     ·grind
     ·exact HS.out i h1 h2 zO
    rw[decide_eq_true he]at E;clear HS he;generalize xs[k].length=n1 at*;generalize h[k].length=n2 at*;go_wp2_with fail;refine E.mono ?_;rintro e w2 ⟨u,rfl,O,rfl⟩;have ap:Hid (bA w.heap.size w w2):=hide (hE.tr O);have ar:=hide (HA.out.ext O);have aq:=hide (HB.out.ext O);clear E ai ah ad ab;go_wp2;exact⟨⟨k+1,by omega,by go_num,ao,ap,ar,aq⟩,by grind[bB]⟩
   ·have gK:Hid (z=bp):=by show _=_;rw[←Hz.out];grind
    rw[decide_eq_false he]at E;clear HS he;generalize xs[k].length=n1 at*;generalize h[k].length=n2 at*;go_wp2_with fail;refine E.mono ?_;rintro e w2 ⟨u,rfl,O,rfl⟩;have an:=hE.tr O;clear E ai ah ad ab HA HB;go_wp2;go_ret;exact eB.mk an (congrArg bw gK.out.symm)
  ·obtain rfl:k=xs.length:=zO;have gK:Hid (z=true):=by
    show _=_;rw[←Hz.out];exact decide_eq_true (List.ext_getElem Hl.out λi h1 h2=>HS.out i h1 h2 h1)
   clear HS HA HB H s;go_wp2;go_ret;exact eB.mk hE (congrArg bw gK.out.symm)
theorem oK(f:Bool)(ws:LL)(u:bu)(w:br)(hS:jj f ws u w)(T:ws.flatten.length≤1000000)(hn:ws.length≤1000000):bz bG 121 #[u] w (eB w (eC (.bool (eS f ws)))):=by
 obtain⟨sl,rfl,U⟩:=hS;have O:=λW U=>yN f ws sl W U T hn;have h:=U;obtain⟨A,c,rfl,-⟩:=eD.form U;clear U;obtain⟨z,hz⟩:∃z,eS f ws=z:=⟨_,rfl⟩
 have Hz:=hide hz;rw[hz];clear hz;have hb:=Box.new w 24 #[.bool f,.slice A ws.length c];go_enter func121,ntmps121;go_wp2_with fail;refine(O _ (VP.st _ _ _ _ h (ek _ _))).mono ?_;rintro e Y ⟨u,rfl,I,sv,rfl,hO⟩;have E:=hb.ext I;have V:=(ek w (.cells #[.bool f,.slice A ws.length c] 24)).tr I;clear O hb I;obtain⟨A4,c4,aa⟩:=fE.form hO;subst aa;have d:=fE.parts hO;clear hO;by_cases hc:fX f ws=0
 ·have hm:iF f ws=(f,fp f [] ws,0):=by unfold iF;grind
  have Qs:Hid (decide (f=f∧fp f [] ws=ws)=z):=by grind[eS]
  rw[hm]at d ⊢;dsimp only at*;clear hm hc Hz;generalize fp f [] ws=ms at*;have H:Ext Y (Y.alloc (.cells #[.bool f,.slice A4 ms.length c4] 24)):=ek _ _;have J:=IJ f f ms ws _ _ (Y.alloc (.cells #[.bool f,.slice A4 ms.length c4] 24)) ⟨_,rfl,VP.st _ _ _ _ d H⟩ ⟨_,rfl,VP.st _ _ _ _ h (V.tr H)⟩;have s:=E.ext H;have ad:=s.at_ 0 rfl;have ab:=s.at_ 1 rfl;have ae:=V.tr H;clear d E s H V h;go_wp2_with fail;refine J.mono ?_;rintro e w3 ⟨u,rfl,af,rfl⟩;clear J ad ab;rw[Qs.out];go_wp2;go_ret;exact eB.mk (ae.tr af) rfl
 ·have hm:iF f ws=(bp,[],fX f ws):=by unfold iF;grind
  have Qs:Hid (z=bp):=by grind[eS,decide_eq_false]
  rw[hm];dsimp only;have ag:(fX f ws==0)=false:=zG;have H:Ext w (Y.alloc (.cells #[.bool bp,.slice A4 0 c4] 24)):=V.tr (ek _ _);clear hc Hz d E V h;generalize fX f ws=q at*;go_wp2;go_ret;exact eB.mk H (congrArg bw Qs.out.symm)
end
def fG(ws:LL):Nat:=ws.foldl (λn w=>max n w.length) 0
theorem ED(ws:LL)(k:Nat)(h:k<ws.length):fG (ws.take (k+1))=max (fG (ws.take k)) ws[k].length:=by
 grind[fG,bm]
theorem sm(f:Bool)(ws:LL)(u:bu)(w:br)(hS:jj f ws u w)(hl:∀b∈ws,b.length≤1000000):bz bG 78 #[u] w (eB w (eC (iV (fG ws:Int)))):=by
 obtain⟨sl,rfl,Y⟩:=hS;obtain⟨A,c,rfl,ab,J,U⟩:=eD.form Y;unfold maxLen at J;clear Y;have W:Ext w (w.alloc (.cells #[.bool f,.slice A ws.length c] 24)):=ek _ _;have V:=Box.new w 24 #[.bool f,.slice A ws.length c];have ad:=V.at_ 1 rfl;go_enter func78,ntmps78;go_wp2;clear V
 go_loopw [3,9] (λm i wr=>∃k n:Nat,k≤ws.length∧i=iV k∧m=iV n∧n≤1000000∧Hid (fG (ws.take k)=n)∧wr=w.alloc (.cells #[.bool f,.slice A ws.length c] 24)) (λ_ i _=>ws.length-(bB i).toNat)
 case atStart=>exact⟨0,0,by omega,rfl,rfl,by omega,hide zR,rfl⟩
 case round=>
  obtain⟨k,n,hk,rfl,rfl,hn,HN,rfl⟩:=hrel;by_cases s:k<ws.length
  ·obtain⟨b,H,rfl,O,d⟩:=U zO;obtain⟨z,T,E⟩:=d k s;have aa:=(W.cell (p:=⟨b,H+k,bn⟩) O).trans T;obtain⟨A2,c2,rfl,-⟩:=eu.form E;have I:=hl _ (bH s);have h:=ED ws k s;rw[HN.out]at h;have ae:=hide h;clear d U T E h;generalize ws[k].length=q at*;by_cases hm:(n:Int)<(q:Int)
   ·go_wp2;exact⟨⟨k+1,q,by omega,by go_num,rfl,I,by grind,trivial⟩,by grind[bB]⟩
   ·go_wp2;exact⟨⟨k+1,n,by omega,by go_num,rfl,hn,by grind,trivial⟩,by grind[bB]⟩
  ·obtain rfl:k=ws.length:=zO;have gK:Hid (fG ws=n):=zG;go_wp2;go_ret;exact eB.mk W (congrArg (λn:Nat=>iV n) gK.out.symm)
section
theorem lh{P:Program}{E:Func}{t:Tmp}{s:TypeId}(h:E.results=#[.cell t s])(tmps:AV)(w:br)(g:Nat)(T:TypeId)(cs:AV)(d:TypeDesc)(O:tmps.getD t bt=gP g)(J:Box w g T cs)(H:P.underlying s=bF d)(I:(match d with|.struct _|.array _ _=>true|_=>bp)=true)(hi:(P.info? s).map (·.size)=bF cs.size) :
  (results E tmps).run P w=.ok (.agg cs) w:=by
 have U:=run_loadVar_row w g T s cs (0,0) d J H I hi;simp_all[Array.getD_eq_getD_getElem?,results,asAddr]
attribute [local irreducible] ew ed in
theorem Cj(f:Bool)(ws:LL)(u:bu)(w:br)(hS:jj f ws u w)(hl:∀b∈ws,b.length≤1000000)(hn:ws.length≤1000000):bz bG 77 #[u] w (eY w λr w'=>∃T,r=.agg #[.bool f,T]∧fE w' w.heap.size 43 5 T ws):=by
 obtain⟨sl,rfl,hP⟩:=hS;have aM:=hP;obtain⟨A,c,rfl,aJ,aI,hx⟩:=eD.form hP;obtain⟨i0,hi,aG,aF,aE⟩:=info_parts Tryz.Eu;unfold maxLen at aI;clear hP;have az:Ext w (w.alloc (.cells #[.bool f,.slice A ws.length c] 24)):=ek _ _;have ay:Ext (w.alloc (.cells #[.bool f,.slice A ws.length c] 24)) ((w.alloc (.cells #[.bool f,.slice A ws.length c] 24)).alloc (.cells #[.bool bp,nS] 24)):=ek _ _;have an:Ext ((w.alloc (.cells #[.bool f,.slice A ws.length c] 24)).alloc (.cells #[.bool bp,nS] 24)) (((w.alloc (.cells #[.bool f,.slice A ws.length c] 24)).alloc (.cells #[.bool bp,nS] 24)).alloc (.cells #[.bool f,nS] 24)):=ek _ _;have al:=(Box.new (w.alloc (.cells #[.bool f,.slice A ws.length c] 24)) 24 #[.bool bp,nS]).ext an;have aa:=Box.new ((w.alloc (.cells #[.bool f,.slice A ws.length c] 24)).alloc (.cells #[.bool bp,nS] 24)) 24 #[.bool f,nS];rw[bl]at al aa;rw[bl]at aa;have HX:=hide ((az.tr ay).tr an);have aC:=hide al;have aB:=hide aa;clear az ay an al aa;go_enter func77,ntmps77;go_wp2
 go_loopw [12] (λi wr=>∃(k:Nat) (T:bu),k≤ws.length∧i=iV k∧Hid (Box wr (w.heap.size+1+1) 24 #[.bool f,T])∧Hid (fE wr (w.heap.size+1+1+1) 43 5 T (ws.take k))∧Hid (Box wr (w.heap.size+1) 24 #[.bool bp,nS])∧Hid (bA w.heap.size w wr)) (λi _=>ws.length-(bB i).toNat)
 case atStart=>exact⟨0,_,by omega,rfl,aB,fE.nil _ _ _ _,aC,HX⟩
 case round=>
  clear HX aC aB;obtain⟨k,T,hk,rfl,HB,HO,HR,HE⟩:=hrel;have ab:Ext w wr:=HE.out;by_cases ak:k<ws.length
  ·obtain⟨b,aD,rfl,aK,O⟩:=hx zO;obtain⟨z,ad,H⟩:=O k ak;have aS:=(ab.cell (p:=⟨b,aD+k,bn⟩) aK).trans ad;have ap:=VP.st _ _ _ _ H ab;obtain⟨A9,c9,rfl,-⟩:=eu.form H;have E:=HB.out;have aT:=hl _ (bH ak);have aq:=bm ak;have V:(ws.take k).length=k:=zG;have hE:=ab;clear O ad H hx;go_upto_region 5 with(fail)
   refine vQ 5 ?_;refine ed.gF (bJ 3) wA oA (λρ w hE h1=>by simp[execOp,h1,go_sem];rfl) ?_;refine ed.gG 22 _ rfl wA oA (λ_=>by rfl) (E.at_ 1 rfl) (eh _) ?_;refine ed.move _ rfl wA (fU 5 rfl ap (eh _) zR) ?_;refine ed.call2 105 _ _ _ rfl (enters_of func105 zR rfl) wA (eE _) oA (λa b W hX ha hb=>vV bp ws[k] wr.heap.size a b W ha hb zO (bC (eh wr).size hX.size)) ?_;refine ed.lit (Fs:=[_]) [bJ 19] 22 43 1 _ rfl rfl zD zD rfl bI zR zR ⟨pC _ _ _,trivial⟩ wA ⟨oA,trivial⟩ (.g ?_);intro W5 ao;refine ew.any λaP ah=>?_;refine ew.any λaO ag=>?_;refine ew.any λaN I=>?_;refine .e ?_;clear ah ag;have E:=E.drew.ext ao;have hE:=hE.tr ((eh _).tr ao);obtain⟨xv,ae,U⟩:=Src.one I;have am:Ext wr W5:=(eh _).tr ao;obtain⟨xs,h,av,au⟩:=fE.st HO.out am;have aV:w.heap.size+1+1<wr.heap.size:=HB.out.lt;have U:=jZ.low U (show w.heap.size+1+1+1≤wr.heap.size by omega);have aH:=HR.out.ext am;have aU:w.heap.size+1+1<W5.heap.size:=E.lt;rw[V]at h;clear I am HB HO;refine eJ rfl _ _ 22 rfl (w.heap.size+1+1+1) 43 i0 nS 1 24 bI hi aG aF aE rfl zO T _ k 1 xs [xv] rfl h rfl rfl ae (λy hy=>by grind[bx,jZ.cell1]) zO zO ?_;intro v' w' J d aL;have aw:T.ownBlock≠bF (w.heap.size+1+1):=λe=>by have:=fk h _ e;omega
   have af:T.ownBlock≠bF (w.heap.size+1):=λe=>by have:=fk h _ e;omega
   rw[←V]at h;have s:=J;rw[←V]at s;have aj:=fE.snoc zD h av au U s d;rw[show textF bp ws[k]=ws[k]from rfl,←aq]at aj;have Y:=Box.grows E d aw;have ar:=Box.grows aH d af;have aA:bA w.heap.size w w':=hE.grown d hE.size (λj hj=>by have:=fk h j hj;omega);obtain⟨A4,c4,ai⟩:=eI J;subst ai;have aR:=Y.at_ 1 rfl;have aQ:=Y.frozen 1;have HB:=hide (Y.eL 1 (.slice A4 (k+1) c4));have HO:=hide (fE.set aj ⟨w.heap.size+1+1,1,bn⟩ (Nat.lt_succ_self _) (.slice A4 (k+1) c4));have HR:=hide (show Box (w'.setCell ⟨w.heap.size+1+1,1,bn⟩ (.slice A4 (k+1) c4)) (w.heap.size+1) _ _ from(bk w' ⟨w.heap.size+1+1,1,bn⟩ _ (w.heap.size+1) zG).trans ar);have HE:=hide (aA.setCell (p:=⟨w.heap.size+1+1,1,bn⟩) zG (.slice A4 (k+1) c4));clear Y ar aA aj J s d aL aw af h av au U ae E ap hE aq V;go_wp2;grind[bB]
  ·obtain rfl:k=ws.length:=zO;have hO:=HO.out;rw[List.take_length]at hO;obtain⟨A4,c4,ai⟩:=fE.form hO;subst ai;have hb:=HB.out;have hr:=HR.out;have a1:=hb.at_ 0 rfl;have aJ:=hb.at_ 1 rfl;have aZ:=hr.at_ 0 rfl;have aY:=hr.at_ 1 rfl;have aX:=hr.frozen 0;have aW:=hr.frozen 1;have HS:=hide ((hr.eL 0 (.bool f)).eL 1 (.slice A4 ws.length c4));have HE2:=hide ((ab.setCell (p:=⟨w.heap.size+1,0,bn⟩) zS (.bool f)).setCell (p:=⟨w.heap.size+1,1,bn⟩) zS (.slice A4 ws.length c4));have Bs:=hide (fE.set (fE.set hO ⟨w.heap.size+1,0,bn⟩ zG (.bool f)) ⟨w.heap.size+1,1,bn⟩ zG (.slice A4 ws.length c4));clear HO HB HR hb hr aM hx hO;go_wp2;exact bD (lh results77 _ _ (w.heap.size+1) 24 #[.bool f,.slice A4 ws.length c4] _ rfl HS.out underlying24 rfl zR) rfl (eY.mk HE2.out ⟨_,rfl,fE.low Bs.out zO⟩)
section
variable {w0:br}
theorem N8(d:Bool)(ws:LL)(I:Bool)(s:LL)(e:Int)(h:iF d ws=(I,s,e))(V:ws.flatten.length≤1000000)(U:ws.length≤1000000):∀u v w,Ext w0 w→eC (.bool d) u w→eD ws v w→bz bG 61 #[u,v] w (eB w (eR [jj I s,eC (iV e)])):=λu v w _ T O=>by
 rw[show u=_ from T];refine(yN d ws v w O V U).mono ?_;rintro x w' ⟨r,Y,W,J,H,E⟩;rw[h]at H E;subst H;exact⟨_,Y,W,eR.two ⟨J,rfl,fE.parts E⟩ rfl⟩
end
end
end Go.Proofs.YtofgfpffcegioaaGreat
