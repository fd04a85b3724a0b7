/- A part of the proof. -/
import Derived.Test.YtofgfpffcegioaaGreatZf20
import Derived.Test.YtofgfpffcegioaaGreatZf28
set_option maxRecDepth 100000
set_option maxHeartbeats 8000000
namespace Go.Proofs.YtofgfpffcegioaaGreat
open Go.RowKit Go.Shelf Go.Proofs.Tryz
open Go renaming undef → aA,World → aE
open Go.Operand renaming tmp → aC
open List renaming findSome?_eq_none_iff → az
open List.cons renaming injEq → aF
open Nat renaming le_trans → aD
open Option renaming none → ay,some → aB
section
attribute [local go_sem] Oper.semAt_some
def Oi(K:List ((Int×UInt8)×Int))(g:Nat)(c:UInt8)(w:aE)(pre:List Nat)(W:aE):Prop:=Ext w W∧Box W w.heap.size 311 #[gP g]∧Box W (w.heap.size+1) 5 #[.int .u8 (c.toNat:Int)]∧Box W (w.heap.size+2) 3 #[iV 0]∧w.heap.size+5≤W.heap.size∧∀x∈pre,jx K ((x:Int),c)=ay
def SJ(K:List ((Int×UInt8)×Int))(lk:List Nat)(nd:Nat)(c:UInt8)(w:aE)(d:Code)(_:List Nat)(W:aE):Prop:=d=.ret∧Ext w W∧Box W (w.heap.size+2) 3 #[iV (sr K lk nd c)]
theorem LN(K:List ((Int×UInt8)×Int))(g:Nat)(c:UInt8)(w:aE)(B:Nat)(H:w.heap.size≤B):OwnFrom B (Oi K g c w):=by
 rintro E W Y s ⟨V,U,T,O,J,I⟩ d h;exact⟨mI V d H h zO,jc U d h,jc T d h,jc O d h,aD J d.size,I⟩
theorem LO(K:List ((Int×UInt8)×Int))(lk:List Nat)(nd:Nat)(c:UInt8)(w:aE)(B:Nat)(I:w.heap.size≤B)(T:Code):OwnFrom B (SJ K lk nd c w T):=by
 rintro H W U E ⟨O,s,J⟩ h d;exact⟨O,mI s h I d s.size,jc J h d⟩
theorem Qy{K:List ((Int×UInt8)×Int)}{g:Nat}{c:UInt8}{w:aE}(pre:List Nat)(W W':aE)(h:Oi K g c w pre W)(d:oM (w.heap.size+4) W W'):Oi K g c w pre W':=by
 obtain⟨O,J,I,H,E,s⟩:=h;exact⟨sq O d zO zO,Cq J d zO,Cq I d zO,Cq H d zO,aD E d.size,s⟩
theorem EL{K:List ((Int×UInt8)×Int)}{lk:List Nat}{nd x:Nat}{c:UInt8}{pre:List Nat}{v:Int}(h:pre++[x]<+:gO lk nd nd)(s:∀y∈pre,jx K ((y:Int),c)=ay)(d:jx K ((x:Int),c)=aB v):sr K lk nd c=v:=by
 grind[sr,az]
theorem step_none{K:List ((Int×UInt8)×Int)}{lk:List Nat}{nd:Nat}{c:UInt8}(d:∀y∈gO lk nd nd,jx K ((y:Int),c)=ay):sr K lk nd c=0:=by
 grind[sr,az]
attribute [local irreducible] ew ed in
theorem wz(g:Nat)(a0 a1 a2 a3 vl:Value)(gm:Nat)(K:List ((Int×UInt8)×Int))(lk:List Nat)(nd:Nat)(c:UInt8)(w:aE)(ae:Box w g 316 (Ns a0 a1 a2 a3 gm vl))(hM:fQ w gm lS (Value.int .i64) K)(hL:eT lk vl w)(hD:Down lk)(am:nd<lk.length) :
  Calls prog 230 #[.pointer (aB ⟨g,0,ay⟩),.int .i64 (nd:Int),.int .u8 (c.toNat:Int)] w (eB w (eC (.int .i64 (sr K lk nd c)))):=by
 have ap:prog.follows .mixedOrders=true:=by rfl
 refine(callsIn_wide (n:=9)).1 ?_;have V:1≤9:=zO;refine callsIn_of_wp_marks func230 rfl trivial ?_ rfl;simp only[ntmps230,List.size_toArray,List.length_cons,List.length_nil,Nat.reduceAdd,Nat.reduceSub,Array.replicate_succ,Array.replicate_zero,List.push_toArray,List.append_toArray,List.nil_append,List.cons_append];gi_wp2_with (refine⟨trivial,?_⟩;gi_at_call 273;refine(callsIn_wide.2 (IP g nd _)).mono ?_;rintro e w2 ⟨rfl,rfl⟩)
 obtain⟨Y,H⟩:∃Y,(((((w.alloc (.cells #[.pointer (aB ⟨g,0,ay⟩)] 311)).alloc (.cells #[.int .u8 (c.toNat:Int)] 5)).alloc (.cells #[.int .i64 0] 3)).alloc (.cells #[.pointer (aB ⟨g,0,ay⟩)] 311)).alloc (.cells #[.int .i64 (nd:Int)] 3))=Y:=⟨_,rfl⟩
 have al:Ext w Y:=by rw[←H];exact((((ek _ _).tr (ek _ _)).tr (ek _ _)).tr (ek _ _)).tr (ek _ _)
 have aq:Y.heap.size=w.heap.size+5:=by rw[←H];simp
 have aj:Box Y w.heap.size 311 #[.pointer (aB ⟨g,0,ay⟩)]:=by rw[←H];exact((((Box.new _ _ _).alloc _).alloc _).alloc _).alloc _
 have ai:Box Y (w.heap.size+1) 5 #[.int .u8 (c.toNat:Int)]:=by
  rw[←H];have:=(((Box.new (w.alloc (.cells #[.pointer (aB ⟨g,0,ay⟩)] 311)) 5 #[.int .u8 (c.toNat:Int)]).alloc (.cells #[.int .i64 0] 3)).alloc (.cells #[.pointer (aB ⟨g,0,ay⟩)] 311)).alloc (.cells #[.int .i64 (nd:Int)] 3);simp_all
 have ah:Box Y (w.heap.size+2) 3 #[.int .i64 0]:=by
  rw[←H];have:=((Box.new ((w.alloc (.cells #[.pointer (aB ⟨g,0,ay⟩)] 311)).alloc (.cells #[.int .u8 (c.toNat:Int)] 5)) 3 #[.int .i64 0]).alloc (.cells #[.pointer (aB ⟨g,0,ay⟩)] 311)).alloc (.cells #[.int .i64 (nd:Int)] 3);simp_all
 have ag:Box Y (w.heap.size+3) 311 #[.pointer (aB ⟨g,0,ay⟩)]:=by
  rw[←H];have:=(Box.new (((w.alloc (.cells #[.pointer (aB ⟨g,0,ay⟩)] 311)).alloc (.cells #[.int .u8 (c.toNat:Int)] 5)).alloc (.cells #[.int .i64 0] 3)) 311 #[.pointer (aB ⟨g,0,ay⟩)]).alloc (.cells #[.int .i64 (nd:Int)] 3);simp_all
 have af:Box Y (w.heap.size+4) 3 #[.int .i64 (nd:Int)]:=by
  grind[Box.new,World.size_alloc]
 rw[H];refine je (F:=Fence.wide) rfl V (gf:=300) (lb:=#[.pointer (aB ⟨w.heap.size+4,0,ay⟩),.pointer (aB ⟨w.heap.size+3,0,ay⟩)]) rfl trivial (enters_of func300 zR rfl)
  (IQ 8 zO (w.heap.size+4) (w.heap.size+3) g a0 a1 a2 a3 vl gm lk nd w Y ae hL hD am al ag af zO zO) fc.t
  (λW l o' hl=>fc.put (M:=Y.heap.size) zO zG W l o' hl)
  (λW W' k hO hk an=>hO.block k an zG) (λab W l o' hl hT=>trivial) (λ_=>rfl)
  (Oi K g c w) (SJ K lk nd c w) (LN K g c w _ zO) (LO K lk nd c w _ zO) Qy
  ⟨al,aj,ai,ah,by omega,by simp⟩
  (λx=>{ tmps:=#[.pointer (aB ⟨g,0,ay⟩),.int .i64 (nd:Int),.int .u8 (c.toNat:Int),.pointer (aB ⟨w.heap.size,0,ay⟩),aA,.pointer (aB ⟨w.heap.size+1,0,ay⟩),.pointer (aB ⟨w.heap.size+2,0,ay⟩),.int .i64 (x:Int),aA,aA,
   .pointer (aB ⟨g,0,ay⟩),.int .i64 (nd:Int),.func (.func 300) #[] #[.pointer (aB ⟨w.heap.size+4,0,ay⟩),.pointer (aB ⟨w.heap.size+3,0,ay⟩)],.int .i64 (x:Int),aA,aA,aA,aA,aA,aA,aA,aA,aA,aA,aA,aA,aA],defers:=[] }) ?assign ?body ?done ?stop
 case assign=>
  intro l x W K' hK;gi_wp2;exact hK
 case body=>
  rintro l ab x W ⟨T,O,J,E,ad,d⟩ U;have ak:=hM.ext T;have aa:=(ae.ext T).at_ 4 rfl;have lB:=hide U;have Py:=hide d;have HE:=hide T;clear U d aj ai ah ag af;cases hk:jx K ((x:Int),c);case none=>
   gi_upto_region 3 with(fail)
   refine sh (gJ _) (λ⟨_,_,h⟩=>h.elim) zR 11 [10] zR zK (λ_ _ _ _ _ h=>h) (.g ?_);refine ed.gG 311 _ rfl wA oA (λ_=>by rfl) (O.at_ 0 rfl) (eh _) (.g ?_);refine ed.gG 5 _ rfl wA oA (λ_=>by rfl) (J.at_ 0 rfl) (eh _) ?_;refine ed.LK (r:=lS ((x:Int),c)) [aC 19,aC 20] [_,_] wA (ku.cons oA (ku.cons oA ku.nil)) (λρ w T h=>by simp only[List.map_cons,List.map_nil,aF,and_true]at h;obtain⟨h0,V⟩:=h;simp[execOp,h0,V,go_sem]<;>rfl) ?_;refine ed.mE ak (eh _) An 314 _ _ rfl underlying314 mF wA oA oA (.g ?_);simp only[hk,Option.map_none,Option.getD_none,Option.isSome_none];refine .rd 8 14 0 ?_;refine ed.gF _ wA (od 8 14 1 rfl) (λρ w T V=>by simp[execOp,V,go_sem];rfl) (.g ?_);intro W3 I;have O:=O.drew.ext I;have J:=J.drew.ext I;have s:Ext W W3:=(eh W).tr I;go_wp2;gi_wp2;refine⟨KeepsFrom.of_grownBy (gZ s) (λj h=>by cases h),fc.ext (fc.rf _ _ W) s zO zG,Ext.tr HE.out s,O,J,E.ext s,aD ad s.size,?_⟩;intro y hy;rcases List.mem_append.1 hy with hy|hy
   ·exact Py.out y hy
   grind
  case some v=>
   gi_upto_region 3 with(fail)
   refine sh (gJ _) (λ⟨_,_,h⟩=>h.elim) zR 11 [10] zR zK (λ_ _ _ _ _ h=>h) (.g ?_);refine ed.gG 311 _ rfl wA oA (λ_=>by rfl) (O.at_ 0 rfl) (eh _) (.g ?_);refine ed.gG 5 _ rfl wA oA (λ_=>by rfl) (J.at_ 0 rfl) (eh _) ?_;refine ed.LK (r:=lS ((x:Int),c)) [aC 19,aC 20] [_,_] wA (ku.cons oA (ku.cons oA ku.nil)) (λρ w T h=>by simp only[List.map_cons,List.map_nil,aF,and_true]at h;obtain⟨h0,V⟩:=h;simp[execOp,h0,V,go_sem]<;>rfl) ?_;refine ed.mE ak (eh _) An 314 _ _ rfl underlying314 mF wA oA oA (.g ?_);simp only[hk,Option.map_some,Option.getD_some,Option.isSome_some];refine .rd 8 14 0 ?_;refine ed.gF _ wA (od 8 14 1 rfl) (λρ w T V=>by simp[execOp,V,go_sem];rfl) (.g ?_);intro W3 I;have av:=(E.drew.ext I).at_ 0 rfl;have ar:=(E.drew.ext I).frozen 0;have s:Ext W W3:=(eh W).tr I;have hf:=EL lB.out Py.out hk;have Hf:=hide hf;clear hf;go_wp2;gi_wp2;refine⟨(KeepsFrom.of_grownBy (gZ s) (λj h=>by cases h)).trans ((KeepsOthers.setCell W3 _ _).from _),fc.set (fc.ext (fc.rf _ _ W) s zO zG) _ _ zO zS,rfl,(Ext.tr HE.out s).setCell (p:=⟨w.heap.size+2,0,ay⟩) (show w.heap.size≤w.heap.size+2 by omega) _,?_⟩;rw[Hf.out];exact(E.ext s).eL 0 _
 case done=>
  rintro D xs W hD rfl-⟨T,O,J,E,ad,d⟩ hK;have aw:=E.at_ 0 rfl;have au:=E.frozen 0;have Hz:=hide (step_none d);have HE:=hide T;clear d T;gi_wp2;have ao:=(KeepsOthers.setCell W ⟨w.heap.size+2,0,ay⟩ (.int .i64 0)).same D _ hK rfl;refine⟨by simp,.inl ⟨_,_,rfl,run_takeDeferred ao,?_⟩⟩;have V:=E.eL 0 (.int .i64 0);have aa:∀o:Obj,((W.setCell ⟨w.heap.size+2,0,ay⟩ (.int .i64 0)).putObj D o).cell? ⟨w.heap.size+2,0,ay⟩=aB (.int .i64 0):=λo=>Box.at_ ((World.putObj_heap_other zO).trans V) 0 rfl;refine⟨.int .i64 0,by simp[results,results230,go_sem,aa],eB.mk (fx (HE.out.setCell (p:=⟨w.heap.size+2,0,ay⟩) (show w.heap.size≤w.heap.size+2 by omega) _) zO _) ?_⟩;rw[Hz.out];rfl
 case stop=>
  rintro D c' ab W hD U-⟨rfl,T,E⟩ hK;gi_wp2;refine⟨by simp,.inl ⟨_,_,rfl,run_takeDeferred hK,?_⟩⟩;have aa:∀o:Obj,(W.putObj D o).cell? ⟨w.heap.size+2,0,ay⟩=aB (.int .i64 (sr K lk nd c)):=λo=>Box.at_ ((World.putObj_heap_other zO).trans E) 0 rfl;refine⟨.int .i64 (sr K lk nd c),by simp[results,results230,go_sem,aa],eB.mk (fx T zO _) (eC.mk _ _)⟩
end
end Go.Proofs.YtofgfpffcegioaaGreat
