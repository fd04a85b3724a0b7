/- A part of the proof. -/
import Derived.Test.YtofgfpffcegioaaGreatZf39
set_option maxRecDepth 100000
set_option maxHeartbeats 8000000
namespace Go.Proofs.YtofgfpffcegioaaGreat
open Go.RowKit Go.Shelf Go.Sort iT jH fq Go.Proofs.Tryz
open _root_.Go renaming wpList_append_own → al,info_parts → au
open Go.Lib renaming run_eql_slice_nil → af,cell?_alloc_some → ah
open Go.Proofs.Tryz renaming underlying43 → ao
open Go.RowKit.Below renaming refl → av
open Go.Value renaming ownBlock → an
open Go.World renaming ownsRow_made → aj,ownsRow_nil → ak
open Nat renaming le_refl → ag,eq_zero_or_pos → ai,zero_add → aq,zero_le → ar
theorem Tryz.MA:(prog.info? 4).map (λi=>(i.zero,i.size,i.bytes))=some (some (.bool false),1,1):=by rfl
theorem xa(u:Value)(n:Nat)(d:List Value)(w:World)(hl:d.length=n*1)(hx:Src w u n d)(h1:∀y∈d,y.oneCell'=true)(hn:n≤100000000) :
  Calls prog 91 #[u] w (eY w λv w'=>w'.ownsRow w.heap.size 5 1 v n d):=by
 obtain⟨i0,hi,Y,U,T⟩:=au Tryz.tB;obtain⟨A,c,rfl,hc⟩:=hx;have ae:∀(w:World) (a:Option Addr) (n c O c':Nat),(binOp .eql 43 (.slice a n c) (.slice none O c')).run prog w=.ok (.bool a.isNone) w:=λw a n c O c'=>af w _ _ a n c O c' ao;rcases A with _|ad
 ·have aa:n=0:=by
   grind
  subst aa;have s:d=[]:=zG;subst s;clear hc hl h1;go_enter func91,ntmps91;go_wp2;go_ret;simp_all[eY.mk,Ext.rf,ak]
 ·have J:∀j y,d[j]?=some y→w.cell? (ad.add j)=some y:=λj y hj=>by
   grind[ai,addr_add]
  have H:=hide J;have H1:=hide h1;have Hl:=hide hl;clear J hc h1 hl;go_enter func91,ntmps91;go_wp2_with(at_builtin;refine al _ rfl _ _ 43 rfl w.heap.size 5 i0 _ 1 1 ao hi Y U T rfl zO _ _ _ rfl (aj w #[] 0 (ag _) (ar _) zS) ad n c d rfl ?qc1 ?qc2 ?qc3 ?qc4 ?qc5 ?qc6 ?_)
  case qc1=>exact Hl.out
  case qc2=>
   intro j y hj;exact ah _ (H.out j y hj)
  case qc3=>exact H1.out
  case qc4=>rw[aq];grind[maxLen]
  case qc5=>omega
  case qc6=>simp
  intro v' w1 ab E s;go_wp2;go_ret;refine eY.mk (((av _ w).alloc (ag _) _).grown E zS (by grind[an])) (by simp_all)
theorem Fq(u:Value)(n:Nat)(d:List Value)(w:World)(hl:d.length=n*1)(hx:Src w u n d)(h1:∀y∈d,y.oneCell'=true)(hn:n≤100000000) :
  Calls prog 249 #[u] w (eY w λv w'=>w'.ownsRow w.heap.size 5 1 v n d):=by
 obtain⟨i0,hi,Y,U,T⟩:=au Tryz.tB;obtain⟨A,c,rfl,hc⟩:=hx;have ae:∀(w:World) (a:Option Addr) (n c O c':Nat),(binOp .eql 43 (.slice a n c) (.slice none O c')).run prog w=.ok (.bool a.isNone) w:=λw a n c O c'=>af w _ _ a n c O c' ao;rcases A with _|ad
 ·have aa:n=0:=by
   grind
  subst aa;have s:d=[]:=zG;subst s;clear hc hl h1;go_enter func249,ntmps249;go_wp2;go_ret;simp_all[eY.mk,Ext.rf,ak]
 ·have J:∀j y,d[j]?=some y→w.cell? (ad.add j)=some y:=λj y hj=>by
   grind[ai,addr_add]
  have H:=hide J;have H1:=hide h1;have Hl:=hide hl;clear J hc h1 hl;go_enter func249,ntmps249;go_wp2_with(at_builtin;refine al _ rfl _ _ 43 rfl w.heap.size 5 i0 _ 1 1 ao hi Y U T rfl zO _ _ _ rfl (aj w #[] 0 (ag _) (ar _) zS) ad n c d rfl ?qc1 ?qc2 ?qc3 ?qc4 ?qc5 ?qc6 ?_)
  case qc1=>exact Hl.out
  case qc2=>
   intro j y hj;exact ah _ (H.out j y hj)
  case qc3=>exact H1.out
  case qc4=>rw[aq];grind[maxLen]
  case qc5=>omega
  case qc6=>simp
  intro v' w1 ab E s;go_wp2;go_ret;refine eY.mk (((av _ w).alloc (ag _) _).grown E zS (by grind[an])) (by simp_all)
theorem Ft(u:Value)(n:Nat)(d:List Value)(w:World)(hl:d.length=n*2)(hx:Src w u n d)(h1:∀y∈d,y.oneCell'=true)(hn:n≤100000000) :
  Calls prog 54 #[u] w (eY w λv w'=>w'.ownsRow w.heap.size 50 2 v n d):=by
 obtain⟨i0,hi,Y,U,T⟩:=au Tryz.pN;obtain⟨A,c,rfl,hc⟩:=hx;have ae:∀(w:World) (a:Option Addr) (n c O c':Nat),(binOp .eql 38 (.slice a n c) (.slice none O c')).run prog w=.ok (.bool a.isNone) w:=λw a n c O c'=>af w _ _ a n c O c' underlying38;rcases A with _|ad
 ·have aa:n=0:=by
   grind
  subst aa;have s:d=[]:=zG;subst s;clear hc hl h1;go_enter func54,ntmps54;go_wp2;go_ret;simp_all[eY.mk,Ext.rf,ak]
 ·have J:∀j y,d[j]?=some y→w.cell? (ad.add j)=some y:=λj y hj=>by
   grind[ai,addr_add]
  have H:=hide J;have H1:=hide h1;have Hl:=hide hl;clear J hc h1 hl;go_enter func54,ntmps54;go_wp2_with(at_builtin;refine al _ rfl _ _ 38 rfl w.heap.size 50 i0 _ 2 16 underlying38 hi Y U T rfl zO _ _ _ rfl (aj w #[] 0 (ag _) (ar _) zS) ad n c d rfl ?qc1 ?qc2 ?qc3 ?qc4 ?qc5 ?qc6 ?_)
  case qc1=>exact Hl.out
  case qc2=>
   intro j y hj;exact ah _ (H.out j y hj)
  case qc3=>exact H1.out
  case qc4=>rw[aq];grind[maxLen]
  case qc5=>omega
  case qc6=>simp
  intro v' w1 ab E s;go_wp2;go_ret;refine eY.mk (((av _ w).alloc (ag _) _).grown E zS (by grind[an])) (by simp_all)
theorem Fv(u:Value)(n:Nat)(d:List Value)(w:World)(hl:d.length=n*1)(hx:Src w u n d)(h1:∀y∈d,y.oneCell'=true)(hn:n≤100000000) :
  Calls prog 81 #[u] w (eY w λv w'=>w'.ownsRow w.heap.size 4 1 v n d):=by
 obtain⟨i0,hi,Y,U,T⟩:=au Tryz.MA;obtain⟨A,c,rfl,hc⟩:=hx;have ae:∀(w:World) (a:Option Addr) (n c O c':Nat),(binOp .eql 27 (.slice a n c) (.slice none O c')).run prog w=.ok (.bool a.isNone) w:=λw a n c O c'=>af w _ _ a n c O c' underlying27;rcases A with _|ad
 ·have aa:n=0:=by
   grind
  subst aa;have s:d=[]:=zG;subst s;clear hc hl h1;go_enter func81,ntmps81;go_wp2;go_ret;simp_all[eY.mk,Ext.rf,ak]
 ·have J:∀j y,d[j]?=some y→w.cell? (ad.add j)=some y:=λj y hj=>by
   grind[ai,addr_add]
  have H:=hide J;have H1:=hide h1;have Hl:=hide hl;clear J hc h1 hl;go_enter func81,ntmps81;go_wp2_with(at_builtin;refine al _ rfl _ _ 27 rfl w.heap.size 4 i0 _ 1 1 underlying27 hi Y U T rfl zO _ _ _ rfl (aj w #[] 0 (ag _) (ar _) zS) ad n c d rfl ?qc1 ?qc2 ?qc3 ?qc4 ?qc5 ?qc6 ?_)
  case qc1=>exact Hl.out
  case qc2=>
   intro j y hj;exact ah _ (H.out j y hj)
  case qc3=>exact H1.out
  case qc4=>rw[aq];grind[maxLen]
  case qc5=>omega
  case qc6=>simp
  intro v' w1 ab E s;go_wp2;go_ret;refine eY.mk (((av _ w).alloc (ag _) _).grown E zS (by grind[an])) (by simp_all)
end Go.Proofs.YtofgfpffcegioaaGreat
