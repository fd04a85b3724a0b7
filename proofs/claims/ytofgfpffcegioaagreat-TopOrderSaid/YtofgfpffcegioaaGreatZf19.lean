/- A part of the proof. -/
import Derived.Test.YtofgfpffcegioaaGreatZf15
import Derived.Test.YtofgfpffcegioaaGreatZf18
set_option maxRecDepth 100000
set_option maxHeartbeats 8000000
namespace Go.Proofs.YtofgfpffcegioaaGreat
open Go.RowKit iT Go.Proofs.Tryz
theorem Ca(bs:L8)(v:Value)(w:World)(hP:eu bs v w)(ad:bs.length≤1000000):Calls prog 162 #[v] w (eY w (λv w'=>OwnB w' w.heap.size 5 v (folds bs))):=by
 obtain⟨A,c,rfl,ag,ab,hx⟩:=eu.form hP;obtain⟨i0,hi,Y,W,V⟩:=info_parts Tryz.BU;clear hP;unfold maxLen at ab;go_enter func162,ntmps162;go_wp2
 go_loopw [3,8] (λl i wr=>∃k:Nat,k≤bs.length∧i=iV k∧Hid (OwnB wr w.heap.size 5 l (folds (bs.take k)))∧Below w.heap.size w wr)
  (λ_ i _=>bs.length-(intOf i).toNat)
 case atStart=>exact⟨0,by omega,rfl,OwnB.nil _ _ _,Below.refl _ _⟩
 case round=>
  obtain⟨k,hk,rfl,O,T⟩:=hrel;by_cases aa:k<bs.length
  ·obtain⟨b,U,rfl,hb,d⟩:=hx zO;have ae:=(T.cell (p:=⟨b,U+k,none⟩) hb).trans (d k aa);have H:folds (bs.take (k+1))=folds (bs.take k)++[gy bs[k]]:=by grind[folds,List.take_succ_eq_append_getElem]
   have af:(folds (bs.take k)).length=k:=by rw[ky,List.length_take];omega
   have Qo:=hide H;clear d hx H;generalize bs[k]=x at*;go_wp2_with fail;refine(vj x wr).mono ?_;rintro e w2 ⟨v,rfl,J,rfl⟩;have s:=T.trans (J.mono T.size);have O:=hide (OwnB.st O.out J);unfold ff;go_wp2_with(at_builtin;refine gC rfl _ _ 43 rfl w.heap.size 5 i0 (.int .u8 0) underlying43 hi Y W V rfl _ _ (folds (bs.take k)) [gy x] rfl (OwnB.st O.out (ek _ _)) rfl (Gr _ _ _) zG (Nat.le_trans s.size zS) ?_;intro v' w' E h ah)
   have I:=s.trans ((ek w2 (.cells #[.int .u8 ((gy x).toNat:Int)] 5)).mono s.size);refine⟨⟨k+1,by omega,by go_num,?_,I.grown h I.size (λj hj=>OwnB.ge O.out j hj)⟩,by grind[intOf]⟩;show OwnB _ _ _ _ _;rw[Qo.out];exact E
  ·obtain rfl:k=bs.length:=zO;go_wp2;go_ret;refine eY.mk T ?_;have:=O.out;simp_all
theorem IC(h:Bool)(text:L8)(ws:LL)(u v:Value)(w:World)(hT:eu text u w)(hP:eD ws v w):Calls prog 161 #[.bool h,u,v] w (eB w (eC (iV (which h text ws)))):=by
 obtain⟨A,c,rfl,af,Y,hx⟩:=eD.form hP;obtain⟨B,d,rfl,-⟩:=eu.form hT;clear hP;unfold maxLen at Y;go_enter func161,ntmps161;go_wp2
 go_loopw [11] (λi wr=>∃k:Nat,k≤ws.length∧i=iV k∧Hid (which h text ws=jd h text k (ws.drop k))∧Below w.heap.size w wr)
  (λi _=>ws.length-(intOf i).toNat)
 case atStart=>exact⟨0,by omega,rfl,rfl,Below.refl _ _⟩
 case round=>
  obtain⟨k,hk,rfl,Ho,H⟩:=hrel;by_cases T:k<ws.length
  ·obtain⟨b,W,rfl,hb,s⟩:=hx zO;obtain⟨x,J,I⟩:=s k T;have ae:=(H.cell (p:=⟨b,W+k,none⟩) hb).trans J;have E:=VP.st _ _ _ _ I H;have aa:=VP.st _ _ _ _ hT H;obtain⟨A2,c2,rfl,-⟩:=eu.form E;have O:=vF h text ws k T Ho.out;have rq:=hide O;have Hx:=hide E;clear s hx J I E O Ho;generalize ws[k]=bs at*;go_wp2_with fail;refine(K8 h bs text _ _ wr Hx.out aa).mono ?_;rintro e w2 ⟨v,rfl,ad,rfl⟩;rw[D4 h bs text];have ab:=H.trans (ad.mono H.size);cases U:gM h text bs
   ·have V:=hide (rq.out.2 U);clear rq U;go_wp2;grind[intOf]
   ·have V:=hide (rq.out.1 U);clear rq U;go_wp2;go_ret;exact eB.mk ab (congrArg (Value.int .i64) V.out.symm)
  ·obtain rfl:k=ws.length:=zO;have V:Hid (which h text ws=-1):=by show which h text ws=-1;rw[Ho.out,List.drop_length];rfl
   go_wp2;go_ret;exact eB.mk H (congrArg (Value.int .i64) V.out.symm)
end Go.Proofs.YtofgfpffcegioaaGreat
