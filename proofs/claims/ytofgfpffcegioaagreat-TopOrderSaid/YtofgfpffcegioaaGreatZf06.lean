/- A part of the proof. -/
import Derived.Test.YtofgfpffcegioaaGreatZf00
import Derived.Test.YtofgfpffcegioaaGreatZf04
import Derived.WalkSpells
import Derived.WalkLawsBesides
import Derived.Deep.Cut
set_option maxRecDepth 100000
set_option maxHeartbeats 8000000
namespace Go.Proofs.YtofgfpffcegioaaGreat
open Go.RowKit iT Go.Proofs.Tryz
open Go renaming World → ak,Calls → aq
open Go.Proofs.Tryz renaming underlying43 → aj,underlying5 → al,underlying9 → an,prog → ar
open List renaming take_succ_eq_append_getElem → ai,flatten_append → ao
theorem BS{c:UInt8}(h:¬(65≤c.toNat∧c.toNat≤90)):(c.toNat:Int)=((gy c).toNat:Int):=by unfold gy;grind
theorem yE{c:UInt8}(h:65≤c.toNat∧c.toNat≤90):(c.toNat:Int)+32=((gy c).toNat:Int):=by
 unfold gy;rw[if_pos h,UInt8.toNat_ofNat'];omega
theorem Ik(c:UInt8)(w:ak):aq ar 211 #[ff c] w (eB w (eC (ff (gy c)))):=by
 have E:=UInt8.toNat_lt c;have d:=hide (@BS c);have s:=hide (@yE c);unfold ff;generalize h:((gy c).toNat:Int)=y at*;generalize c.toNat=x at*;clear h;go_enter func211,ntmps211;by_cases I:(65:Int)≤x
 ·by_cases H:(x:Int)≤90
  ·have e:=s.out zO;go_wp2;go_ret;exact eB.mk (Ext.rf _) rfl
  ·have e:=d.out zO;go_wp2;go_ret;exact eB.mk (Ext.rf _) rfl
 ·have e:=d.out zO;go_wp2;go_ret;exact eB.mk (Ext.rf _) rfl
theorem KY(x y:UInt8):decide ((x.toNat:Int)=(y.toNat:Int))=decide (x=y):=by
 rw[Bool.eq_iff_iff];simp only[decide_eq_true_eq];grind[UInt8.toNat_inj]
theorem Tryz.BU:(prog.info? 5).map (λi=>(i.zero,i.size,i.bytes))=some (some (.int .u8 0),1,1):=by rfl
theorem Gr(x:UInt8)(t:TypeId)(w:ak):eu [x] (.slice (some ⟨w.heap.size,0,none⟩) 1 1) (w.alloc (.cells #[.int .u8 (x.toNat:Int)] t)):=
 eu.of (bs:=[x]) (Nat.le_refl _) zD λ_=>⟨_,0,rfl,by simp,λj h=>by
  have d:j=0:=zG;simp_all⟩
theorem tP(bs:L8)(v:Value)(w:ak)(hP:eu bs v w)(ad:bs.length≤1000000):aq ar 158 #[v] w (eY w (λv w'=>OwnB w' w.heap.size 5 v (folds bs))):=by
 obtain⟨A,c,rfl,ag,ab,hx⟩:=eu.form hP;obtain⟨i0,hi,Y,W,V⟩:=info_parts Tryz.BU;clear hP;unfold maxLen at ab;go_enter func158,ntmps158;go_wp2
 go_loopw [3,4] (λl i wr=>∃k:Nat,k≤bs.length∧i=iV k∧Hid (OwnB wr w.heap.size 5 l (folds (bs.take k)))∧Below w.heap.size w wr)
  (λ_ i _=>bs.length-(intOf i).toNat)
 case atStart=>exact⟨0,by omega,rfl,OwnB.nil _ _ _,Below.refl _ _⟩
 case round=>
  obtain⟨k,hk,rfl,O,T⟩:=hrel;by_cases aa:k<bs.length
  ·obtain⟨b,U,rfl,hb,d⟩:=hx zO;have ae:=(T.cell (p:=⟨b,U+k,none⟩) hb).trans (d k aa);have H:folds (bs.take (k+1))=folds (bs.take k)++[gy bs[k]]:=by grind[folds,ai]
   have af:(folds (bs.take k)).length=k:=by rw[ky,List.length_take];omega
   have Qo:=hide H;clear d hx H;generalize bs[k]=x at*;go_wp2_with fail;refine(Ik x wr).mono ?_;rintro e w2 ⟨v,rfl,J,rfl⟩;have s:=T.trans (J.mono T.size);have O:=hide (OwnB.st O.out J);unfold ff;go_wp2_with(at_builtin;refine gC rfl _ _ 43 rfl w.heap.size 5 i0 (.int .u8 0) aj hi Y W V rfl _ _ (folds (bs.take k)) [gy x] rfl (OwnB.st O.out (ek _ _)) rfl (Gr _ _ _) zG (Nat.le_trans s.size zS) ?_;intro v' w' E h ah)
   have I:=s.trans ((ek w2 (.cells #[.int .u8 ((gy x).toNat:Int)] 5)).mono s.size);refine⟨⟨k+1,by omega,by go_num,?_,I.grown h I.size (λj hj=>OwnB.ge O.out j hj)⟩,by grind[intOf]⟩;show OwnB _ _ _ _ _;rw[Qo.out];exact E
  ·obtain rfl:k=bs.length:=zO;go_wp2;go_ret;refine eY.mk T ?_;have:=O.out;simp_all
theorem vj(c:UInt8)(w:ak):aq ar 220 #[ff c] w (eB w (eC (ff (gy c)))):=by
 have E:=UInt8.toNat_lt c;have d:=hide (@BS c);have s:=hide (@yE c);unfold ff;generalize h:((gy c).toNat:Int)=y at*;generalize c.toNat=x at*;clear h;go_enter func220,ntmps220;by_cases I:(65:Int)≤x
 ·by_cases H:(x:Int)≤90
  ·have e:=s.out zO;go_wp2;go_ret;exact eB.mk (Ext.rf _) rfl
  ·have e:=d.out zO;go_wp2;go_ret;exact eB.mk (Ext.rf _) rfl
 ·have e:=d.out zO;go_wp2;go_ret;exact eB.mk (Ext.rf _) rfl
theorem yF(x y:UInt8)(w:ak):aq ar 294 #[.agg #[],ff x,ff y] w (eB w (eC (.bool (decide (x=y))))):=by
 rw[←KY];unfold ff;generalize(x.toNat:Int)=a;generalize(y.toNat:Int)=b;go_enter func294,ntmps294;go_wp2;go_ret;exact eB.mk (ek _ _) (congrArg Value.bool zR)
def Sy(d:Bool):FuncId:=if d then 293 else 294
def VG(d:Bool):Value:=.func (.func (Sy d)) #[.agg #[]] #[]
theorem BV{P:Program}{w:ak}{g:Nat}{e:TypeId}{cs:AV}(d:Box w g e cs)(s:P.cellsOf e=0):(byteOf ⟨g,0,none⟩).run P w=.ok 0 w:=by
 have h:w.shape? g=some (e,cs.size):=by unfold World.shape?;rw[show w.heap[g]?=_ from d]
 simp_all[byteOf,noView,viewAt,run_program,Result.andThen]
theorem tQ{P:Program}{w:ak}{g:Nat}{e:TypeId}{cs:AV}(d:Box w g e cs)(h:P.cellsOf e=0):(partAt ⟨g,0,none⟩ 0 0).run P w=.ok ⟨g,0,none⟩ w:=by
 simp[partAt,BV d h]
theorem Qp(d:Bool)(w:ak):aq ar 263 #[.bool d] w (eB w (eC (VG d))):=by
 cases d
 ·have h:=tQ (P:=ar) (Box.new w 428 #[]) zR;go_enter func263,ntmps263;go_wp2;go_ret;exact eB.mk (ek _ _) rfl
 ·go_enter func263,ntmps263;go_wp2;go_ret;exact eB.mk (ek _ _) rfl
section
variable {w0:ak}
theorem KZ(c:UInt8):∀v w,Ext w0 w→eC (ff c) v w→aq ar 220 #[v] w (eB w (eC (ff (gy c)))):=λv w _ d=>by rw[show v=_ from d];exact vj c w
theorem NT(x y:UInt8):∀u v z w,Ext w0 w→eC (.agg #[]) u w→eC (ff x) v w→eC (ff y) z w→aq ar 294 #[u,v,z] w (eB w (eC (.bool (decide (x=y))))):=λu v z w _ s h d=>by
 rw[show u=_ from s,show v=_ from h,show z=_ from d];exact yF x y w
end
theorem Ej(x y:UInt8)(w:ak):aq ar 293 #[.agg #[],ff x,ff y] w (eB w (eC (.bool (decide (gy x=gy y))))):=by
 go_enter func293,ntmps293;go_upto_region 1 with(fail)
 have J:=(Box.new w 428 #[]).ext (eh _);refine NQ (r:=.bool (decide (gy x=gy y))) (by assumption) 7 [] 6 13 _ zR zK (λ_ _ _ _ _ h=>h) rfl rfl rfl rfl rfl zR rfl 6 rfl rfl ?_;refine ed.gF (r:=gP w.heap.size) (Operand.tmp 3) wA oA (λH W E s=>by
  have I:=tQ (P:=ar) (J.ext E) zR;simp[execOp,s,go_sem,I]) ?_
 refine ed.gF (r:=.agg #[]) (Operand.tmp 7) wA oA (λH W E s=>by simp[execOp,s,go_sem]) ?_;refine ed.move _ rfl wA oA ?_;refine ed.gz 220 _ _ rfl (enters_of func220 zR rfl) wA oA (KZ x) ?_;refine ed.move _ rfl wA oA ?_;refine ed.gz 220 _ _ rfl (enters_of func220 zR rfl) wA oA (KZ y) ?_;refine ed.call3 294 _ _ _ _ rfl (enters_of func294 zR rfl) wA oA oA oA (NT _ _) ?_;refine⟨rfl,rfl,rfl,λO d=>?_⟩;exact eB.mk ((ek _ _).tr ((eh _).tr d)) rfl
theorem NU(d:Bool)(x y:UInt8)(w:ak):aq ar (Sy d) #[.agg #[],ff x,ff y] w (eB w (eC (.bool (R8 d x y)))):=by
 cases d
 ·exact yF x y w
 ·exact Ej x y w
theorem Ek(d:Bool)(args:AV)(w:ak):(callFunc (Sy d) args).run ar w=.ok (.enter (Sy d) args) w:=by
 cases d
 ·rfl
 rfl
section
variable {w0:ak}
theorem yG(bs:L8)(h:bs.length≤1000000):∀v w,Ext w0 w→eu bs v w→aq ar 158 #[v] w (eB w (eu (folds bs))):=λv w _ d=>
 (tP bs v w d h).mono λ_ _ ⟨u,H,E,s⟩=>⟨u,H,E,OwnB.bytes s⟩
end
section
variable {P:Program} {Q:Exit→Act→ak→Prop} {ops:Array Oper} {M m:Nat} {a0:Act} {w0:ak} {K:List Oper→List VP→Prop} {o:Oper} {rest:List Oper} {env:List VP}
theorem ed.Qq{a b:L8}(t t':TypeId)(x y:Operand)(I:o.op=.binOp .eql t x y t')(H:Want ops M a0 w0 env o true)(E:fu ops M a0 w0 env o x (eC (.string ⟨a.toArray⟩)))(s:fu ops M a0 w0 env o y (eC (.string ⟨b.toArray⟩)))
  (d:ed P Q ops M a0 w0 K m rest (eC (.bool (decide (a=b)))::env)):ed P Q ops M a0 w0 K (m+1) (o::rest) env:=by
 by_cases h:a=b
 ·rw[show decide (a=b)=true by grind]at d;exact ed.Ua t t' x y I H E s (by rw[h]) d
 ·rw[show decide (a=b)=false by grind]at d;exact .iu x y H E s (λT w _ O J=>by
   unfold execOp;simp[I,O,J,go_sem,h]) d
end
theorem Il(h:Bool)(xs s:L8)(u v:Value)(w:ak)(H:eu xs u w)(E:eu s v w)(h1:xs.length≤1000000)(h2:s.length≤1000000):aq ar 117 #[.bool h,u,v] w (eB w (eC (.bool (gM h xs s)))):=by
 obtain⟨A,c,rfl,-⟩:=eu.form H;obtain⟨B,d,rfl,-⟩:=eu.form E;go_enter func117,ntmps117;cases h
 ·go_upto_region 3 with(fail)
  refine BP (r:=.bool (gM false xs s)) (by assumption) 5 6 19 _ zK rfl rfl rfl rfl rfl zR rfl 4 rfl rfl ?_;refine ed.move _ rfl wA (fU 1 rfl H (Ext.rf _) zR) ?_;refine ed.string 43 9 5 _ rfl aj al an wA oA ?_;refine ed.move _ rfl wA (fU 2 rfl E (Ext.rf _) zR) ?_;refine ed.string 43 9 5 _ rfl aj al an wA oA ?_;refine ed.Qq _ _ _ _ rfl wA oA oA ?_;refine⟨rfl,rfl,rfl,λW3 U=>?_⟩;exact eB.mk U rfl
 ·go_upto_region 2 with(fail)
  refine vQ 7 ?_;refine ed.move _ rfl wA (fU 1 rfl H (eh _) zR) ?_;refine ed.gz 158 _ _ rfl (enters_of func158 zR rfl) wA oA (yG xs h1) ?_;refine ed.string 43 9 5 _ rfl aj al an wA oA ?_;refine ed.move _ rfl wA (fU 2 rfl E (eh _) zR) ?_;refine ed.gz 158 _ _ rfl (enters_of func158 zR rfl) wA oA (yG s h2) ?_;refine ed.string 43 9 5 _ rfl aj al an wA oA ?_;refine ed.Qq _ _ _ _ rfl wA oA oA ?_;refine⟨rfl,λW2 V=>?_⟩;first|refine ew.eq ?_|refine ew.any λab T=>?_
  first|refine ew.eq ?_|refine ew.any λaa O=>?_
  refine ew.eq ?_;first|refine ew.eq ?_|refine ew.any λY J=>?_
  first|refine ew.eq ?_|refine ew.any λW I=>?_
  iterate 2 refine ew.eq ?_
  refine ew.nil ?_;simp only[Act.put,List.setIfInBounds_toArray,List.set_cons_zero,List.set_cons_succ];go_wp2;go_ret;exact eB.mk ((eh _).tr V) rfl
theorem vk(d:LL)(k:Nat)(h:k<d.length):(d.take (k+1)).flatten=(d.take k).flatten++d[k]:=by
 grind[ai,ao]
theorem dV(d:LL)(k:Nat):(d.take k).flatten.length≤d.flatten.length:=by
 grind[List.take_append_drop,ao,List.length_append]
end Go.Proofs.YtofgfpffcegioaaGreat
