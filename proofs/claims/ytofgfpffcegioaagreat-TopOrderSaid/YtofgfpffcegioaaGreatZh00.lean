/- A part of the proof. -/
import Derived.Test.YtofgfpffcegioaaGreatZf46
set_option maxRecDepth 100000
set_option maxHeartbeats 8000000
namespace Go.Proofs.YtofgfpffcegioaaGreat
open Go.RowKit
section
variable {P:Program} {Q:Exit→Act→World→Prop} {ops:Array Oper} {M m:Nat} {a0:Act} {w0:World} {K:List Oper→List VP→Prop} {o:Oper} {rest:List Oper} {env:List VP}
theorem ed.bU{k:IntKind}{a b:Int}(t t':TypeId)(x y:Operand)(H:o.op=.binOp .leq t x y t')(s:Want ops M a0 w0 env o true)(h:fu ops M a0 w0 env o x (eC (.int k a)))(d:fu ops M a0 w0 env o y (eC (.int k b)))
  (I:¬a≤b)
  (E:ed P Q ops M a0 w0 K m rest (eC (.bool false)::env)):ed P Q ops M a0 w0 K (m+1) (o::rest) env:=
 .iu x y s h d (λT w _ O J=>by
  unfold execOp;simp[H,O,J,go_sem];omega) E
end
section
variable {P:Program} {Q:Exit→Act→World→Prop} {ops:Array Oper} {M m:Nat} {a0:Act} {w0:World} {K:List Oper→List VP→Prop} {o:Oper} {rest:List Oper} {env:List VP}
theorem ed.bV{Fs:List VP}(t e:TypeId)(x y z:Operand)(k J:IntKind)(lo hi:Nat)(ho:o.op=.slice t x (some y) (some z) none)(hu:P.underlying t=some (.slice e))(d:(P.info? e).map (·.size)=some 1)
  (Y:Want ops M a0 w0 env o true)(W:fu ops M a0 w0 env o x (jY Fs))(V:fu ops M a0 w0 env o y (eC (.int k (lo:Int))))(U:fu ops M a0 w0 env o z (eC (.int J (hi:Int))))(O:lo≤hi)(hh:hi≤Fs.length)
  (hr:ed P Q ops M a0 w0 K m rest (jY ((Fs.take hi).drop lo)::env)):ed P Q ops M a0 w0 K (m+1) (o::rest) env:=
 .val Y (λa w E I H=>by
  have s:=W a w E I H;have hY:a.eval y=.int k (lo:Int):=V a w E I H;have hZ:a.eval z=.int J (hi:Int):=U a w E I H;obtain⟨A,c,T,_⟩:=id s;rw[T]at s;obtain⟨_,h2,_,h4⟩:=jY.cut (lo:=lo) (hi:=hi) s O hh;cases h:P.info? e with
  |none=>simp[h]at d
  |some ie=>
   simp only[h,Option.map_some,Option.some.injEq]at d;refine⟨_,?_,by simpa using h4⟩;unfold execOp;simp[ho,T,hY,hZ,Instr.sliceAt,Instr.slice,Instr.sliceBounds,Instr.sliceBound,asIntOf,run_underlying hu,sizeOf,typeInfo,h,d,O,show hi≤c by omega]) hr
theorem ed.gd{bs:L8}(t e:TypeId)(x y z:Operand)(k h:IntKind)(lo hi:Nat)(T:o.op=.slice t x (some y) (some z) none)(J:P.underlying t=some (.slice e))(d:(P.info? e).map (·.size)=some 1)
  (I:Want ops M a0 w0 env o true)(H:fu ops M a0 w0 env o x (eu bs))(E:fu ops M a0 w0 env o y (eC (.int k (lo:Int))))(s:fu ops M a0 w0 env o z (eC (.int h (hi:Int))))(U:lo≤hi)(V:hi≤bs.length)
  (O:ed P Q ops M a0 w0 K m rest (eu ((bs.take hi).drop lo)::env)):ed P Q ops M a0 w0 K (m+1) (o::rest) env:=
 .bV t e x y z k h lo hi T J d I H E s U (by simpa using V) (by rw[←List.map_take,←List.map_drop];exact O)
theorem ed.bN{bs:L8}(t e:TypeId)(x y:Operand)(k:IntKind)(hi:Nat)(J:o.op=.slice t x none (some y) none)(H:P.underlying t=some (.slice e))(d:(P.info? e).map (·.size)=some 1)
  (E:Want ops M a0 w0 env o true)(s:fu ops M a0 w0 env o x (eu bs))(h:fu ops M a0 w0 env o y (eC (.int k (hi:Int))))(O:hi≤bs.length)
  (I:ed P Q ops M a0 w0 K m rest (eu (bs.take hi)::env)):ed P Q ops M a0 w0 K (m+1) (o::rest) env:=
 .S2 t e x y k hi J H d E s h (by simpa using O) (by rw[←List.map_take];exact I)
end
end Go.Proofs.YtofgfpffcegioaaGreat
namespace Go.Proofs.YtofgfpffcegioaaGreat.iT
def bb(h:Bool)(text:List UInt8)(d:Int)(word:List UInt8):Bool:=
 decide ((word.length:Int)≤d)&&decide (d≤text.length)&&gM h ((text.take d.toNat).drop (d.toNat-word.length)) word
end Go.Proofs.YtofgfpffcegioaaGreat.iT
namespace Go.Proofs.YtofgfpffcegioaaGreat
open Go.RowKit iT Go.Proofs.Tryz
theorem br(s:Bool)(text word:L8)(d:Int)(h:d<word.length):bb s text d word=false:=by unfold bb;rw[show decide ((word.length:Int)≤d)=false by simpa using h];rfl
theorem bt(s:Bool)(text word:L8)(d:Int)(h:(text.length:Int)<d):bb s text d word=false:=by unfold bb;rw[show decide (d≤(text.length:Int))=false by simpa using h,Bool.and_false];rfl
theorem bu(d:Bool)(text word:L8)(k:Nat)(s:word.length≤k)(h:k≤text.length):bb d text (k:Int) word=gM d ((text.take k).drop (k-word.length)) word:=by
 unfold bb;rw[show decide ((word.length:Int)≤(k:Int))=true by simpa using s,show decide ((k:Int)≤(text.length:Int))=true by simpa using h];simp
section
variable {w0:World}
theorem bJ(d:Bool)(xs h:L8)(J:xs.length≤1000000)(I:h.length≤1000000):∀b u v w,Ext w0 w→eC (.bool d) b w→eu xs u w→eu h v w→Calls prog 117 #[b,u,v] w (eB w (eC (.bool (gM d xs h)))):=λb u v w _ H E s=>by
 rw[show b=_ from H];exact Il d xs h u v w E s J I
end
end Go.Proofs.YtofgfpffcegioaaGreat
namespace Go.Proofs.YtofgfpffcegioaaGreat
namespace fq
section
variable {c:Cf} {M:Mc} {S:List UInt8→List Nat} {text:List UInt8} {ans:List Bool} {s:St}
variable {r:Rn} {g:Go}
theorem aO(d:xR M S)(E:1≤r.cf.block)(h:0<r.cf.ring):dY r M S (r.run M r.most r.start):=
 dY.run d E r.most r.start ⟨Good.start d h _ _,λe=>by cases e⟩ λe=>by cases e
end
end fq
end Go.Proofs.YtofgfpffcegioaaGreat
namespace Go.Proofs.YtofgfpffcegioaaGreat
open Go.RowKit Go.Shelf iT jH Go.Proofs.Tryz
theorem bk(f:Bool)(ws:LL)(u:Value)(w:World)(hS:jj f ws u w)(hl:∀b∈ws,b.length≤1000000):Calls prog 70 #[u] w (eB w (eC (iV (fG ws:Int)))):=by
 obtain⟨sl,rfl,Y⟩:=hS;obtain⟨A,c,rfl,ab,J,U⟩:=eD.form Y;unfold maxLen at J;clear Y;have W:Ext w (w.alloc (.cells #[.bool f,.slice A ws.length c] 24)):=ek _ _;have V:=Box.new w 24 #[.bool f,.slice A ws.length c];have ad:=V.at_ 1 rfl;go_enter func70,ntmps70;go_wp2;clear V
 go_loopw [3,4] (λm i wr=>∃k n:Nat,k≤ws.length∧i=iV k∧m=iV n∧n≤1000000∧Hid (fG (ws.take k)=n)∧wr=w.alloc (.cells #[.bool f,.slice A ws.length c] 24)) (λ_ i _=>ws.length-(intOf i).toNat)
 case atStart=>exact⟨0,0,by omega,rfl,rfl,by omega,hide (by simp[fG]),rfl⟩
 case round=>
  obtain⟨k,n,hk,rfl,rfl,hn,HN,rfl⟩:=hrel;by_cases s:k<ws.length
  ·obtain⟨b,H,rfl,O,d⟩:=U zO;obtain⟨z,T,E⟩:=d k s;have aa:=(W.cell (p:=⟨b,H+k,none⟩) O).trans T;obtain⟨A2,c2,rfl,-⟩:=eu.form E;have I:=hl _ (List.getElem_mem s);have h:=ED ws k s;rw[HN.out]at h;have DW:=hide h;clear d U T E h;generalize ws[k].length=q at*;by_cases hm:(n:Int)<(q:Int)
   ·go_wp2;exact⟨⟨k+1,q,by omega,by go_num,by go_num,I,by show _=_;rw[DW.out];omega,trivial⟩,by simp[intOf];omega⟩
   ·go_wp2;exact⟨⟨k+1,n,by omega,by go_num,by go_num,hn,by show _=_;rw[DW.out];omega,trivial⟩,by simp[intOf];omega⟩
  ·obtain rfl:k=ws.length:=zO;have gK:Hid (fG ws=n):=by have:=HN.out;rwa [List.take_length]at this
   go_wp2;go_ret;exact eB.mk W (congrArg (λn:Nat=>iV n) gK.out.symm)
end Go.Proofs.YtofgfpffcegioaaGreat
namespace Go.Proofs.YtofgfpffcegioaaGreat
open iT jH fq Go.Proofs.Tryz
open Bool renaming and_eq_true → af
open List renaming getD_eq_getElem?_getD → aa,getElem?_eq_getElem → ab,length_map → ad,mem_cons_self → ae,mem_cons_of_mem → ag,mem_range → ah
def e5(f:Bool)(ws:LL)(t:L8)(n:Nat):List Nat:=(List.range ws.length).filter λw=>decide ((ws.getD w []).length=n)&&bb f t t.length (ws.getD w [])
def bd(f:Bool)(ws:LL)(t:L8):Nat→List Nat
 |0=>[]
 |n+1=>e5 f ws t (n+1)++bd f ws t n
section
variable {f:Bool} {ws:List (List UInt8)}
theorem bx(t:L8):t.map (gv f)=textF f t:=by
 unfold textF folds;cases f
 ·have e:gv false=id:=by funext x;simp[gv]
  rw[e,List.map_id];rfl
 ·have e:gv true=gy:=by funext x;simp[gv]
  rw[e];rfl
theorem bw(t w:L8)(h:textF f w=w):bb f t t.length w=true↔w.length≤t.length∧w=(t.map (gv f)).drop (t.length-w.length):=by
 unfold bb;rw[show((t.length:Int)).toNat=t.length from rfl,List.take_length,Bx,h,af,af,decide_eq_true_eq,decide_eq_true_eq,decide_eq_true_eq,←bx,List.map_drop];constructor
 ·rintro⟨⟨s,-⟩,d⟩;exact⟨by omega,d.symm⟩
 ·rintro⟨s,d⟩;exact⟨⟨by omega,by omega⟩,d.symm⟩
theorem filter_one:∀(l:List Nat) (p:Nat→Bool) (k:Nat),l.Nodup→(∀x∈l,p x=true↔x=k)→l.filter p=if k∈l then [k]else []
 |[],p,k,_,_=>by simp
 |x::l,p,k,hn,h=>by
  obtain⟨I,H⟩:=List.nodup_cons.1 hn;have s:=filter_one l p k H (λy E=>h y (ag _ E));by_cases e:x=k
  ·subst e;rw[List.filter_cons_of_pos ((h x ae).2 rfl),s,if_neg I,if_pos ae]
  ·rw[List.filter_cons_of_neg (by rw[h x ae];exact e),s];by_cases d:k∈l
   ·rw[if_pos d,if_pos (ag _ d)]
   ·rw[if_neg d,if_neg (λhh=>by rcases List.mem_cons.1 hh with rfl|hh;exact e rfl;exact d hh)]
theorem bn(Y:Pe f ws)(t:L8)(n:Nat):e5 f ws t n=if n≤t.length∧(t.map (gv f)).drop (t.length-n)∈ws then [ws.idxOf ((t.map (gv f)).drop (t.length-n))]else []:=by
 obtain⟨W,U⟩:=Y;have H:(t.map (gv f)).length=t.length:=ad _;have E:∀w,w<ws.length→((decide ((ws.getD w []).length=n)&&bb f t t.length (ws.getD w []))=true↔n≤t.length∧ws.getD w []=(t.map (gv f)).drop (t.length-n)):=by
  intro w T;have V:ws.getD w []∈ws:=by rw[aa,ab T];exact List.getElem_mem T
  rw[af,decide_eq_true_eq,bw t _ (W _ V)];constructor
  ·rintro⟨J,h,s⟩;rw[J]at h s;exact⟨h,s⟩
  ·rintro⟨J,h⟩;have s:(ws.getD w []).length=n:=by rw[h,List.length_drop,H];omega
   exact⟨s,by rw[s];exact J,by rw[s];exact h⟩
 unfold e5;by_cases I:n≤t.length∧(t.map (gv f)).drop (t.length-n)∈ws
 ·rw[if_pos I];have O:=List.idxOf_lt_length_of_mem I.2;rw[filter_one _ _ (ws.idxOf ((t.map (gv f)).drop (t.length-n))) List.nodup_range (λx d=>?_),if_pos (ah.2 O)];have d:=ah.1 d;rw[E x d];constructor
  ·rintro⟨-,h⟩;rw[←h,aa,ab d,Option.getD_some];exact(U.idxOf_getElem x d).symm
  ·rintro rfl;refine⟨I.1,?_⟩;rw[aa,ab O,Option.getD_some,List.getElem_idxOf O]
 ·rw[if_neg I];refine List.filter_eq_nil_iff.2 λx d=>?_;have d:=ah.1 d;rw[E x d];rintro⟨J,h⟩;refine I ⟨J,?_⟩;rw[←h,aa,ab d];exact List.getElem_mem d
theorem bg(E:Pe f ws)(t:L8):∀n,n≤t.length→bd f ws t n=ju ws ((t.map (gv f)).drop (t.length-n))
 |0,_=>by
  rw[Nat.sub_zero,List.drop_eq_nil_of_le (by rw[ad];exact Nat.le_refl _)];rfl
 |n+1,h=>by
  have s:t.length-(n+1)<(t.map (gv f)).length:=by rw[ad];omega
  unfold bd;rw[bn E,bg E t n zO];rw[List.drop_eq_getElem_cons s,show t.length-(n+1)+1=t.length-n by omega];conv=>rhs;unfold ju
  by_cases d:(t.map (gv f))[t.length-(n+1)]::(t.map (gv f)).drop (t.length-n)∈ws
  ·rw[if_pos d,if_pos ⟨h,d⟩];rfl
  ·rw[if_neg d,if_neg (λH=>d H.2)];rfl
theorem bj(d:Pe f ws)(t:L8):∀n,t.length≤n→bd f ws t n=bd f ws t t.length
 |0,h=>by rw[Nat.le_zero.1 h]
 |n+1,h=>by
  by_cases e:t.length=n+1
  ·rw[e]
  ·rw[←bj d t n zO];conv=>lhs;unfold bd
   rw[bn d,if_neg (λs=>by omega)];rfl
theorem bo(h:eS f ws=true)(t:L8):bd f ws t (fG ws)=QF f ws t:=by
 have d:=nR h;unfold QF;by_cases E:fG ws≤t.length
 ·rw[bg d t _ E];refine zg _ _ λw s=>?_;have:=CR s;rw[ad];omega
 ·rw[bj d t _ zO,bg d t _ (Nat.le_refl _),Nat.sub_self,List.drop_zero]
end
end Go.Proofs.YtofgfpffcegioaaGreat
namespace Go.Proofs.YtofgfpffcegioaaGreat
open Go.RowKit iT Go.Proofs.Tryz
theorem bK(s:Bool)(text word:L8)(h:Int)(u v:Value)(w:World)(H:eu text u w)(U:eu word v w)(hw:word.length≤1000000):Calls prog 71 #[.bool s,u,iV h,v] w (eB w (eC (.bool (bb s text h word)))):=by
 obtain⟨A,c,rfl,ab,O,-⟩:=eu.form H;obtain⟨B,d,rfl,aa,J,-⟩:=eu.form U;unfold maxLen at O J;go_enter func71,ntmps71;go_upto_region 2 with(fail)
 by_cases T:(word.length:Int)≤h
 ·by_cases W:h≤(text.length:Int)
  ·obtain⟨k,rfl⟩:∃k:Nat,h=(k:Int):=⟨h.toNat,by omega⟩
   have h3:word.length≤k:=zO;have V:k≤text.length:=zO;have hs:(k:Int)-(word.length:Int)=((k-word.length:Nat):Int):=zO;refine BP (r:=.bool (bb s text k word)) (by assumption) 20 8 31 _ zK rfl rfl rfl rfl rfl zK rfl 19 rfl rfl ?_;refine .rn 2 ?_;refine .rn 9 ?_;refine ed.Eh _ _ _ _ rfl wA oA oA T ?_;refine .rm 2 14 0 ?_;refine ed.move _ rfl (wtt 3 15 0) oA ?_;refine ed.move _ rfl (wtt 3 15 1) (fU 1 rfl H (Ext.rf _) zK) ?_;refine ed.rS 43 5 _ rfl underlying43 (wtt 3 15 2) oA ?_;refine ed.Sr _ _ _ _ rfl (wtt 3 15 3) oA oA W ?_;refine ed.nj _ _ _ rfl wA oA oA ?_;refine .rm 8 20 0 ?_;refine ed.move _ rfl (wtt 9 21 0) oA ?_;refine ed.move _ rfl (wtt 9 21 1) (fU 1 rfl H (Ext.rf _) zK) ?_;refine ed.move _ rfl (wtt 9 21 2) oA ?_;refine ed.move _ rfl (wtt 9 21 3) oA ?_;refine ed.kC _ _ _ _ rfl (wtt 9 21 4) oA oA zO ?_;rw[hs];refine ed.move _ rfl (wtt 9 21 5) oA ?_;refine ed.gd 43 5 _ _ _ .i64 .i64 (k-word.length) k rfl underlying43 zK (wtt 9 21 6) oA oA oA zO V ?_;refine ed.move _ rfl (wtt 9 21 7) (fU 3 rfl U (Ext.rf _) zK) ?_;refine ed.call3 117 _ _ _ _ rfl (enters_of func117 zK rfl) (wtt 9 21 8) oA oA oA (bJ s _ word zT hw) ?_;rw[←bu s text word k h3 V];refine ed.nj _ _ _ rfl wA oA oA ?_;refine⟨rfl,rfl,rfl,λY E=>?_⟩;exact eB.mk E rfl
  ·have I:=bt s text word h zO;refine BP (r:=.bool false) (by assumption) 20 8 31 _ zK rfl rfl rfl rfl rfl zK rfl 19 rfl rfl ?_;refine .rn 2 ?_;refine .rn 9 ?_;refine ed.Eh _ _ _ _ rfl wA oA oA T ?_;refine .rm 2 14 0 ?_;refine ed.move _ rfl (wtt 3 15 0) oA ?_;refine ed.move _ rfl (wtt 3 15 1) (fU 1 rfl H (Ext.rf _) zK) ?_;refine ed.rS 43 5 _ rfl underlying43 (wtt 3 15 2) oA ?_;refine ed.bU _ _ _ _ rfl (wtt 3 15 3) oA oA W ?_;refine ed.nj _ _ _ rfl wA oA oA ?_;refine .rm 8 20 0 ?_;refine ed.skip (lO 9 21 0) ?_;refine ed.skip (lO 9 21 1) ?_;refine ed.skip (lO 9 21 2) ?_;refine ed.skip (lO 9 21 3) ?_;refine ed.skip (lO 9 21 4) ?_;refine ed.skip (lO 9 21 5) ?_;refine ed.skip (lO 9 21 6) ?_;refine ed.skip (lO 9 21 7) ?_;refine ed.skip (lO 9 21 8) ?_;refine ed.Gq _ _ _ rfl wA oA (eE _) ?_;refine⟨rfl,rfl,rfl,λY E=>?_⟩;exact eB.mk E (congrArg Value.bool I.symm)
 ·have I:=br s text word h zO;refine BP (r:=.bool false) (by assumption) 20 8 31 _ zK rfl rfl rfl rfl rfl zK rfl 19 rfl rfl ?_;refine .rn 2 ?_;refine .rn 9 ?_;refine ed.Sq _ _ _ _ rfl wA oA oA T ?_;refine .rm 2 14 0 ?_;refine ed.skip (lO 3 15 0) ?_;refine ed.skip (lO 3 15 1) ?_;refine ed.skip (lO 3 15 2) ?_;refine ed.skip (lO 3 15 3) ?_;refine ed.Gq _ _ _ rfl wA oA (eE _) ?_;refine .rm 8 20 0 ?_;refine ed.skip (lO 9 21 0) ?_;refine ed.skip (lO 9 21 1) ?_;refine ed.skip (lO 9 21 2) ?_;refine ed.skip (lO 9 21 3) ?_;refine ed.skip (lO 9 21 4) ?_;refine ed.skip (lO 9 21 5) ?_;refine ed.skip (lO 9 21 6) ?_;refine ed.skip (lO 9 21 7) ?_;refine ed.skip (lO 9 21 8) ?_;refine ed.Gq _ _ _ rfl wA oA (eE _) ?_;refine⟨rfl,rfl,rfl,λY E=>?_⟩;exact eB.mk E (congrArg Value.bool I.symm)
end Go.Proofs.YtofgfpffcegioaaGreat
namespace Go.Proofs.YtofgfpffcegioaaGreat
open Go.RowKit Go.Shelf Go.Sort iT jH fq Go.Proofs.Tryz
open Go.RowKit renaming intOf → gk
open Go.Value renaming slice → gr
open List renaming length_append → gn,length_map → b1,drop_eq_getElem_cons → cf,length_range → c0,drop_eq_nil_of_le → c3,getD_eq_getElem?_getD → ds,getElem_range → dt,getElem?_eq_getElem → gp,length_singleton → gq
open Nat renaming lt_of_lt_of_le → e3,zero_le → gm
open Option renaming none → gf,some → gl
section
def bf(f:Bool)(ws:LL)(t:L8)(n k:Nat):List Nat:=((List.range ws.length).drop k).filter λw=>decide ((ws.getD w []).length=n)&&bb f t t.length (ws.getD w [])
theorem bz(f:Bool)(ws:LL)(t:L8)(n k:Nat)(h:ws.length≤k):bf f ws t n k=[]:=by
 unfold bf;rw[c3 (by rw[c0];exact h)];rfl
theorem ba{f:Bool}{ws:LL}{t:L8}{n k:Nat}(h:k<ws.length)(hl:(ws[k]).length=n)(hs:bb f t t.length ws[k]=true):bf f ws t n k=k::bf f ws t n (k+1):=by
 unfold bf;have d:ws.getD k []=ws[k]:=by rw[ds,gp h];rfl
 rw[cf (by rw[c0];exact h),dt,List.filter_cons_of_pos (by rw[d,hs,hl];simp)]
theorem fW{f:Bool}{ws:LL}{t:L8}{n k:Nat}(h:k<ws.length)(hl:(ws[k]).length=n→bb f t t.length ws[k]=false):bf f ws t n k=bf f ws t n (k+1):=by
 unfold bf;have d:ws.getD k []=ws[k]:=by rw[ds,gp h];rfl
 rw[cf (by rw[c0];exact h),dt,List.filter_cons_of_neg];rw[d];by_cases e:(ws[k]).length=n
 ·rw[hl e];simp
 ·simp[e]
attribute [local irreducible] ew ed in
theorem bB(f:Bool)(ws:LL)(text:L8)(u v:Value)(w:World)(hr:eS f ws=true)(hS:jj f ws u w)(hB:eu text v w)(ht:text.length≤1000000) :
  Calls prog 35 #[u,v] w (eY w λr w'=>mT w' w.heap.size r ((bd f ws text (fG ws)).map λx:Nat=>((text.length:Int),(x:Int)))):=by
 have hb:=uB hr;have aO:=wK hr;have aF:=hide (λW (hE:Ext w W)=>bk f ws u W (VP.st _ _ _ _ hS hE) (λb aC=>by have:=(hb.len b aC).2;omega));have aw:((bd f ws text (fG ws)).map λx:Nat=>((text.length:Int),(x:Int))).length≤1000000:=by
  rw[b1,bo hr];have:=CS (ws:=ws) (text.map (gv f));rw[b1]at this;unfold QF;omega
 have ar:=hide (λ(x:L8) (y:Value) W (hE:Ext w W) (hy:eu x y W) (hl:x.length≤1000000)=>bK f text x (text.length:Int) v y W (VP.st _ _ _ _ hB hE) hy hl);obtain⟨sl,rfl,hP⟩:=hS;obtain⟨A,c,rfl,aR,aQ,hx⟩:=eD.form hP;obtain⟨At,ct,rfl,-⟩:=eu.form hB;have Hx:=hide hx;obtain⟨i0,hi,aB,aA,az⟩:=info_parts Tryz.pN;have hX:=ek w (.cells #[.bool f,.slice A ws.length c] 24);have O:=Box.new w 24 #[.bool f,.slice A ws.length c];have ay:=hb.many;have Hlen:=hide hb.len;obtain⟨d,af⟩:∃d,(bd f ws text (fG ws)).map (λx:Nat=>((text.length:Int),(x:Int)))=d:=⟨_,rfl⟩
 have bF:=hide af;rw[af]at aw ⊢;obtain⟨T,hT⟩:∃T,text.length=T:=⟨_,rfl⟩
 have HT:=hide hT;obtain⟨w1,ah⟩:∃w1,w.alloc (.cells #[.bool f,.slice A ws.length c] 24)=w1:=⟨_,rfl⟩
 rw[ah]at hX O;rw[hT]at ar bF ht ⊢;have Hw1:=hide ah;clear hT ah;go_enter func35,ntmps35;go_upto_region 2 with(fail)
 rw[Hw1.out];have d0:=O.at_ 0 rfl;have d1:=O.at_ 1 rfl;go_upto_region 3 with(refine(aF.out w1 hX).mono ?_;rintro _ w2 ⟨_,rfl,ak,rfl⟩)
 have O:=O.ext ak;have T5:=hide (hX.tr ak);have al:=hX.tr ak |>.size
 go_loopw [5,6] (λs i wr=>∃(m:Nat) (A5:Option Addr) (Y:Nat) (H:Hits),m≤fG ws∧i=iV m∧s=.slice A5 H.length Y∧Hid (Ext w2 wr)∧Hid (mT wr w2.heap.size (.slice A5 H.length Y) H)∧Hid (H++(bd f ws text m).map (λx:Nat=>((T:Int),(x:Int)))=d)) (λ_ i _=>(gk i).toNat)
 case atStart=>exact⟨fG ws,gf,0,[],Nat.le_refl _,rfl,rfl,Ext.rf _,mT.nil _ _,bF.out⟩
 case round=>
  obtain⟨m,A5,Y,H,hm,rfl,rfl,HE,HO,HH⟩:=hrel;by_cases aN:0<m
  ·have am:(m:Int)>0:=zO;obtain⟨q,rfl⟩:∃q,m=q+1:=⟨m-1,by omega⟩
   go_upto_region 6 with(fail)
   go_loopw [5,7] (λs i wr=>∃(k:Nat) (A5:Option Addr) (Y:Nat) (H:Hits),k≤ws.length∧i=iV k∧s=.slice A5 H.length Y∧Hid (Ext w2 wr)∧Hid (mT wr w2.heap.size (.slice A5 H.length Y) H)∧Hid (H++(bf f ws text (q+1) k++bd f ws text q).map (λx:Nat=>((T:Int),(x:Int)))=d)) (λ_ i _=>ws.length-(gk i).toNat)
   case atStart=>exact⟨0,A5,Y,H,gm _,rfl,rfl,HE,HO,HH.out⟩
   case round=>
    obtain⟨k,A5,Y,H,hk,rfl,rfl,HE,HO,HH⟩:=hrel;have aa:=O.ext HE.out;have d0:=aa.at_ 0 rfl;have d1:=aa.at_ 1 rfl;by_cases J:k<ws.length
    ·have an:(k:Int)<(ws.length:Int):=zO;obtain⟨b,au,rfl,ap,aj⟩:=Hx.out zO;obtain⟨x,ad,ao⟩:=aj k J;have U:=T5.out.tr HE.out;obtain⟨Ax,cx,rfl,-⟩:=eu.form ao;have ad:=(U.cell (p:=⟨b,au+k,gf⟩) ap).trans ad;have aL:=e3 ap U.size;have aM:=(Hlen.out _ (List.getElem_mem J)).2;have ae:=hide (λW (hE:Ext wr W)=>ar.out ws[k] _ W (U.tr hE) (VP.st _ _ _ _ ao (U.tr hE)) zO);have bG:=hide (λ(e1:(ws[k]).length=q+1) (e2:bb f text (T:Int) ws[k]=true)=>show(H++[((T:Int),(k:Int))])++(bf f ws text (q+1) (k+1)++bd f ws text q).map (λx:Nat=>((T:Int),(x:Int)))=d by
      have h9:=HH.out;rw[ba J e1 (by rw[HT.out];exact e2)]at h9;rw[List.append_assoc];exact h9)
     have Hno:=hide (λ(e1:(ws[k]).length=q+1→bb f text (T:Int) ws[k]=false)=>show H++(bf f ws text (q+1) (k+1)++bd f ws text q).map (λx:Nat=>((T:Int),(x:Int)))=d by
      have h9:=HH.out;rw[fW J (λe=>by rw[HT.out];exact e1 e)]at h9;exact h9)
     obtain⟨z,hz⟩:∃z,bb f text (T:Int) ws[k]=z:=⟨_,rfl⟩
     rw[hz]at ae bG Hno;generalize(ws[k]).length=L at*;have aK:(q:Int)+1≤4611686018427387904:=zO;have aP:k≤64:=zO;go_upto_region 8 with(fail)
     refine vR 21 ?_;refine ed.fD (i:=k) 22 43 _ _ rfl underlying22 zK J wA oA oA (.g ?_);by_cases hL:L=q+1
     ·refine ed.Qi _ _ _ _ rfl wA oA oA zO (.g ?_);refine ed.fD (i:=k) 22 43 _ _ rfl underlying22 zK J (wtt 8 29 8) oA oA (.g ?_);refine ed.call4 71 _ _ _ _ _ rfl (enters_of func71 zK rfl) (wtt 8 29 10) oA oA oA oA (F:=eC (.bool z)) (λ_ _ _ _ W aE h1 h2 h3 h4=>by cases h1;cases h2;cases h3;cases h4;exact ae.out W ((eh _).tr aE)) (.g ?_);intro W8 ab;have E:=(eh wr).tr ab;have VR:=hide (HE.out.tr E);have WC:=hide (fy (show wr.ownsRow w2.heap.size 50 2 (.slice A5 H.length Y) H.length (fz H)from HO.out) E);clear E ab aa d0 d1 ad ae U HO HE;refine wpList_nil ?_;cases z with
      |true=>
       have aq:=WC.out;have QQ:=hide (λ(W:World) (v':Value) (h:W.ownsRow w2.heap.size 50 2 v' (H.length+1) (fz H++[iV T,iV k]))=>show mT W w2.heap.size v' (H++[((T:Int),(k:Int))]) by
        unfold mT;rw[gn,j5];exact h)
       have Vz:=hide (bG.out hL rfl);have aS:H.length+1≤1000000:=by
        have h9:=congrArg List.length Vz.out;rw[gn,gn,gq]at h9;omega
       have aJ:=VR.out.size;clear bG Hno hL;generalize fz H=cs at*;go_wp2_with(at_builtin;refine eJ rfl _ _ 38 rfl w2.heap.size 50 i0 (.agg #[iV 0,iV 0]) 2 16 underlying38 hi aB aA az rfl zO _ _ H.length 1 cs [iV T,iV k] rfl (fy aq (ek _ _)) rfl rfl (Src.new _ _ _ _) (oS [((T:Int),(k:Int))]) zO zT ?_;intro va wa ag ai aD;clear aD)
       have aG:=hide (QQ.out _ _ ag);have aI:Hid (Ext w2 wa):=jB VR.out ai (λj hj=>fk aq j hj);obtain⟨A6,c6,av⟩:=eI ag;subst av;refine⟨⟨_,_,_,_,_,_,_,_,_,_,_,_,_,_,_,_,_,_,_,_,_,_,_,_,_,_,_,_,_,_,_,_,_,_,_,_,_,⟨k+1,A6,c6,H++[((T:Int),(k:Int))],by omega,by go_num,by rw[gn];rfl,aI,by rw[gn];exact aG,Vz⟩,rfl⟩,?_⟩;simp[gk];omega
      |false=>
       have Vz:=hide (Hno.out (λ_=>rfl));clear bG Hno hL;go_wp2_with(fail)
       exact⟨⟨k+1,A5,Y,H,by omega,by go_num,rfl,VR,WC,Vz⟩,by simp[gk];omega⟩
     ·refine ed.zQ _ _ _ _ rfl wA oA oA zO (.g ?_);intro W8 ab;have E:=(eh wr).tr ab;have VR:=hide (HE.out.tr E);have WC:=hide (fy (show wr.ownsRow w2.heap.size 50 2 (.slice A5 H.length Y) H.length (fz H)from HO.out) E);have Vz:=hide (Hno.out (λe=>absurd e hL));clear E ab aa d0 d1 ad ae bG Hno U hL HO HE;refine wpList_nil ?_;go_wp2_with(fail)
      exact⟨⟨k+1,A5,Y,H,by omega,by go_num,rfl,VR,WC,Vz⟩,by simp[gk];omega⟩
    ·have an:¬(k:Int)<(ws.length:Int):=zO;have aH:=hide (show H++(bd f ws text q).map (λx:Nat=>((T:Int),(x:Int)))=d by
      have h9:=HH.out
      rwa [bz f ws text (q+1) k zO,List.nil_append]at h9)
     clear HH aa d0;go_wp2_with(fail)
     exact⟨⟨q,A5,Y,H,by omega,by go_num,rfl,HE,HO,aH⟩,by simp[gk]⟩
  ·have am:¬(m:Int)>0:=zO;obtain rfl:m=0:=zO;have HF:=hide (show d=H by have h9:=HH.out;simpa[bd]using h9.symm);have N3:=hide (T5.out.tr HE.out);clear HH HE;go_wp2_with(fail)
   go_ret;exact eY.mk N3.out (by rw[HF.out];exact iY HO.out al)
end
section
def bL(f:Bool)(ws:LL)(d:Nat)(text:L8)(e:Nat):Hits:=(bd f ws (text.take (e+1)) (fG ws)).map λx:Nat=>(((d+(e+1):Nat):Int),(x:Int))
def bc(f:Bool)(ws:LL)(d:Nat)(text:L8)(k:Nat):Hits:=((List.range text.length).drop k).flatMap (bL f ws d text)
theorem bl{f:Bool}{ws:LL}(s:eS f ws=true)(d:Nat)(text:L8):bc f ws d text 0=BD d (QF f ws) text text.length:=by
 unfold bc BD bL;rw[List.drop_zero];congr 1;funext e;rw[bo s]
theorem bm{f:Bool}{ws:LL}{d:Nat}{text:L8}{k:Nat}(h:k<text.length):bc f ws d text k=bL f ws d text k++bc f ws d text (k+1):=by
 unfold bc;rw[cf (by rw[c0];exact h),dt,List.flatMap_cons]
theorem bp{f:Bool}{ws:LL}{d:Nat}{text:L8}{k:Nat}(h:text.length≤k):bc f ws d text k=[]:=by
 unfold bc;rw[c3 (by rw[c0];exact h)];rfl
theorem bh{d s:Type}(G:d→List s)(B:Nat)(h:∀a,(G a).length≤B):∀l:List d,(l.flatMap G).length≤l.length*B
 |[]=>by simp
 |a::l=>by
  rw[List.flatMap_cons,gn,List.length_cons,Nat.succ_mul];have:=h a;have:=bh G B h l;omega
theorem cM{f:Bool}{ws:LL}(s:Nat)(text:L8)(h:text.length≤1000):(BD s (QF f ws) text text.length).length≤1000000:=by
 unfold BD;have d:=bh (λe=>(QF f ws (text.take (e+1))).map λx:Nat=>(((s+(e+1):Nat):Int),(x:Int))) 1000 (λe=>by
  rw[b1];unfold QF;have E:=CS (ws:=ws) ((text.take (e+1)).map (gv f));rw[b1,List.length_take]at E;omega) (List.range text.length)
 rw[c0]at d;refine Nat.le_trans d ?_;have:text.length*1000≤1000*1000:=Nat.mul_le_mul_right _ h;omega
attribute [local irreducible] ew ed in
theorem bH(f:Bool)(ws:LL)(O:Nat)(text:L8)(u v:Value)(w:World)(hr:eS f ws=true)(hS:jj f ws u w)(hB:eu text v w)(ht:text.length≤1000)(a7:O≤4611686018427387904) :
  Calls prog 13 #[u,iV O,v] w (eB w (eP (BD O (QF f ws) text text.length))):=by
 have aE:=cM (f:=f) (ws:=ws) O text ht;have bF:=hide (bl hr O text);obtain⟨T,an⟩:∃T,BD O (QF f ws) text text.length=T:=⟨_,rfl⟩
 rw[an]at aE bF ⊢;have aO:=hide (λ(t:L8) (y:Value) W (hE:Ext w W) (hy:eu t y W) (hl:t.length≤1000000)=>bB f ws t u y W hr (VP.st _ _ _ _ hS hE) hy hl);obtain⟨sl,rfl,hP⟩:=hS;obtain⟨A,c,rfl,-⟩:=eD.form hP;obtain⟨i0,hi,aI,aH,aG⟩:=info_parts Tryz.pN;have HB:=hide hB;obtain⟨At,ct,rfl,-⟩:=eu.form hB;have hX:=ek w (.cells #[.bool f,.slice A ws.length c] 24);have al:=Box.new w 24 #[.bool f,.slice A ws.length c];obtain⟨w1,ah⟩:∃w1,w.alloc (.cells #[.bool f,.slice A ws.length c] 24)=w1:=⟨_,rfl⟩
 rw[ah]at hX al;have Hw1:=hide ah;have aZ:=hX.size;clear ah;go_enter func13,ntmps13;go_upto_region 3 with(fail)
 rw[Hw1.out]
 go_loopw [7,8] (λs i wr=>∃(k:Nat) (A5:Option Addr) (c5:Nat) (H:Hits),k≤text.length∧i=iV ((k+1:Nat):Int)∧s=.slice A5 H.length c5∧Hid (Ext w1 wr)∧Hid (mT wr w1.heap.size (.slice A5 H.length c5) H)∧Hid (H++bc f ws O text k=T)) (λ_ i _=>text.length+1-(gk i).toNat)
 case atStart=>exact⟨0,gf,0,[],gm _,rfl,rfl,Ext.rf _,mT.nil _ _,bF.out⟩
 case round=>
  obtain⟨k,A5,c5,H,hk,rfl,rfl,HE,HO,HH⟩:=hrel;by_cases aj:k<text.length
  ·obtain⟨E,ar⟩:∃E,k+1=E:=⟨_,rfl⟩
   rw[ar];have ap:(E:Int)≤(text.length:Int):=zO;have a2:E≤text.length:=zO;have S0:=hide ar;have Hk:=hide hk;have Xq:=hide aj;have aj:=Xq.out;have aK:=al.ext HE.out;have ai:=VP.st _ _ _ _ HB.out (hX.tr HE.out);go_upto_region 5 with(fail)
   have aP:=hide (hX.tr HE.out);have av:=hide (λ(W:World) (y:Value) (hE:Ext wr W) (hy:eu (text.take E) y W)=>(aO.out _ y W (aP.out.tr hE) hy (by rw[List.length_take];omega)).mono (R':=eB W (Dl wr.heap.size ((bd f ws (text.take E) (fG ws)).map λx:Nat=>(((text.take E).length:Int),(x:Int))))) (by
    rintro e w' ⟨r,rfl,aQ,ho⟩;exact⟨_,rfl,aQ,iY ho hE.size⟩))
   refine vQ 5 ?_;refine ed.eU 24 _ rfl wA oA underlying24 rfl zK aK (eh _) ?_;refine ed.move _ rfl wA (fU 2 rfl ai (eh _) zK) (.h 1 ?_);refine ed.bN 43 5 _ _ .i64 E rfl underlying43 zK wA oA oA zO ?_;refine ed.call2 35 _ _ _ rfl (enters_of func35 zK rfl) wA oA oA (F:=Dl wr.heap.size ((bd f ws (text.take E) (fG ws)).map λx:Nat=>(((text.take E).length:Int),(x:Int)))) (λ_ _ W aM h1 h2=>by cases h1;exact av.out W _ ((eh _).tr aM) h2) (.g ?_);intro W5 aw;refine ew.any λaX aD=>?_;refine .e ?_;refine ew.any λaW aC=>?_;refine ew.any λaV Y=>?_;refine .e ?_;have ai:=VP.st _ _ _ _ ai ((eh _).tr aw);have au:=(eh wr).tr aw;have Sk:=hide (HE.out.tr au);have aN:=fy (HO.out) au;have aR:=hide (aN);obtain⟨J,am⟩:∃J,bd f ws (text.take E) (fG ws)=J:=⟨_,rfl⟩
   have aS:=hide (show H++((J.map λx:Nat=>(((O+E:Nat):Int),(x:Int))).drop 0++bc f ws O text E)=T by
    have U:=HH.out;rw[bm aj]at U;unfold bL at U;rw[S0.out,am]at U;exact U)
   rw[am]at Y;have aq:=fk (Y);have ao:∀j,(gr A5 H.length c5).ownBlock=gl j→j<wr.heap.size:=λj hj=>(rI (HO.out) hj).1;have aF:=mT.pairs Y;obtain⟨A9,c9,rfl,q1,q2,aA⟩:=eP.form aF;rw[b1]at q1;unfold maxLen at q2;have bR:=hide (λ(i:Nat) (hi:i<J.length)=>show∃b d,A9=gl ⟨b,d,gf⟩∧b<W5.heap.size∧W5.cell? ⟨b,d+i*2+1,gf⟩=gl (iV (J[i]:Int))∧(gr A5 H.length c5).ownBlock≠gl b by
    obtain⟨b,d,e,hb,hc⟩:=aA (by rw[b1];omega);refine⟨b,d,e,hb,?_,λe2=>?_⟩;rotate_left
    ·have h8:=ao b e2;have h7:=aq b (by rw[e];rfl);omega
    have U:=(hc i (by rw[b1];exact hi)).2;rw[List.getElem_map]at U;exact U)
   have a3:=al.ext Sk.out;rw[b1];go_upto_region 7 with(fail)
   go_loopw [7,10] (λs i wr=>∃(j:Nat) (A5:Option Addr) (c5:Nat) (H:Hits),j≤J.length∧i=iV j∧s=.slice A5 H.length c5∧Hid (Ext w1 wr)∧Hid (mT wr w1.heap.size (.slice A5 H.length c5) H)∧Hid (∀(i:Nat) (hi:i<J.length),∃b d,A9=gl ⟨b,d,gf⟩∧b<wr.heap.size∧wr.cell? ⟨b,d+i*2+1,gf⟩=gl (iV (J[i]:Int))∧(gr A5 H.length c5).ownBlock≠gl b)∧Hid (H++((J.map λx:Nat=>(((O+E:Nat):Int),(x:Int))).drop j++bc f ws O text E)=T)) (λ_ i _=>J.length-(gk i).toNat)
   case atStart=>exact⟨0,A5,c5,H,gm _,rfl,rfl,Sk,aR,bR,aS⟩
   case round=>
    obtain⟨i,A5,c5,H,a6,rfl,rfl,HE,HO,bR,HH⟩:=hrel;by_cases ab:i<J.length
    ·have ak:(i:Int)<(J.length:Int):=zO;obtain⟨b9,o9,rfl,a4,aJ,a1⟩:=bR.out i ab;have Vz:=hide (show(H++[(((O+E:Nat):Int),(J[i]:Int))])++((J.map λx:Nat=>(((O+E:Nat):Int),(x:Int))).drop (i+1)++bc f ws O text E)=T by
      have U:=HH.out;rw[cf (by rw[b1];exact ab),List.getElem_map]at U;rw[List.append_assoc];exact U)
     have a8:H.length+1≤1000000:=by
      have U:=congrArg List.length Vz.out;rw[gn,gn,gq]at U;omega
     have af:=hide (show(O:Int)+(E:Int)=((O+E:Nat):Int) by omega);have ad:=(HO.out)
     generalize a5:(J[i]:Nat)=y at Vz aJ;have QQ:=hide (λ(W:World) (v':Value) (h:W.ownsRow w1.heap.size 50 2 v' (H.length+1) (fz H++[iV ((O+E:Nat):Int),iV y]))=>show mT W w1.heap.size v' (H++[(((O+E:Nat):Int),(y:Int))]) by
      unfold mT;rw[gn,j5];exact h)
     obtain⟨F,hF⟩:∃F:Nat,O+E=F:=⟨_,rfl⟩
     have b3:=hide hF;rw[hF]at Vz af QQ;go_upto_region 9 with(fail)
     refine Qk 10 (.h 3 ?_);refine ed.ko _ _ _ _ rfl wA oA oA zO ?_;refine ed.kD af.out (.h 2 ?_);refine ed.gT (i:=i) 2 38 50 _ _ rfl underlying38 zK ab wA oA oA (.h 2 ?_);refine ed.LK [Operand.tmp 31,Operand.tmp 36] [_,_] wA (ku.cons oA (ku.cons oA ku.nil)) (λρ w hE h=>by simp only[List.map_cons,List.map_nil,List.cons.injEq,and_true]at h;obtain⟨h0,h1⟩:=h;simp[execOp,h0,h1,go_sem];rfl) (.g ?_);intro W9 ae;have VR:=hide (HE.out.tr ae);have ad:=fy ad ae;have aY:=VR.out.size;have b4:=hide (λ(i:Nat) (hi:i<J.length)=>show∃b d,gl (⟨b9,o9,gf⟩:Addr)=gl ⟨b,d,gf⟩∧b<W9.heap.size∧W9.cell? ⟨b,d+i*2+1,gf⟩=gl (iV (J[i]:Int))∧(gr A5 H.length c5).ownBlock≠gl b by
      obtain⟨b,d,e,h1,h2,h3⟩:=bR.out i hi;exact⟨b,d,e,e3 h1 ae.size,(ae.cell (p:=⟨b,d+i*2+1,gf⟩) h1).trans h2,h3⟩)
     generalize fz H=cs at*;go_wp2_with(at_builtin;refine eJ rfl _ _ 38 rfl w1.heap.size 50 i0 (.agg #[iV 0,iV 0]) 2 16 underlying38 hi aI aH aG rfl zO _ _ H.length 1 cs [iV F,iV y] rfl (fy ad (ek _ _)) rfl rfl (Src.new _ _ _ _) (oS [((F:Int),(y:Int))]) zO zT ?_;intro va wa ag aa aL)
     have az:=hide (QQ.out _ _ ag);have aU:=jB VR.out aa (λj hj=>fk ad j hj);have ay:=hide (λ(i:Nat) (hi:i<J.length)=>show∃b d,gl (⟨b9,o9,gf⟩:Addr)=gl ⟨b,d,gf⟩∧b<wa.heap.size∧wa.cell? ⟨b,d+i*2+1,gf⟩=gl (iV (J[i]:Int))∧va.ownBlock≠gl b by
      obtain⟨b,d,e,h1,h2,h3⟩:=b4.out i hi;have h4:b<(W9.alloc (.cells #[iV F,iV y] 50)).heap.size:=by rw[World.size_alloc];omega
      refine⟨b,d,e,e3 h4 aa.size,(aa.cell_far ⟨b,d+i*2+1,gf⟩ h4 (λe2=>h3 e2.symm)).trans (((ek _ _).cell (p:=⟨b,d+i*2+1,gf⟩) h1).trans h2),λe2=>?_⟩;rcases aL with h5|h5
      ·exact h3 (h5.symm.trans e2)
      ·rw[h5]at e2;have h6:=Option.some.inj e2;rw[World.size_alloc]at h6;omega)
     obtain⟨A6,c6,aB⟩:=eI ag;subst aB;exact⟨⟨i+1,A6,c6,H++[((F:Int),(y:Int))],by omega,by go_num,by first|rfl|(rw[gn];done)|(rw[gn];rfl),aU,by first|exact az|(rw[gn];exact az),by first|exact ay|(rw[gn];exact ay),by rw[b3.out];exact Vz⟩,by simp[gk];omega⟩
    ·have ak:¬(i:Int)<(J.length:Int):=zO;have aT:=hide (show H++bc f ws O text E=T by
      have U:=HH.out
      rwa [c3 (by rw[b1];omega),List.nil_append]at U)
     go_wp2_with(fail)
     exact⟨⟨E,A5,c5,H,by omega,by go_num,rfl,HE,HO,aT⟩,by simp[gk];omega⟩
  ·have ap:¬((k+1:Nat):Int)≤(text.length:Int):=zO;have HF:=hide (show T=H by have U:=HH.out;rw[bp zO,List.append_nil]at U;exact U.symm);have N3:=hide (hX.tr HE.out);go_wp2_with(fail)
   go_ret;exact eB.mk N3.out (by rw[HF.out];exact mT.pairs HO.out)
end
end Go.Proofs.YtofgfpffcegioaaGreat
namespace Go.Proofs.YtofgfpffcegioaaGreat
open Go.RowKit iT Go.Proofs.Tryz
theorem bC(d:LL)(v:Value)(w:World)(hP:eD d v w)(ae:d.flatten.length≤1000000):Calls prog 12 #[v] w (eY w (λv w'=>OwnB w' w.heap.size 5 v d.flatten)):=by
 obtain⟨A,c,rfl,ag,ad,hx⟩:=eD.form hP;obtain⟨i0,hi,W,V,U⟩:=info_parts Tryz.BU;unfold maxLen at ad;go_enter func12,ntmps12;go_wp2
 go_loopw [3,4] (λl i wr=>∃k:Nat,k≤d.length∧i=iV k∧Hid (OwnB wr w.heap.size 5 l (d.take k).flatten)∧Below w.heap.size w wr)
  (λ_ i _=>d.length-(intOf i).toNat)
 case atStart=>exact⟨0,by omega,rfl,OwnB.nil _ _ _,Below.refl _ _⟩
 case round=>
  obtain⟨k,hk,rfl,Ho,E⟩:=hrel;by_cases J:k<d.length
  ·obtain⟨b,T,rfl,hb,s⟩:=hx zO;obtain⟨x,aa,Y⟩:=s k J;have af:=(E.cell (p:=⟨b,T+k,none⟩) hb).trans aa;have H:=VP.st _ _ _ _ Y E;obtain⟨A2,c2,rfl,-⟩:=eu.form H;have O:=vk d k J;have ab:=dV d (k+1);rw[O,List.length_append]at ab;have Qo:=hide O;have Hx:=hide H;generalize d[k]=bs at*;go_wp2_with(at_builtin;refine gC rfl _ _ 43 rfl w.heap.size 5 i0 (.int .u8 0) underlying43 hi W V U rfl _ _ (d.take k).flatten bs rfl Ho.out rfl Hx.out zO E.size ?_;intro v' w' I h ah)
   refine⟨⟨k+1,by omega,by go_num,?_,E.grown h E.size (λj hj=>OwnB.ge Ho.out j hj)⟩,by simp[intOf];omega⟩;show OwnB _ _ _ _ _;rw[Qo.out];exact I
  ·obtain rfl:k=d.length:=zO;go_wp2;go_ret;refine eY.mk E ?_;have:=Ho.out
   rwa [List.take_length]at this
end Go.Proofs.YtofgfpffcegioaaGreat
namespace Go.Proofs.YtofgfpffcegioaaGreat
open List renaming countP_eq_length_filter → aa,range → ab
namespace fq
section
variable {r:Rn} {M:Mc} {S:List UInt8→List Nat}
def aM(ans:List Bool)(n:Nat):Nat:=((ab n).filter λi=>!Snk.says ans i).length
theorem aN(ans:List Bool)(n:Nat):aM ans n+((ab n).filter λi=>Snk.says ans i).length=n:=by
 unfold aM;have h:=List.length_eq_countP_add_countP (p:=λi=>Snk.says ans i) (l:=ab n);rw[List.length_range,aa,aa]at h;have e:(ab n).filter (λi=>!Snk.says ans i)=(ab n).filter (λa=>decide ¬(Snk.says ans a=true)):=by
  refine List.filter_congr λi _=>?_;cases Snk.says ans i<;>rfl
 rw[e];omega
structure aJ(r:Rn)(S:L8→List Nat)(o:Rp):Prop where
 pre:o.hits<+:BD r.cf.kX S r.reads.flatten r.reads.flatten.length
 kind:o.kind=1∨(o.kind=2∧o.at_=0∧r.broken=false∧o.hits=BD r.cf.kX S r.reads.flatten r.reads.flatten.length∧o.read=r.reads.flatten.length)∨
  (o.kind=3∧o.at_=0∧0≤r.cancel∧r.cancel<(o.turns:Int))∨
  (o.kind=4∧o.at_=r.reads.flatten.length∧r.broken=true∧o.hits=BD r.cf.kX S r.reads.flatten r.reads.flatten.length∧o.read=r.reads.flatten.length)
 run:o.kind=1→o.at_=0
 refused:aM r.answers (o.refused+o.hits.length)=o.refused
theorem bI(O:xR M S)(U:1≤r.cf.block)(T:0<r.cf.ring):aJ r S (r.report M):=by
 have h:=aO (r:=r) O U T;unfold Rn.report;generalize r.run M r.most r.start=g at h;have H:g.s.iG.took.length≤g.s.iG.offers:=by
  rw[h.good.says];exact Nat.le_trans (List.length_filter_le _ _) (by rw[List.length_range];exact Nat.le_refl _)
 refine⟨h.good.took,?_,?_,?_⟩
 ·cases d:g.s.over with
  |false=>left;simp[d]
  |true=>
   cases s:g.s.pl.cancelled with
   |true=>
    right;right;left;refine⟨by simp[d,s],by simp[d,s],(h.can s).1,?_⟩;rcases(h.can s).2 with h1|h1
    ·exact h1
    ·rw[d]at h1;cases h1
   |false=>
    obtain⟨h1,J⟩:=h.good.done O d s;cases E:r.broken with
    |false=>right;left;exact⟨by simp[d,s],by simp[d,s],rfl,h1,J⟩
    |true=>right;right;right;exact⟨by simp[d,s],by simp[d,s,J],rfl,h1,J⟩
 ·intro I;cases d:g.s.over with
  |false=>simp[d]
  |true=>
   cases s:g.s.pl.cancelled with
   |true=>simp[d,s]at I
   |false=>
    cases E:r.broken with
    |false=>simp[d,s,E]at I
    |true=>simp[d,s,E]at I
 ·show aM r.answers (g.s.iG.offers-g.s.iG.took.length+g.s.pl.took.length)=g.s.iG.offers-g.s.iG.took.length;rw[←h.good.same,Nat.sub_add_cancel H];have:=aN r.answers g.s.iG.offers;rw[←h.good.says]at this;omega
end
end fq
end Go.Proofs.YtofgfpffcegioaaGreat
