/- A part of the proof. -/
import Derived.Test.YtofgfpffcegioaaGreatZf07
import Derived.Test.YtofgfpffcegioaaGreatZf08
import Derived.Shelf.RegionOpen
set_option maxRecDepth 100000
set_option maxHeartbeats 8000000
namespace Go.Proofs.YtofgfpffcegioaaGreat
open Go.RowKit Go.Shelf Go.Proofs.Tryz
open _root_.Array renaming getElem?_eq_some_iff → aa
open Go renaming Value → ad,TypeId → ae,World → af
open Go.Lib renaming compareBytes → ab
open Option renaming some → ag
def fY(s:L8):Value:=.string ⟨s.toArray⟩
theorem K0{P:Program}{K:ae}(d:P.underlying K=ag .string):pD P K .string fY where
 under:=d
 same a b:=by
  unfold fY Instr.sameNow;show ag (a.toArray==b.toArray)=_;congr 1;grind
 check e w a:=by unfold Instr.checkKey fY;simp[run_underlying d]
 stays a:=by unfold fY Instr.sameBits;show(a.toArray==a.toArray)=true;simp
theorem rh{P:Program}{K:ae}(d:P.underlying K=ag .string):vm P K fY:=(K0 d).key
theorem K1{P:Program}{K:ae}{q:IntKind}(d:P.underlying K=ag (.int q)):pD P K (.int q) (λz:Int=>Value.int q z) where
 under:=d
 same a b:=by
  unfold Instr.sameNow;grind
 check e w a:=by unfold Instr.checkKey;simp[run_underlying d]
 stays a:=by simp[Instr.sameBits]
theorem K2{P:Program}{K:ae}{q:IntKind}(d:P.underlying K=ag (.int q)):vm P K (λz:Int=>Value.int q z):=(K1 d).key
def pj(x y:Int):Int:=if x<y then -1 else if y<x then 1 else 0
theorem K3(x y:Int)(w:af):Calls prog 184 #[iV x,iV y] w λe d=>e=.returned (iV (pj x y))∧d=w:=by
 go_enter func184,ntmps184;by_cases s:x<y
 ·have e:pj x y=-1:=by unfold pj;omega
  rw[e];clear e;go_wp2;go_ret;simp_all
 ·by_cases h:y<x
  ·have e:pj x y=1:=by simp_all[pj,if_neg]
   rw[e];clear e;go_wp2;go_ret;simp_all
  ·have e:pj x y=0:=by simp_all[pj,if_neg]
   rw[e];clear e;go_wp2;go_ret;simp_all
theorem Im(x y:Int)(b:Nat)(w:af)(O:w.cell? ⟨b,0,none⟩=ag (iV x))(J:w.cell? ⟨b,1,none⟩=ag (iV y)):Calls prog 183 #[.slice (ag ⟨b,0,none⟩) 2 2] w λe s=>e=.returned (iV (if x≠0 then x else y))∧s=w:=by
 go_enter func183,ntmps183;by_cases h:x=0
 ·subst h;rw[if_neg zS];by_cases H:y=0
  ·subst H;go_wp2_with fail
   go_loopw [8] (λi wr=>∃k:Nat,k≤2∧i=iV k∧wr=w) (λi _=>2-(intOf i).toNat)
   case atStart=>grind
   case round=>
    obtain⟨k,d,rfl,rfl⟩:=hrel
    match k,d with
    |0,_=>go_wp2_with fail;grind[intOf]
    |1,_=>go_wp2_with fail;grind[intOf]
    |2,_=>
     go_wp2_with fail;go_ret;simp_all
  ·have E:(y !=0)=true:=zG;go_wp2_with fail
   go_loopw [8] (λi wr=>∃k:Nat,k≤1∧i=iV k∧wr=w) (λi _=>2-(intOf i).toNat)
   case atStart=>grind
   case round=>
    obtain⟨k,d,rfl,rfl⟩:=hrel
    match k,d with
    |0,_=>go_wp2_with fail;grind[intOf]
    |1,_=>
     go_wp2_with fail;go_ret;simp_all
 ·rw[if_pos h];have I:(x !=0)=true:=zG;go_wp2_with fail
  go_loopw [8] (λi wr=>i=iV 0∧wr=w) (λi _=>2-(intOf i).toNat)
  case atStart=>grind
  case round=>
   obtain⟨rfl,rfl⟩:=hrel;go_wp2_with fail;go_ret;simp_all
def iW(a b:L8):Int:=if pj a.length b.length≠0 then pj a.length b.length else ab a b
theorem Em(a b:L8)(w:af):Calls prog 182 #[fY a,fY b] w λe J=>e=.returned (iV (iW a b))∧J=w.alloc (.cells #[iV (pj a.length b.length),iV (ab a b)] 3):=by
 have d:=λW=>K3 a.length b.length W;have E:=λW=>Tryz.strings_Compare ⟨a.toArray⟩ ⟨b.toArray⟩ W;unfold iW;unfold fY at*;obtain⟨x,s⟩:∃x,pj a.length b.length=x:=⟨_,rfl⟩
 rw[s]at d ⊢;clear s;generalize ab a b=z at*;have O:=λb W U T=>Im x z b W U T;generalize(if x≠0 then x else z)=q at*;go_enter func182,ntmps182;go_wp2_with fail;refine(d w).mono ?_;rintro _ I ⟨rfl,rfl⟩;clear d;go_wp2_with fail;refine(E I).mono ?_;rintro _ h ⟨rfl,rfl⟩;clear E;go_wp2_with fail;have H:=Box.new h 3 #[iV x,iV z];refine(O h.heap.size _ (H.at_ 0 rfl) (H.at_ 1 rfl)).mono ?_;rintro _ V ⟨rfl,rfl⟩;go_wp2_with fail;go_ret;simp_all
theorem rW{w J:af}{base:Nat}{e:ae}{size n:Nat}{v:ad}{xs:List ad}{row:Option Nat}(h:w.ownsRow base e size v n xs)(V:w.grownBy J row)(U:∀r,row=ag r→∃o:Obj,w.heap[r]?=ag o∧o.isCells=false):J.ownsRow base e size v n xs:=by
 obtain⟨T,h2⟩:=h;rcases h2 with⟨E,s⟩|⟨g,I,H,E,s,d,Y⟩
 ·exact⟨T,.inl ⟨E,s⟩⟩
 ·refine⟨T,.inr ⟨g,I,H,E,s,?_,Y⟩⟩;refine(V.block g (aa.1 d).1 ?_).trans d;intro e;obtain⟨o,O,W⟩:=U g e.symm;rw[d]at O;cases O;cases W
theorem ri{w:af}{base:Nat}{e:ae}{size n:Nat}{v:ad}{xs:List ad}(h:w.ownsRow base e size v n xs)(p:Addr)(E:v.ownBlock≠ag p.block)(u:ad):(w.setCell p u).ownsRow base e size v n xs:=by
 refine⟨h.1,?_⟩;rcases h.2 with J|⟨g,s,d,rfl,I,H,r⟩
 ·grind
 ·exact .inr ⟨g,s,d,rfl,I,(Below.heap_setCell w p u g (λe=>E (by rw[←e];rfl))).trans H,r⟩
theorem K4{w:af}{base:Nat}{e:ae}{size n:Nat}{v:ad}{xs:List ad}(h:w.ownsRow base e size v n xs)(j:Nat)(o:Obj)(s:v.ownBlock=ag j)(d:w.heap[j]?=ag o):o.isCells=true:=by
 obtain⟨-,I⟩:=h;rcases I with⟨rfl,H⟩|⟨g,O,J,rfl,H,E,T⟩
 ·cases s
 ·cases s;rw[show w.heap[g]?=_ from E]at d;cases d;rfl
theorem NZ{w:af}{base:Nat}{e:ae}{v:ad}{xs:List ad}(h:w.ownsRow base e 1 v xs.length xs):jY (xs.map eC) v w:=by
 obtain⟨h1,V⟩:=h;rcases V with⟨rfl,W⟩|⟨g,s,d,rfl,hb,I,hn,T,Y,J⟩
 ·obtain rfl:=List.eq_nil_of_length_eq_zero W;exact⟨none,0,rfl,Nat.le_refl _,by decide,λh=>by simp at h⟩
 ·refine⟨_,s,by grind,by grind,T,λhp=>⟨g,0,rfl,(aa.1 I).1,λj F H=>?_⟩⟩;rw[Nat.zero_add,cell_of_row w g j d e (0,0) I];rw[List.getElem?_map]at H;obtain⟨x,E,rfl⟩:=Option.map_eq_some_iff.1 H;have O:=(List.getElem?_eq_some_iff.1 E).1;have U:(d.toList.take (xs.length*1))[j]?=xs[j]?:=by rw[J]
  rw[List.getElem?_take,if_pos zO,E]at U;exact⟨x,by grind,rfl⟩
section
variable {κ β:Type} {kv:κ→ad} {ev:β→ad}
theorem fQ.grown{w d:af}{b:Nat}{l:List (κ×β)}{row:Option Nat}(h:fQ w b kv ev l)(E:w.grownBy d row)(s:row≠ag b):fQ d b kv ev l:=h.same (E.block b h.lt (λe=>s e.symm))
theorem fQ.nO{w:af}{b:Nat}{l:List (κ×β)}(h:fQ w b kv ev l):∃o:Obj,w.heap[b]?=ag o∧o.isCells=false:=by
 obtain⟨_,E,d,s,_⟩:=h;exact⟨_,s,rfl⟩
theorem fQ.not_row{w:af}{b:Nat}{l:List (κ×β)}(h:fQ w b kv ev l){base:Nat}{e:ae}{size n:Nat}{v:ad}{xs:List ad}(d:w.ownsRow base e size v n xs):v.ownBlock≠ag b:=by
 intro s;obtain⟨o,H,E⟩:=h.nO;grind[K4]
end
def rX(w:af)(base:Nat)(e:ae)(v:ad)(d:LL):Prop:=w.ownsRow base e 1 v d.length (d.map fY)
end Go.Proofs.YtofgfpffcegioaaGreat
namespace Go.Proofs.YtofgfpffcegioaaGreat
open Go.RowKit Go.Shelf Go.Sort Go.Proofs.Tryz
open Bool renaming eq_false_iff → ae
open Go.Lib renaming compareBytes → aa
open List renaming take_succ_eq_append_getElem → ad
open UInt8 renaming lt_irrefl → ab
theorem vv(x y:UInt8):x<y∨x=y∨y<x:=by
 grind
theorem Gt:∀a:L8,aa a a=0
 |[]=>rfl
 |x::xs=>by unfold aa;rw[if_neg (ab _),if_neg (ab _)];exact Gt xs
theorem zU:∀a b:L8,aa a b=-aa b a
 |[],[]=>rfl
 |[],_::_=>rfl
 |_::_,[]=>rfl
 |x::xs,y::ys=>by
  unfold aa;have d:=vv x y;rcases d with h|h|h
  ·grind
  ·subst h;rw[if_neg (ab _),if_neg (ab _),if_neg (ab _),if_neg (ab _)];exact zU xs ys
  grind
theorem zV:∀{a b:L8},aa a b=0→a=b
 |[],[],_=>rfl
 |[],_::_,h=>by simp[aa]at h
 |_::_,[],h=>by simp[aa]at h
 |x::xs,y::ys,h=>by
  unfold aa at h;rcases vv x y with h1|h1|h1
  ·grind
  ·subst h1;rw[if_neg (ab _),if_neg (ab _)]at h;rw[zV h]
  grind
theorem vy:∀{a b c:L8},aa a b<0→aa b c<0→aa a c<0
 |[],[],_,h,_=>by omega
 |[],_::_,[],_,h=>by simp[aa]at h
 |[],_::_,_::_,_,_=>by simp[aa]
 |_::_,[],_,h,_=>by simp[aa]at h
 |_::_,_::_,[],_,h=>by simp[aa]at h
 |x::xs,y::ys,z::zs,h1,h2=>by
  unfold aa at*;rcases vv x y with a|a|a
  ·grind
  ·subst a;rw[if_neg (ab _),if_neg (ab _)]at h1;rcases vv x z with b|b|b
   ·grind
   ·subst b;rw[if_neg (ab _),if_neg (ab _)]at h2 ⊢;exact vy h1 h2
   grind
  grind
theorem nP(a b:L8):ltOf iW a b=true↔a.length<b.length∨(a.length=b.length∧aa a b<0):=by
 unfold ltOf iW;rw[decide_eq_true_eq];rcases Nat.lt_trichotomy a.length b.length with h|h|h
 ·simp_all[pj]
 ·simp_all[pj]
 ·have e:pj a.length b.length=1:=by unfold pj;omega
  omega
theorem zW:SWO (ltOf iW) where
 irrefl x:=by
  simp_all[ae,nP,Gt]
 trans x y z h1 h2:=by
  grind[nP,vy]
 ntrans x y z h1 h2:=by
  rw[ae]at*;simp only[ne_eq,nP]at*;rintro(h|⟨e,h⟩)
  ·omega
  ·have O:=zU x y;have s:x.length=y.length:=zO;have d:y.length=z.length:=zO;have I:¬aa x y<0:=λE=>h1 (.inr ⟨s,E⟩);have H:¬aa y z<0:=λE=>h2 (.inr ⟨d,E⟩);by_cases J:aa x y=0
   ·grind[zV]
   ·have:aa y x<0:=zO;exact H (vy this h)
theorem yH(x y:L8)(h:ltOf iW x y=false)(d:ltOf iW y x=false):x=y:=by
 rw[ae]at h d;simp only[ne_eq,nP]at h d;grind[zU,zV,aa]
def uq(l:LL)(b:L8):LL:=if b∈l then l else l++[b]
def lX(l:LL)(w:L8)(j:Nat):LL:=(List.range j).foldl (λl k=>uq l (w.take (k+1))) l
theorem te(l:LL)(w:L8):lX l w 0=l:=rfl
theorem mh(l:LL)(w:L8)(j:Nat):lX l w (j+1)=uq (lX l w j) (w.take (j+1)):=by grind[lX,List.range_succ]
def fI(ws:LL):LL:=ws.foldl (λl w=>lX l w w.length) [[]]
theorem lA(ws:LL)(k:Nat)(h:k<ws.length):fI (ws.take (k+1))=lX (fI (ws.take k)) ws[k] ws[k].length:=by
 grind[fI,ad]
def ey(ws:LL):LL:=(fI ws).mergeSort λx y=>!(ltOf iW) y x
theorem K5(l:LL)(b:L8):l.length≤(uq l b).length∧(uq l b).length≤l.length+1:=by grind[uq]
theorem vz(l:LL)(w:L8):∀j,l.length≤(lX l w j).length∧(lX l w j).length≤l.length+j
 |0=>by rw[te];omega
 |j+1=>by have:=vz l w j;rw[mh];have:=K5 (lX l w j) (w.take (j+1));omega
theorem oE(ws:LL):∀k,k≤ws.length→1≤(fI (ws.take k)).length∧(fI (ws.take k)).length≤1+(ws.take k).flatten.length
 |0,_=>by grind[fI]
 |k+1,h=>by
  have:=oE ws k zO;rw[lA ws k h];have d:=vz (fI (ws.take k)) ws[k] ws[k].length;grind[ad,List.flatten_append,List.length_append,List.flatten_cons,List.flatten_nil]
def kg(l:LL):List (L8×Int):=l.zipIdx.map λx=>(x.1,(x.2:Int))
theorem Io(l:LL)(b:L8):kg (l++[b])=kg l++[(b,(l.length:Int))]:=by grind[kg]
theorem Ip(l:LL):(kg l).map (·.1)=l:=by
 unfold kg;rw[List.map_map];show l.zipIdx.map (λx=>x.1)=l;simp
theorem rY(l:LL)(b:L8):(jx (kg l) b).isSome=decide (b∈l):=by
 have d:=Ip l;rw[Bool.eq_iff_iff,decide_eq_true_eq];unfold jx;grind
theorem vA{l:LL}{b:L8}(h:b∉l):upd (kg l) b (l.length:Int)=kg (l++[b]):=by
 grind[upd,rY,decide_eq_false,Io]
end Go.Proofs.YtofgfpffcegioaaGreat
namespace Go.Proofs.YtofgfpffcegioaaGreat
open Go.RowKit Go.Shelf Go.Proofs.Tryz
open Go renaming run_underlying → ad,TypeId → ae,Operand → ai,World → aj,execOp → al
open Go.Proofs.Tryz renaming ntmps55 → ah,func55 → ak
open Go.Result renaming andThen_ok → aa
open Go.Sem renaming run_bind → ab,run_pure → ag
open Option renaming some → af
theorem zX(l:L8)(n:Nat):ByteArray.extract ⟨l.toArray⟩ 0 n=⟨(l.take n).toArray⟩:=by
 apply ByteArray.ext;simp_all
section
variable {P:Program} {Q:Exit→Act→aj→Prop} {ops:Array Oper} {M:Nat} {a0:Act} {w0:aj} {K:List Oper→List VP→Prop} {m:Nat} {rest:List Oper} {env:List VP} {o:Oper}
theorem Iq{t:ae}(h:P.underlying t=af .string){s:L8}{n:Nat}(E:n≤s.length)(k:IntKind)(w:aj):(Instr.slice t (fY s) none (af (.int k (n:Int))) none).run P w=.ok (fY (s.take n)) w:=by
 unfold Instr.slice fY;have d:(⟨s.toArray⟩:ByteArray).size=s.length:=by rfl
 simp_all[ab,ad,Instr.sliceBounds,Instr.sliceBound,asIntOf,zX]
theorem ed.Sz{s:L8}(t:ae)(x y:ai)(k:IntKind)(n:Nat)(T:o.op=.slice t x none (af y) none)(J:P.underlying t=af .string)(E:Want ops M a0 w0 env o true)
  (h:fu ops M a0 w0 env o x (eC (fY s)))(d:fu ops M a0 w0 env o y (eC (.int k (n:Int))))(U:n≤s.length)
  (H:ed P Q ops M a0 w0 K m rest (eC (fY (s.take n))::env)):ed P Q ops M a0 w0 K (m+1) (o::rest) env:=
 .iu x y E h d (λI w _ W V=>by
  unfold al;have O:(Instr.sliceAt t (fY s) none (af (.int k (n:Int))) none).run P w=.ok (fY (s.take n)) w:=by simp_all[Instr.sliceAt,ab,ad,aa,Iq]
  simp_all) H
theorem Ir{t:ae}(h:P.underlying t=af .string){s:L8}{i:Nat}(hi:i<s.length)(k:IntKind)(w:aj):(Instr.index t (fY s) (.int k (i:Int))).run P w=.ok (ff s[i]) w:=by
 unfold Instr.index fY ff;have d:(⟨s.toArray⟩:ByteArray).size=s.length:=by rfl
 simp[ab,ad h,asIntOf,d,hi];rfl
theorem ed.SA{s:L8}(t:ae)(x y:ai)(k:IntKind)(i:Nat)(O:o.op=.index t x y)(J:P.underlying t=af .string)(E:Want ops M a0 w0 env o true)
  (h:fu ops M a0 w0 env o x (eC (fY s)))(d:fu ops M a0 w0 env o y (eC (.int k (i:Int))))(hi:i<s.length)
  (H:ed P Q ops M a0 w0 K m rest (eC (ff s[i])::env)):ed P Q ops M a0 w0 K (m+1) (o::rest) env:=
 .iu x y E h d (λI w _ U T=>by
  grind[al,Ir,ab,ag,aa]) H
theorem ed.mE{d s:Type}[DecidableEq d]{H E:ae}{kv:d→Value}{ev:s→Value}{l:List (d×s)}{b:Nat}{w:aj}{z:Value}{k:d}(hM:fQ w b kv ev l)(hE:Ext w w0)(hK:vm P H kv)(t:ae)(x y:ai)(Y:o.op=.lookup t x y true)(V:P.underlying t=af (.map H E))(J:∀w,(zeroValue E).run P w=.ok z w)(U:Want ops M a0 w0 env o true)
  (T:fu ops M a0 w0 env o x (eC (.map (af b))))(O:fu ops M a0 w0 env o y (eC (kv k)))
  (W:ed P Q ops M a0 w0 K m rest (eC (.tuple #[((jx l k).map ev).getD z,.bool (jx l k).isSome])::env)):ed P Q ops M a0 w0 K (m+1) (o::rest) env:=
 .iu x y U T O (λρ I h h1 h2=>by
  unfold al;simp only[Y,h1,h2,(hM.ext (hE.tr h)).mE hK V (J I) k,ab,ag,aa]) W
theorem ed.rT{d s:Type}[DecidableEq d]{H E:ae}{kv:d→Value}{ev:s→Value}{l:List (d×s)}{b:Nat}{w:aj}{z:Value}{k:d}(hM:fQ w b kv ev l)(hE:Ext w w0)(hK:vm P H kv)(t:ae)(x y:ai)(Y:o.op=.lookup t x y false)(V:P.underlying t=af (.map H E))(J:∀w,(zeroValue E).run P w=.ok z w)(U:Want ops M a0 w0 env o true)
  (T:fu ops M a0 w0 env o x (eC (.map (af b))))(O:fu ops M a0 w0 env o y (eC (kv k)))
  (W:ed P Q ops M a0 w0 K m rest (eC (((jx l k).map ev).getD z)::env)):ed P Q ops M a0 w0 K (m+1) (o::rest) env:=
 .iu x y U T O (λρ I h h1 h2=>by
  unfold al;simp only[Y,h1,h2,(hM.ext (hE.tr h)).rT hK V (J I) k,ab,ag,aa]) W
theorem ed.nilCheck{p:Addr}(x:ai)(H:o.op=.nilCheck x)(h:Want ops M a0 w0 env o true)(d:fu ops M a0 w0 env o x (eC (.pointer (af p))))
  (s:ed P Q ops M a0 w0 K m rest (eC (.pointer (af p))::env)):ed P Q ops M a0 w0 K (m+1) (o::rest) env:=
 .gF x h d (λE w _ I=>by
  simp_all[al]) s
end
section
variable {P:Program} {Q:Exit→Act→World→Prop} {ops:Array Oper} {M m:Nat} {a0:Act} {w0:World} {K:List Oper→List VP→Prop} {o:Oper} {rest:List Oper} {env:List VP}
theorem ed.rc (j t r:Nat) {a:Addr} (hr:ed P Q ops M a0 w0 K m rest (eC (.pointer (some a))::env)) (ho:o.op=.nilCheck (.tmp t):=by exact rfl) (hg:o.guard=none:=by exact rfl) (ha:jA o j=true:=by exact rfl) (hd:fC ops j=some t:=by exact rfl) (hl:env.length=j+r+1:=by exact rfl) (hF:nth env r=some (eC (.pointer (some a))):=by exact rfl):ed P Q ops M a0 w0 K (m+1) (o::rest) env:=.nilCheck _ ho (ee hg) (oC j t r ha hd hl hF) hr
end
theorem qY.same{w d:aj}(h:qY w d){k:Nat}(s:k<w.heap.size):d.heap[k]?=w.heap[k]?:=by
 rcases h.block k s with e|⟨_,_,_,_,_,_,E⟩
 ·exact e
 grind
def Pu(B:Nat)(e:ae)(bs:L8):VP:=⟨λv w=>OwnB w B e v bs,λv w V h J=>by
 obtain⟨I,U⟩:=h;rcases U with d|⟨g,E,s,d,T,H,O⟩
 ·exact⟨I,.inl d⟩
 ·exact⟨I,.inr ⟨g,E,s,d,T,(J.same (Array.getElem?_eq_some_iff.1 H).1).trans H,O⟩⟩⟩
section
variable {P:Program} {Q:Exit→Act→aj→Prop} {ops:Array Oper} {M m:Nat} {a0:Act} {w0:aj} {K:List Oper→List VP→Prop} {o:Oper} {rest:List Oper} {env:List VP}
theorem ed.N0{bs:L8}(t e:ae)(x:ai)(i:TypeInfo)(z:Value)(Y:o.op=.call { callee:=.builtin .append,args:=#[.const nS,x],argTypes:=#[t,t] })(V:P.underlying t=af (.slice e))(hi:P.info? e=af i)(O:i.zero=af z)(hs:i.size=1)(hb:i.bytes=1)(h:z.cells.size=1)
  (U:Want ops M a0 w0 env o true)(T:fu ops M a0 w0 env o x (eu bs))(E:bs.length≤1000000)(W:ed P Q ops M a0 w0 K m rest (Pu w0.heap.size e bs::env)):ed P Q ops M a0 w0 K (m+1) (o::rest) env:=
 .new U (λa w H hC hD=>by
  have hX:=T a w H hC hD;obtain⟨J,I,d,h2,h3,-⟩:=nN (P:=P) w0.heap.size t o.type e i z V hi O hs hb h nS (a.eval x) [] bs (OwnB.nil _ _ _) hX zG H.size;refine⟨J,I,?_,gA h3 rfl,h2⟩;have s:a.eval (.const nS)=nS:=rfl;unfold al;simp only[Y,resolve,invoke,builtin,ab,ag,aa,List.map_toArray,List.map_cons,List.map_nil,s,d]) W
theorem ed.fD{b d n c i:Nat}{k:IntKind}(t e:ae)(x y:ai)(T:o.op=.indexAddr t x y)(I:P.underlying t=af (.slice e))(hs:(P.info? e).map (·.size)=af 1)(hi:i<n)
  (H:Want ops M a0 w0 env o true)(E:fu ops M a0 w0 env o x (eC (.slice (af ⟨b,d,none⟩) n c)))(s:fu ops M a0 w0 env o y (eC (.int k (i:Int))))
  (J:ed P Q ops M a0 w0 K m rest (eC (.pointer (af ⟨b,d+i,none⟩))::env)):ed P Q ops M a0 w0 K (m+1) (o::rest) env:=
 .iu x y H E s (λW w _ V U=>by
  cases O:P.info? e with
  |none=>grind
  |some h=>
   have hs:h.size=1:=zG;unfold al;simp[T,V,U,Instr.indexAt,asIntOf,ad I,sizeOf,typeInfo,O,hs,hi,addr_add,go_sem]) J
end
structure o8 where
 workers:Int
 block:Int
 ring:Int
 queue:Int
 out:Int
 slice:Int
 kX:Int
def jb(c:o8):AV:=#[iV c.workers,iV c.block,iV c.ring,iV c.queue,iV c.out,iV c.slice,iV c.kX]
def nI(n lo hi:Int):Bool:=decide (lo≤n)&&decide (n≤hi)
def iA(c:o8):Bool:=nI c.workers 1 8&&nI c.block 1 256&&nI c.ring 1 16&&nI c.queue 1 16&&nI c.out 1 16&&nI c.slice 1 256&&nI c.kX 0 4611686018427387904
theorem B2(n lo hi:Int)(w:aj):Calls prog 99 #[iV n,iV lo,iV hi] w λe d=>e=.returned (.bool (nI n lo hi))∧d=w:=by
 by_cases s:lo≤n
 ·by_cases h:n≤hi
  ·have e:=hide (show nI n lo hi=true by grind[nI]);go_enter func99,ntmps99;go_wp2;go_ret;exact⟨by rw[e.out];rfl,rfl⟩
  ·have e:=hide (show nI n lo hi=false by simp_all[nI,decide_eq_false,Bool.and_false]);go_enter func99,ntmps99;go_wp2;go_ret;exact⟨by rw[e.out];rfl,rfl⟩
 ·have e:=hide (show nI n lo hi=false by simp_all[nI,decide_eq_false,Bool.false_and]);go_enter func99,ntmps99;go_wp2;go_ret;exact⟨by rw[e.out];rfl,rfl⟩
theorem nF(c:o8)(w:aj):Calls prog 55 #[.agg (jb c)] w (eB w (eC (.bool (iA c)))):=by
 unfold jb;have d:=λn s E W=>B2 n s E W;have h:=ek w (.cells #[iV c.workers,iV c.block,iV c.ring,iV c.queue,iV c.out,iV c.slice,iV c.kX] 26);cases V:nI c.workers 1 8
 ·have e:iA c=false:=by grind[iA]
  rw[e];clear e;go_enter ak,ah;go_wp2_with(go_at_call 99;refine(d _ _ _ _).mono ?_;rintro _ _ ⟨rfl,rfl⟩)
  go_ret;exact eB.mk h rfl
 ·skip;cases U:nI c.block 1 256
  ·have e:iA c=false:=by grind[iA]
   rw[e];clear e;go_enter ak,ah;go_wp2_with(go_at_call 99;refine(d _ _ _ _).mono ?_;rintro _ _ ⟨rfl,rfl⟩)
   go_ret;exact eB.mk h rfl
  ·skip;cases T:nI c.ring 1 16
   ·have e:iA c=false:=by grind[iA]
    rw[e];clear e;go_enter ak,ah;go_wp2_with(go_at_call 99;refine(d _ _ _ _).mono ?_;rintro _ _ ⟨rfl,rfl⟩)
    go_ret;exact eB.mk h rfl
   ·skip;cases O:nI c.queue 1 16
    ·have e:iA c=false:=by grind[iA]
     rw[e];clear e;go_enter ak,ah;go_wp2_with(go_at_call 99;refine(d _ _ _ _).mono ?_;rintro _ _ ⟨rfl,rfl⟩)
     go_ret;exact eB.mk h rfl
    ·skip;cases J:nI c.out 1 16
     ·have e:iA c=false:=by grind[iA]
      rw[e];clear e;go_enter ak,ah;go_wp2_with(go_at_call 99;refine(d _ _ _ _).mono ?_;rintro _ _ ⟨rfl,rfl⟩)
      go_ret;exact eB.mk h rfl
     ·skip;cases I:nI c.slice 1 256
      ·have e:iA c=false:=by grind[iA]
       rw[e];clear e;go_enter ak,ah;go_wp2_with(go_at_call 99;refine(d _ _ _ _).mono ?_;rintro _ _ ⟨rfl,rfl⟩)
       go_ret;exact eB.mk h rfl
      ·skip;cases H:nI c.kX 0 4611686018427387904
       ·have e:iA c=false:=by grind[iA]
        rw[e];clear e;go_enter ak,ah;go_wp2_with(go_at_call 99;refine(d _ _ _ _).mono ?_;rintro _ _ ⟨rfl,rfl⟩)
        go_ret;exact eB.mk h rfl
       ·skip;have e:iA c=true:=by grind[iA]
        rw[e];clear e;go_enter ak,ah;go_wp2_with(go_at_call 99;refine(d _ _ _ _).mono ?_;rintro _ _ ⟨rfl,rfl⟩)
        go_ret;exact eB.mk h rfl
end Go.Proofs.YtofgfpffcegioaaGreat
namespace Go.Proofs.YtofgfpffcegioaaGreat
open Go.RowKit Go.Proofs.Tryz
theorem pE(z:Int)(w:World):Calls prog 68 #[iV z] w λe d=>e=.returned (.bool (nI z 0 2147483647))∧d=w:=by
 by_cases s:0≤z
 ·by_cases h:z≤2147483647
  ·have e:=hide (show nI z 0 2147483647=true by grind[nI]);go_enter func68,ntmps68;rw[e.out];go_wp2;go_ret;simp_all
  ·have e:=hide (show nI z 0 2147483647=false by grind[nI]);go_enter func68,ntmps68;rw[e.out];go_wp2;go_ret;simp_all
 ·have e:=hide (show nI z 0 2147483647=false by grind[nI]);go_enter func68,ntmps68;rw[e.out];go_wp2;go_ret;simp_all
theorem vB(z:Int)(w:World):Calls prog 173 #[iV z] w λe d=>e=.returned (.bool (nI z 1 32))∧d=w:=by
 by_cases s:1≤z
 ·by_cases h:z≤32
  ·have e:=hide (show nI z 1 32=true by grind[nI]);go_enter func173,ntmps173;rw[e.out];go_wp2;go_ret;simp_all
  ·have e:=hide (show nI z 1 32=false by grind[nI]);go_enter func173,ntmps173;rw[e.out];go_wp2;go_ret;simp_all
 ·have e:=hide (show nI z 1 32=false by grind[nI]);go_enter func173,ntmps173;rw[e.out];go_wp2;go_ret;simp_all
end Go.Proofs.YtofgfpffcegioaaGreat
