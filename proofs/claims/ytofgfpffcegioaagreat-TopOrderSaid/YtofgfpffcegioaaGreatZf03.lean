/- A part of the proof. -/
import Derived.Test.YtofgfpffcegioaaGreatZf01
import Derived.Great.BuildSlice
import Derived.Shelf.Abstract
set_option maxRecDepth 100000
set_option maxHeartbeats 8000000
namespace Go.Proofs.YtofgfpffcegioaaGreat
open Go.RowKit
open _root_.Array renaming getElem?_eq_some_iff → aq
open Bool renaming true → aE
open Go renaming Operand → ag,TypeId → al,World → aw,run_underlying → ay,maxLen → az,IntKind → aD
open Go.Result renaming andThen_ok → aC
open Go.Sem renaming run_bind → aB
open List renaming getElem?_eq_some_iff → ah,length_map → ak,getElem?_map → ar,getElem?_eq_getElem → au,map_map → aA
open Nat renaming le_refl → aj
open Option renaming some → af,map_some → an,none → ao,map_eq_some_iff → av
open Option.some renaming injEq → ai
def Qm(Fs:List VP)(u:Value)(w:aw):Prop:=∃A c,u=.slice A Fs.length c∧Fs.length≤c∧c≤az∧
 (0<Fs.length→∃b d,A=af ⟨b,d,ao⟩∧b<w.heap.size∧∀j F,Fs[j]?=af F→∃x,w.cell? ⟨b,d+j,ao⟩=af x∧F x w)
theorem NS(Fs:List VP):∀u w h,Qm Fs u w→qY w h→Qm Fs u h:=by
 rintro u w h ⟨A,c,rfl,U,O,I⟩ E;refine⟨A,c,rfl,U,O,λJ=>?_⟩;obtain⟨b,s,V,H,d⟩:=I J;refine⟨b,s,V,Nat.lt_of_lt_of_le H E.size,λj F T=>?_⟩;obtain⟨x,Y,W⟩:=d j F T;exact⟨x,(E.cell H).trans Y,F.wk x w h W E⟩
def jY(Fs:List VP):VP:=⟨Qm Fs,NS Fs⟩
theorem jY.slice{Fs:List VP}{v:Value}{w:aw}(h:jY Fs v w):∃A n c,v=.slice A n c:=by obtain⟨A,c,h,_⟩:=h;grind
def ff(b:UInt8):Value:=.int .u8 (b.toNat:Int)
def eu(bs:L8):VP:=jY (bs.map λb=>eC (ff b))
def eQ(d:List Int):VP:=jY (d.map λn=>eC (iV n))
def eD(d:LL):VP:=jY (d.map eu)
theorem eu.form{bs:L8}{u:Value}{w:aw}(h:eu bs u w):∃A c,u=.slice A bs.length c∧bs.length≤c∧c≤az∧
  (0<bs.length→∃b d,A=af ⟨b,d,ao⟩∧b<w.heap.size∧∀j (O:j<bs.length),w.cell? ⟨b,d+j,ao⟩=af (.int .u8 (bs[j].toNat:Int))):=by
 obtain⟨A,c,I,H,V,E⟩:=h;rw[ak]at I H E;refine⟨A,c,I,H,V,λJ=>?_⟩;obtain⟨b,d,U,T,s⟩:=E J;refine⟨b,d,U,T,λj O=>?_⟩;simp_all[eC,ff,ar]
theorem eu.of{bs:L8}{A:Option Addr}{c:Nat}{w:aw}(V:bs.length≤c)(U:c≤az)
  (h:0<bs.length→∃b d,A=af ⟨b,d,ao⟩∧b<w.heap.size∧∀j (H:j<bs.length),w.cell? ⟨b,d+j,ao⟩=af (.int .u8 (bs[j].toNat:Int))):eu bs (.slice A bs.length c) w:=by
 refine⟨A,c,by grind,by grind,U,λI=>?_⟩;rw[ak]at I;obtain⟨b,d,T,O,s⟩:=h I;refine⟨b,d,T,O,λj F H=>?_⟩;rw[ar]at H;obtain⟨x,J,rfl⟩:=av.1 H;obtain⟨E,rfl⟩:=ah.1 J;exact⟨_,s j E,rfl⟩
theorem eD.form{s:LL}{u:Value}{w:aw}(h:eD s u w):∃A c,u=.slice A s.length c∧s.length≤c∧c≤az∧
  (0<s.length→∃b d,A=af ⟨b,d,ao⟩∧b<w.heap.size∧∀j (T:j<s.length),∃x,w.cell? ⟨b,d+j,ao⟩=af x∧eu s[j] x w):=by
 obtain⟨A,c,J,I,W,H⟩:=h;rw[ak]at J I H;refine⟨A,c,J,I,W,λO=>?_⟩;obtain⟨b,d,V,U,E⟩:=H O;refine⟨b,d,V,U,λj T=>E j (eu s[j]) zG⟩
theorem addr_add(b d j:Nat):(⟨b,d,ao⟩:Addr).add j=⟨b,d+j,ao⟩:=by grind[Addr.add]
section
variable {P:Program} {w:aw}
theorem jY.cut{Fs:List VP}{A:Option Addr}{n c lo hi:Nat}(h:jY Fs (.slice A n c) w)(V:lo≤hi)(W:hi≤Fs.length):n=Fs.length∧n≤c∧c≤az∧jY ((Fs.take hi).drop lo) (.slice (if c=lo then A else A.map (·.add lo)) (hi-lo) (c-lo)) w:=by
 obtain⟨A',Y,e,U,T,O⟩:=h;cases e;refine⟨rfl,U,T,_,c-lo,by congr 1;simp;omega,by simp;omega,by omega,λI=>?_⟩;have H:lo<hi∧0<Fs.length:=by simp at I;omega
 obtain⟨b,E,rfl,J,d⟩:=O H.2;refine⟨b,E+lo,by rw[if_neg zO];simp[addr_add],J,λj F s=>?_⟩;rw[List.getElem?_drop,List.getElem?_take]at s;split at s
 ·rw[Nat.add_assoc];exact d (lo+j) F s
 ·cases s
theorem nE{d s e:al}(hs:P.underlying d=af (.slice e))(H:P.underlying e=af (.int .u8))(I:P.underlying s=af .string){bs:L8}{u:Value}(h:eu bs u w) :
  (convert d s u).run P w=.ok (.string ⟨bs.toArray⟩) w:=by
 obtain⟨A,c,rfl,_,_,O⟩:=eu.form h;rw[run_convert_bytes_string w d s e A bs.length c hs H I];rcases A with _|ad
 ·have:bs=[]:=by
   grind
  subst this;rfl
 ·have E:(loadCells ad bs.length).run P w=.ok ((bs.map λb=>(b.toNat:Int)).map (Value.int .u8)).toArray w:=by
   have:=run_loadCells_list (P:=P) w ad ((bs.map λb=>(b.toNat:Int)).map (Value.int .u8)) (λj v J=>by
    grind[aA,av,ah,addr_add])
   grind
  rw[run_bytesToString w ad bs.length c _ E,foldl_push_bytes];congr 2;apply ByteArray.ext;simp only[ByteArray.empty,ByteArray.emptyWithCapacity];apply Array.ext';simp only[Array.toList_append,aA];show[]++_=bs;simp_all[List.nil_append,List.map_congr_left]
theorem eu.cut{bs:L8}{u:Value}(h:eu bs u w):∃A n c,u=.slice A n c∧n=bs.length∧n≤c∧c≤az∧
  ∀d s,d≤s→s≤n→eu ((bs.take s).drop d) (.slice (if c=d then A else A.map (·.add d)) (s-d) (c-d)) w:=by
 obtain⟨A,c,rfl,U,T,O⟩:=eu.form h;refine⟨A,_,c,rfl,rfl,U,T,λd s W hh=>?_⟩;have I:((bs.take s).drop d).length=s-d:=zG;have:=eu.of (bs:=(bs.take s).drop d) (A:=if c=d then A else A.map (·.add d)) (c:=c-d) (w:=w) zO zO (λV=>by
  obtain⟨b,E,rfl,J,H⟩:=O zO;refine⟨b,E+d,by rw[if_neg zO];simp[addr_add],J,λj Y=>?_⟩;grind)
 grind
end
section
variable {P:Program} {Q:Exit→Act→aw→Prop} {ops:Array Oper} {M m:Nat} {a0:Act} {w0:aw} {K:List Oper→List VP→Prop} {o:Oper} {rest:List Oper} {env:List VP}
theorem ed.string{bs:L8}(d h e:al)(x:ag)(I:o.op=.convert d h x)(hs:P.underlying d=af (.slice e))(J:P.underlying e=af (.int .u8))(O:P.underlying h=af .string)
  (E:Want ops M a0 w0 env o aE)(s:fu ops M a0 w0 env o x (eu bs))
  (H:ed P Q ops M a0 w0 K m rest (eC (.string ⟨bs.toArray⟩)::env)):ed P Q ops M a0 w0 K (m+1) (o::rest) env:=
 .val E (λa w T V U=>⟨_,by unfold execOp;simp only[I,nE hs J O (s a w T V U),aB,Sem.run_pure,aC],rfl⟩) H
theorem ed.S2{Fs:List VP}(t e:al)(x y:ag)(k:aD)(hi:Nat)(Y:o.op=.slice t x ao (af y) ao)(V:P.underlying t=af (.slice e))(h:(P.info? e).map (·.size)=af 1)
  (U:Want ops M a0 w0 env o aE)(T:fu ops M a0 w0 env o x (jY Fs))(O:fu ops M a0 w0 env o y (eC (.int k (hi:Int))))(hh:hi≤Fs.length)
  (W:ed P Q ops M a0 w0 K m rest (jY (Fs.take hi)::env)):ed P Q ops M a0 w0 K (m+1) (o::rest) env:=
 .val U (λa w E I H=>by
  have s:=T a w E I H;have hY:a.eval y=.int k (hi:Int):=O a w E I H;obtain⟨A,c,J,_⟩:=id s;rw[J]at s;obtain⟨_,h2,_,h4⟩:=jY.cut (lo:=0) s (Nat.zero_le hi) hh;cases d:P.info? e with
  |none=>simp[d]at h
  |some ie=>
   simp only[d,an,ai]at h;refine⟨_,?_,by simpa using h4⟩;unfold execOp;simp[Y,J,hY,Instr.sliceAt,Instr.slice,Instr.sliceBounds,Instr.sliceBound,asIntOf,ay V,sizeOf,typeInfo,d,show hi≤c by omega]) W
theorem ed.cutFrom{Fs:List VP}(t e:al)(x y:ag)(k:aD)(lo:Nat)(ho:o.op=.slice t x (af y) ao ao)(W:P.underlying t=af (.slice e))(d:(P.info? e).map (·.size)=af 1)
  (V:Want ops M a0 w0 env o aE)(U:fu ops M a0 w0 env o x (jY Fs))(T:fu ops M a0 w0 env o y (eC (.int k (lo:Int))))(E:lo≤Fs.length)
  (Y:ed P Q ops M a0 w0 K m rest (jY (Fs.drop lo)::env)):ed P Q ops M a0 w0 K (m+1) (o::rest) env:=
 .val V (λa w H J I=>by
  have s:=U a w H J I;have hY:a.eval y=.int k (lo:Int):=T a w H J I;obtain⟨A,c,O,_⟩:=id s;rw[O]at s;obtain⟨_,h2,_,h4⟩:=jY.cut (lo:=lo) (hi:=Fs.length) s E (aj _);cases h:P.info? e with
  |none=>simp[h]at d
  |some ie=>
   simp only[h,an,ai]at d;refine⟨_,?_,by simpa using h4⟩;unfold execOp;simp[ho,O,hY,Instr.sliceAt,Instr.slice,Instr.sliceBounds,Instr.sliceBound,asIntOf,ay W,sizeOf,typeInfo,h,d,E]) Y
theorem ed.Sv{Fs:List VP}(t e:al)(x:ag)(I:o.op=.call { callee:=.builtin .len,args:=#[x],argTypes:=#[t] })(E:P.underlying t=af (.slice e))
  (s:Want ops M a0 w0 env o aE)(h:fu ops M a0 w0 env o x (jY Fs))
  (H:ed P Q ops M a0 w0 K m rest (eC (iV (Fs.length:Int))::env)):ed P Q ops M a0 w0 K (m+1) (o::rest) env:=
 .val s (λa w J T O=>by
  obtain⟨A,c,d,_⟩:=h a w J T O;refine⟨_,?_,rfl⟩;revert d;generalize a.eval=U;intro d;unfold execOp;simp[I,go_sem,d,Builtin.len_,ay E]) H
theorem ed.rS{bs:L8}(t e:al)(x:ag)(H:o.op=.call { callee:=.builtin .len,args:=#[x],argTypes:=#[t] })(s:P.underlying t=af (.slice e))
  (h:Want ops M a0 w0 env o aE)(d:fu ops M a0 w0 env o x (eu bs))
  (E:ed P Q ops M a0 w0 K m rest (eC (iV (bs.length:Int))::env)):ed P Q ops M a0 w0 K (m+1) (o::rest) env:=
 .Sv t e x H s h d (by rw[ak];exact E)
def vg(ops:Array Oper)(M:Nat)(a0:Act)(w0:aw)(env:List VP)(o:Oper):List ag→List VP→Prop
 |[],[]=>True
 |x::xs,F::Fs=>fu ops M a0 w0 env o x F∧vg ops M a0 w0 env o xs Fs
 |_,_=>False
theorem vg.get:∀{d:List ag} {s:List VP},vg ops M a0 w0 env o d s→d.length=s.length∧∀(i:Nat) (F:VP),s[i]?=af F→∃x,d[i]?=af x∧fu ops M a0 w0 env o x F
 |[],[],_=>⟨rfl,λi F h=>by simp at h⟩
 |[],_::_,h=>h.elim
 |_::_,[],h=>h.elim
 |x::d,F::s,h=>by
  obtain⟨O,J⟩:=h;obtain⟨I,H⟩:=vg.get J;refine⟨by simp[I],λi T E=>?_⟩;cases i with
  |zero=>simp at E;subst E;exact⟨x,rfl,O⟩
  |succ i=>exact H i T E
def OneCell(F:VP):Prop:=∀v w,F v w→v.cells=#[v]
theorem kQ{x:Value}(h:x.cells=#[x]):OneCell (eC x):=λv _ d=>by rw[show v=x from d];exact h
def vi:List VP→Prop
 |[]=>True
 |F::Fs=>OneCell F∧vi Fs
theorem vi.mem:∀{d:List VP},vi d→∀F∈d,OneCell F
 |[],_,F,hF=>by simp at hF
 |G::d,h,F,hF=>by
  rcases List.mem_cons.1 hF with rfl|hF
  ·exact h.1
  ·exact vi.mem h.2 F hF
theorem td(w:aw):eu [] nS w:=eu.of (bs:=[]) (aj _) zD (λh=>by simp at h)
theorem ed.lit{Fs:List VP}(xs:List ag)(t e:al)(n:Nat)(d:Array (Nat×ag))(ho:o.op=.buildSlice t n d)(hn:n=Fs.length)(aa:0<n)(ad:n≤65536)(J:d.toList=(xs.zipIdx 0).map λx=>(x.2,x.1))
  (hu:P.underlying t=af (.slice e))(E:(P.info? e).map (·.size)=af 1)(hz:((P.info? e).bind (·.zero)).isSome=aE)
  (s:vi Fs)(hw:Want ops M a0 w0 env o aE)(hx:vg ops M a0 w0 env o xs Fs)
  (hr:ed P Q ops M a0 w0 K m rest (jY Fs::env)):ed P Q ops M a0 w0 K (m+1) (o::rest) env:=
 .new hw (λa w hE hC hD=>by
  obtain⟨ab,h⟩:=hx.get;have H:=s.mem;have U:∀v∈xs.map a.eval,v.cells=#[v]:=by
   intro v hv;obtain⟨x,T,rfl⟩:=List.mem_map.1 hv;obtain⟨i,hi⟩:=List.mem_iff_getElem?.1 T;have I:i<Fs.length:=zG;obtain⟨x',h1,Y⟩:=h i Fs[i] (au I);rw[hi]at h1;cases h1;exact H _ (List.getElem_mem I) _ _ (Y a w hE hC hD)
  cases V:P.info? e with
  |none=>grind
  |some O=>
   simp only[V,an,ai,Option.bind_some]at E hz;obtain⟨z,ae⟩:=Option.isSome_iff_exists.1 hz;have hp:(d.map λ(i,x)=>(i,a.eval x)).toList=((xs.map a.eval).zipIdx 0).map λx=>(x.2,x.1):=by
    simp_all[Array.toList_map,List.zipIdx_map,aA]
   have W:Instr.fill (λi=>af (i*O.size,O.size)) ((Array.range (n*O.size)).map (z.cells[· %z.cells.size]!)) (d.map λ(i,x)=>(i,a.eval x)).toList=af (xs.map a.eval).toArray:=by
    rw[hp,E];grind[Great.fill_flat]
   refine⟨.slice (af ⟨w.heap.size,0,ao⟩) n n,w.alloc (.cells (xs.map a.eval).toArray e),?_,(Below.refl _ _).alloc (aj _) _,?_⟩
   ·grind[execOp,aB,run_buildSlice,Sem.run_pure,aC]
   ·refine⟨_,_,by rw[hn],aj _,by grind[az],λ_=>⟨w.heap.size,0,rfl,by simp,λj F hj=>?_⟩⟩;obtain⟨x,h1,Y⟩:=h j F hj;refine⟨a.eval x,?_,F.st _ _ _ (Y a w hE hC hD) ((Below.refl _ _).alloc (aj _) _)⟩;simp_all) hr
def Qn(B:Nat)(bs:L8):VP:=⟨λu w=>∃g d t m,u=.slice (af ⟨g,0,ao⟩) bs.length bs.length∧B≤g∧w.heap[g]?=af (.cells d t m)∧(m=(0,0)∨m=(d.size,d.size+1))∧d.toList=bs.map ff∧0<bs.length∧bs.length≤az,
 λu w Y ⟨g,d,t,m,J,I,h,U,H,E,s⟩ T=>by
  rcases T.block g (aq.1 h).1 with e|⟨W,t',O,V,_⟩
  ·exact⟨g,d,t,m,J,I,e.trans h,U,H,E,s⟩
  ·rw[h]at O;cases O;exact⟨g,d,t,_,J,I,V,.inr rfl,H,E,s⟩⟩
theorem Qn.bytes{B:Nat}{bs:L8}{u:Value}{w:aw}(h:Qn B bs u w):eu bs u w:=by
 obtain⟨g,I,t,m,rfl,T,d,O,H,J,E⟩:=h;refine eu.of (aj _) E λ_=>⟨g,0,rfl,(aq.1 d).1,λj s=>?_⟩
 rw[Nat.zero_add,cell_of_row w g j I t m d,←Array.getElem?_toList,H,ar,au s];rfl
theorem BR(w:aw)(g:Nat)(cs:AV)(t:al)(m:Nat×Nat)(h:w.heap[g]?=af (.cells cs t m))(d:m=(0,0)∨m=(cs.size,cs.size+1)) :
  (w.freeze ⟨g,cs.size,ao⟩ 1).heap[g]?=af (.cells cs t (cs.size,cs.size+1))∧(∀k,k≠g→(w.freeze ⟨g,cs.size,ao⟩ 1).heap[k]?=w.heap[k]?)∧(w.freeze ⟨g,cs.size,ao⟩ 1).heap.size=w.heap.size∧(w.freeze ⟨g,cs.size,ao⟩ 1).os=w.os∧(w.freeze ⟨g,cs.size,ao⟩ 1).tape=w.tape∧(w.freeze ⟨g,cs.size,ao⟩ 1).output=w.output:=by
 unfold World.freeze;grind
def KV(F:VP):VP:=⟨λu w=>∃b o x,u=.pointer (af ⟨b,o,ao⟩)∧b<w.heap.size∧w.cell? ⟨b,o,ao⟩=af x∧F x w,λ_ _ _ ⟨b,o,x,H,h,E,s⟩ d=>
 ⟨b,o,x,H,Nat.lt_of_lt_of_le h d.size,(d.cell h).trans E,F.wk _ _ _ s d⟩⟩
theorem ed.indexAddr{Fs:List VP}{F:VP}(t e:al)(x y:ag)(k:aD)(i:Nat)(ho:o.op=.indexAddr t x y)(hu:P.underlying t=af (.slice e))(s:(P.info? e).map (·.size)=af 1)
  (V:Want ops M a0 w0 env o aE)(U:fu ops M a0 w0 env o x (jY Fs))(T:fu ops M a0 w0 env o y (eC (.int k (i:Int))))(H:Fs[i]?=af F)
  (W:ed P Q ops M a0 w0 K m rest (KV F::env)):ed P Q ops M a0 w0 K (m+1) (o::rest) env:=
 .val V (λa w I O J=>by
  have hX:=U a w I O J;have hY:a.eval y=.int k (i:Int):=T a w I O J;obtain⟨A,c,hA,_,_,d⟩:=hX;have Y:i<Fs.length:=(ah.1 H).1;obtain⟨b,h,rfl,hb,hc⟩:=d zO;obtain⟨z,h1,h2⟩:=hc i F H;have he:P.elem t=e:=by grind[Program.elem]
  cases E:P.info? e with
  |none=>grind
  |some ie=>
   simp only[E,an,ai]at s;refine⟨.pointer (af ⟨b,h+i,ao⟩),?_,b,h+i,z,rfl,hb,h1,h2⟩;simp_all[execOp,run_indexAt_slice,sizeOf,typeInfo,addr_add,Result.andThen]) W
theorem ed.indexB{bs:L8}(t e:al)(x y:ag)(k:aD)(i:Nat)(J:o.op=.indexAddr t x y)(H:P.underlying t=af (.slice e))(d:(P.info? e).map (·.size)=af 1)
  (E:Want ops M a0 w0 env o aE)(s:fu ops M a0 w0 env o x (eu bs))(h:fu ops M a0 w0 env o y (eC (.int k (i:Int))))(O:i<bs.length)
  (I:ed P Q ops M a0 w0 K m rest (KV (eC (ff bs[i]))::env)):ed P Q ops M a0 w0 K (m+1) (o::rest) env:=
 .indexAddr t e x y k i J H d E s h zG I
theorem ed.kf{d:LL}(t e:al)(x y:ag)(k:aD)(i:Nat)(O:o.op=.indexAddr t x y)(I:P.underlying t=af (.slice e))(h:(P.info? e).map (·.size)=af 1)
  (H:Want ops M a0 w0 env o aE)(E:fu ops M a0 w0 env o x (eD d))(s:fu ops M a0 w0 env o y (eC (.int k (i:Int))))(T:i<d.length)
  (J:ed P Q ops M a0 w0 K m rest (KV (eu d[i])::env)):ed P Q ops M a0 w0 K (m+1) (o::rest) env:=
 .indexAddr t e x y k i O I h H E s zG J
theorem ed.KW{d:List Int}(t e:al)(x y:ag)(k:aD)(i:Nat)(O:o.op=.indexAddr t x y)(I:P.underlying t=af (.slice e))(h:(P.info? e).map (·.size)=af 1)
  (H:Want ops M a0 w0 env o aE)(E:fu ops M a0 w0 env o x (eQ d))(s:fu ops M a0 w0 env o y (eC (.int k (i:Int))))(T:i<d.length)
  (J:ed P Q ops M a0 w0 K m rest (KV (eC (iV d[i]))::env)):ed P Q ops M a0 w0 K (m+1) (o::rest) env:=
 .indexAddr t e x y k i O I h H E s zG J
theorem ed.jM{F:VP}(t:al)(x:ag)(H:o.op=.load t x)(s:Want ops M a0 w0 env o aE)(h:fu ops M a0 w0 env o x (KV F))
  (d:∀w:aw,(isAgg t).run P w=.ok false w)
  (E:ed P Q ops M a0 w0 K m rest (F::env)):ed P Q ops M a0 w0 K (m+1) (o::rest) env:=
 .KR t x H s h (λp w _ ⟨b,o,z,O,_,J,I⟩=>⟨z,by simp_all[Instr.loadAt,Instr.sureAddr,loadVar,aB],I⟩) E
end
end Go.Proofs.YtofgfpffcegioaaGreat
