/- A part of the proof. -/
import Derived.Test.YtofgfpffcegioaaGreatZf03
import Derived.Maps.AppendAt
import Derived.Deep.Draws
import Derived.Test.YtofgfpffcegioaaGreatProg
set_option maxRecDepth 100000
set_option maxHeartbeats 8000000
namespace Go.Proofs.YtofgfpffcegioaaGreat
open Go.RowKit
open _root_.Array renaming getElem?_eq_some_iff → ah
open Go renaming Value → ag,TypeId → ai,World → ak,run_underlying → ar,TypeInfo → aA
open Go.Builtin renaming append_ → al,firstCells → ao,lenOf → av
open Go.Result renaming andThen_ok → aC
open Go.Sem renaming run_bind → aB
open Go.World renaming block_lt_of_cell? → aw
open Go.World.grownBy renaming refl → az
open List renaming getElem?_map → aj,eq_nil_of_length_eq_zero → aq,getElem?_eq_some_iff → au
open Nat renaming le_refl → aD
open Option renaming some → an,map_eq_some_iff → ay,none → aE
section
variable {P:Program} {w:ak}
def OwnB(w:ak)(base:Nat)(e:ai)(v:ag)(bs:L8):Prop:=w.ownsRow base e 1 v bs.length (bs.map ff)
theorem OwnB.bytes{base:Nat}{e:ai}{v:ag}{bs:L8}(h:OwnB w base e v bs):eu bs v w:=by
 obtain⟨h1,T⟩:=h;rcases T with⟨rfl,U⟩|⟨g,V,d,rfl,hb,s,I,O,W,H⟩
 ·obtain rfl:=aq U;exact eu.of (bs:=[]) (aD _) zD (λh=>by simp at h)
 ·refine eu.of I O λY=>⟨g,0,rfl,(ah.1 s).1,λj J=>?_⟩
  rw[Nat.zero_add,cell_of_row w g j d e (0,0) s];have E:(d.toList.take (bs.length*1))[j]?=(bs.map ff)[j]?:=by rw[H]
  rw[List.getElem?_take,if_pos zO,aj,List.getElem?_eq_getElem J]at E;rw[←Array.getElem?_toList];exact E
theorem gA{w s:ak}{row:Option Nat}(d:w.grownBy s row)(h:row=aE):Ext w s:=⟨d.os,d.tape,d.output,d.size,λk E=>d.block k E zG⟩
theorem yC(w:ak)(n:Nat):Ext w (w.drewN n):=⟨rfl,rfl,rfl,aD _,λ_ _=>rfl⟩
theorem OwnB.nil(w:ak)(base:Nat)(e:ai):OwnB w base e nS []:=World.ownsRow_nil w base e 1
theorem OwnB.made(w:ak)(base:Nat)(e:ai)(h:base≤w.heap.size):OwnB (w.alloc (.cells #[] e)) base e (.slice (an ⟨w.heap.size,0,aE⟩) 0 0) []:=
 World.ownsRow_made w #[] 0 h zD rfl
theorem OwnB.st{base:Nat}{e:ai}{v:ag}{bs:L8}{E:ak}(h:OwnB w base e v bs)(J:Ext w E):OwnB E base e v bs:=by
 refine⟨h.1,?_⟩;rcases h.2 with O|⟨g,s,d,rfl,I,H,r⟩
 ·grind
 ·exact .inr ⟨g,s,d,rfl,I,(J.block g (ah.1 H).1).trans H,r⟩
theorem OwnB.row{w:ak}{base:Nat}{e:ai}{v:ag}{bs:L8}(h:OwnB w base e v bs)(U:0<bs.length):∃g d s,v=.slice (an ⟨g,0,aE⟩) bs.length d∧base≤g∧Box w g e s∧bs.length≤d∧d≤maxLen∧s.size=d∧s.toList.take bs.length=bs.map ff:=by
 obtain⟨_,⟨_,V⟩|⟨g,d,s,rfl,T,E,O,J,I,H⟩⟩:=h
 ·omega
 ·rw[Nat.mul_one]at I H;exact⟨g,d,s,rfl,T,E,O,J,I,H⟩
theorem OwnB.put{w:ak}{base:Nat}{e:ai}{g d:Nat}{h:AV}{bs:L8}(O:base≤g)(H:Box w g e h)(J:bs.length≤d)(I:d≤maxLen)(E:h.size=d)(s:h.toList.take bs.length=bs.map ff)(i:Nat)(b:UInt8) :
  OwnB (w.setCell ⟨g,i,aE⟩ (ff b)) base e (.slice (an ⟨g,0,aE⟩) bs.length d) (bs.set i b):=by
 refine⟨by simp,.inr ⟨g,d,h.setIfInBounds i (ff b),by simp,O,H.eL i _,by simpa using J,I,by simpa using E,?_⟩⟩;rw[Nat.mul_one,List.length_set,Array.toList_setIfInBounds,List.take_set,s,List.map_set]
theorem OwnB.ge{w:ak}{base:Nat}{e:ai}{v:ag}{bs:L8}(h:OwnB w base e v bs)(k:Nat)(d:v.ownBlock=an k):base≤k:=by
 obtain⟨_,⟨rfl,_⟩|⟨g,H,E,rfl,s,_⟩⟩:=h
 ·cases d
 ·cases d;exact s
theorem OwnB.form{w:ak}{base:Nat}{e:ai}{v:ag}{bs:L8}(h:OwnB w base e v bs):∃A c,v=.slice A bs.length c:=by
 obtain⟨_,⟨rfl,E⟩|⟨g,s,d,rfl,_⟩⟩:=h
 ·simp_all
 grind
theorem OwnB.low{w:ak}{base d:Nat}{e:ai}{v:ag}{bs:L8}(h:OwnB w base e v bs)(I:d≤base):OwnB w d e v bs:=by
 obtain⟨H,U|⟨g,E,s,T,O,J⟩⟩:=h
 ·exact⟨H,.inl U⟩
 ·exact⟨H,.inr ⟨g,E,s,T,Nat.le_trans I O,J⟩⟩
theorem nN(base:Nat)(t W e:ai)(i:aA)(z:ag)(T:P.underlying t=an (.slice e))(hi:P.info? e=an i)(hz:i.zero=an z)(hs:i.size=1)(hb:i.bytes=1)(J:z.cells.size=1)
  (v u:ag)(H bs:L8)(d:OwnB w base e v H)(O:eu bs u w)(Y:H.length+bs.length≤1000000)(s:base≤w.heap.size) :
  ∃E I,(al #[t,t] W #[v,u]).run P w=.ok E I∧OwnB I base e E (H++bs)∧w.grownBy I v.ownBlock∧(E.ownBlock=v.ownBlock∨E.ownBlock=an w.heap.size):=by
 obtain⟨A,c,rfl,h2,h3,h4⟩:=eu.form O;rcases A with _|ad
 ·have:bs=[]:=by
   grind
  subst this;refine⟨v,w,?_,by grind,az w _,.inl rfl⟩;rcases d.2 with⟨rfl,_⟩|⟨g,ae,ab,rfl,_,_,U,_⟩
  ·simp[al,ar T,sizeOf,typeInfo,hi,av,ao]
  ·simp[al,ar T,sizeOf,typeInfo,hi,av,ao,U,storeCells]
 ·obtain⟨E,I,h5,h6,h7,_,h9⟩:=run_append_own_at (P:=P) w base t W e i z 1 1 T hi hz hs hb J zO v H.length (H.map ff) d ad bs.length c (bs.map ff) zS (λj x hj=>by
   rw[aj]at hj;obtain⟨y,hy,rfl⟩:=ay.1 hj;obtain⟨V,rfl⟩:=au.1 hy;obtain⟨b,aa,hA,_,h⟩:=h4 zO;cases hA;rw[addr_add,h j V];rfl) (λx O=>by obtain⟨b,_,rfl⟩:=List.mem_map.1 O;rfl) (by grind[maxLen]) zO s
  grind[OwnB,List.length_append]
theorem uo{o:Oper}{a:Act}{K:Act→ak→Prop}{Q:Exit→Act→ak→Prop}(s x:Operand)(t:ai)
  (ho:o.op=.call { callee:=.builtin .append,args:=#[s,x],argTypes:=#[t,t] })
  (base:Nat)(e:ai)(i:aA)(z:ag)(ht:P.underlying t=an (.slice e))(hi:P.info? e=an i)(V:i.zero=an z)(hs:i.size=1)(hb:i.bytes=1)(U:z.cells.size=1)
  (v u:ag)(T bs:L8)(Y:a.eval s=v)(J:OwnB w base e v T)(hu:a.eval x=u)(W:eu bs u w)(O:T.length+bs.length≤1000000)(d:base≤w.heap.size)
  (h:∀E H,OwnB H base e E (T++bs)→w.grownBy H v.ownBlock→(E.ownBlock=v.ownBlock∨E.ownBlock=an w.heap.size)→K (a.put o.dst E) H):o.wp P a w K Q:=by
 obtain⟨E,H,I,h2,h3,h4⟩:=nN (P:=P) base t o.type e i z ht hi V hs hb U v u T bs J W O d;unfold Oper.wp execOp;simp only[ho,resolve,invoke,builtin,aB,Sem.run_pure,aC,List.map_toArray,List.map_cons,List.map_nil,Y,hu,I];exact h E H h2 h3 h4
theorem gC{J:Array Oper}{d:List Oper}{o:Oper}{a:Act}{Q:Exit→Act→ak→Prop}(W:o.guard=aE)(s x:Operand)(t:ai)
  (ho:o.op=.call { callee:=.builtin .append,args:=#[s,x],argTypes:=#[t,t] })
  (base:Nat)(e:ai)(i:aA)(z:ag)(ht:P.underlying t=an (.slice e))(hi:P.info? e=an i)(Y:i.zero=an z)(hs:i.size=1)(hb:i.bytes=1)(V:z.cells.size=1)
  (v u:ag)(U bs:L8)(hv:a.eval s=v)(O:OwnB w base e v U)(hu:a.eval x=u)(hx:eu bs u w)(T:U.length+bs.length≤1000000)(E:base≤w.heap.size)
  (h:∀H I,OwnB I base e H (U++bs)→w.grownBy I v.ownBlock→(H.ownBlock=v.ownBlock∨H.ownBlock=an w.heap.size)→wpList P J Q d (a.put o.dst H) I):wpList P J Q (o::d) a w:=
 wpList_plain W λ_ hK=>uo s x t ho base e i z ht hi Y hs hb V v u U bs hv O hu hx T E λH I h2 h3 h4=>hK _ _ (h H I h2 h3 h4)
theorem jB{d wr h:ak}{o:Obj}{row:Option Nat}(s:Below d.heap.size d wr)(I:(wr.alloc o).grownBy h row)(H:∀k,row=an k→d.heap.size≤k):Below d.heap.size d h:=by
 have E:=s.trans ((ek wr o).mono s.size);exact E.grown I E.size H
theorem fy{base:Nat}{e:ai}{size n:Nat}{v:ag}{xs:List ag}{E:ak}(h:w.ownsRow base e size v n xs)(J:Ext w E):E.ownsRow base e size v n xs:=by
 refine⟨h.1,?_⟩;rcases h.2 with O|⟨g,s,d,rfl,I,H,r⟩
 ·grind
 ·exact .inr ⟨g,s,d,rfl,I,(J.block g (ah.1 H).1).trans H,r⟩
theorem fk{base:Nat}{e:ai}{size n:Nat}{v:ag}{xs:List ag}(h:w.ownsRow base e size v n xs)(k:Nat)(d:v.ownBlock=an k):base≤k:=by
 obtain⟨_,⟨rfl,_⟩|⟨g,H,E,rfl,s,_⟩⟩:=h
 ·cases d
 ·cases d;exact s
theorem KX{base:Nat}{e:ai}{size n:Nat}{v:ag}{xs:List ag}(h:w.ownsRow base e size v n xs)(k:Nat)(d:v.ownBlock=an k):k<w.heap.size:=by
 obtain⟨_,⟨rfl,_⟩|⟨g,E,s,rfl,I,H,_⟩⟩:=h
 ·cases d
 ·cases d;grind
theorem eI{base:Nat}{e:ai}{size n:Nat}{v:ag}{xs:List ag}(h:w.ownsRow base e size v n xs):∃A c,v=.slice A n c:=by
 obtain⟨_,⟨rfl,E⟩|⟨g,s,d,rfl,_⟩⟩:=h
 ·simp_all
 grind
theorem yD{base:Nat}{e:ai}{size n:Nat}{v:ag}{xs:List ag}{H:ak}{row:Option Nat}(h:w.ownsRow base e size v n xs)(I:w.grownBy H row)(O:∀k,row=an k→k<base):H.ownsRow base e size v n xs:=by
 refine⟨h.1,?_⟩;rcases h.2 with T|⟨g,E,s,rfl,J,d,r⟩
 ·grind
 ·exact .inr ⟨g,E,s,rfl,J,(I.block g (ah.1 d).1 (λe=>by grind)).trans d,r⟩
def Src(w:ak)(u:ag)(m:Nat)(h:List ag):Prop:=∃A c,u=.slice A m c∧(0<m→∃b d,A=an ⟨b,d,aE⟩∧∀(j:Nat) (x:ag),h[j]?=an x→w.cell? ⟨b,d+j,aE⟩=an x)
theorem Src.st{u:ag}{m:Nat}{d:List ag}{E:ak}(h:Src w u m d)(T:Ext w E):Src E u m d:=by
 obtain⟨A,c,rfl,U⟩:=h;refine⟨A,c,rfl,λI=>?_⟩;obtain⟨b,s,rfl,O⟩:=U I;refine⟨b,s,rfl,λj x J=>?_⟩;have H:=O j x J;exact(T.cell (aw w _ H)).trans H
theorem Src.vals{xs:List ag}{u:ag}(h:jY (xs.map eC) u w):Src w u xs.length xs:=by
 obtain⟨A,c,E,_,_,s⟩:=h;rw[List.length_map]at E s;refine⟨A,c,E,λH=>?_⟩;obtain⟨b,d,rfl,_,J⟩:=s H;refine⟨b,d,rfl,λj x I=>?_⟩;simp_all[eC,aj]
theorem Src.ints{d:List Int}{u:ag}(h:eQ d u w):Src w u d.length (d.map (.int .i64)):=by
 have:=Src.vals (w:=w) (xs:=d.map (.int .i64)) (u:=u) (by rw[List.map_map];exact h);grind
theorem Src.bytes{bs:L8}{u:ag}(h:eu bs u w):Src w u bs.length (bs.map ff):=by
 have:=Src.vals (w:=w) (xs:=bs.map ff) (u:=u) (by rw[List.map_map];exact h);grind
theorem Src.new(w:ak)(t:ai)(cs:AV)(m:Nat):Src (w.alloc (.cells cs t)) (.slice (an ⟨w.heap.size,0,aE⟩) m m) m cs.toList:=
 ⟨_,_,rfl,λ_=>⟨_,_,rfl,λj x d=>by simp_all⟩⟩
theorem kE(base:Nat)(t V e:ai)(i:aA)(z:ag)(size d:Nat)(O:P.underlying t=an (.slice e))(hi:P.info? e=an i)(Y:i.zero=an z)(hs:i.size=size)(hb:i.bytes=d)(J:z.cells.size=size)(T:0<size)
  (v u:ag)(n m:Nat)(xs h:List ag)(s:w.ownsRow base e size v n xs)(hl:h.length=m*size)(hx:Src w u m h)(h1:∀y∈h,y.oneCell'=true)(W:(n+m)*(d+1)≤140000000000000)(E:base≤w.heap.size) :
  ∃H I,(al #[t,t] V #[v,u]).run P w=.ok H I∧I.ownsRow base e size H (n+m) (xs++h)∧w.grownBy I v.ownBlock∧(H.ownBlock=v.ownBlock∨H.ownBlock=an w.heap.size):=by
 obtain⟨A,c,rfl,h4⟩:=hx;rcases A with _|ad
 ·obtain rfl:m=0:=by
   grind
  have hn:h=[]:=zG;subst hn;refine⟨v,w,?_,by grind,az w _,.inl rfl⟩;rcases s.2 with⟨rfl,_⟩|⟨g,af,ae,rfl,_,_,U,_⟩
  ·simp[al,ar O,sizeOf,typeInfo,hi,av,ao]
  ·simp[al,ar O,sizeOf,typeInfo,hi,av,ao,U,storeCells]
 ·have ab:(n+m)*d≤(n+m)*(d+1):=Nat.mul_le_mul_left _ zO;have aa:(n+m)*1≤(n+m)*(d+1):=Nat.mul_le_mul_left _ zO;obtain⟨H,I,h5,h6,h7,_,h9⟩:=run_append_own_at (P:=P) w base t V e i z size d O hi Y hs hb J T v n xs s ad m c h hl (λj u hj=>by
   grind[Nat.eq_zero_or_pos,addr_add]) h1 (by grind[maxLen]) zO E
  grind
theorem eJ{T:Array Oper}{H:List Oper}{o:Oper}{a:Act}{Q:Exit→Act→ak→Prop}(ab:o.guard=aE)(s x:Operand)(t:ai)
  (ho:o.op=.call { callee:=.builtin .append,args:=#[s,x],argTypes:=#[t,t] })
  (base:Nat)(e:ai)(i:aA)(z:ag)(size E:Nat)(ht:P.underlying t=an (.slice e))(hi:P.info? e=an i)(hz:i.zero=an z)(hs:i.size=size)(hb:i.bytes=E)(Y:z.cells.size=size)(aa:0<size)
  (v u:ag)(n m:Nat)(xs d:List ag)(hv:a.eval s=v)(V:w.ownsRow base e size v n xs)(hl:d.length=m*size)(hu:a.eval x=u)(hx:Src w u m d)(h1:∀y∈d,y.oneCell'=true)(W:(n+m)*(E+1)≤140000000000000)(I:base≤w.heap.size)
  (h:∀J O,O.ownsRow base e size J (n+m) (xs++d)→w.grownBy O v.ownBlock→(J.ownBlock=v.ownBlock∨J.ownBlock=an w.heap.size)→wpList P T Q H (a.put o.dst J) O):wpList P T Q (o::H) a w:=
 wpList_plain ab λ_ hK=>by
  obtain⟨J,O,U,h2,h3,h4⟩:=kE (P:=P) base t o.type e i z size E ht hi hz hs hb Y aa v u n m xs d V hl hx h1 W I;unfold Oper.wp execOp;simp only[ho,resolve,invoke,builtin,aB,Sem.run_pure,aC,List.map_toArray,List.map_cons,List.map_nil,hv,hu,U];exact hK _ _ (h J O h2 h3 h4)
def lP(w:ak)(base:Nat)(e:ai)(v:ag)(d:List Int):Prop:=w.ownsRow base e 1 v d.length (d.map (.int .i64))
theorem lP.ints{base:Nat}{e:ai}{v:ag}{s:List Int}(h:lP w base e v s):eQ s v w:=by
 obtain⟨h1,W⟩:=h;rcases W with⟨rfl,Y⟩|⟨g,E,d,rfl,hb,J,hn,U,hs,O⟩
 ·obtain rfl:=aq Y;exact⟨aE,0,rfl,aD _,by decide,λh=>by simp at h⟩
 ·refine⟨_,E,by grind,by grind,U,λhp=>⟨g,0,rfl,(ah.1 J).1,λj F I=>?_⟩⟩;rw[Nat.zero_add,cell_of_row w g j d e (0,0) J];rw[aj]at I;obtain⟨x,H,rfl⟩:=ay.1 I;have T:=(au.1 H).1;have V:(d.toList.take (s.length*1))[j]?=(s.map (Value.int .i64))[j]?:=by rw[O]
  rw[List.getElem?_take,if_pos zO,aj,H]at V;exact⟨iV x,by grind,rfl⟩
theorem eQ.form{s:List Int}{u:ag}(h:eQ s u w):∃A c,u=.slice A s.length c∧s.length≤c∧c≤maxLen∧
  (0<s.length→∃b d,A=an ⟨b,d,aE⟩∧b<w.heap.size∧∀j (T:j<s.length),w.cell? ⟨b,d+j,aE⟩=an (iV s[j])):=by
 obtain⟨A,c,J,I,W,H⟩:=h;rw[List.length_map]at J I H;refine⟨A,c,J,I,W,λO=>?_⟩;obtain⟨b,d,V,U,E⟩:=H O;refine⟨b,d,V,U,λj T=>?_⟩;simp_all[eC,aj]
end
def jj(f:Bool)(ws:LL):VP:=⟨λu w=>∃d,u=.agg #[.bool f,d]∧eD ws d w,λ_ _ _ ⟨d,E,s⟩ h=>⟨d,E,VP.wk _ _ _ _ s h⟩⟩
section
variable {P:Program} {Q:Exit→Act→ak→Prop} {ops:Array Oper} {M m:Nat} {a0:Act} {w0:ak} {K:List Oper→List VP→Prop} {o:Oper} {rest:List Oper} {env:List VP}
theorem ed.jQ{F:VP}{v:ag}{p:Addr}{w:ak}(t:ai)(x:Operand)(U:o.op=.load t x)(J:Want ops M a0 w0 env o true)(I:fu ops M a0 w0 env o x (eC (.pointer (an p))))
  (s:∀w:ak,(isAgg t).run P w=.ok false w)(h:w.cell? p=an v)(V:F v w)(E:Ext w w0)
  (O:ed P Q ops M a0 w0 K m rest (F::env)):ed P Q ops M a0 w0 K (m+1) (o::rest) env:=
 .KR (G:=eC (.pointer (an p))) t x U J I (λq H d T=>⟨v,by
  subst T;have W:H.cell? p=an v:=((E.tr d).cell (aw w p h)).trans h;simp_all[Instr.loadAt,Instr.sureAddr,loadVar,aB],F.st _ _ _ V (E.tr d)⟩) O
theorem ed.Sw{a b:L8}(t t':ai)(x y:Operand)(I:o.op=.binOp .neq t x y t')(E:Want ops M a0 w0 env o true)(s:fu ops M a0 w0 env o x (eC (.string ⟨a.toArray⟩)))(h:fu ops M a0 w0 env o y (eC (.string ⟨b.toArray⟩)))
  (d:a≠b)
  (H:ed P Q ops M a0 w0 K m rest (eC (.bool true)::env)):ed P Q ops M a0 w0 K (m+1) (o::rest) env:=
 .iu x y E s h (λT w _ O J=>by
  unfold execOp;simp[I,O,J,go_sem,d]) H
end
end Go.Proofs.YtofgfpffcegioaaGreat
namespace Go.Proofs.YtofgfpffcegioaaGreat
open Go.RowKit Go.Proofs.Tryz
open _root_.Array renaming getElem?_eq_some_iff → ad
open Go renaming TypeId → ab,Value → ae,World → af
open Go.RowKit.Below renaming heap_setCell → ag
theorem pB{w:af}{base d:Nat}{e:ab}{size n:Nat}{v:ae}{xs:List ae}(h:w.ownsRow base e size v n xs)(I:d≤base):w.ownsRow d e size v n xs:=by
 obtain⟨H,U|⟨g,E,s,T,O,J⟩⟩:=h
 ·exact⟨H,.inl U⟩
 ·exact⟨H,.inr ⟨g,E,s,T,Nat.le_trans I O,J⟩⟩
def jZ(base:Nat)(V:ab)(bs:L8):VP:=⟨λu w=>eu bs u w∧∀g,u.ownBlock=some g→base≤g∧∃d m,w.heap[g]?=some (.cells d V m)∧(m=(0,0)∨m=(d.size,d.size+1)),λu w Y ⟨U,T⟩ H=>⟨VP.wk _ _ _ _ U H,λg J=>by
 obtain⟨I,d,m,s,O⟩:=T g J;rcases H.block g (ad.1 s).1 with e|⟨W,e',h,E,_⟩
 ·exact⟨I,d,m,e.trans s,O⟩
 ·rw[s]at h;cases h;exact⟨I,d,_,E,.inr rfl⟩⟩⟩
theorem OwnB.Sx{w:af}{base:Nat}{s:ab}{u:ae}{bs:L8}(h:OwnB w base s u bs):jZ base s bs u w:=⟨OwnB.bytes h,λg d=>⟨OwnB.ge h g d,by
 rcases h.2 with⟨rfl,_⟩|⟨O,I,H,rfl,J,E,_⟩
 ·cases d
 ·cases d;grind⟩⟩
theorem jZ.low{base d:Nat}{E:ab}{bs:L8}{u:ae}{w:af}(h:jZ base E bs u w)(H:d≤base):jZ d E bs u w:=⟨h.1,λg s=>⟨Nat.le_trans H (h.2 g s).1,(h.2 g s).2⟩⟩
theorem jZ.keep{base:Nat}{E:ab}{bs:L8}{u:ae}{w d:af}(h:jZ base E bs u w)(hs:w.heap.size≤d.heap.size)(U:∀g,u.ownBlock=some g→d.heap[g]?=w.heap[g]?):jZ base E bs u d:=by
 obtain⟨V,h2⟩:=h;obtain⟨A,c,rfl,T,J,H⟩:=eu.form V;refine⟨eu.of T J λI=>?_,λg Y=>?_⟩
 ·obtain⟨b,s,rfl,O,hc⟩:=H I;refine⟨b,s,rfl,by omega,λj W=>?_⟩;have e:=U b rfl;grind[World.cell?]
 grind
theorem jZ.apart{base d:Nat}{e E:ab}{bs:L8}{u v:ae}{w H:af}{size n:Nat}{V:List ae}(h:jZ base E bs u w)(W:w.ownsRow d e size v n V)(he:E≠e)(J:w.grownBy H v.ownBlock):jZ base E bs u H:=
 jZ.keep h J.size λg s=>by
  obtain⟨h3,cs,m,Y,-⟩:=h.2 g s;refine J.block g (ad.1 Y).1 λO=>?_;rcases W.2 with⟨rfl,_⟩|⟨g',U,T,rfl,_,I,_⟩
  ·cases O
  ·have e2:g=g':=by cases O;rfl
   grind
theorem Box.grows{w s:af}{g:Nat}{t:ab}{cs:AV}{row:Option Nat}(h:Box w g t cs)(E:w.grownBy s row)(d:row≠some g):Box s g t cs:=(E.block g h.lt (λe=>d e.symm)).trans h
theorem pC(base:Nat)(h:ab)(bs:L8):OneCell (jZ base h bs):=λv _ d=>by obtain⟨A,c,rfl,_⟩:=d.1;rfl
theorem Src.one{F:VP}{u:ae}{w:af}(h:jY [F] u w):∃x,Src w u 1 [x]∧F x w:=by
 obtain⟨A,c,rfl,_,_,H⟩:=h;obtain⟨b,d,rfl,_,s⟩:=H zS;obtain⟨x,J,E⟩:=s 0 F rfl;refine⟨x,⟨_,_,rfl,λ_=>⟨b,d,rfl,λj y I=>?_⟩⟩,E⟩;grind
theorem jZ.cell1{base:Nat}{d:ab}{bs:L8}{u:ae}{w:af}(h:jZ base d bs u w):u.oneCell'=true:=by obtain⟨A,c,rfl,_⟩:=h.1;rfl
def fE(w:af)(base:Nat)(e s:ab)(v:ae)(h:LL):Prop:=∃d:List ae,w.ownsRow base e 1 v h.length d∧d.length=h.length∧∀(i:Nat) (H:i<d.length) (E:i<h.length),jZ base s h[i] d[i] w
theorem fE.nil(w:af)(base:Nat)(e d:ab):fE w base e d nS []:=⟨[],World.ownsRow_nil w base e 1,rfl,λi h=>by simp at h⟩
theorem fE.st{w d:af}{base:Nat}{e H:ab}{v:ae}{s:LL}(h:fE w base e H v s)(E:Ext w d):fE d base e H v s:=by
 obtain⟨I,T,O,J⟩:=h;exact⟨I,fy T E,O,λi p q=>VP.st _ _ _ _ (J i p q) E⟩
theorem fE.low{w:af}{base d:Nat}{e H:ab}{v:ae}{s:LL}(h:fE w base e H v s)(E:d≤base):fE w d e H v s:=by
 obtain⟨I,T,O,J⟩:=h;exact⟨I,pB T E,O,λi p q=>jZ.low (J i p q) E⟩
theorem fE.ge{w:af}{base:Nat}{e H:ab}{v:ae}{d:LL}(h:fE w base e H v d)(k:Nat)(s:v.ownBlock=some k):base≤k:=by
 obtain⟨I,E,_⟩:=h;exact fk E k s
theorem fE.form{w:af}{base:Nat}{e E:ab}{v:ae}{d:LL}(h:fE w base e E v d):∃A c,v=.slice A d.length c:=by
 obtain⟨H,s,_⟩:=h;exact eI s
theorem fE.set{w:af}{base:Nat}{e U:ab}{v:ae}{H:LL}(h:fE w base e U v H)(p:Addr)(hp:p.block<base)(u:ae):fE (w.setCell p u) base e U v H:=by
 obtain⟨V,T,Y,O⟩:=h;refine⟨V,?_,Y,λi J I=>jZ.keep (O i J I) zS λg d=>ag w p u g λe0=>by have:=((O i J I).2 g d).1;omega⟩;refine⟨T.1,?_⟩;rcases T.2 with h4|⟨g,E,s,rfl,W,d,r⟩
 ·grind
 ·exact .inr ⟨g,E,s,rfl,W,(ag w p u g (λe0=>by omega)).trans d,r⟩
theorem fE.parts{w:af}{base:Nat}{e e1:ab}{v:ae}{s:LL}(h:fE w base e e1 v s):eD s v w:=by
 obtain⟨I,h1,h2,h3⟩:=h;unfold eD;rcases h1.2 with⟨rfl,h0⟩|⟨g,aa,H,rfl,hb,d,hl,hm,O,J⟩
 ·obtain rfl:s=[]:=List.eq_nil_of_length_eq_zero h0;exact⟨none,0,rfl,Nat.le_refl _,by decide,λh=>by simp at h⟩
 ·rw[Nat.mul_one]at O J;refine⟨_,_,by grind,by grind,hm,λhp=>⟨g,0,rfl,(ad.1 d).1,λj F V=>?_⟩⟩;rw[List.getElem?_map]at V;cases U:s[j]? with
  |none=>grind
  |some p=>
   rw[U]at V;obtain rfl:eu p=F:=zG;obtain⟨E,T⟩:=List.getElem?_eq_some_iff.1 U;have Y:j<I.length:=zO;refine⟨I[j],?_,?_⟩
   ·have W:(H.toList.take s.length)[j]?=some I[j]:=zG;rw[List.getElem?_take,if_pos E,Array.getElem?_toList]at W;rw[Nat.zero_add];exact(Box.cell (t:=e) (cs:=H) d j).trans W
   ·have:=h3 j Y E;rw[T]at this;exact this.1
theorem fE.snoc{w s:af}{base:Nat}{e h:ab}{v E:ae}{d:LL}{xs:List ae}{x:ae}{p:L8}(Y:h≠e)(O:w.ownsRow base e 1 v d.length xs)(J:xs.length=d.length)(h3:∀(i:Nat) (O:i<xs.length) (J:i<d.length),jZ base h d[i] xs[i] w)
  (V:jZ base h p x w)(H:s.ownsRow base e 1 E (d.length+1) (xs++[x]))(W:w.grownBy s v.ownBlock):fE s base e h E (d++[p]):=by
 refine⟨xs++[x],by grind,by simp[J],λi U T=>?_⟩;simp only[List.getElem_append];by_cases I:i<xs.length
 ·rw[dif_pos I,dif_pos zO];grind[jZ.apart]
 ·rw[dif_neg I,dif_neg zO];grind[jZ.apart]
end Go.Proofs.YtofgfpffcegioaaGreat
