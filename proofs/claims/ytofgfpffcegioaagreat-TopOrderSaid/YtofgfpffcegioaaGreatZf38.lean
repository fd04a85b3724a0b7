/- A part of the proof. -/
import Derived.Test.YtofgfpffcegioaaGreatZf37
set_option maxRecDepth 100000
set_option maxHeartbeats 8000000
namespace Go.Proofs.YtofgfpffcegioaaGreat
open Go.RowKit Go.Shelf Go.Sort iT jH Go.Proofs.Tryz
open _root_.Array renaming getElem?_eq_some_iff → au,getElem?_eq_getElem → aA,getElem?_eq_none → aB,getElem?_toList → aC
open Go renaming Value → aq,World → ar,TypeId → aw
open Go.RowKit.Below renaming heap_setCell → aG
open Go.World renaming setCells → aF
open List renaming eq_nil_of_length_eq_zero → ay
open Nat renaming lt_of_lt_of_le → av,mul_le_mul_right → az,le_refl → aD
open Option renaming some → aE,none → aH
abbrev ez:=Nat→Nat
structure Turn(j:Nat)(w:ar)(t:ez)(w':ar)(t':ez):Prop where
 os:w'.os=w.os
 tape:w'.tape=w.tape
 output:w'.output=w.output
 size:w.heap.size≤w'.heap.size
 block:∀k,k<w.heap.size→t k≠j→w'.heap[k]?=w.heap[k]?∧t' k=t k
section
variable {j:Nat} {w w' w'':ar} {t t' t'':ez}
theorem Turn.rf(j:Nat)(w:ar)(t:ez):Turn j w t w t:=⟨rfl,rfl,rfl,aD _,λ_ _ _=>⟨rfl,rfl⟩⟩
theorem Turn.tr(h:Turn j w t w' t')(k:Turn j w' t' w'' t''):Turn j w t w'' t'':=
 ⟨k.os.trans h.os,k.tape.trans h.tape,k.output.trans h.output,Nat.le_trans h.size k.size,λb d s=>by
  obtain⟨O,J⟩:=h.block b d s;obtain⟨H,E⟩:=k.block b (av d h.size) zO;grind⟩
theorem Turn.ext'(j:Nat)(h:Ext w w')(s:∀k,k<w.heap.size→t' k=t k):Turn j w t w' t':=⟨h.os,h.tape,h.output,h.size,λk d _=>⟨h.block k d,s k d⟩⟩
theorem Turn.ext(j:Nat)(t:ez)(h:Ext w w'):Turn j w t w' t:=Turn.ext' j h λ_ _=>rfl
theorem Turn.grown{row:Option Nat}(d:w.grownBy w' row)(s:∀k,row=aE k→t k=j):Turn j w t w' t:=
 ⟨d.os,d.tape,d.output,d.size,λk E H=>⟨d.block k E (λe=>H (s k e.symm)),rfl⟩⟩
theorem Turn.set{g:Nat}(s:t g=j)(i:Nat)(u:aq):Turn j w t (w.setCell ⟨g,i,aH⟩ u) t:=
 ⟨rfl,rfl,rfl,by simp_all,λk _ d=>⟨aG w ⟨g,i,aH⟩ u k (λe=>d zG),rfl⟩⟩
theorem Turn.setRow{g:Nat}(s:t g=j)(cs:AV):Turn j w t (w.setRow g cs) t:=
 ⟨rfl,rfl,rfl,by simp,λk _ d=>⟨setRow_other w g k cs (λe=>d zG),rfl⟩⟩
theorem Turn.drew(h:Turn j w t w' t'):Turn j w t w'.drew t':=⟨h.os,h.tape,h.output,h.size,h.block⟩
theorem Turn.low{w0:ar}(h:Turn j w t w' t')(h0:∀k,k<w0.heap.size→t k=0)(E:j≠0)(d:Ext w0 w):Ext w0 w'∧∀k,k<w0.heap.size→t' k=0:=
  ⟨⟨h.os.trans d.os,h.tape.trans d.tape,h.output.trans d.output,Nat.le_trans d.size h.size,λk s=>((h.block k (av s d.size) zG).1).trans (d.block k s)⟩,
   λk s=>((h.block k (av s d.size) zG).2).trans (h0 k s)⟩
def ez.up(t:ez)(n j:Nat):ez:=λk=>if k<n then t k else j
theorem ez.fB{t:ez}{n j k:Nat}(h:k<n):t.up n j k=t k:=if_pos h
theorem ez.fJ{t:ez}{n j k:Nat}(h:n≤k):t.up n j k=j:=if_neg zO
def ez.one(t:ez)(b j:Nat):ez:=λk=>if k=b then j else t k
theorem ez.pO{t:ez}{b j:Nat}:t.one b j b=j:=if_pos rfl
theorem ez.jn{t:ez}{b j k:Nat}(h:k≠b):t.one b j k=t k:=if_neg h
theorem Turn.up(j:Nat)(t:ez)(x:Nat)(h:Ext w w'):Turn j w t w' (t.up w.heap.size x):=Turn.ext' j h λ_ d=>ez.fB d
theorem Turn.give{b:Nat}(s:t b=j)(x:Nat)(w:ar):Turn j w t w (t.one b x):=⟨rfl,rfl,rfl,aD _,λk _ d=>⟨rfl,ez.jn (λe=>d zG)⟩⟩
def fh(i:Nat)(p:ar→ez→Prop):Prop:=∀(w:ar) (t:ez) (w':ar) (t':ez),p w t→w.heap.size≤w'.heap.size→(∀k,k<w.heap.size→(t k=i∨t k=0)→w'.heap[k]?=w.heap[k]?∧t' k=t k)→p w' t'
section
variable {i:Nat} {p q:ar→ez→Prop}
theorem fh.turn(h:fh i p)(J:i≠j)(O:j≠0)(E:p w t)(s:Turn j w t w' t'):p w' t':=
 h w t w' t' E s.size λk H d=>s.block k H (d.elim (λe=>by omega) (λe=>by omega))
theorem fh.ext(h:fh i p)(s:p w t)(d:Ext w w'):p w' t:=h w t w' t s d.size λk E _=>⟨d.block k E,rfl⟩
theorem fh.ext'(h:fh i p)(H:p w t)(s:Ext w w')(E:∀k,k<w.heap.size→t' k=t k):p w' t':=h w t w' t' H s.size λk d _=>⟨s.block k d,E k d⟩
theorem fh.and(h:fh i p)(k:fh i q):fh i λw t=>p w t∧q w t:=λw t w' t' ⟨H,E⟩ d s=>⟨h w t w' t' H d s,k w t w' t' E d s⟩
theorem fh.const(a:Prop):fh i λ_ _=>a:=λ_ _ _ _ h _ _=>h
theorem fh.ex{d:Sort _}{p:d→ar→ez→Prop}(h:∀a,fh i (p a)):fh i λw t=>∃a,p a w t:=λw t w' t' ⟨a,H⟩ s E=>⟨a,h a w t w' t' H s E⟩
theorem fh.all{d:Sort _}{p:d→ar→ez→Prop}(h:∀a,fh i (p a)):fh i λw t=>∀a,p a w t:=λw t w' t' H s E a=>h a w t w' t' (H a) s E
end
def eG(i g:Nat)(T:aw)(cs:AV)(w:ar)(t:ez):Prop:=t g=i∧Box w g T cs
theorem eG.keeps(i g:Nat)(T:aw)(cs:AV):fh i (eG i g T cs):=λ_ _ _ _ ⟨s,d⟩ _ E=>⟨(E g d.lt (.inl s)).2.trans s,((E g d.lt (.inl s)).1).trans d⟩
theorem dZ.keeps(i g:Nat)(T:aw)(cs:AV):fh i (eG 0 g T cs):=λ_ _ _ _ ⟨s,d⟩ _ E=>⟨(E g d.lt (.inr s)).2.trans s,((E g d.lt (.inr s)).1).trans d⟩
theorem eG.eL{i g:Nat}{T:aw}{cs:AV}(h:eG i g T cs w t)(k:Nat)(u:aq):eG i g T (cs.setIfInBounds k u) (w.setCell ⟨g,k,aH⟩ u) t:=⟨h.1,h.2.eL k u⟩
theorem eG.lt{i g:Nat}{T:aw}{cs:AV}(h:eG i g T cs w t):g<w.heap.size:=h.2.lt
def Loc(F:VP):Prop:=∀v w w',F v w→(∀k,v.ownBlock=aE k→w'.heap[k]?=w.heap[k]?)→F v w'
def Held(F:VP)(v:aq)(w:ar)(t:ez):Prop:=F v w∧∀k,v.ownBlock=aE k→k<w.heap.size∧t k=0
theorem Held.keeps{F:VP}(J:Loc F)(i:Nat)(v:aq):fh i (Held F v):=λw _ w' _ ⟨O,s⟩ H E=>
 ⟨J v w w' O λk d=>(E k (s k d).1 (.inr (s k d).2)).1,λk d=>⟨av (s k d).1 H,(E k (s k d).1 (.inr (s k d).2)).2.trans (s k d).2⟩⟩
theorem Held.new{F:VP}{v:aq}(h:F v w')(_:Ext w w')(d:∀k,v.ownBlock=aE k→w.heap.size≤k∧k<w'.heap.size)(t:ez):Held F v w' (t.up w.heap.size 0):=⟨h,λk s=>⟨(d k s).2,ez.fJ (d k s).1⟩⟩
theorem uD{Fs:List VP}(H:∀F∈Fs,∀x w w',F x w→F x w'):Loc (jY Fs):=by
 rintro v w w' ⟨A,c,rfl,T,O,J⟩ E;refine⟨A,c,rfl,T,O,λs=>?_⟩;obtain⟨b,d,rfl,hb,Y⟩:=J s;have U:=E b rfl;grind[Nat.lt_or_ge,aB,aA,List.mem_of_getElem?,World.cell?]
theorem eX(bs:L8):Loc (eu bs):=uD λF d x w w' h=>by
 obtain⟨b,_,rfl⟩:=List.mem_map.1 d;exact h
theorem j6(d:List Int):Loc (eQ d):=uD λF s x w w' h=>by
 obtain⟨b,_,rfl⟩:=List.mem_map.1 s;exact h
theorem gg(d:List (Int×Int)):Loc (eP d):=by
 rintro v w w' ⟨A,c,rfl,T,O,J⟩ H;refine⟨A,c,rfl,T,O,λE=>?_⟩;obtain⟨b,s,rfl,hb,Y⟩:=J E;have U:=H b rfl;grind[Nat.lt_or_ge,aB,aA,World.cell?]
end
def eO(i:Nat)(e:aw)(size:Nat)(v:aq)(n:Nat)(xs:List aq)(w:ar)(t:ez):Prop:=
  xs.length=n*size∧((v=nS∧n=0)∨
   ∃g s d E,v=.slice (aE ⟨g,s,aH⟩) n d∧t g=i∧w.heap[g]?=aE (.cells E e (0,0))∧n≤d∧d≤maxLen∧s+d*size≤E.size∧(E.toList.drop s).take (n*size)=xs)
theorem eO.keeps(i:Nat)(e:aw)(size:Nat)(v:aq)(n:Nat)(xs:List aq):fh i (eO i e size v n xs):=by
 rintro w t w' t' ⟨h1,h2⟩ hs T;refine⟨h1,?_⟩;rcases h2 with h|⟨g,d,E,s,O,H,J,h3,h4,h5,h6⟩
 ·grind
 ·obtain⟨Y,U⟩:=T g (au.1 J).1 (.inl H);exact .inr ⟨g,d,E,s,O,U.trans H,Y.trans J,h3,h4,h5,h6⟩
theorem eO.nil(i:Nat)(e:aw)(size:Nat)(w:ar)(t:ez):eO i e size nS 0 [] w t:=⟨by simp,.inl ⟨rfl,rfl⟩⟩
theorem eO.AF{base i:Nat}{e:aw}{size n:Nat}{v:aq}{xs:List aq}{w:ar}{t:ez}(h:w.ownsRow base e size v n xs)(E:∀k,v.ownBlock=aE k→t k=i):eO i e size v n xs w t:=by
 obtain⟨U,T⟩:=h;refine⟨U,?_⟩;rcases T with h|⟨g,s,d,rfl,Y,H,O,J,h5,h6⟩
 ·grind
 ·exact .inr ⟨g,0,s,d,rfl,E g rfl,H,O,J,by omega,by grind⟩
theorem eO.cell{i:Nat}{e:aw}{size n:Nat}{xs:List aq}{w:ar}{t:ez}{b d c:Nat}(h:eO i e size (.slice (aE ⟨b,d,aH⟩) n c) n xs w t):∀(j:Nat) (x:aq),xs[j]?=aE x→w.cell? ⟨b,d+j,aH⟩=aE x:=by
 intro j x Y;obtain⟨h1,O|⟨g,E,T,s,H,U,J,h3,h4,h5,h6⟩⟩:=h
 ·cases O.1
 ·cases H;rw[cell_of_row w b (d+j) s e (0,0) J,←aC];grind
theorem eO.src{i:Nat}{e:aw}{size n:Nat}{v:aq}{xs:List aq}{w:ar}{t:ez}(h:eO i e size v n xs w t):Src w v n xs:=by
 have s:=h;obtain⟨h1,⟨rfl,rfl⟩|⟨g,d,H,E,rfl,J,O,h3,Y,U,T⟩⟩:=h
 ·exact⟨aH,0,rfl,λh=>by omega⟩
 ·exact⟨_,_,rfl,λ_=>⟨g,d,rfl,s.cell⟩⟩
theorem eO.bytes{i:Nat}{e:aw}{bs:L8}{v:aq}{w:ar}{t:ez}(h:eO i e 1 v bs.length (bs.map ff) w t):eu bs v w:=by
 have O:=h;obtain⟨h1,⟨rfl,hn⟩|⟨g,d,U,T,rfl,Y,E,J,H,h5,h6⟩⟩:=h
 ·grind[ay,td]
 ·refine eu.of J H (λhp=>⟨g,d,rfl,(au.1 E).1,λj s=>?_⟩);exact O.cell j _ (by rw[List.getElem?_map,List.getElem?_eq_getElem s];rfl)
theorem eO.pairs{i:Nat}{e:aw}{hs:List (Int×Int)}{v:aq}{w:ar}{t:ez}(h:eO i e 2 v hs.length (fz hs) w t):eP hs v w:=by
 have E:=h;obtain⟨h1,⟨rfl,H⟩|⟨g,d,s,aa,rfl,ht,O,h3,Y,h5,h6⟩⟩:=h
 ·obtain rfl:=ay H;exact⟨aH,0,rfl,aD _,by decide,λh=>by simp at h⟩
 ·refine⟨_,s,rfl,h3,Y,λhp=>⟨g,d,rfl,(au.1 O).1,λj J=>?_⟩⟩;obtain⟨U,T⟩:=mm hs j J;exact⟨E.cell _ _ U,by have:=E.cell _ _ T;omega⟩
def putAt(cs:AV):Nat→List aq→AV
 |_,[]=>cs
 |o,v::r=>putAt (cs.setIfInBounds o v) (o+1) r
theorem wR:∀(s:List aq) (d:AV) (o:Nat),(putAt d o s).size=d.size
 |[],_,_=>rfl
 |v::r,d,o=>by rw[putAt,wR r];simp
theorem zk:∀(s:List aq) (d:AV) (o j:Nat),(putAt d o s)[j]?=if o≤j∧j<o+s.length∧j<d.size then s[j-o]? else d[j]?
 |[],d,o,j=>by rw[putAt,if_neg zG]
 |v::r,d,o,j=>by
  rw[putAt,zk r];grind
theorem qP{g:Nat}{e:aw}{E:Nat×Nat}:∀(s:List aq) (o:Nat) (w:ar) (d:AV),w.heap[g]?=aE (.cells d e E)→(w.setCells g o s).heap[g]?=aE (.cells (putAt d o s) e E)
 |[],_,_,_,h=>h
 |v::r,o,w,d,h=>by
  rw[aF,putAt];refine qP r (o+1) _ _ ?_;simp_all[World.setCell,Array.getElem?_modify,Option.map_some]
theorem mO{g k:Nat}(d:k≠g):∀(s:List aq) (o:Nat) (w:ar),(w.setCells g o s).heap[k]?=w.heap[k]?
 |[],_,_=>rfl
 |v::r,o,w=>by rw[aF,mO d r,aG w ⟨g,o,aH⟩ v k d]
theorem setCells_size{g:Nat}:∀(d:List aq) (o:Nat) (w:ar),(w.setCells g o d).heap.size=w.heap.size
 |[],_,_=>rfl
 |v::r,o,w=>by simp_all
theorem jD{g:Nat}:∀(d:List aq) (o:Nat) (w:ar),(w.setCells g o d).os=w.os∧(w.setCells g o d).tape=w.tape∧(w.setCells g o d).output=w.output
 |[],_,_=>⟨rfl,rfl,rfl⟩
 |v::r,o,w=>by rw[aF];exact jD r _ _
theorem Turn.setCells{j:Nat}{w:ar}{t:ez}{g:Nat}(s:t g=j)(o:Nat)(vs:List aq):Turn j w t (w.setCells g o vs) t:=
 ⟨(jD vs o w).1,(jD vs o w).2.1,(jD vs o w).2.2,by simp_all,λk _ d=>⟨mO (λe=>d zG) vs o w,rfl⟩⟩
section
variable {P:Program} {w:ar}
theorem uu(i:Nat)(O:ez)(t ty e:aw)(E:TypeInfo)(z:aq)(size s:Nat)(ht:P.underlying t=aE (.slice e))(hi:P.info? e=aE E)(hz:E.zero=aE z)(hs:E.size=size)(hb:E.bytes=s)(ah:z.cells.size=size)(aj:0<size)
  (v u:aq)(n m:Nat)(xs d:List aq)(hown:eO i e size v n xs w O)(hl:d.length=m*size)(hx:Src w u m d)(h1:∀y∈d,y.oneCell'=true)(hlen:(n+m)*(s+1)≤140000000000000) :
  ∃v' w' ab,(Builtin.append_ #[t,t] ty #[v,u]).run P w=.ok v' w'∧eO i e size v' (n+m) (xs++d) w' ab∧Turn i w O w' ab∧∀k,k<w.heap.size→ab k=O k:=by
 have ao:(n+m)*s≤(n+m)*(s+1):=Nat.mul_le_mul_left _ zO;have an:(n+m)*1≤(n+m)*(s+1):=Nat.mul_le_mul_left _ zO;obtain⟨ai,⟨rfl,rfl⟩|⟨g,H,J,Y,rfl,ae,hg,h3,h4,h5,h6⟩⟩:=hown
 ·have al:xs=[]:=zG;subst al;obtain⟨v',w',h7,h8,h9,ag⟩:=kE (P:=P) (w:=w) 0 t ty e E z size s ht hi hz hs hb ah aj nS u 0 m [] d (World.ownsRow_nil w 0 e size) hl hx h1 hlen (Nat.zero_le _);refine⟨v',w',O.up w.heap.size i,h7,eO.AF h8 λk hk=>?_,Turn.up i O i (gA h9 rfl),λk hk=>ez.fB hk⟩;rcases ag with e1|e1
  ·rw[e1]at hk;cases hk
  simp_all[ez.fJ]
 ·obtain⟨A,c,rfl,h7⟩:=hx;have T:eO i e size (.slice (aE ⟨g,H,aH⟩) n J) n xs w O:=⟨ai,.inr ⟨g,H,J,Y,rfl,ae,hg,h3,h4,h5,h6⟩⟩
  rcases A with _|ad
  ·obtain rfl:m=0:=by
    grind
   have hn:d=[]:=zG;subst hn;refine⟨_,w,O,?_,by simpa using T,Turn.rf i w O,λ_ _=>rfl⟩;simp[Builtin.append_,run_underlying ht,sizeOf,typeInfo,hi,Builtin.lenOf,Builtin.firstCells,h3,storeCells]
  ·have U:∀j y,d[j]?=aE y→w.cell? (ad.add j)=aE y:=λj y hj=>by
    grind[Nat.eq_zero_or_pos,addr_add]
   by_cases hr:n+m≤J
   ·have ak:(n+m)*size≤J*size:=az _ hr;rw[Nat.add_mul]at ak;have af:∀j,j<d.length→(w.cell? ⟨g,H+n*E.size+j,aH⟩).isSome=true:=λj hj=>by
     rw[cell_of_row w g _ Y e (0,0) hg,hs];grind
    have am:∀j,j<d.length→w.frozen? ⟨g,H+n*E.size+j,aH⟩=false:=λj _=>by
     grind[World.frozen?]
    have aa:=run_append_room_cells (P:=P) w t ty e E ht hi g H n J ad m c d zG U h1 hr af am;rw[hs]at aa;refine⟨_,_,O,aa,⟨by grind,.inr ⟨g,H,J,putAt Y (H+n*size) d,rfl,ae,qP d _ w Y hg,hr,h4,by grind[wR],?_⟩⟩,Turn.setCells ae _ _,λ_ _=>rfl⟩;apply List.ext_getElem?;intro j;rw[List.getElem?_take,List.getElem?_drop,aC,zk,hl];grind
   ·obtain⟨v',w',h8,h9,ag⟩:=run_append_arg_grows (P:=P) w t ty e E z size s ht hi hz hs hb ah aj ⟨g,H,aH⟩ n J xs ai (λj y hj=>by rw[addr_add];exact T.cell j y hj) ad m c d hl U zO (by grind[maxLen]) zO;refine⟨v',w',O.up w.heap.size i,h8,eO.AF h9 λk hk=>ez.fJ (fk h9 k hk),Turn.up i O i (gA ag rfl),λk hk=>ez.fB hk⟩
end
theorem eO.cut{i:Nat}{e:aw}{size n k:Nat}{A:Option Addr}{c:Nat}{xs:List aq}{w:ar}{t:ez}(h:eO i e size (.slice A n c) n xs w t)(T:k≤n) :
  eO i e size (.slice (if c=k then A else A.map (·.add (k*size))) (n-k) (c-k)) (n-k) (xs.drop (k*size)) w t:=by
 obtain⟨h1,⟨E,rfl⟩|⟨g,d,Y,s,E,H,J,U,h4,h5,h6⟩⟩:=h
 ·cases E;obtain rfl:k=0:=zO;exact⟨by grind,.inl ⟨by simp,rfl⟩⟩
 ·cases E;have e1:(n-k)*size=n*size-k*size:=Nat.sub_mul _ _ _;have e2:(c-k)*size=c*size-k*size:=Nat.sub_mul _ _ _;have e3:k*size≤n*size:=az _ T;have e4:n*size≤c*size:=az _ U;refine⟨by grind,.inr ?_⟩;by_cases O:c=k
  ·subst O;rw[if_pos rfl];refine⟨g,d,0,s,by simp,H,J,by omega,by decide,by omega,?_⟩;simp_all
  ·rw[if_neg O];refine⟨g,d+k*size,c-k,s,by simp[Option.map_some,addr_add],H,J,by omega,by omega,by omega,?_⟩;grind[List.drop_take,List.drop_drop]
end Go.Proofs.YtofgfpffcegioaaGreat
namespace Go.Proofs.YtofgfpffcegioaaGreat
open Go.RowKit Go.Shelf Go.Sort iT jH fq Go.Proofs.Tryz
open _root_.Array renaming getElem?_setIfInBounds_ne → bu,replicate_succ → bK,replicate_zero → bL,getElem?_eq_some_iff → bR
open Bool renaming false → br,true → bw
open _root_.Go renaming World → bh,Value → bj,TypeId → bm,size_madeCells → bx,Calls → bA,run_underlying → bF,execOp → bM,bodyPost_ret → bP,Oper → b9,Operand → cd,Program → cm
open Go.Fence renaming wide → b3
open Go.Oper renaming semAt_some → b4
open Go.Operand renaming const → bI,tmp → bV
open Go.Proofs.Tryz renaming prog → bD,underlying192 → ck
open Go.Region renaming wanted → cj
open Go.Result renaming andThen_ok → bT
open Go.RowKit.Below renaming heap_setCell → bQ,trans → cb
open Go.Sem renaming run_pure → b0,run_bind → cn
open Go.Value renaming pointer → bJ
open Go.World renaming size_alloc → bG,setCell → ch
open Go.World.grownBy renaming refl → bS
open List renaming range → bo,length_range → bq,length_append → bB,size_toArray → bE,append_toArray → bN,map_nil → bO,push_toArray → bU,map_cons → bH,map_toArray → bW,length_cons → bX,cons_append → bY,length_nil → b5,nil_append → b6,range_succ → b7,map_append → b8
open Nat renaming mul_le_mul_right → bp,le_trans → bz,mod_lt → bC,add_mod → ca,reduceAdd → cf,reduceSub → cg,zero_le → cp,le_refl → cc
open Option renaming some → bk,none → bl
def l8(cells:AV)(o:Nat)(cs:List bj):AV:=(cells.toList.take o++cs++cells.toList.drop (o+cs.length)).toArray
theorem wS{cells:AV}{o:Nat}{cs:List bj}(h:o+cs.length≤cells.size):(l8 cells o cs).size=cells.size:=by
 grind[l8,bE,bB,List.length_take,List.length_drop,Array.length_toList]
theorem sK{cells:AV}{o:Nat}{cs:List bj}(h:o+cs.length≤cells.size)(j:Nat):(l8 cells o cs)[j]?=if o≤j∧j<o+cs.length then cs[j-o]? else cells[j]?:=by
 unfold l8;grind
theorem GW{cells:AV}{o:Nat}{cs:List bj}(h1:∀v∈cells,v.oneCell'=bw)(d:∀v∈cs,v.oneCell'=bw):∀v∈l8 cells o cs,v.oneCell'=true:=by
 grind[l8,List.mem_of_mem_take,List.mem_of_mem_drop]
structure lJ{α:Type}(IT:α→List bj→bh→ez→Prop)(size room first:Nat)(items:List α)(cells:AV)(w:bh)(t:ez):Prop where
 ud:cells.size=room*size
 one:∀v∈cells,v.oneCell'=bw
 fst:first<room
 len:items.length≤room
 lo:1≤room
 hi:room≤16
 it:∀k (h:k<items.length),∃cs:List bj,cs.length=size∧IT items[k] cs w t∧∀o,o<size→cells[((first+k)%room)*size+o]?=cs[o]?
section
variable {α:Type} {IT:α→List bj→bh→ez→Prop} {size room first:Nat} {items:List α} {cells:Array bj} {w:bh} {t:ez}
theorem lJ.keeps{i:Nat}(d:∀x s,fh i (IT x s)):fh i (lJ IT size room first items cells):=λw t E H h J T=>
 ⟨h.ud,h.one,h.fst,h.len,h.lo,h.hi,λk O=>by
  obtain⟨s,h1,Y,U⟩:=h.it k O;exact⟨s,h1,d _ _ w t E H Y J T,U⟩⟩
theorem lJ.mono{s:bh}{t':ez}(h:lJ IT size room first items cells w t)(H:∀x∈items,∀d,IT x d w t→IT x d s t'):lJ IT size room first items cells s t':=
 ⟨h.ud,h.one,h.fst,h.len,h.lo,h.hi,λk E=>by
  obtain⟨d,T,O,J⟩:=h.it k E;grind⟩
theorem CZ{size a b o d:Nat}(E:o<size)(s:d<size)(h:a≠b):a*size+o≠b*size+d:=by
 intro e;rcases Nat.lt_or_gt_of_ne h with h|h
 ·have:=bp size (show a+1≤b from h);grind
 ·have:=bp size (show b+1≤a from h);grind
theorem mn{size a room:Nat}(h:a<room):a*size+size≤room*size:=by
 have:=bp size (show a+1≤room from h);grind
theorem lJ.push(h:lJ IT size room first items cells w t)(hl:items.length<room)(x:α)(cs:List bj)(s:cs.length=size)(hx:IT x cs w t)(h1:∀v∈cs,v.oneCell'=bw) :
  lJ IT size room first (items++[x]) (l8 cells (((first+items.length)%room)*size) cs) w t:=by
 have O:(first+items.length)%room<room:=bC _ h.lo;have d:((first+items.length)%room)*size+cs.length≤cells.size:=by rw[s,h.ud];exact mn O
 refine⟨by rw[wS d];exact h.ud,GW h.one h1,h.fst,by grind,h.lo,h.hi,λk hk=>?_⟩;have T:k<items.length+1:=zG;by_cases e:k=items.length
 ·subst e;refine⟨cs,s,by grind,λo E=>?_⟩;simp_all[sK]
 ·obtain⟨J,h2,h3,Y⟩:=h.it k zO;refine⟨J,h2,by grind,λo E=>?_⟩;have H:(first+k)%room≠(first+items.length)%room:=λe2=>e (by
   have:=uw (n:=first) (R:=room) zO zO zO zO e2;omega)
  rw[sK d,if_neg,Y o E];intro⟨a,b⟩;have U:((first+k)%room)*size+o-((first+items.length)%room)*size<size:=zO;exact CZ E U H zO
theorem lJ.pop(h:lJ IT size room first items cells w t)(s:List bj)(O:s.length=size)(h1:∀v∈s,v.oneCell'=bw)(hp:0<items.length) :
  lJ IT size room ((first+1)%room) (items.drop 1) (l8 cells (first*size) s) w t:=by
 have d:first*size+s.length≤cells.size:=by rw[O,h.ud];exact mn h.fst
 have T:=h.lo;have U:=h.len;refine⟨by rw[wS d];exact h.ud,GW h.one h1,bC _ h.lo,by grind,h.lo,h.hi,λk Y=>?_⟩;rw[List.length_drop]at Y;obtain⟨H,h2,h3,h4⟩:=h.it (k+1) zO;refine⟨H,h2,by grind,λo J=>?_⟩;have e1:((first+1)%room+k)%room=(first+(k+1))%room:=by
  rw[ca,Nat.mod_mod,←ca];grind
 have E:(first+(k+1))%room≠first:=λe2=>by
  have:=uw (n:=first) (R:=room) (a:=first+(k+1)) (b:=first) zO zO zO zO (by rw[e2,Nat.mod_eq_of_lt h.fst]);omega
 rw[e1,sK d,if_neg,h4 o J];intro⟨a,b⟩;have hb:((first+(k+1))%room)*size+o-first*size<size:=zO
 exact CZ J hb E zO
theorem lJ.PF(h:lJ IT size room first items cells w t){x:α}{l:List α}(hi:items=x::l):∃d:List bj,d.length=size∧IT x d w t∧∀o,o<size→cells[first*size+o]?=d[o]?:=by
 subst hi;obtain⟨d,H,E,s⟩:=h.it 0 zS;rw[Nat.add_zero,Nat.mod_eq_of_lt h.fst]at s;grind
end
def mU{H:Type}(U:H→List bj→bh→ez→Prop)(O T:bm)(size i g d:Nat)(s:Ff H)(w:bh)(t:ez):Prop:=
 ∃(J first:Nat) (E:AV),eG i g O #[.slice (bk ⟨J,0,bl⟩) d d,iV first,iV (s.items.length:Int),.bool s.closed] w t∧eG i J T E w t∧lJ U size d first s.items E w t
theorem mU.keeps{Y:Type}{IT:Y→List bj→bh→ez→Prop}{Tq Te:bm}{size i g E:Nat}{s:Ff Y}(U:∀x cs,fh i (IT x cs)):fh i (mU IT Tq Te size i g E s):=by
 rintro w t H J ⟨gp,first,d,h1,h2,h3⟩ O T;exact⟨gp,first,d,eG.keeps _ _ _ _ w t H J h1 O T,eG.keeps _ _ _ _ w t H J h2 O T,lJ.keeps U w t H J h3 O T⟩
def om(p:Pc)(cs:List bj)(w:bh)(t:ez):Prop:=∃v,cs=[iV (p.blk.num:Int),iV (p.blk.start:Int),iV (p.blk.eZ:Int),v,iV (p.buf:Int)]∧Held (eu p.blk.data) v w t
theorem om.keeps(i:Nat)(p:Pc)(cs:List bj):fh i (om p cs):=fh.ex λv=>(fh.const _).and (Held.keeps (eX _) i v)
theorem om.one{p:Pc}{cs:List bj}{w:bh}{t:ez}(h:om p cs w t):∀v∈cs,v.oneCell'=true:=by
 obtain⟨u,rfl,s,_⟩:=h;obtain⟨A,c,rfl,_⟩:=eu.form s;intro v d;simp at d;rcases d with rfl|rfl|rfl|rfl|rfl<;>rfl
def oT(h:Int×Int)(cs:List bj)(_:bh)(_:ez):Prop:=cs=[iV h.1,iV h.2]
theorem oT.keeps(i:Nat)(h:Int×Int)(cs:List bj):fh i (oT h cs):=fh.const _
theorem oT.one{h:Int×Int}{cs:List bj}{w:bh}{t:ez}(h:oT h cs w t):∀v∈cs,v.oneCell'=true:=by
 subst h;intro v d;simp at d;rcases d with rfl|rfl<;>rfl
theorem Box.jo{w:bh}{g k:Nat}{T:bm}{cs:AV}(h:Box w k T cs)(d:k≠g)(new:AV):Box (w.setRow g new) k T cs:=(setRow_other w g k new d).trans h
theorem eG.ne{i g s:Nat}{T E:bm}{cs d:AV}{w:bh}{t:ez}(h:eG i g T cs w t)(J:eG i s E d w t)(H:T≠E):g≠s:=λe=>by
 subst e;have U:=h.2;have O:=J.2;grind[Box]
section
variable {P:cm} {Q:Exit→Act→bh→Prop} {ops:Array b9} {M m:Nat} {a0:Act} {w0:bh} {K:List b9→List VP→Prop} {o:b9} {rest:List b9} {env:List VP}
theorem ed.gT{b d n c i:Nat}{k:IntKind}(size:Nat)(t e:bm)(x y:cd)(T:o.op=.indexAddr t x y)(hu:P.underlying t=bk (.slice e))(hs:(P.info? e).map (·.size)=bk size)(hi:i<n)
  (H:Want ops M a0 w0 env o bw)(hx:fu ops M a0 w0 env o x (eC (.slice (bk ⟨b,d,bl⟩) n c)))(E:fu ops M a0 w0 env o y (eC (.int k (i:Int))))
  (J:ed P Q ops M a0 w0 K m rest (eC (.pointer (bk ⟨b,d+i*size,bl⟩))::env)):ed P Q ops M a0 w0 K (m+1) (o::rest) env:=
 .iu x y H hx E (λρ w _ Y U=>by
  cases O:P.info? e with
  |none=>grind
  |some s=>
   have hs:s.size=size:=zG;unfold bM;simp[T,Y,U,Instr.indexAt,asIntOf,bF hu,sizeOf,typeInfo,O,hs,hi,addr_add,go_sem]) J
theorem ed.ue{a b c:Nat}(t t':bm)(x y:cd)(H:o.op=.binOp .rem t x y t')(hb:0<b)(ha:a<9223372036854775808)(J:a%b=c)
  (s:Want ops M a0 w0 env o bw)(hx:fu ops M a0 w0 env o x (eC (iV a)))(d:fu ops M a0 w0 env o y (eC (iV b)))
  (E:ed P Q ops M a0 w0 K m rest (eC (iV c)::env)):ed P Q ops M a0 w0 K (m+1) (o::rest) env:=
 .iu x y s hx d (λY w _ T O=>by
  have U:¬b=0:=zO;have e:((a:Int).tmod (b:Int))=(a:Int)%(b:Int):=Int.tmod_eq_emod_of_nonneg zO;unfold bM;simp[H,T,O,go_sem,U,e,←J]) E
end
theorem qQ{P:cm}{E:Func}{t:Tmp}{s:bm}(h:E.results=#[.cell t s])(tmps:AV)(w:bh)(g:Nat)(T:bm)(cs:AV)(d:TypeDesc)(O:tmps.getD t undef=gP g)(J:Box w g T cs)(hu:P.underlying s=bk d)(H:(match d with|.struct _|.array _ _=>bw|_=>br)=bw)(hi:(P.info? s).map (·.size)=bk cs.size) :
  (results E tmps).run P w=.ok (.agg cs) w:=by
 have U:=run_loadVar_row w g T s cs (0,0) d J hu H hi;simp_all[Array.getD_eq_getD_getElem?,results,asAddr]
section
variable {j g:Nat} {w w' w'':bh} {t t':ez}
theorem Turn.gU(h:Turn j w t w' t')(d:t' g=j)(i:Nat)(u:bj):Turn j w t (w'.setCell ⟨g,i,bl⟩ u) t':=h.tr (Turn.set d i u)
theorem Turn.fresh(h:Turn j w t w' t')(E:w.heap.size≤g)(cs:AV):Turn j w t (w'.setRow g cs) t':=
 ⟨h.os,h.tape,h.output,by simpa using h.size,λk s d=>by
  obtain⟨J,H⟩:=h.block k s d;grind[setRow_other,trans]⟩
theorem eG.gU{i:Nat}{T:bm}{cs:AV}(h:eG i g T cs w t)(j:Nat)(u:bj)(d:AV)(e:cs.setIfInBounds j u=d):eG i g T d (w.setCell ⟨g,j,bl⟩ u) t:=e▸h.eL j u
theorem eG.pP{i k:Nat}{T:bm}{cs:AV}(h:eG i k T cs w t)(d:k≠g)(j:Nat)(u:bj):eG i k T cs (w.setCell ⟨g,j,bl⟩ u) t:=⟨h.1,h.2.far (p:=⟨g,j,bl⟩) d u⟩
theorem eG.jo{i k:Nat}{T:bm}{cs:AV}(h:eG i k T cs w t)(d:k≠g)(new:AV):eG i k T cs (w.setRow g new) t:=⟨h.1,h.2.jo d new⟩
theorem eG.uE{i k:Nat}{T:bm}{cs new:AV}(h:eG i k T cs w t):eG i k T new (w.setRow k new) t:=⟨h.1,h.2.gR⟩
theorem eG.far'{i s k:Nat}{T H:bm}{cs d:AV}(h:eG i k T cs w t)(E:eG s g H d w t)(hne:i≠s∨T≠H):k≠g:=by
 rcases hne with hne|hne
 ·intro e;subst e;exact hne (h.1.symm.trans E.1)
 ·intro e;subst e;have O:=h.2;have J:=E.2;grind[Box]
end
theorem gX{z:AV}{n i:Nat}(h:i<n):(madeCells z n)[i]?=bk (z[i%z.size]!):=by
 simp_all[madeCells]
theorem wT(z:AV)(n:Nat):Builtin.zeroCells z n=madeCells z (n*z.size):=rfl
theorem wU{z:AV}{n:Nat}(d:0<z.size)(h1:∀v∈z,v.oneCell'=bw):∀v∈madeCells z n,v.oneCell'=true:=by
 grind[madeCells,bC,Array.getElem_mem]
section
variable {P:cm} {w:bh}
theorem ya(t e:bm)(H:bm)(z:bj)(Y:P.underlying t=bk (.slice e))(U:∀w,(zeroValue e).run P w=.ok z w)(s:∀v∈z.cells,v.oneCell'=bw)(E:0<z.cells.size)(g n c:Nat)(T:bm)(d:AV)(hn:0<n)(O:Box w g T d)(hs:d.size=n*z.cells.size) :
  (Builtin.clear_ #[t] H #[.slice (bk ⟨g,0,bl⟩) n c]).run P w=.ok (.tuple #[]) (w.setRow g (madeCells z.cells (n*z.cells.size))):=by
 obtain⟨k,rfl⟩:∃k,n=k+1:=⟨n-1,by omega⟩
 have h:=run_storeCells_at P g 0 T (madeCells z.cells ((k+1)*z.cells.size)).toList 0 d w O (by simp[bx,hs]) (λv J=>wU E s v (Array.mem_toList_iff.1 J));have e1:(d.toList.take (0+0)++(madeCells z.cells ((k+1)*z.cells.size)).toList++d.toList.drop (0+0+(madeCells z.cells ((k+1)*z.cells.size)).toList.length)).toArray=madeCells z.cells ((k+1)*z.cells.size):=by
  grind[List.drop_eq_nil_of_le,bx]
 simp_all[Builtin.clear_,bF,wT]
theorem oc{E:Array b9}{d:List b9}{o:b9}{a:Act}{Q:Exit→Act→bh→Prop}(U:o.guard=bl)(t e:bm)(x:cd)
  (ho:o.op=.call { callee:=.builtin .clear,args:=#[x],argTypes:=#[t] })(z:bj)(ht:P.underlying t=bk (.slice e))(Y:∀w,(zeroValue e).run P w=.ok z w)(J:∀v∈z.cells,v.oneCell'=bw)(O:0<z.cells.size)(g n c:Nat)(hx:a.eval x=.slice (bk ⟨g,0,bl⟩) n c)(T:bm)(s:AV)(hn:0<n)(hg:Box w g T s)(hs:s.size=n*z.cells.size)
  (h:wpList P E Q d (a.put o.dst (.tuple #[])) (w.setRow g (madeCells z.cells (n*z.cells.size)))):wpList P E Q (o::d) a w:=
 wpList_plain U λ_ hK=>by
  have H:=ya (P:=P) (w:=w) t e o.type z ht Y J O g n c T s hn hg hs;unfold Oper.wp bM;simp only[ho,resolve,invoke,builtin,cn,b0,bT,bW,bH,bO,hx,H];exact hK _ _ h
end
theorem lJ.clear{E:Type}{H:E→List bj→bh→ez→Prop}{size d first:Nat}{s:List E}{cells:AV}{w J:bh}{t t':ez}(h:lJ H size d first s cells w t){z:AV}(T:z.size=size)(h0:0<size)(h1:∀v∈z,v.oneCell'=bw):lJ H size d 0 [] (madeCells z (d*size)) J t':=
 ⟨by rw[bx],wU zO h1,by have:=h.lo;omega,by simp,h.lo,h.hi,λk O=>by simp at O⟩
theorem lJ.made{s:Type}{J:s→List bj→bh→ez→Prop}{size d:Nat}{w:bh}{t:ez}(hl:1≤d)(H:d≤16){z:AV}(O:z.size=size)(h0:0<size)(h1:∀v∈z,v.oneCell'=bw):lJ J size d 0 [] (madeCells z (d*size)) w t:=
 ⟨by rw[bx],wU zO h1,by omega,by simp,hl,H,λk E=>by simp at E⟩
section
attribute [local go_sem] b4
theorem Box.AG{w:bh}{g s:Nat}{T E:bm}{cs d:AV}(h:Box w g T cs)(J:Box w s E d)(H:T≠E):g≠s:=λe=>by
 grind[Box]
def rK(H st s:Int)(E:bj)(nd d:Nat):AV:=#[iV H,iV st,iV s,E,iV nd,iV d]
def nH(N T O H:Nat)(E:Nat→Nat→AV)(W W':bh):Prop:=fc N [T,O] W W'∧∀J d,Box W H 380 (E J d)→∃s,Box W' H 380 (E s d)
def pb(O s:Nat)(E:Nat→Nat→AV)(W W':bh):Prop:=(W'.os=W.os∧W'.tape=W.tape∧W'.output=W.output∧W.heap.size≤W'.heap.size∧∀k,k<W.heap.size→k≠O→k≠s→W'.heap[k]?=W.heap[k]?)∧∀H d,Box W s 380 (E H d)→∃J,Box W' s 380 (E H J)
theorem nH.t{N O J H:Nat}{s:Nat→Nat→AV}{A B C:bh}(h:nH N O J H s A B)(k:nH N O J H s B C):nH N O J H s A C:=
 ⟨h.1.t k.1,λT d U=>by obtain⟨E,Y⟩:=h.2 T d U;exact k.2 E d Y⟩
theorem pb.ext{O J:Nat}{s:Nat→Nat→AV}{W W':bh}(h:Ext W W'):pb O J s W W':=⟨⟨h.os,h.tape,h.output,h.size,λk E _ _=>h.block k E⟩,λ_ d H=>⟨d,H.ext h⟩⟩
theorem pb.below{E s N:Nat}{H:Nat→Nat→AV}{w W W':bh}(d:Below N w W)(h:pb E s H W W')(h1:N≤E)(T:N≤s)(O:N≤W.heap.size):Below N w W':=
 ⟨h.1.1.trans d.os,h.1.2.1.trans d.tape,h.1.2.2.1.trans d.output,bz d.size h.1.2.2.2.1,λk J=>(h.1.2.2.2.2 k zO zO zO).trans (d.block k J)⟩
attribute [local irreducible] ew ed in
theorem Mp(n:Nat)(hn:1≤n)(l bn bt U N:Nat)(nm st wm:Int)(A:Option Addr)(c:Nat)(s:L8)(d0 n0:Nat)(w0:bh)(aH:w0.heap.size=N)(J Jx:List Nat→bh→Prop)
  (hJ:∀Y W1 W2,J Y W1→pb bn U (rK nm st wm (.slice A s.length c)) W1 W2→J Y W2)
  (hY:∀Y (x:Nat) W,J Y W→Y++[x]<+:bo (min n0 (s.length-d0))→YieldAt b3 (n-1) bD l #[iV (st-wm+((d0+x+1:Nat):Int)),.int .u8 ((s.getD (d0+x) 0).toNat:Int)] W λe W'=>
   nH N bn bt U (rK nm st wm (.slice A s.length c)) W W'∧((e=.returned (.bool bw)∧J (Y++[x]) W')∨(e=.returned (.bool br)∧Jx (Y++[x]) W')))
  (hD:eu s (.slice A s.length c) w0)(aZ:d0≤s.length)(aY:s.length≤1000000)(be:n0≤1000000)(bd:0≤st)(a8:st≤4611686020574871551)(bc:0≤wm)(a7:wm≤st)
  (W:bh)(hE:Ext w0 W)(aL:Box W bn 3 #[iV n0])(aK:Box W bt 420 #[gP U])(aG:Nat)(aC:Box W U 380 (rK nm st wm (.slice A s.length c) aG d0))(aO:N≤bn)(aN:N≤U)(h0:J [] W) :
  CallsIn b3 n bD 287 #[.func (.yield l) #[] #[],gP bn,gP bt] W λe W'=>(∃v,e=.returned v)∧
   ((∃xs,xs=bo (min n0 (s.length-d0))∧(∃nd,Box W' U 380 (rK nm st wm (.slice A s.length c) nd (d0+xs.length)))∧J xs W')∨(∃Y,Y<+:bo (min n0 (s.length-d0))∧(∃nd,Box W' U 380 (rK nm st wm (.slice A s.length c) nd (d0+Y.length)))∧Jx Y W')):=by
 obtain⟨A',c',e,a2,a1,hx⟩:=eu.form hD;cases e;unfold maxLen at a1;have gV:=hide (λ(j:Nat) (hj:j<s.length)=>show∃b H,A=bk ⟨b,H,bl⟩∧b<w0.heap.size∧w0.cell? ⟨b,H+j,bl⟩=bk (.int .u8 ((s.getD j 0).toNat:Int)) by
  obtain⟨b,H,e,hb,hc⟩:=hx zO;refine⟨b,H,e,hb,?_⟩;rw[hc j hj,List.getD_eq_getElem?_getD,List.getElem?_eq_getElem hj];rfl)
 have HW0:=hide aH;have HE:=hide hE;obtain⟨m,hm⟩:∃m,min n0 (s.length-d0)=m:=⟨_,rfl⟩
 have Hm:=hide hm;rw[hm]at hY ⊢;clear hx hD aH hE hm;obtain⟨L,hL⟩:∃L,s.length=L:=⟨_,rfl⟩
 rw[hL]at hJ hY gV aZ aY a2 Hm aC ⊢;refine callsIn_of_wp func287 rfl trivial ?_ rfl;simp only[ntmps287,bE,bX,b5,cf,cg,bK,bL,bU,bN,b6,bY];gi_wp2
 gi_loopw [] (λwr=>∃(k nd:Nat),k≤m∧Hid (J (bo k) wr)∧Hid (Below N w0 wr)∧Box wr bn 3 #[iV ((n0-k:Nat):Int)]∧Box wr bt 420 #[gP U]∧Box wr U 380 (rK nm st wm (.slice A L c) nd (d0+k)))
  (λwr=>match wr.cell? ⟨bn,0,bl⟩with|some (.int _ n)=>n.toNat|_=>0)
 case atStart=>exact⟨0,aG,cp _,h0,(by rw[←HW0.out];exact HE.out),aL,aK,aC⟩
 case round=>
  clear aL aK aC HE h0;obtain⟨k,nd,hk,HJ,HB,T,O,E⟩:=hrel;have hm:=Hm.out;have ae:=T.at_ 0 rfl;have Xi:=hide ae;have ab:=O.at_ 0 rfl;have am:=E.at_ 1 rfl;have al:=E.at_ 2 rfl;have ak:=E.at_ 3 rfl;have ad:=E.at_ 5 rfl;have aA:bn≠U:=T.AG E zD;have aW:bn≠bt:=T.AG O zD;have aV:bt≠U:=O.AG E zD;by_cases bf:k<m
  ·have ah:((n0-k:Nat):Int)>0:=zO;have av:((d0+k:Nat):Int)<(L:Int):=zO;have aB:d0+k<L:=zO;obtain⟨b,H,rfl,aM,ap⟩:=gV.out (d0+k) aB;have ap:=(HB.out.cell (p:=⟨b,H+(d0+k),bl⟩) (by rw[←HW0.out];exact aM)).trans ap;have aJ:b<wr.heap.size:=Nat.lt_of_lt_of_le aM (by rw[HW0.out];exact HB.out.size |> λh=>by rw[HW0.out]at h;exact h);have an:bo k++[k]<+:bo m:=by
    rw[←b7];exact List.prefix_iff_eq_take.2 (by rw[bq,List.take_range,Nat.min_eq_left zO])
   have lB:=hide an;have HY:=hide (λW (a3:J (bo k) W)=>hY _ k W a3 an);generalize(s.getD (d0+k) 0).toNat=bv at*;clear an
   gi_upto_region 0 with(fail)
   refine fR fe (λh=>by obtain⟨_,_,h⟩:=h;obtain⟨⟨_,h⟩,-⟩:=h;cases h) zK 16 zK zK (.g ?_);refine ed.KS _ _ _ _ rfl wA oA (eE _) ah (.g ?_);refine ed.qw _ _ _ _ rfl (wtt 2 7 11) oA oA av (.g ?_);intro W0 af;have hX:=(eh wr).tr af;have ab:=(hX.cell (p:=⟨bt,0,bl⟩) O.lt).trans ab;have ak:=(hX.cell (p:=⟨U,3,bl⟩) E.lt).trans ak;have ad:=(hX.cell (p:=⟨U,5,bl⟩) E.lt).trans ad;have ap:=(hX.cell (p:=⟨b,H+(d0+k),bl⟩) aJ).trans ap;clear af ah av ae;refine wpList_nil ?_
   gi_upto_region 2 with(fail)
   refine fR fe (λh=>by obtain⟨_,_,h⟩:=h;obtain⟨⟨_,h⟩,-⟩:=h;cases h) zK 12 zK zK (.g ?_);refine ed.fD (i:=(d0+k)) 43 5 _ _ rfl underlying43 zK aB wA oA oA (.g ?_);intro W2 aR;have hX:=(hX.tr (eh _)).tr aR;have T:=T.ext hX;have O:=O.ext hX;have E:=E.ext hX;obtain⟨d,hd⟩:∃d,d0+k=d:=⟨_,rfl⟩
   have Hd:=hide hd;rw[hd]at E aB;have ad:=E.at_ 5 rfl;have aX:=E.frozen 5;have ab:=O.at_ 0 rfl;have aa:Box (W2.setCell ⟨U,5,bl⟩ (iV ((d:Int)+1))) U 380 (rK nm st wm (.slice (bk ⟨b,H,bl⟩) L c) nd (d+1)):=by
    have h1:=E.eL 5 (iV ((d:Int)+1));have e:(rK nm st wm (.slice (bk ⟨b,H,bl⟩) L c) nd d).setIfInBounds 5 (iV ((d:Int)+1))=rK nm st wm (.slice (bk ⟨b,H,bl⟩) L c) nd (d+1):=by
     show _=#[_,_,_,_,_,iV (((d+1:Nat)):Int)];rw[Int.natCast_add];rfl
    rwa [e]at h1
   have ay:=T.far (p:=⟨U,5,bl⟩) aA (iV ((d:Int)+1));have ar:=O.far (p:=⟨U,5,bl⟩) aV (iV ((d:Int)+1));have aw:pb bn U (rK nm st wm (.slice (bk ⟨b,H,bl⟩) L c)) wr (W2.setCell ⟨U,5,bl⟩ (iV ((d:Int)+1))):=
    ⟨⟨hX.os,hX.tape,hX.output,by simpa[ch]using hX.size,λq hq _ aU=>(bQ W2 ⟨U,5,bl⟩ _ q aU).trans (hX.block q hq)⟩,λaz d' aD=>by
     have h1:=(aD.ext hX).eL 5 (iV ((d:Int)+1));refine⟨d+1,?_⟩;have e:(rK nm st wm (.slice (bk ⟨b,H,bl⟩) L c) az d').setIfInBounds 5 (iV ((d:Int)+1))=rK nm st wm (.slice (bk ⟨b,H,bl⟩) L c) az (d+1):=by
      show _=#[_,_,_,_,_,iV (((d+1:Nat)):Int)];rw[Int.natCast_add];rfl
     rwa [e]at h1⟩
   have ss:=hide (hJ _ _ _ HJ.out aw);have HB3:=hide (aw.below HB.out aO aN (by have:=HB.out.size;rw[HW0.out]at this;exact this));have a9:=aw;clear aR hX ap ak aw am al T O HJ HB E;go_wp2_with fail
   gi_upto_region 4 with(fail)
   generalize W2.setCell ⟨U,5,bl⟩ (iV ((d:Int)+1))=W3 at*;clear ab ad aX;obtain⟨d1,ae⟩:∃d1,d+1=d1:=⟨_,rfl⟩
   have Hd1:=hide ae;have ba:d1≤1000001:=zO;rw[ae]at aa;clear ae;have ab:=ar.at_ 0 rfl;have am:=aa.at_ 1 rfl;have al:=aa.at_ 2 rfl;have ad:=aa.at_ 5 rfl;refine ml fe zK 19 zK zK (.g ?_);refine ed.kC _ _ _ _ rfl wA oA oA zO (.g ?_);refine ed.ko _ _ _ _ rfl wA oA oA zO (.g ?_);refine .n0 ⟨rfl,λW4 aQ=>?_⟩;iterate 19 refine iC.eq ?_
   refine iC.nil ?_;simp only[Act.put,List.setIfInBounds_toArray,List.set_cons_zero,List.set_cons_succ];have ai:=(eh W3).tr aQ;have uc:=hide (hJ _ _ _ ss.out (pb.ext ai));have HB4:=hide (cb HB3.out (ai.mono (by have:=HB3.out.size;rw[HW0.out]at this;exact this)));have T:=ay.ext ai;have O:=ar.ext ai;have E:=aa.ext ai;obtain⟨fn,a6,aS,bb,hy,hR⟩:=HY.out W4 uc.out;rw[show d0+k+1=d1 by rw[Hd.out,Hd1.out]]at hy;clear ay ar aa ab am al ad ss HB3 uc aQ ai HY;gi_wp2;refine hR.mono ?_;rintro e W5 ⟨ag,(⟨rfl,aE⟩|⟨rfl,aP⟩)⟩
   ·have T:=fc.box ag.1 T zS;have O:=fc.box ag.1 O zS;obtain⟨au,E⟩:=ag.2 nd d1 E;have aF:=cb HB4.out ag.1.1;have ab:=T.at_ 0 rfl;have bg:=T.frozen 0;have aj:=T.eL 0 (iV ((n0-(k+1):Nat):Int));have e1:((n0-k:Nat):Int)-1=((n0-(k+1):Nat):Int):=zO;have ao:pb bn U (rK nm st wm (.slice (bk ⟨b,H,bl⟩) L c)) W5 (W5.setCell ⟨bn,0,bl⟩ (iV ((n0-(k+1):Nat):Int))):=
     ⟨⟨rfl,rfl,rfl,by simp[ch],λq hq aT _=>bQ W5 ⟨bn,0,bl⟩ _ q aT⟩,λaz d' aD=>⟨d',aD.far (p:=⟨bn,0,bl⟩) aA.symm _⟩⟩
    rw[←b7]at aE;have a4:=hide (hJ _ _ _ aE ao);have a5:=hide (ao.below aF aO aN (by have:=aF.size;rw[HW0.out]at this;exact this));have kx:=hide aj;have Hb2:=hide (O.far (p:=⟨bn,0,bl⟩) aW.symm (iV ((n0-(k+1):Nat):Int)));have Hb3:=hide (show Box (W5.setCell ⟨bn,0,bl⟩ (iV ((n0-(k+1):Nat):Int))) U 380 (rK nm st wm (.slice (bk ⟨b,H,bl⟩) L c) au (d0+(k+1))) by
     rw[show d0+(k+1)=d1 by rw[←Nat.add_assoc,Hd.out,Hd1.out]];exact E.far (p:=⟨bn,0,bl⟩) aA.symm _)
    have aI:=aj.at_ 0 rfl;have SZ:=hide aI;have S0:=hide e1;clear ag hy hR aE ao aj aF O E aI e1 HB4;gi_wp2_with fail;rw[S0.out];refine⟨⟨k+1,au,by omega,a4,a5,kx.out,Hb2.out,Hb3.out⟩,?_⟩;rw[SZ.out,Xi.out];simp;omega
   ·have Xj:=hide aP;obtain⟨au,E⟩:=ag.2 nd d1 E;have Hb3:=hide (show∃nd,Box W5 U 380 (rK nm st wm (.slice (bk ⟨b,H,bl⟩) L c) nd (d0+(bo k++[k]).length))from⟨au,by
     rw[show d0+(bo k++[k]).length=d1 by rw[bB,bq,List.length_singleton,←Nat.add_assoc,Hd.out,Hd1.out]];exact E⟩)
    gi_wp2;exact bP (results_none results287 _ _ _) rfl ⟨⟨_,rfl⟩,.inr ⟨_,lB.out,Hb3.out,Xj.out⟩⟩
  ·obtain rfl:k=m:=zO;by_cases hz:n0-k=0
   ·have ah:¬((n0-k:Nat):Int)>0:=zO
    gi_upto_region 0 with(fail)
    refine fR fe (λh=>by obtain⟨_,_,h⟩:=h;obtain⟨⟨_,h⟩,-⟩:=h;cases h) zK 16 zK zK (.g ?_);refine ed.Ei _ _ _ _ rfl wA oA (eE _) ah (.g ?_);intro W0 af;have hX:=(eh wr).tr af;have HJ2:=hide (hJ _ _ _ HJ.out (pb.ext hX));have Hb3:=hide (show∃nd,Box W0 U 380 (rK nm st wm (.slice A L c) nd (d0+(bo k).length))from⟨nd,by rw[bq];exact E.ext hX⟩);clear af ae ab am al ak ad;refine wpList_nil ?_;gi_wp2_with fail
    go_end0
    have aq:=Hb3.out;rw[bq]at aq;exact⟨⟨_,rfl⟩,.inl ⟨aq,HJ2.out⟩⟩
   ·have ah:((n0-k:Nat):Int)>0:=zO;have av:¬((d0+k:Nat):Int)<(L:Int):=zO
    gi_upto_region 0 with(fail)
    refine fR fe (λh=>by obtain⟨_,_,h⟩:=h;obtain⟨⟨_,h⟩,-⟩:=h;cases h) zK 16 zK zK (.g ?_);refine ed.KS _ _ _ _ rfl wA oA (eE _) ah (.g ?_);refine ed.xT _ _ _ _ rfl (wtt 2 7 11) oA oA av (.g ?_);intro W0 af;have hX:=(eh wr).tr af;have HJ2:=hide (hJ _ _ _ HJ.out (pb.ext hX));have Hb3:=hide (show∃nd,Box W0 U 380 (rK nm st wm (.slice A L c) nd (d0+(bo k).length))from⟨nd,by rw[bq];exact E.ext hX⟩);clear af ae ab am al ak ad;refine wpList_nil ?_;gi_wp2_with fail
    go_end0
    have aq:=Hb3.out;rw[bq]at aq;exact⟨⟨_,rfl⟩,.inl ⟨aq,HJ2.out⟩⟩
theorem Fe(g:Nat)(z:Int)(w:bh):bA bD 253 #[gP g,iV z] w λe d=>e=.returned (.func (.func 287) #[] #[gP (w.heap.size+1),gP w.heap.size])∧d=(w.alloc (.cells #[gP g] 420)).alloc (.cells #[iV z] 3):=by
 go_enter func253,ntmps253;go_wp2;go_ret;simp_all
end
def iM(M:Mc)(g:Nat)(w:bh):Prop:=
 ∃(E:Nat→Int) (m s:Nat) (F:Nat→Nat) (f:Bool) (H:bj) (J:Int) (d c:Nat),
  Box w g 166 (mA E m M.states (.slice (bk ⟨s,0,bl⟩) (M.states*m) (M.states*m)) f H (M.long:Int) J (.slice (bk ⟨d,0,bl⟩) M.states c))∧
  Box w s 3 (fA (M.states*m) F)∧1≤m∧m≤257∧1≤M.states∧M.states≤400∧1≤M.long∧M.long≤32∧
  (∀b:UInt8,∃k:Nat,E b.toNat=(k:Int)∧k<m∧∀j,j<M.states→F (j*m+k)=M.step j b)∧(∀j b,j<M.states→M.step j b<M.states)∧
  (d<w.heap.size∧∀j,j<M.states→∃v,w.cell? ⟨d,j,bl⟩=bk v∧eT (M.words j) v w∧(M.words j).length≤64)
theorem iM.ext{M:Mc}{g:Nat}{w J:bh}(h:iM M g w)(d:Ext w J):iM M g J:=by
 obtain⟨cl,m,gr,F,f,T,U,O,c,h1,h2,h3,h4,h5,h6,h7,h8,h9,H,s,E⟩:=h;exact⟨cl,m,gr,F,f,T,U,O,c,h1.ext d,h2.ext d,h3,h4,h5,h6,h7,h8,h9,H,Nat.lt_of_lt_of_le s d.size,λj Y=>by
  obtain⟨v,a1,a2,a3⟩:=E j Y;exact⟨v,(d.cell (p:=⟨O,j,bl⟩) s).trans a1,VP.st _ _ _ _ a2 d,a3⟩⟩
section
variable {M:Mc} {g:Nat} {w:bh}
theorem iM.vB(h:iM M g w):bA bD 82 #[gP g] w (eB w (eC (iV (M.long:Int)))):=by
 obtain⟨O,m,J,F,f,s,E,H,c,d,-⟩:=h;exact zi d
theorem iM.wz(h:iM M g w)(j:Nat)(s:j<M.states)(b:UInt8):bA bD 254 #[gP g,iV j,.int .u8 (b.toNat:Int)] w (eB w (eR [eC (iV ((M.step j b:Nat):Int)),eC (.bool bw)])):=by
 obtain⟨cl,m,gr,F,f,vs,mo,gw,c,h1,Y,U,T,h5,O,h7,h8,J,ad,ab,aa⟩:=h;obtain⟨k,E,d,H⟩:=J b;rw[←H j s];exact Jn h1 Y s U T O E d
theorem iM.C0(h:iM M g w)(j:Nat)(E:j<M.states)(d:Int):bA bD 255 #[gP g,iV j,iV d] w (eB w (eP (iS d (M.words j)))):=by
 obtain⟨cl,m,gr,F,f,vs,mo,gw,c,T,h2,h3,h4,h5,H,h7,h8,h9,O,J,s⟩:=h;obtain⟨v,Y,U,a3⟩:=s j E;exact Jo d T E H Y U zO
theorem iM.Jp(h:iM M g w)(E st d:Int)(A:Option Addr)(l c nd s:Nat)(h1:0≤st)(h2:st≤4611686020574871551)(h3:0≤d)(h4:d≤(M.long:Int)-1)(h5:d≤st)(h6:1≤(l:Int)-d)(Y:(l:Int)-d≤256)(J:nd<M.states)(H:s≤l) :
  bA bD 252 #[gP g,.agg #[iV E,iV st,iV d,.slice A l c],.agg #[iV nd,iV s]] w (eB w (eC (.bool bw))):=by
 obtain⟨cl,m,gr,F,f,T,U,gw,cw,a1,a2,a3,a4,a5,a6,O,a8,a9⟩:=h;have b1:(1:Int)≤(M.long:Int):=Int.ofNat_le.2 O;grind[Int.le_trans,Int.ofNat_le,Fc]
theorem iM.Fg(h:iM M g w):1≤M.states:=by obtain⟨O,m,J,F,f,s,E,H,c,a1,a2,Y,U,d,T⟩:=h;exact d
theorem iM.uF(h:iM M g w){j:Nat}(H:j<M.states)(b:UInt8):M.step j b<M.states:=by obtain⟨T,m,O,F,f,s,E,J,c,a1,a2,a3,a4,a5,a6,a7,Y,U,d,-⟩:=h;grind
theorem iM.uG(h:iM M g w):1≤M.long∧M.long≤32:=by obtain⟨J,m,H,F,f,d,s,E,c,a1,a2,a3,a4,Y,U,T,O,-⟩:=h;omega
theorem iM.wV(h:iM M g w){j:Nat}(O:j<M.states):(M.words j).length≤64:=by
 obtain⟨Y,m,U,F,f,H,J,T,c,a1,a2,a3,a4,a5,a6,a7,a8,a9,E,s,d⟩:=h;grind
end
section
variable {i g:Nat} {w w':bh} {t t':ez} {row:Option Nat}
theorem eG.grown{T:bm}{cs:AV}(h:eG i g T cs w t)(E:w.grownBy w' row)(d:row≠bk g)(s:∀k,k<w.heap.size→t' k=t k):eG i g T cs w' t':=
 ⟨(s g h.lt).trans h.1,(E.block g h.lt (λe=>d e.symm)).trans h.2⟩
theorem eO.form{e:bm}{size n:Nat}{v:bj}{xs:List bj}(h:eO i e size v n xs w t):∃A c,v=.slice A n c:=by
 obtain⟨-,⟨rfl,rfl⟩|⟨g,d,E,s,rfl,-⟩⟩:=h
 ·grind
 grind
theorem eO.at_{e:bm}{size n:Nat}{v:bj}{xs:List bj}(h:eO i e size v n xs w t){k:Nat}(s:v.ownBlock=bk k):t k=i∧∃d,w.heap[k]?=bk (.cells d e (0,0)):=by
 obtain⟨-,⟨rfl,rfl⟩|⟨g,E,H,d,rfl,J,O,-⟩⟩:=h
 ·cases s
 ·cases s;grind
theorem eO.lt{e:bm}{size n:Nat}{v:bj}{xs:List bj}(h:eO i e size v n xs w t){k:Nat}(d:v.ownBlock=bk k):k<w.heap.size:=by
 obtain⟨-,s,E⟩:=h.at_ d;grind
theorem eO.grown{e:bm}{size n:Nat}{v:bj}{xs:List bj}(h:eO i e size v n xs w t)(hg:w.grownBy w' row)(J:∀k,v.ownBlock=bk k→row≠bk k)(Y:∀k,k<w.heap.size→t' k=t k):eO i e size v n xs w' t':=by
 obtain⟨U,h2|⟨g,E,T,O,rfl,H,s,h3,h4,h5,h6⟩⟩:=h
 ·exact⟨U,.inl h2⟩
 ·have d:g<w.heap.size:=(bR.1 s).1;exact⟨U,.inr ⟨g,E,T,O,rfl,(Y g d).trans H,(hg.block g d (λe=>J g rfl e.symm)).trans s,h3,h4,h5,h6⟩⟩
theorem eO.take{e:bm}{size n k:Nat}{A:Option Addr}{c:Nat}{xs:List bj}(h:eO i e size (.slice A n c) n xs w t)(J:k≤n):eO i e size (.slice A k c) k (xs.take (k*size)) w t:=by
 obtain⟨h1,⟨s,rfl⟩|⟨g,d,Y,E,s,H,O,h3,U,T,h6⟩⟩:=h
 ·cases s;obtain rfl:k=0:=zO;exact⟨by simp,.inl ⟨rfl,rfl⟩⟩
 ·cases s;have e3:k*size≤n*size:=bp _ J;refine⟨by grind,.inr ⟨g,d,c,E,rfl,H,O,by omega,U,T,?_⟩⟩;grind
theorem eH{T e:bm}{size n:Nat}{v:bj}{xs:List bj}{cs:AV}(h:eG i g T cs w t)(k:eO i e size v n xs w t)(d:T≠e):v.ownBlock≠bk g:=λs=>by
 obtain⟨-,E,H⟩:=k.at_ s;have J:=h.2;grind[Box]
theorem wW{e H:bm}{size d n O:Nat}{v E:bj}{xs s:List bj}(h:eO i e size v n xs w t)(k:eO i H d E O s w t)(T:e≠H):∀b,v.ownBlock=bk b→E.ownBlock≠bk b:=λb h1 Y=>by
 obtain⟨-,aa,hc⟩:=h.at_ h1;obtain⟨-,J,U⟩:=k.at_ Y;grind
theorem wX(g o:Nat)(vs:List bj)(w:bh):w.grownBy (w.setCells g o vs) (bk g):=
 ⟨(jD vs o w).1,(jD vs o w).2.1,(jD vs o w).2.2,by simp_all,λk _ d=>mO (λe=>d (by rw[e])) vs o w⟩
theorem Turn.lG(d:w.grownBy w' row)(H:∀k,row=bk k→t k=i)(E:∀k,k<w.heap.size→t' k=t k):Turn i w t w' t':=⟨d.os,d.tape,d.output,d.size,λk s J=>⟨d.block k s (λe=>J (H k e.symm)),E k s⟩⟩
end
section
variable {P:cm} {w:bh}
theorem oe(i:Nat)(tg:ez)(t ty e:bm)(E:TypeInfo)(z:bj)(size s:Nat)(ht:P.underlying t=bk (.slice e))(hi:P.info? e=bk E)(hz:E.zero=bk z)(hs:E.size=size)(hb:E.bytes=s)(ae:z.cells.size=size)(af:0<size)
  (v u:bj)(n m:Nat)(xs d:List bj)(hown:eO i e size v n xs w tg)(hl:d.length=m*size)(hx:Src w u m d)(h1:∀y∈d,y.oneCell'=bw)(hlen:(n+m)*(s+1)≤140000000000000) :
  ∃v' w' ah,(Builtin.append_ #[t,t] ty #[v,u]).run P w=.ok v' w'∧eO i e size v' (n+m) (xs++d) w' ah∧(∀k,k<w.heap.size→ah k=tg k)∧w.grownBy w' v.ownBlock∧(v'.ownBlock=v.ownBlock∨∀k,v'.ownBlock=bk k→w.heap.size≤k):=by
 have au:(n+m)*s≤(n+m)*(s+1):=Nat.mul_le_mul_left _ zO;have ar:(n+m)*1≤(n+m)*(s+1):=Nat.mul_le_mul_left _ zO;have Y:=hown;obtain⟨ak,⟨rfl,rfl⟩|⟨g,H,J,ap,rfl,aq,hg,h3,h4,h5,h6⟩⟩:=hown
 ·have al:xs=[]:=zG;subst al;obtain⟨v',w',h7,h8,h9,aa⟩:=kE (P:=P) (w:=w) 0 t ty e E z size s ht hi hz hs hb ae af nS u 0 m [] d (World.ownsRow_nil w 0 e size) hl hx h1 hlen (cp _);refine⟨v',w',tg.up w.heap.size i,h7,eO.AF h8 λk hk=>?_,λk hk=>ez.fB hk,h9,aa.imp id (λe1 k hk=>by grind)⟩;rcases aa with e1|e1
  ·rw[e1]at hk;cases hk
  simp_all[ez.fJ]
 ·obtain⟨A,c,rfl,h7⟩:=hx;have T:eO i e size (.slice (bk ⟨g,H,bl⟩) n J) n xs w tg:=Y;rcases A with _|ad
  ·obtain rfl:m=0:=by
    grind
   have hn:d=[]:=zG;subst hn;refine⟨_,w,tg,?_,by grind,λ_ _=>rfl,bS w _,.inl rfl⟩;simp[Builtin.append_,bF ht,sizeOf,typeInfo,hi,Builtin.lenOf,Builtin.firstCells,h3,storeCells]
  ·have U:∀j y,d[j]?=bk y→w.cell? (ad.add j)=bk y:=λj y hj=>by
    grind[Nat.eq_zero_or_pos,addr_add]
   by_cases hr:n+m≤J
   ·have ai:(n+m)*size≤J*size:=bp _ hr;rw[Nat.add_mul]at ai;have ag:∀j,j<d.length→(w.cell? ⟨g,H+n*E.size+j,bl⟩).isSome=true:=λj hj=>by
     rw[cell_of_row w g _ ap e (0,0) hg,hs];grind
    have ao:∀j,j<d.length→w.frozen? ⟨g,H+n*E.size+j,bl⟩=false:=λj _=>by
     grind[World.frozen?]
    have ab:=run_append_room_cells (P:=P) w t ty e E ht hi g H n J ad m c d zG U h1 hr ag ao;obtain⟨v2,w2,aj,O,an,av,am⟩:=uu (P:=P) i tg t ty e E z size s ht hi hz hs hb ae af (.slice (bk ⟨g,H,bl⟩) n J) (.slice (bk ad) m c) n m xs d T hl ⟨_,_,rfl,h7⟩ h1 hlen;rw[ab]at O;cases O;exact⟨_,_,aj,ab,an,am,wX _ _ _ _,.inl rfl⟩
   ·obtain⟨v',w',h8,h9,aa⟩:=run_append_arg_grows (P:=P) w t ty e E z size s ht hi hz hs hb ae af ⟨g,H,bl⟩ n J xs ak (λj y hj=>by rw[addr_add];exact T.cell j y hj) ad m c d hl U zO (by grind[maxLen]) zO;refine⟨v',w',tg.up w.heap.size i,h8,eO.AF h9 λk hk=>ez.fJ (fk h9 k hk),λk hk=>ez.fB hk,aa.but _,.inr (fk h9)⟩
theorem fi{Y:Array b9}{O:List b9}{o:b9}{a:Act}{Q:Exit→Act→bh→Prop}(ae:o.guard=bl)(s x:cd)(t:bm)
  (ho:o.op=.call { callee:=.builtin .append,args:=#[s,x],argTypes:=#[t,t] })
  (i:Nat)(tg:ez)(e:bm)(H:TypeInfo)(z:bj)(size E:Nat)(ht:P.underlying t=bk (.slice e))(hi:P.info? e=bk H)(hz:H.zero=bk z)(hs:H.size=size)(hb:H.bytes=E)(ab:z.cells.size=size)(ad:0<size)
  (v u:bj)(n m:Nat)(xs d:List bj)(hv:a.eval s=v)(hown:eO i e size v n xs w tg)(hl:d.length=m*size)(hu:a.eval x=u)(hx:Src w u m d)(h1:∀y∈d,y.oneCell'=bw)(hlen:(n+m)*(E+1)≤140000000000000)
  (h:∀T U J,eO i e size T (n+m) (xs++d) U J→(∀k,k<w.heap.size→J k=tg k)→w.grownBy U v.ownBlock→(T.ownBlock=v.ownBlock∨∀k,T.ownBlock=bk k→w.heap.size≤k)→wpList P Y Q O (a.put o.dst T) U):wpList P Y Q (o::O) a w:=
 wpList_plain ae λ_ hK=>by
  obtain⟨T,U,J,aa,h2,h3,h4,h5⟩:=oe (P:=P) i tg t o.type e H z size E ht hi hz hs hb ab ad v u n m xs d hown hl hx h1 hlen;unfold Oper.wp bM;simp only[ho,resolve,invoke,builtin,cn,b0,bT,bW,bH,bO,hv,hu,aa];exact hK _ _ (h T U J h2 h3 h4 h5)
theorem kK{T:Array b9}{o:b9}{a:Act}{K:Act→bh→Prop}{Q:Exit→Act→bh→Prop}{E:Prop}(ad:o.guard=bl)(s x:cd)(t:bm)
  (ho:o.op=.call { callee:=.builtin .append,args:=#[s,x],argTypes:=#[t,t] })
  (i:Nat)(tg:ez)(e:bm)(J:TypeInfo)(z:bj)(size H:Nat)(ht:P.underlying t=bk (.slice e))(hi:P.info? e=bk J)(hz:J.zero=bk z)(hs:J.size=size)(hb:J.bytes=H)(aa:z.cells.size=size)(ab:0<size)
  (v u:bj)(n m:Nat)(xs d:List bj)(hv:a.eval s=v)(hown:eO i e size v n xs w tg)(hl:d.length=m*size)(hu:a.eval x=u)(hx:Src w u m d)(h1:∀y∈d,y.oneCell'=bw)(hlen:(n+m)*(H+1)≤140000000000000)
  (h:∀A c Y O,eO i e size (.slice A (n+m) c) (n+m) (xs++d) Y O→(∀k,k<w.heap.size→O k=tg k)→w.grownBy Y v.ownBlock→((Value.slice A (n+m) c).ownBlock=v.ownBlock∨∀k,(Value.slice A (n+m) c).ownBlock=bk k→w.heap.size≤k)→K (a.put o.dst (.slice A (n+m) c)) Y) :
  if cj o (yielded T a.tmps)=bw then Oper.wp P o a w K Q else E:=by
 have hw:cj o (yielded T a.tmps)=true:=by simp[cj,ad]
 rw[if_pos hw];obtain⟨v',Y,O,U,h2,h3,h4,h5⟩:=oe (P:=P) i tg t o.type e J z size H ht hi hz hs hb aa ab v u n m xs d hown hl hx h1 hlen;obtain⟨A,c,rfl⟩:=h2.form;unfold Oper.wp bM;simp only[ho,resolve,invoke,builtin,cn,b0,bT,bW,bH,bO,hv,hu,U];exact h _ _ _ _ h2 h3 h4 h5
end
section
section
attribute [local irreducible] ew ed
def S1(x:Option Hits)(v:bj)(w:bh)(t:ez):Prop:=match x with
 |none=>v=nS
 |some d=>Held (eP d) v w t
theorem S1.keeps(i:Nat)(x:Option Hits)(v:bj):fh i (S1 x v):=by
 cases x with
 |none=>exact fh.const _
 |some d=>exact Held.keeps (gg d) i v
theorem S1.one{x:Option Hits}{v:bj}{w:bh}{t:ez}(h:S1 x v w t):∃A n c,v=.slice A n c:=by
 cases x with
 |none=>exact⟨_,_,_,h⟩
 |some d=>obtain⟨A,c,e,-⟩:=eP.form h.1;exact⟨A,_,c,e⟩
structure GX(R:Nat)(ps:List (Option Hits))(cells:AV)(w:bh)(t:ez):Prop where
 ud:cells.size=R*2
 len:ps.length=R
 lo:1≤R
 hi:R≤16
 it:∀k,k<R→∃v,cells[k*2]?=bk v∧cells[k*2+1]?=bk (.bool (ps.getD k bl).isSome)∧S1 (ps.getD k bl) v w t
theorem GX.keeps{i R:Nat}{E:List (Option Hits)}{cells:AV}:fh i (GX R E cells):=λw t d s h H O=>
 ⟨h.ud,h.len,h.lo,h.hi,λk J=>by
  obtain⟨v,Y,U,T⟩:=h.it k J;exact⟨v,Y,U,S1.keeps i _ _ w t d s T H O⟩⟩
theorem GX.set{R:Nat}{s:List (Option Hits)}{cells:AV}{w:bh}{t:ez}(h:GX R s cells w t){k:Nat}(E:k<R)(x:Option Hits)(v:bj)(hv:S1 x v w t):GX R (s.set k x) (l8 cells (k*2) [v,.bool x.isSome]) w t:=by
 have d:k*2+[v,.bool x.isSome].length≤cells.size:=by rw[h.ud];grind
 refine⟨by rw[wS d];exact h.ud,by rw[List.length_set];exact h.len,h.lo,h.hi,λj H=>?_⟩;rw[my _ _ _ _ _ (by rw[h.len];exact E),sK d,sK d];by_cases e:j=k
 ·grind
 ·rw[if_neg zG,if_neg zG,if_neg e];exact h.it j H
theorem GX.cell{R:Nat}{d:List (Option Hits)}{cells:AV}{w:bh}{t:ez}(h:GX R d cells w t){k:Nat}(s:k<R):cells[k*2+1]?=bk (.bool (d.getD k bl).isSome):=by obtain⟨v,-,E,-⟩:=h.it k s;exact E
def kh(i g R:Nat)(r:Rg)(w:bh)(t:ez):Prop:=
 ∃(s:Nat) (d:AV),eG i g 196 #[.slice (bk ⟨s,0,bl⟩) R R,iV (r.next:Int)] w t∧eG i s 276 d w t∧GX R r.places d w t
theorem kh.keeps{i g R:Nat}{r:Rg}:fh i (kh i g R r):=by
 rintro w t s E ⟨Y,d,U,T,O⟩ H J;exact⟨Y,d,eG.keeps _ _ _ _ w t s E U H J,eG.keeps _ _ _ _ w t s E T H J,GX.keeps (i:=i) w t s E O H J⟩
theorem kh.len{i g R:Nat}{r:Rg}{w:bh}{t:ez}(h:kh i g R r w t):r.places.length=R:=by obtain⟨_,_,_,_,h⟩:=h;exact h.len
theorem kh.lo{i g R:Nat}{r:Rg}{w:bh}{t:ez}(h:kh i g R r w t):1≤R:=by obtain⟨_,_,_,_,h⟩:=h;exact h.lo
theorem Tryz.QR(w:bh):(zeroValue 276).run bD w=.ok (.agg #[nS,.bool br]) w:=by rfl
theorem Tryz.QS:(prog.info? 276).map (λi=>(i.zero,i.size,i.bytes))=bk (bk (.agg #[nS,.bool br]),2,32):=by rfl
section
variable {i g gp R:Nat} {r:Rg} {w:bh} {t:ez} {nx:bj}
theorem sL(E:Box w g 196 #[.slice (bk ⟨gp,0,bl⟩) R R,nx])(d:1≤R)(_:R≤16)(n:Nat)(T:n≤4000000000) :
  bA bD 153 #[gP g,iV n] w (eB w (eC (.pointer (bk ⟨gp,n%R*2,bl⟩)))):=by
 have O:=E.at_ 0 rfl;have H:n%R<R:=bC _ d;clear E;go_enter func153,ntmps153;go_upto_region 1 with(fail)
 refine vQ 12 (.g ?_);refine ed.ue (c:=n%R) _ _ _ _ rfl d zO rfl wA oA oA ?_;refine ed.gT (i:=n%R) 2 192 276 _ _ rfl ck zR H wA oA oA (.g ?_);intro U s;go_wp2;go_ret;exact eB.mk ((eh _).tr s) (by show _=_;simp_all)
theorem rC(d:Box w g 196 #[.slice (bk ⟨gp,0,bl⟩) R R,nx]):bA bD 242 #[gP g] w (eB w (eC (iV R))):=by
 have s:=d.at_ 0 rfl;clear d;go_enter func242,ntmps242;go_wp2;go_ret;exact eB.mk (Ext.rf _) rfl
theorem rD(h:kh i g R r w t):bA bD 44 #[gP g] w (eB w (eC (iV (r.next:Int)))):=by
 obtain⟨gp,d,s,-,-⟩:=h;have E:=s.2.at_ 1 rfl;clear s;go_enter func44,ntmps44;go_wp2;go_ret;exact eB.mk (Ext.rf _) rfl
theorem sM(h:kh i g R r w t)(n:Nat)(hn:n≤4000000000)(hx:r.next≤4000000000):bA bD 187 #[gP g,iV n] w (eB w (eC (.bool (r.admits n)))):=by
 have hl:=h.len;obtain⟨gp,aa,O,-,Y⟩:=h;have ab:=O.2.at_ 1 rfl;have d:=λW (T:Ext w W)=>rC (O.2.ext T);have e:r.admits n=(decide (r.next≤n)&&decide (n-r.next<R)):=by grind[Rg.admits]
 rw[e];clear e hl;by_cases E:r.next≤n
 ·have Hs:=hide (show((n:Int)-(r.next:Int))=((n-r.next:Nat):Int) by omega);by_cases H:n-r.next<R
  ·have J:=hide (show(decide (r.next≤n)&&decide (n-r.next<R))=bw by grind);rw[J.out];clear O Y;go_enter func187,ntmps187;go_upto_region 1 with(fail)
   refine vQ 23 (.g ?_);refine ed.iu (r:=.bool bw) (bV 5) (bI (bJ bl)) wA oA (eE _) (λρ w T E H=>by simp[bM,E,H,go_sem]) (.g ?_);refine ed.Eh _ _ _ _ rfl wA oA oA zO (.g ?_);refine ed.kC _ _ _ _ rfl wA oA oA zO ?_;refine ed.kD Hs.out (.g ?_);refine ed.gz 242 _ _ rfl (enters_of func242 zR rfl) wA oA (λ_ W U E=>by cases E;exact d W ((eh _).tr U)) ?_;refine ed.qw _ _ _ _ rfl wA oA oA zO (.g ?_);intro W1 s;go_wp2;go_ret;exact eB.mk ((eh _).tr s) rfl
  ·have J:=hide (show(decide (r.next≤n)&&decide (n-r.next<R))=br by simp[H]);rw[J.out];clear O Y;go_enter func187,ntmps187;go_upto_region 1 with(fail)
   refine vQ 23 (.g ?_);refine ed.iu (r:=.bool bw) (bV 5) (bI (bJ bl)) wA oA (eE _) (λρ w T E H=>by simp[bM,E,H,go_sem]) (.g ?_);refine ed.Eh _ _ _ _ rfl wA oA oA zO (.g ?_);refine ed.kC _ _ _ _ rfl wA oA oA zO ?_;refine ed.kD Hs.out (.g ?_);refine ed.gz 242 _ _ rfl (enters_of func242 zR rfl) wA oA (λ_ W U E=>by cases E;exact d W ((eh _).tr U)) ?_;refine ed.xT _ _ _ _ rfl wA oA oA zO (.g ?_);intro W1 s;go_wp2;go_ret;exact eB.mk ((eh _).tr s) rfl
 ·have J:=hide (show(decide (r.next≤n)&&decide (n-r.next<R))=br by simp[E]);rw[J.out];clear O Y;go_enter func187,ntmps187;go_upto_region 1 with(fail)
  refine vQ 23 (.g ?_);refine ed.iu (r:=.bool bw) (bV 5) (bI (bJ bl)) wA oA (eE _) (λρ w T E H=>by simp[bM,E,H,go_sem]) (.g ?_);refine ed.Sq _ _ _ _ rfl wA oA oA zO (.g ?_);intro W1 s;go_wp2;go_ret;exact eB.mk ((eh _).tr s) rfl
theorem Jq(hi:i≠0)(h:kh i g R r w t)(n:Nat)(hn:n≤4000000000)(hx:r.next≤4000000000)(ha:r.admits n=bw)(hf:r.at_ n=bl)(hs:Hits)(v:bj)(hv:Held (eP hs) v w t) :
  bA bD 199 #[gP g,iV n,v] w λe w'=>(∃u,e=.returned u)∧kh i g R (r.put n hs) w' t∧Turn i w t w' t:=by
 have hA:=sM h n hn hx;rw[ha]at hA;have HA:=hide hA;have hl:=h.len;obtain⟨gp,d,hb,E,T⟩:=h;have ad:g≠gp:=hb.ne E zD;have U:=T.lo;have hm:n%R<R:=bC _ U;have ah:=T.ud;have Jr:=hide (λW (s:Ext w W)=>sL (hb.2.ext s) U T.hi n hn);have J:w.cell? ⟨gp,n%R*2+1,bl⟩=bk (.bool br):=by
  rw[E.2.cell,T.cell hm];grind[Rg.at_]
 have I1:=hide (λW (s:Ext w W)=>(s.cell (p:=⟨gp,n%R*2+1,bl⟩) E.lt).trans J);have kJ:=hide (λW (s:Ext w W)=>by
  have af:=eG.keeps _ _ _ _ |>.ext hb s
  have H:=eG.keeps _ _ _ _ |>.ext E s
  have ag:=GX.keeps (i:=i) |>.ext T s
  have ab:=Held.keeps (gg hs) i v |>.ext hv s
  have hT:=(Turn.ext i t s).tr (Turn.setRow (w:=W) H.1 (l8 d (n%R*2) [v,.bool bw]));have ai:=GX.keeps (i:=i+1) |>.turn zO hi (ag.set hm (bk hs) v ab) (Turn.setRow (w:=W) H.1 (l8 d (n%R*2) [v,.bool bw]))
  have hq:kh i g R (r.put n hs) (W.setRow gp (l8 d (n%R*2) [v,.bool bw])) t:=⟨gp,_,af.jo ad _,H.uE,by
   grind[Rg.put]⟩
  exact And.intro hq (And.intro hT H.2))
 obtain⟨A,c,rfl,-⟩:=eP.form hv.1;clear hA hb E T J hv ha hf hi;go_enter func199,ntmps199;go_wp2_with fail;refine HA.out.mono ?_;rintro _ w2 ⟨u,rfl,O,rfl⟩;go_wp2_with fail;refine(Jr.out w2 O).mono ?_;rintro _ w3 ⟨u,rfl,aa,rfl⟩;have s:=O.tr aa;have J:=I1.out w3 s;go_wp2_with fail;refine(Jr.out w3 s).mono ?_;rintro _ w4 ⟨u,rfl,Y,rfl⟩;have s:=s.tr Y;obtain⟨hq,hT,ae⟩:=kJ.out w4 s;have HF:=hide (And.intro hq hT);clear HA Jr I1 kJ hq hT J O aa Y;go_wp2_with(refine eW rfl _ _ _ rfl gp (n%R*2) #[.slice A hs.length c,.bool bw] rfl rfl 276 d ae zK zG zK (l8 d (n%R*2) [.slice A hs.length c,.bool bw]) rfl ?_)
 go_ret;exact⟨⟨_,rfl⟩,HF.out⟩
theorem C1(h:kh i g R r w t)(hx:r.next≤4000000000)(hq:r.at_ r.next=bl) :
  bA bD 201 #[gP g] w (eB w (eR [eC nS,eC (.bool br)])):=by
 have hl:=h.len;obtain⟨gp,aa,J,s,T⟩:=h;have d:=T.lo;have hm:r.next%R<R:=bC _ d;have Jr:=hide (λW (O:Ext w W)=>sL (J.2.ext O) d T.hi r.next hx);have GY:=hide (λW (O:Ext w W)=>rC (J.2.ext O));have E:r.places.getD (r.next%R) bl=none:=by grind[Rg.at_]
 have ab:w.cell? ⟨gp,r.next%R*2+1,bl⟩=bk (.bool br):=by
  rw[s.2.cell,T.cell hm,E];rfl
 have ad:=J.2.at_ 1 rfl;clear J s T hl hq E;go_enter func201,ntmps201;go_upto_region 1 with(fail)
 refine vQ 23 (.g ?_);refine ed.iu (r:=.bool br) (bV 4) (bI (bJ bl)) wA oA (eE _) (λρ w O H h2=>by simp[bM,H,h2,go_sem]) (.g ?_);refine ed.gz 242 _ _ rfl (enters_of func242 zR rfl) wA oA (λ_ W U H=>by cases H;exact GY.out W ((eh _).tr U)) ?_;refine ed.zQ _ _ _ _ rfl wA oA (eE _) zO (.g ?_);refine ed.call2 153 _ _ _ rfl (enters_of func153 zR rfl) wA oA oA (λ_ _ W U H h2=>by cases H;cases h2;exact Jr.out W ((eh _).tr U)) (.g ?_);refine ed.BN _ _ rfl wA oA rfl (.g ?_);intro W1 Y;go_wp2;exact bP (results_tmp2 results201 _ _ _) rfl (eB.mk ((eh _).tr Y) (eR.two rfl rfl))
theorem C2(hi:i≠0)(h:kh i g R r w t)(hx:r.next≤4000000000)(hs:Hits)(hq:r.at_ r.next=bk hs) :
  bA bD 201 #[gP g] w λe w'=>∃v,e=.returned (.tuple #[v,.bool bw])∧Held (eP hs) v w' t∧kh i g R r.take w' t∧Turn i w t w' t:=by
 have hl:=h.len;obtain⟨gp,d,hb,H,hC⟩:=h;have ae:g≠gp:=hb.ne H zD;have ad:=hC.lo;have hm:r.next%R<R:=bC _ ad;have ar:=hC.ud;have Jr:=hide (λW (s:Ext w W)=>sL (hb.2.ext s) ad hC.hi r.next hx);have GY:=hide (λW (s:Ext w W)=>rC (hb.2.ext s));have ab:r.places.getD (r.next%R) bl=bk hs:=by grind[Rg.at_]
 have al:w.cell? ⟨gp,r.next%R*2+1,bl⟩=bk (.bool bw):=by
  rw[H.2.cell,hC.cell hm,ab];rfl
 have aa:=hb.2.at_ 1 rfl;have ak:=H.lt;obtain⟨v,J,-,E⟩:=hC.it _ hm;rw[ab]at E;have E:Held (eP hs) v w t:=E;obtain⟨A,c,rfl,-⟩:=eP.form E.1;have Y:w.cell? ⟨gp,r.next%R*2,bl⟩=bk (.slice A hs.length c):=by rw[H.2.cell];exact J
 have kJ:=hide (λW (s:Ext w W)=>by
  have am:=eG.keeps _ _ _ _ |>.ext hb s
  have O:=eG.keeps _ _ _ _ |>.ext H s
  have ao:=GX.keeps (i:=i) |>.ext hC s
  have J:=Held.keeps (gg hs) (i+1) _ |>.ext E s
  have hT:=(Turn.ext i t s).tr (Turn.setRow (w:=W) O.1 (l8 d (r.next%R*2) [nS,.bool br]));have af:=Turn.setRow (w:=W) O.1 (l8 d (r.next%R*2) [nS,.bool br]);have ai:=GX.keeps (i:=i+1) |>.turn zO hi (ao.set hm bl _ rfl) af
  have aj:=Held.keeps (gg hs) (i+1) _ |>.turn zO hi J af
  have e:r.take.places=r.places.set (r.next%R) none:=by grind[Rg.take]
  rw[←e]at ai;exact And.intro (am.jo ae (l8 d (r.next%R*2) [nS,.bool br])) (And.intro (O.uE (new:=l8 d (r.next%R*2) [nS,.bool br])) (And.intro ai (And.intro aj (And.intro hT O.2)))))
 have HB:=hide hb;clear hb H hC hl hq ab J E;go_enter func201,ntmps201;go_upto_region 1 with(fail)
 refine vQ 23 (.g ?_);refine ed.iu (r:=.bool br) (bV 4) (bI (bJ bl)) wA oA (eE _) (λρ w s U h2=>by simp[bM,U,h2,go_sem]) (.g ?_);refine ed.gz 242 _ _ rfl (enters_of func242 zR rfl) wA oA (λ_ W hX U=>by cases U;exact GY.out W ((eh _).tr hX)) ?_;refine ed.zQ _ _ _ _ rfl wA oA (eE _) zO (.g ?_);refine ed.call2 153 _ _ _ rfl (enters_of func153 zR rfl) wA oA oA (λ_ _ W hX U h2=>by cases U;cases h2;exact Jr.out W ((eh _).tr hX)) (.g ?_);refine ed.BN _ _ rfl wA oA rfl (.g ?_);intro W1 ah;have s:=(eh w).tr ah;have aa:=(HB.out.2.ext s).at_ 1 rfl;have Y:=(s.cell (p:=⟨gp,r.next%R*2,bl⟩) ak).trans Y;clear ah al;go_upto_region 3 with(fail)
 refine vQ 11 (.g ?_);refine ed.call2 153 _ _ _ rfl (enters_of func153 zR rfl) wA oA oA (λ_ _ W hX U h2=>by cases U;cases h2;exact Jr.out W ((s.tr (eh _)).tr hX)) (.g ?_);intro W3 ag;have s:=(s.tr (eh _)).tr ag;have aa:=(HB.out.2.ext s).at_ 1 rfl;clear ag Y;go_upto_region 4 with(fail)
 refine vQ 10 (.g ?_);refine ed.call2 153 _ _ _ rfl (enters_of func153 zR rfl) wA oA oA (λ_ _ W hX U h2=>by cases U;cases h2;exact Jr.out W ((s.tr (eh _)).tr hX)) ?_;refine ed.LK (r:=.agg #[nS,.bool br]) [] [] wA  ku.nil (λρ w s h=>by simp only[bO]at h;simp[bM,go_sem]<;>rfl) (.g ?_);intro W4 an;have s:=(s.tr (eh _)).tr an;obtain⟨f1,f2,f3,f4,f5,f6⟩:=kJ.out W4 s;have g1:eG i g _ #[.slice (bk ⟨gp,0,bl⟩) R R,iV (r.take.next:Int)] _ t:=f1.gU 1 (iV ((r.next:Int)+1)) _ zR;have g2:=f2.pP ae.symm 1 (iV ((r.next:Int)+1));have T:=Turn.set (w:=W4.setRow gp (l8 d (r.next%R*2) [nS,.bool br])) f1.1 1 (iV ((r.next:Int)+1));have g3:=GX.keeps (i:=i+1) |>.turn zO hi f3 T
 have g4:=Held.keeps (gg hs) (i+1) _ |>.turn zO hi f4 T
 have g5:=f5.tr T;have aq:=f1.2.at_ 1 rfl;have ap:=f1.2.frozen 1;have HF:=hide (And.intro g4 (And.intro (show kh i g R r.take _ t from⟨gp,_,g1,g2,g3⟩) g5));clear f1 f2 f3 f4 f5 g1 g2 g3 g4 g5 T kJ Jr GY HB aa;go_wp2_with(refine eW rfl _ _ _ rfl gp (r.next%R*2) #[nS,.bool br] rfl rfl 276 d f6 zR zG zK (l8 d (r.next%R*2) [nS,.bool br]) rfl ?_)
 exact bP (results_tmp2 results201 _ _ _) rfl ⟨_,rfl,HF.out⟩
end
end
end
section
variable {F:Fence} {n:Nat} {P:cm} {ops:Array b9} {rest:List b9} {o:b9} {a:Act} {w:bh} {Q:Exit→Act→bh→Prop}
theorem qz(Y:o.guard=bl)(s x:cd)(t:bm)
  (ho:o.op=.call { callee:=.builtin .append,args:=#[s,x],argTypes:=#[t,t] })
  (base:Nat)(e:bm)(i:TypeInfo)(z:bj)(size E:Nat)(ht:P.underlying t=bk (.slice e))(hi:P.info? e=bk i)(hz:i.zero=bk z)(hs:i.size=size)(hb:i.bytes=E)(T:z.cells.size=size)(U:0<size)
  (v u:bj)(k m:Nat)(xs d:List bj)(hv:a.eval s=v)(hown:w.ownsRow base e size v k xs)(hl:d.length=m*size)(hu:a.eval x=u)(hx:Src w u m d)(h1:∀y∈d,y.oneCell'=bw)(hlen:(k+m)*(E+1)≤140000000000000)(hbase:base≤w.heap.size)
  (h:∀H J,J.ownsRow base e size H (k+m) (xs++d)→w.grownBy J v.ownBlock→(H.ownBlock=v.ownBlock∨H.ownBlock=bk w.heap.size)→wpListIn F n P ops Q rest (a.put o.dst H) J):wpListIn F n P ops Q (o::rest) a w:=by
 refine wpListIn_plain Y λK hK=>?_;obtain⟨H,J,O,h2,h3,h4⟩:=kE (P:=P) base t o.type e i z size E ht hi hz hs hb T U v u k m xs d hown hl hx h1 hlen hbase;unfold Oper.wpIn;refine⟨by grind[Oper.about,resolve,Target.leads,b0],?_⟩;rw[Oper.semAt_plain F _ _ zG];simp[bM,ho,resolve,invoke,builtin,hv,hu,O,Result.andThen];exact hK _ _ (h H J h2 h3 h4)
end
theorem rE{w O:bh}{base:Nat}{e:bm}{size n:Nat}{v:bj}{xs:List bj}{row:Option Nat}(h:w.ownsRow base e size v n xs)(hg:w.grownBy O row)(Y:∀r,row=bk r→∃o:Obj,w.heap[r]?=bk o∧o.isCells=br):O.ownsRow base e size v n xs:=by
 obtain⟨U,h2⟩:=h;rcases h2 with⟨E,s⟩|⟨g,J,H,E,s,d,h6⟩
 ·exact⟨U,.inl ⟨E,s⟩⟩
 ·refine⟨U,.inr ⟨g,J,H,E,s,?_,h6⟩⟩;refine(hg.block g (bR.1 d).1 ?_).trans d;intro e;obtain⟨o,T,hc⟩:=Y g e.symm;rw[d]at T;cases T;cases hc
theorem iX{w:bh}{base:Nat}{e:bm}{size n:Nat}{v:bj}{xs:List bj}(h:w.ownsRow base e size v n xs)(p:Addr)(E:v.ownBlock≠bk p.block)(u:bj):(w.setCell p u).ownsRow base e size v n xs:=by
 refine⟨h.1,?_⟩;rcases h.2 with O|⟨g,s,d,rfl,J,H,r⟩
 ·grind
 ·exact .inr ⟨g,s,d,rfl,J,(bQ w p u g (λe=>E (by rw[←e];rfl))).trans H,r⟩
theorem qn{w:bh}{base:Nat}{e:bm}{size n:Nat}{v:bj}{xs:List bj}(h:w.ownsRow base e size v n xs)(j:Nat)(o:Obj)(s:v.ownBlock=bk j)(d:w.heap[j]?=bk o):o.isCells=true:=by
 obtain⟨-,J⟩:=h;rcases J with⟨rfl,H⟩|⟨g,T,O,rfl,H,E,U⟩
 ·cases s
 ·cases s;rw[show w.heap[g]?=_ from E]at d;cases d;rfl
theorem iY{w:bh}{base d:Nat}{e:bm}{size n:Nat}{v:bj}{xs:List bj}(h:w.ownsRow base e size v n xs)(J:d≤base):w.ownsRow d e size v n xs:=by
 obtain⟨H,Y|⟨g,E,s,U,T,O⟩⟩:=h
 ·exact⟨H,.inl Y⟩
 ·exact⟨H,.inr ⟨g,E,s,U,bz J T,O⟩⟩
def Quiet{E:Type}(gf:Nat)(lb:AV)(s:E→AV)(xs:List E)(w0:bh):Prop:=
 oD b3 8 bD gf lb s (Below w0.heap.size) Ext (λ_ _=>True) (λH=>H=xs) (λd=>d<+:xs) (λd=>d<+:xs) w0
theorem Quiet.ext{E:Type}{gf:Nat}{lb:AV}{d:E→AV}{xs:List E}{w0 w:bh}(h:Quiet gf lb d xs w0)(T:Ext w0 w) :
  oD b3 8 bD gf lb d (Below w0.heap.size) Ext (λ_ _=>True) (λH=>H=xs) (λs=>s<+:xs) (λs=>s<+:xs) w:=λl J U W O=>h l J U W (T.tr O)
def lH{d:Type}(w:bh)(B:Nat)(E H:bm)(size:Nat)(cl:d→List bj)(pre:List d)(W:bh):Prop:=
 ∃s,Box W w.heap.size E #[s]∧W.ownsRow B H size s pre.length (pre.flatMap cl)∧Ext w W∧B≤W.heap.size
theorem lH.own{O:Type}{w:bh}{B:Nat}{T U:bm}{size:Nat}{cl:O→List bj}(hB:w.heap.size≤B):OwnFrom B (lH w B T U size cl):=λab W W' aa ⟨Y,E,h2,J,h4⟩ d s=>
 ⟨Y,(d.block _ E.lt (by
  intro e;obtain⟨-,o,H,hc⟩:=s _ e.symm;rw[show W.heap[w.heap.size]?=_ from E]at H;cases H;cases hc)).trans E,rE h2 d (λr e=>(s r e).2),mI J d hB (λr e=>s r e) J.size,bz h4 d.size⟩
theorem lH.ext{s:Type}{w:bh}{B:Nat}{E H:bm}{size:Nat}{cl:s→List bj}{pre:List s}{W W':bh}(h:lH w B E H size cl pre W)(d:Ext W W'):lH w B E H size cl pre W':=by
 obtain⟨J,Y,U,T,O⟩:=h;exact⟨J,Y.ext d,fy U d,T.tr d,bz O d.size⟩
structure Js where
 num:Int
 start:Int
 eZ:Int
 tz:Option Addr
 len:Nat
 cap:Nat
 buf:Int
theorem Tryz.Fh:(prog.info? 109).map (λi=>(i.zero,i.size,i.bytes))=bk (bk (.agg #[iV 0,iV 0,iV 0,nS,iV 0]),5,56):=by rfl
section
attribute [local go_sem] b4
theorem Jt(gf:Nat)(lb:AV)(eg:∀J w,(callFunc gf J).run bD w=.ok (.enter gf J) w)(xs:List Int)(w0 w:bh)(hq:Quiet gf lb (λx:Int=>#[iV x]) xs w0)(hE:Ext w0 w)(hlen:xs.length≤100000) :
  bA bD 151 #[nS,.func (.func gf) #[] lb] w (eY w λv w'=>w'.ownsRow w.heap.size 3 1 v xs.length (xs.flatMap λx=>[iV x])):=by
 obtain⟨i0,hi,ai,ah,ag⟩:=info_parts Tryz.K6;have hX:=ek w (.cells #[nS] 28);have ab:=Box.new w 28 #[nS];refine(callsIn_wide (n:=9)).1 ?_;have h1:1≤9:=zO;refine callsIn_of_wp_marks func151 rfl trivial ?_ rfl;simp only[ntmps151,bE,bX,b5,cf,cg,bK,bL,bU,bN,b6,bY];gi_wp2;obtain⟨W0,ae⟩:∃W0,w.alloc (.cells #[nS] 28)=W0:=⟨_,rfl⟩
 rw[ae]at hX ab ⊢;have aq:w.heap.size+1≤W0.heap.size:=by rw[←ae];simp
 have ap:=hE.size;refine mD (F:=b3) rfl h1 (gf:=gf) (lb:=lb) rfl trivial eg (hq.ext (hE.tr hX)) (λa b=>cb a b)
  (λW l o' hl=>fx (Below.refl _ _) zO o')
  (λW Y k an hk al=>an.block k al) (λs W l o' hl hT=>trivial) (λ_=>rfl)
  (lH w W0.heap.size 28 3 1 (λx:Int=>[iV x])) (λ_ _ _=>False) (lH.own zO) (λ_ _ _ _ _ h _ _=>h.elim) (λ_ _ _ h k=>lH.ext h k)
  ⟨_,ab,World.ownsRow_nil _ _ _ _,hX,cc _⟩ (λ_ _ _ h k=>lH.ext h k) (λW Y h k=>h.mono zO) (λx W a Y=>Y=W∧a={ tmps:=#[nS,.func (.func gf) #[] lb,gP w.heap.size,undef,nS,iV x,.func (.func gf) #[] lb,iV x,undef,undef,undef,undef,undef],defers:=[] }) (λx W a Y h=>by grind[Ext.rf]) ?assign ?body ?done ?stop
 case assign=>
  intro l x W K hK;gi_wp2;all_goals exact hK _ _ ⟨rfl,rfl⟩
 case body=>
  rintro l s x W Y _ o ⟨az,rfl⟩ ⟨sv,U,H,hB,af⟩ ar hl hW ak;obtain⟨B1,c1,rfl⟩:=eI H;generalize hV:Y.putObj l o=V at*;have E:Ext V V:=Ext.rf _;generalize aA:V=VV at U H hB af E ⊢;have am:=U.at_ 0 rfl;have T:Ext VV (VV.alloc (.cells #[iV x] 3)):=ek _ _;have HO:=hide (fy H T);have Hb:=hide (U.ext T);have aa:=fk H;have au:s.length+1≤xs.length:=zG;clear U H ak hV;gi_wp2_with (gi_at_builtin;apply qz rfl _ _ 28 rfl W0.heap.size 3 i0 (iV 0) 1 8 underlying28 hi ai ah ag rfl zO (.slice B1 s.length c1) (.slice (bk ⟨VV.heap.size,0,bl⟩) 1 1) s.length 1 (s.flatMap λx=>[iV x]) [iV x])
  case hv=>rfl
  case hown=>exact HO.out
  case hl=>rfl
  case hu=>rfl
  case hx=>exact Src.new _ _ _ _
  case h1=>exact(λy hy=>by simp at hy;subst hy;rfl)
  case hlen=>omega
  case hbase=>simp;omega
  case h=>
   intro v' w' hown d ay;obtain⟨A4,c4,aj⟩:=eI hown;subst aj;have O:=Hb.out.grows d (λe=>absurd (aa _ e) zO);have aw:=O.at_ 0 rfl;have av:=O.frozen 0;gi_wp2;have ao:Value.ownBlock (.slice A4 (s.length+1) c4)≠bk w.heap.size:=λe=>absurd (fk hown _ e) zO;have ad:∀k,Value.ownBlock (.slice B1 s.length c1)=bk k→w.heap.size≤k:=λk hk=>bz zO (aa k hk);refine⟨(((KeepsOthers.of_grownBy (gZ E) (λj o e _=>by cases e)).trans (KeepsOthers.alloc VV _)).trans ((KeepsOthers.of_grownBy d (qn HO.out)).trans (KeepsOthers.setCell _ _ _))).from _,Below.setCell (p:=⟨w.heap.size,0,bl⟩) (((E.tr T).mono zO).grown d (by rw[bG];omega) (λk hk=>bz zO (ad k hk))) zO _,?_⟩;refine⟨_,O.eL 0 _,?_,((jB (hB.tr E) d ad).setCell (p:=⟨w.heap.size,0,bl⟩) (cc _) _),?_⟩
   ·grind[bB,iX]
   ·have:=d.size;grind[bG,ch,Array.size_setIfInBounds]
 case done=>
  rintro D ys W hD rfl-⟨sv,U,H,hB,af⟩ hK;obtain⟨B1,c1,rfl⟩:=eI H;have am:=U.at_ 0 rfl;gi_wp2;refine⟨by simp,.inl ⟨_,_,rfl,run_takeDeferred hK,?_⟩⟩;refine⟨.slice B1 ys.length c1,by simp[results,results151],?_⟩;exact eY.mk (hB.trans (fx (Below.refl _ _) zO _)) (iY (rE H (grownBy_putObj' W D _) (λr e=>by cases e;exact⟨_,hK,rfl⟩)) zO)
 grind
theorem zl(gf:Nat)(lb:AV)(O:∀d w,(callFunc gf d).run bD w=.ok (.enter gf d) w)(xs:List Int)(w0 w:bh)(E:Quiet gf lb (λx:Int=>#[iV x]) xs w0)(J:Ext w0 w)(hlen:xs.length≤100000) :
  bA bD 92 #[.func (.func gf) #[] lb] w (eY w λv T=>T.ownsRow w.heap.size 3 1 v xs.length (xs.flatMap λx=>[iV x])):=by
 have H:=hide (Jt gf lb O xs w0 w E J hlen);clear E J O;go_enter func92,ntmps92;go_wp2_with fail;refine H.out.mono ?_;rintro _ Y ⟨v,rfl,s,U⟩;clear H;go_wp2;go_ret;exact eY.mk s U
end
section
attribute [local go_sem] b4
def ig(r:Rg)(k:Nat):List Int:=(((bo k).map (r.next+·)).filter λn=>(r.at_ n).isSome).map λn:Nat=>(n:Int)
theorem wY(r:Rg)(k:Nat):ig r (k+1)=ig r k++if(r.at_ (r.next+k)).isSome then [((r.next+k:Nat):Int)]else []:=by
 unfold ig;rw[b7,b8,List.filter_append,b8];congr 1;simp only[bH,bO,List.filter_cons,List.filter_nil];grind
theorem zm(r:Rg):∀{k R:Nat},k≤R→ig r k<+:ig r R
 |k,0,h=>by grind
 |k,R+1,h=>by
  rcases Nat.lt_or_ge k (R+1)with h1|h1
  ·exact(zm r (show k≤R by omega)).trans (by rw[wY];exact List.prefix_append _ _)
  ·obtain rfl:k=R+1:=zO;exact List.prefix_rfl
theorem Ju(r:Rg)(k:Nat):(ig r k).length≤k:=by
 grind[ig,List.length_map,bz,List.length_filter_le]
theorem Fi(i g R b1 b2:Nat)(r:Rg)(w0:bh)(t:ez)(h:kh i g R r w0 t)(hx:r.next≤3000000000)
  (ah:Box w0 b1 274 #[gP g])(ag:Box w0 b2 3 #[iV (r.next:Int)]) :
  Quiet 152 #[gP b1,gP b2] (λx:Int=>#[iV x]) (ig r R) w0:=by
 intro l J Jx W hE hJ hY h0;have hl:=h.len;obtain⟨gp,an,hb,U,hC⟩:=h;have ab:=hC.lo;have ak:=hC.hi;have I1:=hide (λ(x:Nat)=>by
  have hm:(r.next+x)%R<R:=bC _ ab;exact(show w0.cell? ⟨gp,(r.next+x)%R*2+1,bl⟩=bk (.bool (r.at_ (r.next+x)).isSome) by rw[U.2.cell,hC.cell hm];grind[Rg.at_]))
 have H:=hide hE;have ae:=U.lt;clear hE hl hC U;refine callsIn_of_wp func152 rfl trivial ?_ rfl;simp only[ntmps152,bE,bX,b5,cf,cg,bK,bL,bU,bN,b6,bY];have am:=(hb.2.ext H.out).at_ 0 rfl;have al:=(ah.ext H.out).at_ 0 rfl;gi_wp2;clear am al
 gi_loopw [10] (λv wr=>∃(x:Nat),x≤R∧v=iV x∧Hid (J (ig r x) wr)∧Hid (Ext w0 wr))
  (λv _=>R-(intOf v).toNat)
 case atStart=>exact⟨0,cp _,rfl,h0,H⟩
 case round=>
  clear H h0;obtain⟨x,aq,rfl,HJ,H⟩:=hrel;have au:=(ah.ext H.out).at_ 0 rfl;have af:=(ag.ext H.out).at_ 0 rfl;by_cases ar:x<R
  ·have aa:(x:Int)<(R:Int):=zO;have S0:=hide (show((r.next:Int)+(x:Int))=((r.next+x:Nat):Int) by omega);have Jr:=hide (sL (hb.2.ext H.out) ab ak (r.next+x) zO);have GQ:=hide (wY r x);cases hq:(r.at_ (r.next+x)).isSome
   ·have d:=λW (hX:Ext wr W)=>((H.out.tr hX).cell (p:=⟨gp,(r.next+x)%R*2+1,bl⟩) ae).trans (I1.out x);rw[hq]at d;have QT:=hide d;have T:=HJ.out;have E:=GQ.out;rw[hq,if_neg zS,List.append_nil]at E;rw[←E]at T;have HJ2:=hide T;clear E GQ T d hq;gi_wp2_with (refine⟨trivial,?_⟩;gi_at_call 153;rw[S0.out];refine(callsIn_wide.2 Jr.out).mono ?_;rintro e w2 ⟨u,rfl,s,rfl⟩;have d:=QT.out w2 s)
    have ay:=hide (H.out.tr s);have av:=hide (hJ _ _ _ HJ2.out s);clear d s;gi_wp2;refine⟨λ_ h=>(by cases h),?_⟩;gi_wp2
    go_roundw
    case rel=>grind
    case measure=>grind[intOf]
   ·have d:=λW (hX:Ext wr W)=>((H.out.tr hX).cell (p:=⟨gp,(r.next+x)%R*2+1,bl⟩) ae).trans (I1.out x);rw[hq]at d;have QT:=hide d;have E:=GQ.out;rw[hq,if_pos rfl]at E;have O:ig r x++[((r.next+x:Nat):Int)]<+:ig r R:=by grind[zm]
    have HY:=hide (λW (T:J (ig r x) W)=>hY _ _ W T O);have lB:=hide O;have SR:=hide E;have Hd2:=hide (λW (hX:Ext wr W)=>(ag.ext (H.out.tr hX)).at_ 0 rfl);clear E GQ d hq O;gi_wp2_with (refine⟨trivial,?_⟩;gi_at_call 153;rw[S0.out];refine(callsIn_wide.2 Jr.out).mono ?_;rintro e w2 ⟨u,rfl,s,rfl⟩;have d:=QT.out w2 s;have af:=Hd2.out w2 s;obtain⟨fn,ao,aj,ap,hy,hR⟩:=HY.out w2 (hJ _ _ _ HJ.out s);rw[←S0.out]at hy)
    refine hR.mono ?_;rintro e W4 ⟨ad,(⟨rfl,Y⟩|⟨rfl,ai⟩)⟩
    ·have aw:Hid (Ext w0 W4):=by show Ext w0 W4;exact cb (H.out.tr s) ad
     rw[←SR.out]at Y;have uc:=hide Y;clear ad hy hR Y d af s;gi_wp2
     go_roundw
     case rel=>grind
     case measure=>grind[intOf]
    ·have uc:=hide ai;gi_wp2;exact bP (results_none results152 _ _ _) rfl ⟨⟨_,rfl⟩,.inr ⟨_,lB.out,trivial,uc.out⟩⟩
  ·have aa:¬(x:Int)<(R:Int):=zO;obtain rfl:x=R:=zO;have HJ2:=HJ.out;gi_wp2
   go_end0
   grind
theorem Fj(g:Nat)(z:Int)(w:bh):bA bD 93 #[gP g,iV z] w λe d=>e=.returned (.func (.func 152) #[] #[gP w.heap.size,gP (w.heap.size+1)])∧d=(w.alloc (.cells #[gP g] 274)).alloc (.cells #[iV z] 3):=by
 go_enter func93,ntmps93;go_wp2;go_ret;simp_all
section
variable {i g R:Nat} {r:Rg} {w:bh} {t:ez}
def jv(w:bh)(base:Nat)(v:bj)(d:List Int):Prop:=w.ownsRow base 3 1 v d.length (d.map (Value.int .i64))
theorem C3(d:List Int):(d.flatMap λx=>[iV x])=d.map (Value.int .i64):=by
 induction d with
 |nil=>rfl
 |cons n d s=>grind
theorem jv.ints{w:bh}{base:Nat}{v:bj}{d:List Int}(h:jv w base v d):eQ d v w:=lP.ints h
attribute [local irreducible] ew ed in
theorem lp(h:kh i g R r w t)(hx:r.next≤3000000000):bA bD 45 #[gP g] w (eY w λv w'=>jv w' w.heap.size v (ig r R)):=by
 have h0:=h;obtain⟨gp,O,U,-,Y⟩:=h;have E:=U.2.at_ 1 rfl;have aa:=Y.hi;have HQ:=hide (λ(W:bh) (s:Ext w W)=>by
  have hX:=(ek W (.cells #[gP g] 274)).tr (ek _ (.cells #[iV (r.next:Int)] 3));have d:=Box.new (W.alloc (.cells #[gP g] 274)) 3 #[iV (r.next:Int)];rw[bG]at d;have hq:=Fi i g R W.heap.size (W.heap.size+1) r _ t (kh.keeps.ext h0 (s.tr hX)) hx ((Box.new W _ _).alloc _) d;exact zl 152 _ (enters_of func152 zR rfl) _ _ _ hq (Ext.rf _) (by grind[Ju]))
 clear U Y h0;go_enter func45,ntmps45;go_upto_region 3 with(fail)
 refine vQ 7 (.g ?_);intro W3 J;have s:=(eh w).tr J;have HC:=hide (HQ.out W3 s);clear HQ E;go_wp2_with(go_at_call 93;refine(Fj _ _ _).mono ?_;rintro _ _ ⟨rfl,rfl⟩)
 refine HC.out.mono ?_;rintro _ w4 ⟨v,rfl,H,T⟩;clear HC;go_wp2;go_ret;rw[C3]at T;exact eY.mk (s.tr (((ek _ _).tr (ek _ _)).tr H)) (iY T (by have:=s.size;simp;omega))
theorem C4(_:i≠0)(h:kh i g R r w t)(hx:r.next≤3000000000):bA bD 205 #[gP g] w λe w'=>(∃u,e=.returned u)∧kh i g R r.clear w' t∧Turn i w t w' t:=by
 have HN:=hide (lp h hx);have hl:=h.len;obtain⟨O,ab,hb,s,J⟩:=h;have U:g≠O:=hb.ne s zD;have Y:=J.ud;have T:=J.lo;have kJ:=hide (λW (hE:Ext w W)=>by
  have E:=eG.keeps _ _ _ _ |>.ext hb hE
  have d:=eG.keeps _ _ _ _ |>.ext s hE
  have hT:=(Turn.ext i t hE).tr (Turn.setRow (w:=W) d.1 (madeCells #[nS,.bool br] (R*2)));have hq:kh i g R r.clear (W.setRow O (madeCells #[nS,.bool br] (R*2))) t:=⟨O,_,E.jo U _,d.uE,by
   refine⟨bx _ _,by grind[Rg.clear,List.length_replicate],T,J.hi,λk hk=>⟨nS,?_,?_,?_⟩⟩
   ·grind[gX]
   ·grind[gX,Rg.clear,ca]
   ·have e:(r.clear.places.getD k bl)=none:=by grind[Rg.clear]
    rw[e];rfl⟩
  exact And.intro (And.intro hq hT) (And.intro d.2 (E.2.at_ 0 rfl)))
 clear hb s J hl;go_enter func205,ntmps205;go_wp2_with fail;refine HN.out.mono ?_;rintro _ w2 ⟨v,rfl,H,ho⟩;obtain⟨A,c,rfl⟩:=eI ho;obtain⟨hF,aa,ad⟩:=kJ.out w2 H;have HF:=hide hF;clear HN kJ hF ho H;go_wp2_with(refine oc rfl 192 276 _ rfl (.agg #[nS,.bool br]) ck Tryz.QR (by simp[Value.cells];decide) zD O R R rfl _ _ zO aa Y ?_)
 go_ret;exact⟨⟨_,rfl⟩,HF.out⟩
theorem Jv(i:Nat)(t:ez)(hl:1≤R)(hh:R≤16):bA bD 85 #[iV R] w λe T=>∃g,e=.returned (.tuple #[gP g,iV 0])∧Ext w T∧w.heap.size≤g∧kh i g R ⟨List.replicate R bl,0⟩ T (t.up w.heap.size i):=by
 obtain⟨U,E,s,d,J⟩:=info_parts Tryz.QS;have Y:∀w:bh,(Instr.makeSlice 192 (iV R) (iV R)).run bD w=.ok (.slice (bk ⟨w.heap.size,0,bl⟩) R R) (w.alloc (.cells (madeCells #[nS,.bool br] (R*2)) 276)):=λw=>by
  have h:=run_make (P:=bD) w 192 276 U _ ck E s .i64 .i64 R R zO (Int.le_refl _) zG zO;rw[d]at h;simp only[Int.toNat_natCast]at h;exact h
 have h1:¬(R:Int)<1:=zO;have h2:¬(16:Int)<R:=zO;clear s d J E;go_enter func85,ntmps85;go_wp2;have O:=(Box.new w 276 (madeCells #[nS,.bool br] (R*2))).alloc (.cells #[.slice (bk ⟨w.heap.size,0,bl⟩) R R,iV 0] 196);have H:=Box.new (w.alloc (.cells (madeCells #[nS,.bool br] (R*2)) 276)) 196 #[.slice (bk ⟨w.heap.size,0,bl⟩) R R,iV 0];rw[bG]at H;refine bP (results_tmp2 results85 _ _ _) rfl ⟨w.heap.size+1,rfl,(ek _ _).tr (ek _ _),by omega,w.heap.size,_,⟨ez.fJ zO,H⟩,⟨ez.fJ (cc _),O⟩,?_⟩;have e:∀k,((List.replicate R (bl:Option Hits)).getD k bl)=none:=λk=>by grind
 refine⟨bx _ _,by simp,hl,hh,λk hk=>⟨nS,?_,?_,?_⟩⟩
 ·grind[gX]
 ·grind[gX,ca]
 ·rw[e];rfl
end
end
section
variable {P:cm} {Q:Exit→Act→bh→Prop} {ops:Array b9} {M m:Nat} {a0:Act} {w0:bh} {K:List b9→List VP→Prop} {o:b9} {rest:List b9} {env:List VP}
theorem ed.Mq{A:Option Addr}{n c:Nat}(t e:bm)(x y:cd)(k:IntKind)(hi:Nat)(E:o.op=.slice t x bl (bk y) bl)(hu:P.underlying t=bk (.slice e))(Y:(P.info? e).isSome=bw)
  (U:Want ops M a0 w0 env o bw)(hx:fu ops M a0 w0 env o x (eC (.slice A n c)))(T:fu ops M a0 w0 env o y (eC (.int k (hi:Int))))(H:hi≤c)(hA:c=0∨∃b d,A=bk ⟨b,d,bl⟩)
  (hr:ed P Q ops M a0 w0 K m rest (eC (.slice A hi c)::env)):ed P Q ops M a0 w0 K (m+1) (o::rest) env:=
 .iu x y U hx T (λρ w _ O J=>by
  cases s:P.info? e with
  |none=>grind
  |some ie=>
   unfold bM;rcases hA with rfl|⟨b,d,rfl⟩
   ·simp[E,O,J,Instr.sliceAt,Instr.slice,Instr.sliceBounds,Instr.sliceBound,asIntOf,bF hu,sizeOf,typeInfo,s,H]
   ·simp[E,O,J,Instr.sliceAt,Instr.slice,Instr.sliceBounds,Instr.sliceBound,asIntOf,bF hu,sizeOf,typeInfo,s,H,addr_add]) hr
end
structure qA(i R:Nat)(data:LL)(cells:AV)(w:bh)(t:ez):Prop where
 ud:cells.size=R
 len:data.length=R
 it:∀k,k<R→∃v,cells[k]?=bk v∧eO i 5 1 v (data.getD k []).length ((data.getD k []).map ff) w t
 sep:∀j k v u,j<R→k<R→j≠k→cells[j]?=bk v→cells[k]?=bk u→∀b,v.ownBlock=bk b→u.ownBlock≠bk b
section
variable {i R:Nat} {data:List (List UInt8)} {cells:Array bj} {w w':bh} {t t':ez}
theorem qA.keeps:fh i (qA i R data cells):=λw t w' t' h d E=>
 ⟨h.ud,h.len,λk s=>by obtain⟨v,J,H⟩:=h.it k s;exact⟨v,J,eO.keeps _ _ _ _ _ _ w t w' t' H d E⟩,h.sep⟩
theorem qA.grown{row:Option Nat}(h:qA i R data cells w t)(J:w.grownBy w' row)(d:∀k v,k<R→cells[k]?=bk v→∀b,v.ownBlock=bk b→row≠bk b)(H:∀k,k<w.heap.size→t' k=t k):qA i R data cells w' t':=
 ⟨h.ud,h.len,λk s=>by obtain⟨v,E,O⟩:=h.it k s;exact⟨v,E,O.grown J (d k v s E) H⟩,h.sep⟩
theorem qA.set(h:qA i R data cells w t){n:Nat}(J:n<R)(bs:L8)(v:bj)(hv:eO i 5 1 v bs.length (bs.map ff) w t)(hs:∀k u,k<R→k≠n→cells[k]?=bk u→∀b,v.ownBlock=bk b→u.ownBlock≠bk b):qA i R (data.set n bs) (cells.setIfInBounds n v) w t:=by
 have Y:=h.ud;refine⟨by grind,by simpa using h.len,λk d=>?_,λj k x y O d s H E b T=>?_⟩
 ·rw[my _ _ _ _ _ (by rw[h.len];exact J)];by_cases e:k=n
  ·grind
  ·rw[if_neg e,bu (Ne.symm e)];exact h.it k d
 ·by_cases e:j=n
  ·grind
  ·rw[bu (Ne.symm e)]at H;by_cases U:k=n
   ·grind
   ·rw[bu (Ne.symm U)]at E;exact h.sep j k x y O d s H E b T
end
def ft(i g R size:Nat)(b:Buf)(w:bh)(t:ez):Prop:=
 ∃(E H:Nat) (s:bj) (d:AV),eG i g 207 #[s,iV size,.slice (bk ⟨E,0,bl⟩) R R,.slice (bk ⟨H,0,bl⟩) R R] w t∧
  eO i 3 1 s b.free.length (b.free.map λn:Nat=>iV n) w t∧eG i E 4 (b.used.map Value.bool).toArray w t∧eG i H 43 d w t∧qA i R b.data d w t∧b.used.length=R∧b.free.length≤16∧1≤R∧R≤16
theorem ft.keeps{i g R size:Nat}{b:Buf}:fh i (ft i g R size b):=by
 rintro w t s E ⟨gu,gd,O,d,h1,h2,h3,Y,U,T⟩ H J;exact⟨gu,gd,O,d,eG.keeps _ _ _ _ w t s E h1 H J,eO.keeps _ _ _ _ _ _ w t s E h2 H J,eG.keeps _ _ _ _ w t s E h3 H J,eG.keeps _ _ _ _ w t s E Y H J,qA.keeps w t s E U H J,T⟩
section
variable {i g R size:Nat} {b:Buf} {w:bh} {t:ez}
theorem Jw(h:ft i g R size b w t):bA bD 95 #[gP g] w (eB w (eC (iV (b.free.length:Int)))):=by
 obtain⟨O,T,J,d,E,s,-⟩:=h;obtain⟨A,c,rfl⟩:=s.form;have H:=E.2.at_ 0 rfl;clear E s;go_enter func95,ntmps95;go_wp2;go_ret;exact eB.mk (Ext.rf _) rfl
theorem Jy(h:ft i g R size b w t):bA bD 48 #[gP g] w (eB w (eC (iV (b.free.length:Int)))):=by
 have s:=hide (Jw h);clear h;go_enter func48,ntmps48;go_wp2_with fail;refine s.out.mono ?_;rintro _ E ⟨u,rfl,d,rfl⟩;go_wp2;go_ret;exact eB.mk d rfl
theorem wZ(h:ft i g R size b w t)(n:Nat)(hn:n<R):bA bD 244 #[gP g,iV n] w (eB w (eC (.bool (b.used.getD n br)))):=by
 obtain⟨U,gd,Y,s,H,J,E,-,-,d,-⟩:=h;have T:=H.2.at_ 2 rfl;have O:w.cell? ⟨U,n,bl⟩=bk (.bool (b.used.getD n br)):=by
  rw[E.2.cell n];grind
 have h2:(n:Int)<(R:Int):=zO;clear H J E d;generalize b.used.getD n br=q at*;go_enter func244,ntmps244;go_wp2;go_ret;exact eB.mk (Ext.rf _) rfl
theorem Tryz.tB:(prog.info? 5).map (λi=>(i.zero,i.size,i.bytes))=bk (bk (.int .u8 0),1,1):=by rfl
theorem zn(h:ft i g R size b w t)(n:Nat)(hl:b.free.length<16):bA bD 128 #[gP g,iV n] w λe H=>(∃u,e=.returned u)∧∃J,ft i g R size ⟨b.free++[n],b.used,b.data⟩ H J∧Turn i w t H J:=by
 obtain⟨gu,gd,vf,ae,hb,hf,hu,hd,hD,aj,hr⟩:=h;obtain⟨i0,hi,ai,ah,ag⟩:=info_parts Tryz.K6;have hX:=ek w (.cells #[iV n] 3);obtain⟨A,c,rfl⟩:=hf.form;have ap:=hb.2.at_ 0 rfl;have aa:=eG.keeps _ _ _ _ |>.ext hb hX
 have E:=eO.keeps _ _ _ _ _ _ |>.ext hf hX
 have T:=eG.keeps _ _ _ _ |>.ext hu hX
 have Y:=eG.keeps _ _ _ _ |>.ext hd hX
 have ad:=qA.keeps.ext hD hX;clear hb hf hu hd hD;go_enter func128,ntmps128;go_wp2_with(at_builtin;apply fi rfl _ _ 28 rfl i t 3 i0 (iV 0) 1 8 underlying28 hi ai ah ag rfl zO (.slice A b.free.length c) (.slice (bk ⟨w.heap.size,0,bl⟩) 1 1) b.free.length 1 (b.free.map λn:Nat=>iV n) [iV n])
 case hv=>rfl
 case hown=>exact E
 case hl=>rfl
 case hu=>rfl
 case hx=>exact Src.new _ _ _ _
 case h1=>exact(λy hy=>by rw[List.mem_singleton]at hy;subst hy;rfl)
 case hlen=>omega
 case h=>
  intro v' H J hown ht d am;have ht:∀k,k<(w.alloc (.cells #[iV n] 3)).heap.size→J k=t k:=by simp_all
  obtain⟨A4,c4,rfl⟩:=hown.form;have hT:=(Turn.ext i t hX).tr (Turn.lG (i:=i) d (λk hk=>(E.at_ hk).1) ht);have s:=aa.grown d (eH aa E zD) ht;have O:=T.grown d (eH T E zD) ht;have U:=Y.grown d (eH Y E zD) ht;have ab:=ad.grown d (λk v hk hv b hb=>by obtain⟨v',h1,h2⟩:=ad.it k hk;grind[wW]) ht;have ak:=s.far' O (.inr zD);have al:=s.far' U (.inr zD);have af:=Turn.set (w:=H) s.1 0 (.slice A4 (b.free.length+1) c4);have ao:=s.2.at_ 0 rfl;have an:=s.2.frozen 0;have HF:=hide (show∃J,ft i g R size ⟨b.free++[n],b.used,b.data⟩ (H.setCell ⟨g,0,bl⟩ (.slice A4 (b.free.length+1) c4)) J∧Turn i w t (H.setCell ⟨g,0,bl⟩ (.slice A4 (b.free.length+1) c4)) J from
   ⟨J,⟨gu,gd,_,ae,s.gU 0 _ _ rfl,by
    rw[bB,b8];exact hown.grown (row:=bk g) (eM (bS H _) 0 _) (λk hk e=>eH s hown zD zG) (λ_ _=>rfl),O.pP ak.symm 0 _,U.pP al.symm 0 _,ab.grown (row:=bk g) (eM (bS H _) 0 _) (λk v hk hv b hb e=>by
     obtain⟨v',h1,h2⟩:=ab.it k hk;grind[eH]) (λ_ _=>rfl),aj,by grind,hr.2⟩,hT.tr af⟩)
  clear s O U ab hT af hown d am E aa T Y ad hX hr;go_wp2
  go_end0
  exact⟨⟨_,rfl⟩,HF.out⟩
end
end Go.Proofs.YtofgfpffcegioaaGreat
