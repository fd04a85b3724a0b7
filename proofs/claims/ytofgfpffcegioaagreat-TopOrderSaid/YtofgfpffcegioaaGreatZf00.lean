/- A part of the proof. -/
import Derived.Test.YtofgfpffcegioaaGreatZfM
set_option maxRecDepth 100000
set_option maxHeartbeats 8000000
namespace Go.Proofs.YtofgfpffcegioaaGreat.iT
def gy(c:UInt8):UInt8:=if 65≤c.toNat∧c.toNat≤90 then UInt8.ofNat (c.toNat+32)else c
def folds(bs:List UInt8):List UInt8:=bs.map gy
def gM(d:Bool)(a b:List UInt8):Bool:=if d then decide (folds a=folds b)else decide (a=b)
def jd(d:Bool)(text:List UInt8):Nat→List (List UInt8)→Int
 |_,[]=>-1
 |i,w::ws=>if gM d text w then i else jd d text (i+1) ws
def which(d:Bool)(text:List UInt8)(ws:List (List UInt8)):Int:=jd d text 0 ws
theorem D2(c:UInt8):gy (gy c)=gy c:=by
 unfold gy;split
 ·rename_i h;have d:(UInt8.ofNat (c.toNat+32)).toNat=c.toNat+32:=by rw[UInt8.toNat_ofNat'];omega
  grind
 ·rfl
theorem D3(bs:List UInt8):folds (folds bs)=folds bs:=by
 grind[folds,List.map_map,List.map_congr_left,D2]
theorem ky(bs:List UInt8):(folds bs).length=bs.length:=by simp[folds]
theorem D4(d:Bool)(a b:List UInt8):gM d a b=gM d b a:=by
 simp_all[gM,eq_comm]
theorem zI{d:Bool}{a b:List UInt8}(h:gM d a b=true):a.length=b.length:=by
 unfold gM at h;split at h
 ·have:=congrArg List.length (of_decide_eq_true h);grind[ky]
 grind
def R8(d:Bool)(x y:UInt8):Bool:=if d then decide (gy x=gy y)else decide (x=y)
theorem D5(d:Bool)(x y:UInt8)(a b:List UInt8):gM d (x::a) (y::b)=(R8 d x y&&gM d a b):=by
 grind[gM,R8,folds]
theorem Hj(d:Bool):gM d [] []=true:=by grind[gM]
end Go.Proofs.YtofgfpffcegioaaGreat.iT
namespace Go.Proofs.YtofgfpffcegioaaGreat.jH
open iT
def textF(d:Bool)(w:List UInt8):List UInt8:=if d then folds w else w
theorem kz(d:Bool)(w:List UInt8):(textF d w).length=w.length:=by grind[textF,ky]
theorem D6(d:Bool)(w:List UInt8):textF d (textF d w)=textF d w:=by grind[textF,D3]
theorem Bx(d:Bool)(a b:List UInt8):gM d a b=decide (textF d a=textF d b):=by grind[gM,textF]
def fN:List UInt8→List UInt8→Nat
 |x::a,y::b=>if x=y then fN a b+1 else 0
 |[],_=>0
 |_::_,[]=>0
theorem uM:∀a b:List UInt8,fN a b≤a.length∧fN a b≤b.length
 |[],b=>by simp[fN]
 |x::a,[]=>by simp[fN]
 |x::a,y::b=>by
  have h:=uM a b;unfold fN;split<;>simp<;>omega
theorem oq:∀(a b:List UInt8) (n:Nat),(∀(i:Nat) (h:i<a.length) (d:i<b.length),i<n→a[i]=b[i])→n≤a.length→n≤b.length→(∀(h:n<a.length) (d:n<b.length),a[n]≠b[n])→fN a b=n
 |[],b,n,_,h,_,_=>by grind[fN]
 |x::a,[],n,_,_,d,_=>by grind[fN]
 |x::a,y::b,0,_,_,_,h3=>by
  simp_all[fN]
 |x::a,y::b,n+1,h0,h,d,h3=>by
  have e:=h0 0 (by simp) (by simp) (by omega);unfold fN;rw[if_pos (by grind),oq a b n (λi p q r=>by grind) (by grind) (by grind) (λp q=>by grind)]
def jy(d:Bool)(w:List UInt8):List (List UInt8)→Nat
 |[]=>0
 |u::us=>max (fN (textF d w) (textF d u)) (jy d w us)
def mY(d:Bool)(w:List UInt8):Nat→List (List UInt8)→Nat
 |n,[]=>n
 |n,u::us=>mY d w (max n (fN (textF d w) (textF d u))) us
theorem tF(d:Bool)(w:List UInt8):∀(h:List (List UInt8)) (n:Nat),mY d w n h=max n (jy d w h)
 |[],n=>by simp[mY,jy]
 |u::h,n=>by
  unfold mY jy;rw[tF d w h];omega
def ga(d:Bool):Nat→List (List UInt8)→List (List UInt8)→Nat
 |n,_,[]=>n
 |n,pre,w::ws=>ga d (n+(w.length-jy d w pre)) (pre++[w]) ws
def fj(d:Bool)(ws:List (List UInt8)):Nat:=ga d 1 [] ws
theorem ot(h:Bool):∀(s d:List (List UInt8)) (n:Nat),ga h n d s≤n+s.flatten.length
 |[],d,n=>by simp[ga]
 |w::s,d,n=>by
  unfold ga;have:=ot h s (d++[w]) (n+(w.length-jy h w d));rw[List.flatten_cons,List.length_append];omega
theorem rL(h:Bool):∀(s d:List (List UInt8)) (n:Nat),n≤ga h n d s
 |[],d,n=>by simp[ga]
 |w::s,d,n=>by
  unfold ga;have:=rL h s (d++[w]) (n+(w.length-jy h w d));omega
def fX(d:Bool)(ws:List (List UInt8)):Int:=
 if ws.length=0 then 50 else if 64<ws.length then 51 else if∃w∈ws,w=[]then 52 else if∃w∈ws,32<w.length then 53 else if 600<ws.flatten.length then 54 else if 400<fj d ws then 55 else 0
def fp(d:Bool):List (List UInt8)→List (List UInt8)→List (List UInt8)
 |acc,[]=>acc
 |acc,w::ws=>fp d (if which d w acc<0 then acc++[textF d w]else acc) ws
def iF(d:Bool)(ws:List (List UInt8)):Bool×List (List UInt8)×Int:=
 if fX d ws=0 then(d,fp d [] ws,0)else(false,[],fX d ws)
def eS(d:Bool)(ws:List (List UInt8)):Bool:=decide (fX d ws=0)&&decide (fp d [] ws=ws)
theorem lW{d:Bool}{ws:List (List UInt8)}(h:eS d ws=true):fX d ws=0:=by
 simp_all[eS,Bool.and_eq_true,of_decide_eq_true]
theorem nJ{d:Bool}{ws:List (List UInt8)}(h:fX d ws=0):ws.length≠0∧ws.length≤64∧(∀w∈ws,w≠[])∧(∀w∈ws,w.length≤32)∧ws.flatten.length≤600∧fj d ws≤400:=by
 unfold fX at h;split at h
 ·omega
 split at h
 ·omega
 split at h
 ·omega
 split at h
 ·omega
 grind
end Go.Proofs.YtofgfpffcegioaaGreat.jH
namespace Go.Proofs.YtofgfpffcegioaaGreat.jH
open iT
def gv(d:Bool)(c:UInt8):UInt8:=if d then gy c else c
theorem Ht(d:Bool)(w:List UInt8):textF d w=w.map (gv d):=by
 unfold textF gv folds;cases d<;>simp
def kj(d:Bool)(w:List UInt8):List (Bool×UInt8):=w.zipIdx.map λx=>(x.2==0,gv d x.1)
def qu(d:Bool)(ws:List (List UInt8)):List (Bool×UInt8):=(ws.map (kj d)).flatten
theorem kA(d:Bool)(w:List UInt8):(kj d w).length=w.length:=by simp[kj]
theorem ym(d:Bool)(w:List UInt8)(j:Nat)(h:j<(kj d w).length)(s:j<w.length):(kj d w)[j]=(j==0,gv d w[j]):=by simp[kj]
theorem By(d:Bool)(ws:List (List UInt8)):(qu d ws).length=ws.flatten.length:=by
 grind[qu,List.length_flatten,List.map_map,List.map_congr_left,kA]
abbrev Tab:=List ((Nat×UInt8)×Nat)
def lu(l:Tab)(k:Nat×UInt8):Option Nat:=(l.find? λx=>x.1==k).map (·.2)
abbrev No:=Nat×Nat×Tab
def mZ(st:No)(x:Bool×UInt8):No:=
 match lu st.2.2 (if x.1 then 0 else st.2.1,x.2)with
 |some j=>(st.1,j,st.2.2)
 |none=>(st.1+1,st.1,st.2.2++[((if x.1 then 0 else st.2.1,x.2),st.1)])
def lK(st:No)(xs:List (Bool×UInt8)):No:=xs.foldl mZ st
theorem yn(st:No)(xs:List (Bool×UInt8))(x:Bool×UInt8):lK st (xs++[x])=mZ (lK st xs) x:=by grind[lK]
theorem Bz(st:No)(xs d:List (Bool×UInt8)):lK st (xs++d)=lK (lK st xs) d:=by simp[lK,List.foldl_append]
theorem Kx(st:No)(x:Bool×UInt8):(mZ st x).1≤st.1+1∧st.1≤(mZ st x).1∧(mZ st x).2.2.length+1=st.2.2.length+1+((mZ st x).1-st.1):=by
 grind[mZ]
theorem Nw(st:No)(xs:List (Bool×UInt8)):(lK st xs).1≤st.1+xs.length∧(lK st xs).2.2.length≤st.2.2.length+xs.length:=by
 induction xs generalizing st with
 |nil=>simp[lK]
 |cons x xs d=>
  grind[mZ,Kx,lK,List.length_cons]
structure xQ(P:List (List UInt8))(l:Tab):Prop where
 h0:P[0]?=some []
 nd:P.Nodup
 ok:∀i c j,((i,c),j)∈l→∃x,P[i]?=some x∧P[j]?=some (x++[c])
 full:∀(j:Nat) (x:List UInt8),P[j]?=some x→x≠[]→∃i c,((i,c),j)∈l
theorem D7{l:Tab}{k:Nat×UInt8}{j:Nat}(h:lu l k=some j):(k,j)∈l:=by
 unfold lu at h;obtain⟨x,s,d⟩:=Option.map_eq_some_iff.1 h;grind
theorem D8{l:Tab}{k:Nat×UInt8}(h:lu l k=none)(j:Nat):(k,j)∉l:=by
 grind[lu,Option.map_eq_none_iff,List.find?_eq_none]
theorem Hu{P:List (List UInt8)}(h:P.Nodup){i j:Nat}{x:List UInt8}(hi:P[i]?=some x)(d:P[j]?=some x):i=j:=by
 grind[List.getElem?_eq_some_iff,List.getElem_inj]
theorem xQ.found{P:List (List UInt8)}{l:Tab}(h:xQ P l){i j:Nat}{c:UInt8}{x:List UInt8}(s:P[i]?=some x)(d:lu l (i,c)=some j):P[j]?=some (x++[c]):=by
 obtain⟨y,H,E⟩:=h.ok i c j (D7 d);grind
theorem xQ.missed{P:List (List UInt8)}{l:Tab}(h:xQ P l){i:Nat}{c:UInt8}{x:List UInt8}(J:P[i]?=some x)(W:lu l (i,c)=none):x++[c]∉P:=by
 intro O;obtain⟨j,s⟩:=List.getElem?_of_mem O;obtain⟨I,H,U⟩:=h.full j _ s (by simp);obtain⟨y,T,E⟩:=h.ok I H j U;rw[s]at E;have e:=Option.some.inj E;obtain⟨V,Y⟩:=List.append_inj' e rfl;subst V;have d:c=H:=by grind
 subst d;obtain rfl:=Hu h.nd J T;grind[D8]
theorem xQ.push{P:List (List UInt8)}{l:Tab}(h:xQ P l){i:Nat}{c:UInt8}{x:List UInt8}(V:P[i]?=some x)(W:lu l (i,c)=none):xQ (P++[x++[c]]) (l++[((i,c),P.length)]):=by
 have Y:=h.missed V W;have s:∀(j:Nat) (y:List UInt8),P[j]?=some y→(P++[x++[c]])[j]?=some y:=λj y H=>by
  grind
 have O:(P++[x++[c]])[P.length]?=some (x++[c]):=by simp
 refine⟨s _ _ h.h0,?_,?_,?_⟩
 ·rw[List.nodup_append];refine⟨h.nd,by simp,λa ha b hb e=>?_⟩;grind
 ·intro I J T d;rcases List.mem_append.1 d with h1|h1
  ·obtain⟨y,h2,h3⟩:=h.ok I J T h1;grind
  grind
 ·intro j y H U;by_cases E:j<P.length
  ·rw[List.getElem?_append_left E]at H;obtain⟨I,J,h1⟩:=h.full j y H U;grind
  grind
theorem pt:∀(a b:List UInt8) (i:Nat),i≤a.length→(a.take i<+:b↔i≤fN a b)
 |a,b,0,_=>by simp
 |[],b,i+1,h=>by simp at h
 |x::a,[],i+1,h=>by simp[fN]
 |x::a,y::b,i+1,h=>by
  have d:=pt a b i (by grind);unfold fN;grind
theorem uN(d:Bool)(w:List UInt8)(i:Nat):∀h:List (List UInt8),i≤jy d w h↔i=0∨∃u∈h,i≤fN (textF d w) (textF d u)
 |[]=>by simp[jy]
 |u::h=>by
  have s:=uN d w i h;unfold jy;grind
def P9(d:Bool)(h:List (List UInt8))(P:List (List UInt8)):Prop:=∀x,x∈P↔x=[]∨∃u∈h,x<+:textF d u
theorem Ky(d:Bool)(w:List UInt8)(J P:List (List UInt8))(st:No)(hT:xQ P st.2.2)(hP:P9 d J P)(hn:st.1=P.length) :
  ∀j,j≤w.length→∃I,xQ I (lK st ((kj d w).take j)).2.2∧(lK st ((kj d w).take j)).1=I.length∧I.length=P.length+(j-jy d w J)∧
   (1≤j→I[(lK st ((kj d w).take j)).2.1]?=some ((textF d w).take j))∧(∀x,x∈I↔x∈P∨∃i,1≤i∧i≤j∧x=(textF d w).take i):=by
 intro j;have ab:=kz d w;have W:∀i,i≤w.length→((textF d w).take i∈P↔i≤jy d w J):=λi hi=>by
  rw[hP,uN];constructor
  ·rintro(h|⟨u,hu,h⟩)
   ·left;have:=congrArg List.length h;grind
   grind[pt]
  grind[pt]
 induction j with
 |zero=>
  grind[lK]
 |succ j ih=>
  intro hj;obtain⟨I,V,h2,h3,h4,h5⟩:=ih (by omega);have U:j<(kj d w).length:=by rw[kA];omega
  rw[List.take_succ_eq_append_getElem U,yn,ym d w j U (by omega)];obtain⟨E,aa⟩:∃E,lK st ((kj d w).take j)=E:=⟨_,rfl⟩
  rw[aa]at V h2 h4 ⊢;have Y:I[if(j==0)=true then 0 else E.2.1]?=some ((textF d w).take j):=by
   by_cases h0:j=0
   ·subst h0;simpa using V.h0
   grind
  have ht:(textF d w).take (j+1)=(textF d w).take j++[gv d w[j]]:=by
   grind[List.take_succ_eq_append_getElem,Ht]
  unfold mZ;dsimp only;cases hf:lu E.2.2 (if(j==0)=true then 0 else E.2.1,gv d w[j])with
  |some q=>
   have hq:=V.found Y hf;rw[←ht]at hq;have T:(textF d w).take (j+1)∈I:=List.mem_of_getElem? hq;have O:j+1≤jy d w J:=by
    rcases(h5 _).1 T with h6|⟨i,h6,h7,h8⟩
    ·grind
    ·have:=congrArg List.length h8;grind
   grind
  |none=>
   have H:=V.missed Y hf;have s:=V.push Y hf;rw[←ht]at H s;have O:¬j+1≤jy d w J:=λh=>H ((h5 _).2 (.inl ((W _ hj).2 h)));rw[←h2]at s;refine⟨I++[(textF d w).take (j+1)],s,by simp[h2],by grind,λ_=>?_,λx=>?_⟩
   ·grind
   grind
theorem uO(d:Bool):∀(E h P:List (List UInt8)) (s:No),xQ P s.2.2→P9 d h P→s.1=P.length→(lK s (qu d E)).1=ga d s.1 h E
 |[],h,P,s,_,_,_=>by rfl
 |w::E,h,P,s,hT,hP,hn=>by
  obtain⟨O,J,I,U,_,T⟩:=Ky d w h P s hT hP hn w.length (Nat.le_refl _);rw[List.take_of_length_le (by simp[kA])]at J I;have e:qu d (w::E)=kj d w++qu d E:=by rfl
  have H:P9 d (h++[w]) O:=λx=>by
   rw[T,hP];constructor
   ·grind
   grind[List.mem_singleton,kz,List.length_pos_iff,List.prefix_iff_eq_take]
  rw[e,Bz];conv=>rhs;unfold ga
  rw[uO d E (h++[w]) O _ J H I,I,U,hn]
theorem BA(d:Bool)(ws:List (List UInt8)):(lK (1,0,[]) (qu d ws)).1=fj d ws:=
 uO d ws [] [[]] (1,0,[]) ⟨rfl,by simp,λi c j h=>by simp at h,λj x h s=>by
  grind⟩ (λx=>by simp) rfl
end Go.Proofs.YtofgfpffcegioaaGreat.jH
namespace Go.Proofs.YtofgfpffcegioaaGreat.jH
open iT
theorem yo(d:Bool)(a b:List UInt8):gM d a b=true↔textF d a=textF d b:=by rw[Bx];simp
theorem qE(d:Bool)(t:List UInt8):∀(s:List (List UInt8)) (i:Nat),jd d t i s<0↔∀w∈s,textF d t≠textF d w
 |[],i=>by simp[jd]
 |w::s,i=>by
  have E:=qE d t s (i+1);unfold jd;by_cases h:gM d t w=true
  ·simp_all[yo]
  simp_all[textF,yo,List.mem_cons]
theorem yp(d:Bool)(t:List UInt8)(ws:List (List UInt8)):which d t ws<0↔∀w∈ws,textF d t≠textF d w:=qE d t ws 0
def Pe(d:Bool)(ws:List (List UInt8)):Prop:=(∀w∈ws,textF d w=w)∧ws.Nodup
theorem Kz{d:Bool}{ws:List (List UInt8)}{w:List UInt8}(h:Pe d ws)(s:which d w ws<0):Pe d (ws++[textF d w]):=by
 obtain⟨I,H⟩:=h;refine⟨λu E=>?_,?_⟩
 ·grind[List.mem_singleton,D6]
 grind[List.nodup_append,List.mem_singleton,yp]
theorem rM(d:Bool):∀(E s:List (List UInt8)),Pe d s→Pe d (fp d s E)
 |[],s,h=>by grind[fp]
 |w::E,s,h=>by
  unfold fp;refine rM d E _ ?_;split
  ·rename_i H;exact Kz h H
  ·exact h
theorem H0{d:Bool}{a b:List (List UInt8)}{w:List UInt8}(h:Pe d (a++w::b)):which d w a<0:=by
 obtain⟨E,s⟩:=h;rw[yp];grind
theorem qF(s:Bool):∀(E d:List (List UInt8)),Pe s (d++E)→fp s d E=d++E
 |[],d,_=>by simp[fp]
 |w::E,d,h=>by
  unfold fp;rw[if_pos (H0 h),h.1 w (by simp)];rw[qF s E (d++[w]) (by simpa using h)];simp
end Go.Proofs.YtofgfpffcegioaaGreat.jH
namespace Go.Proofs.YtofgfpffcegioaaGreat
open Bool renaming false → af,true → ai
open Classical renaming byContradiction → ar
open List renaming range → ae,replicate → ag,append_assoc → ah,mem_cons_self → ak,mem_cons_of_mem → al,perm_middle → an,foldl_cons → ao,mem_cons → aq,eq_of_mem_replicate → au,range_succ → av,mem_range → aB,filter_append → aC,getElem?_eq_getElem → aD,getElem?_cons_zero → aE,sublist_cons_self → aF,nodup_cons → aH,append_nil → aI,perm_append_comm → aJ,drop_drop → aM,filterMap_cons → aN,flatMap_append → aO
open List.Perm renaming append_right → ay,append_left → az,trans → aG,cons → aR
open Nat renaming le_refl → aK,zero_le → aL,le_trans → aP,le_of_lt → aQ
open Option renaming some → aj,none → aA
open Option.some renaming injEq → aw
namespace fq
structure Cf where
 workers:Nat
 block:Nat
 ring:Nat
 queue:Nat
 out:Nat
 slice:Nat
 kX:Nat
structure Mc where
 step:Nat→UInt8→Nat
 words:Nat→List Nat
 long:Nat
 states:Nat
abbrev Hits:=List (Int×Int)
structure BB where
 num:Nat
 start:Nat
 eZ:Nat
 data:L8
structure Pc where
 blk:BB
 buf:Nat
structure Src where
 reads:LL
 told:Nat
structure Snk where
 took:Hits
 offers:Nat
structure Buf where
 free:List Nat
 used:List Bool
 data:LL
structure Ff(α:Type) where
 items:List α
 closed:Bool
structure Rg where
 places:List (Option Hits)
 next:Nat
structure Rd where
 ph:Nat
 holds:Bool
 buf:Nat
 eZ:Nat
 own:Nat
 ahead:Nat
 tail:L8
 ended:Bool
structure Wk where
 ph:Nat
 pc:Pc
 node:Nat
 done:Nat
 hits:Hits
structure Mg where
 ph:Nat
 hits:Hits
structure Pl where
 number:Nat
 read:Nat
 took:Hits
 cancelled:Bool
structure St where
 pl:Pl
 src:Src
 iG:Snk
 buf:Buf
 q:Ff Pc
 rg:Rg
 out:Ff (Int×Int)
 rd:Rd
 fm:List Wk
 mg:Mg
 em:Nat
def zJ:Pc:=⟨⟨0,0,0,[]⟩,0⟩
def Wk.fresh:Wk:=⟨1,zJ,0,0,[]⟩
def St.start(c:Cf)(d:LL):St where
 pl:=⟨0,0,[],af⟩
 src:=⟨d,0⟩
 iG:=⟨[],0⟩
 buf:=⟨(ae c.ring).reverse,ag c.ring af,ag c.ring []⟩
 q:=⟨[],af⟩
 rg:=⟨ag c.ring aA,0⟩
 out:=⟨[],af⟩
 rd:=⟨1,af,0,0,0,0,[],af⟩
 fm:=ag c.workers Wk.fresh
 mg:=⟨1,[]⟩
 em:=1
def Src.next(s:Src)(d:Nat):Option (L8×Src):=
 match s.reads with
 |[]=>aA
 |b::l=>if b.length≤d then aj (b,⟨l,s.told+b.length⟩)else aj (b.take d,⟨b.drop d::l,s.told+(b.take d).length⟩)
def Snk.says(answers:List Bool)(n:Nat):Bool:=answers.isEmpty||answers.getD (n%answers.length) af
def Snk.offer(d:List Bool)(s:Snk)(h:Int×Int):Bool×Snk:=
 if Snk.says d s.offers then(ai,⟨s.took++[h],s.offers+1⟩)else(af,⟨s.took,s.offers+1⟩)
def Buf.take(b:Buf):Nat×Buf:=
 let n:=b.free.getLast?.getD 0
 (n,⟨b.free.dropLast,b.used.set n ai,b.data.set n []⟩)
def Buf.give(b:Buf)(n:Nat):Buf:=⟨b.free++[n],b.used.set n af,b.data.set n []⟩
def Buf.put(b:Buf)(n:Nat)(l:L8):Buf:=⟨b.free,b.used,b.data.set n (b.data.getD n []++l)⟩
def Buf.live(b:Buf):List Nat:=(ae b.used.length).filter λn=>b.used.getD n af
def Ff.put{d:Type}(q:Ff d)(x:d):Ff d:=⟨q.items++[x],q.closed⟩
def Ff.drop1{d:Type}(q:Ff d):Ff d:=⟨q.items.drop 1,q.closed⟩
def Ff.shut{d:Type}(q:Ff d):Ff d:=⟨q.items,ai⟩
def Ff.clear{d:Type}(q:Ff d):Ff d:=⟨[],q.closed⟩
def Rg.at_(r:Rg)(n:Nat):Option Hits:=(r.places.getD (n%r.places.length) aA)
def Rg.admits(r:Rg)(n:Nat):Bool:=decide (r.next≤n)&&decide (n-r.next<r.places.length)
def Rg.put(r:Rg)(n:Nat)(h:Hits):Rg:=⟨r.places.set (n%r.places.length) (aj h),r.next⟩
def Rg.take(r:Rg):Rg:=⟨r.places.set (r.next%r.places.length) aA,r.next+1⟩
def Rg.clear(r:Rg):Rg:=⟨ag r.places.length aA,r.next⟩
def scan(M:Mc)(b:BB):Nat→Nat→Nat→Hits→Nat×Nat×Hits
 |0,node,done,hs=>(node,done,hs)
 |n+1,node,done,hs=>
  if done<b.data.length then
   let k:=M.step node (b.data.getD done 0)
   scan M b n k (done+1) (if b.eZ<done+1 then hs++(M.words k).map λx:Nat=>((b.start:Int)-(b.eZ:Int)+((done+1:Nat):Int),(x:Int))else hs)
  else(node,done,hs)
section
variable (c:Cf) (M:Mc) (ans:List Bool)
def St.lL(s:St):St:=
 let(n,b):=s.buf.take
 { s with buf:=b.put n s.rd.tail,rd:={ s.rd with ph:=2,holds:=ai,buf:=n,eZ:=s.rd.tail.length,own:=0,ahead:=s.pl.read } }
def St.gN(s:St):St:=
 match s.src.next (c.block-s.rd.own)with
 |some (b,src)=>
  let t:=s.rd.tail++b
  { s with src:=src,buf:=s.buf.put s.rd.buf b,pl:={ s.pl with read:=s.pl.read+b.length },rd:={ s.rd with own:=s.rd.own+b.length,tail:=t.drop (t.length-(M.long-1)),ph:=if s.rd.own+b.length=c.block then 3 else 2 } }
 |none=>
  if 0<s.rd.own then { s with rd:={ s.rd with ended:=ai,ph:=3 } }
  else { s with buf:=s.buf.give s.rd.buf,rd:={ s.rd with holds:=af,ph:=4 } }
def St.lR(s:St):St:=
 { s with q:=s.q.put ⟨⟨s.pl.number,c.kX+s.rd.ahead,s.rd.eZ,s.buf.data.getD s.rd.buf []⟩,s.rd.buf⟩,pl:={ s.pl with number:=s.pl.number+1 },rd:={ s.rd with holds:=af,ph:=if s.rd.ended then 4 else 1 } }
def St.iH(s:St):St:={ s with q:=s.q.shut,rd:={ s.rd with ph:=5 } }
def St.ix(s:St):St:=
 let t:=if s.rd.holds then { s with buf:=s.buf.give s.rd.buf,rd:={ s.rd with holds:=af } }else s
 t.iH
def St.kY(s:St):Bool:=
 if s.rd.ph=5 then af else if s.pl.cancelled then ai
 else if s.rd.ph=1 then s.rg.admits s.pl.number else if s.rd.ph=3 then decide (s.q.items.length<c.queue)else ai
def St.rdStep(s:St):St:=
 if s.pl.cancelled then s.ix
 else if s.rd.ph=1 then s.lL else if s.rd.ph=2 then s.gN c M else if s.rd.ph=3 then s.lR c else s.iH
def St.served(s:St):Bool:=!s.q.items.isEmpty||s.q.closed
def St.jN(s:St)(i:Nat)(w:Wk):St:=
 match s.q.items with
 |[]=>{ s with fm:=s.fm.set i { w with ph:=4 } }
 |x::_=>{ s with q:=s.q.drop1,fm:=s.fm.set i { w with pc:=x,ph:=2 } }
def St.jO(s:St)(i:Nat)(w:Wk):St:=
 let o:=scan M w.pc.blk c.slice w.node w.done []
 { s with fm:=s.fm.set i { w with node:=o.1,done:=o.2.1,hits:=w.hits++o.2.2,ph:=if o.2.1=w.pc.blk.data.length then 3 else 2 } }
def St.ij(s:St)(i:Nat)(w:Wk):St:={ s with buf:=s.buf.give w.pc.buf,fm:=s.fm.set i Wk.fresh }
def St.nf(s:St)(i:Nat)(w:Wk):St:={ s with rg:=s.rg.put w.pc.blk.num w.hits }.ij i w
def St.gQ(s:St)(i:Nat)(w:Wk):St:=
 if w.ph=1 then match s.q.items with
  |[]=>{ s with fm:=s.fm.set i { w with ph:=4 } }
  |x::_=>{ s with q:=s.q.drop1 }.ij i { w with pc:=x }
 else s.ij i w
def St.kZ(s:St)(w:Wk):Bool:=
 if w.ph=4 then af else if w.ph=1 then s.served else ai
def St.kd(s:St)(i:Nat)(w:Wk):St:=
 if s.pl.cancelled then s.gQ i w
 else if w.ph=1 then s.jN i w else if w.ph=2 then s.jO c M i w else s.nf i w
def St.merged(s:St):Bool:=(s.rg.at_ s.rg.next).isSome||(decide (s.rd.ph=5)&&decide (s.rg.next=s.pl.number))
def St.lM(s:St):St:={ s with out:=s.out.shut,mg:={ s.mg with ph:=3 } }
def St.kO(s:St):St:=
 match s.rg.at_ s.rg.next with
 |none=>s.lM
 |some d=>{ s with rg:=s.rg.take,mg:=if d.isEmpty then s.mg else⟨2,d⟩ }
def St.ka(s:St):St:=
 match s.mg.hits with
 |[]=>s
 |h::l=>{ s with out:=s.out.put h,mg:=⟨if l.isEmpty then 1 else 2,l⟩ }
def St.nK(s:St):St:={ s with rg:=s.rg.clear,mg:={ s.mg with hits:=[] } }.lM
def St.lf(s:St):Bool:=
 if s.mg.ph=3 then af else if s.pl.cancelled then ai
 else if s.mg.ph=1 then s.merged else decide (s.out.items.length<c.out)
def St.ke(s:St):St:=
 if s.pl.cancelled then s.nK else if s.mg.ph=1 then s.kO else s.ka
def St.jr(s:St):St:=
 match s.out.items with
 |[]=>{ s with em:=2 }
 |h::_=>
  let o:=s.iG.offer ans h
  if o.1 then { s with iG:=o.2,out:=s.out.drop1,pl:={ s.pl with took:=s.pl.took++[h] } }else { s with iG:=o.2 }
def St.jV(s:St):St:={ s with out:=s.out.clear,em:=if s.out.items.isEmpty then 2 else s.em }
def St.ng(s:St):Bool:=if s.em=2 then af else !s.out.items.isEmpty||s.out.closed
def St.iI(s:St):St:=if s.pl.cancelled then s.jV else s.jr ans
def St.ready(s:St)(k:Nat):Bool:=
 if k=0 then s.kY c
 else if k≤c.workers then s.kZ (s.fm.getD (k-1) Wk.fresh)
 else if k=c.workers+1 then s.lf c
 else if k=c.workers+2 then s.ng else af
def St.step(s:St)(k:Nat):St:=
 if k=0 then s.rdStep c M
 else if k≤c.workers then s.kd c M (k-1) (s.fm.getD (k-1) Wk.fresh)
 else if k=c.workers+1 then s.ke
 else s.iI ans
def St.enabled(s:St):List Nat:=(ae (c.workers+3)).filter λk=>s.ready c k
def St.over(s:St):Bool:=decide (s.rd.ph=5)&&s.fm.all (λw=>decide (w.ph=4))&&decide (s.mg.ph=3)&&decide (s.em=2)
def St.cancel(s:St):St:=if s.pl.cancelled||s.over then s else { s with pl:={ s.pl with cancelled:=ai } }
end
structure Pn where
 kind:Nat
 seed:Nat
 last:Int
def minL:List Nat→Nat
 |[]=>0
 |x::l=>l.foldl min x
def maxL:List Nat→Nat
 |[]=>0
 |x::l=>l.foldl max x
def ji(last:Int)(l:List Nat):Nat:=
 match l.foldl (λ(a:Option Nat) (n:Nat)=>if last<(n:Int)then(match a with|none=>aj n|some m=>if n<m then aj n else aj m)else a) aA with
 |some n=>n
 |none=>minL l
def Pn.pick(p:Pn)(l:List Nat):Option (Nat×Pn):=
 if l.isEmpty then aA
 else if p.kind=1 then aj (minL l,{ p with last:=(minL l:Int) })
 else if p.kind=2 then aj (maxL l,{ p with last:=(maxL l:Int) })
 else if p.kind=3 then aj (ji p.last l,{ p with last:=(ji p.last l:Int) })
 else if p.kind=4 then
  let d:=(p.seed*1664525+1013904223)%4294967296;let n:=l.getD ((d/65536)%l.length) 0
  aj (n,{ p with seed:=d,last:=(n:Int) })
 else aA
def uP(n:Int)(l:List Nat):Option Nat:=if l.isEmpty then aA else aj (l.getD (n%(l.length:Int)).toNat 0)
structure Rn where
 cf:Cf
 broken:Bool
 reads:LL
 answers:List Bool
 picks:List Int
 plan:Pn
 cancel:Int
 most:Nat
structure Go where
 s:St
 plan:Pn
 turns:List (List Nat×Nat)
 live:Nat
def Rn.start(r:Rn):Go:=⟨St.start r.cf r.reads,r.plan,[],0⟩
def Rn.begun(r:Rn)(g:Go):St:=if r.cancel=(g.turns.length:Int)then g.s.cancel else g.s
def Rn.choice(r:Rn)(g:Go)(l:List Nat):Option (Nat×Pn):=
 if g.turns.length<r.picks.length then(uP (r.picks.getD g.turns.length 0) l).map λn=>(n,g.plan)else g.plan.pick l
def Rn.turn(r:Rn)(M:Mc)(g:Go):Bool×Go:=
 let s:=r.begun g;let l:=s.enabled r.cf
 match r.choice g l with
 |none=>(af,{ g with s:=s })
 |some (n,p)=>
  let d:=s.step r.cf M r.answers n
  (ai,⟨d,p,g.turns++[(l,n)],max g.live d.buf.live.length⟩)
def Rn.run(r:Rn)(M:Mc):Nat→Go→Go
 |0,g=>g
 |f+1,g=>if g.s.over then g else if g.turns.length<r.most then(match r.turn M g with|(ai,g')=>r.run M f g'|(af,g')=>g')else g
def jz(l:List (Int×Nat))(n:Int):Nat:=((l.find? λx=>x.1==n).map (·.2)).getD 0
def gb(d:List (Int×Nat))(s:List Nat)(h:Nat):List (Int×Nat):=(s.filter λn=>n !=h).map λn:Nat=>((n:Int),jz d (n:Int)+1)
def waits(d:List (List Nat×Nat)):List (Int×Nat)→Nat→Nat
 |w0,m=>match d with
  |[]=>m
  |(h,pk)::d=>waits d (gb w0 h pk) ((gb w0 h pk).foldl (λm x=>max m x.2) m)
def window(d:List (List Nat×Nat)):Nat:=waits d [] 0+1
structure Rp where
 kind:Nat
 at_:Nat
 hits:Hits
 turns:Nat
 refused:Nat
 blocks:Nat
 read:Nat
 live:Nat
 window:Nat
def Rn.report(r:Rn)(M:Mc):Rp:=
 let g:=r.run M r.most r.start;let d:=if g.s.over then(if g.s.pl.cancelled then(3,0)else if r.broken then(4,g.s.pl.read)else(2,0))else(1,0)
 ⟨d.1,d.2,g.s.pl.took,g.turns.length,g.s.iG.offers-g.s.iG.took.length,g.s.pl.number,g.s.pl.read,g.live,window g.turns⟩
end fq
namespace fq
theorem jW{d E:Type}(f:d→Option E):∀(l:List d) (i:Nat) (x y:d),l[i]?=aj y→((f y).toList++(l.set i x).filterMap f).Perm ((f x).toList++l.filterMap f)
 |[],i,x,y,h=>by simp at h
 |a::l,0,x,y,h=>by
  simp only[aE,aw]at h;subst h;simp only[List.set_cons_zero,aN];cases I:f x<;>cases H:f a<;>simp;exact List.Perm.swap _ _ _
 |a::l,i+1,x,y,h=>by
  have s:=jW f l i x y (by simpa using h);simp only[List.set_cons_succ,aN];cases H:f a with
  |none=>exact s
  |some z=>
   simp only;exact(an).trans ((aR z s).trans (an).symm)
def Wk.busy(w:Wk):Option Pc:=if w.ph=2∨w.ph=3 then aj w.pc else aA
def St.jP(s:St):List Pc:=s.q.items++s.fm.filterMap Wk.busy
def St.nums(s:St):List Nat:=s.jP.map (·.blk.num)
def St.iq(s:St):List Nat:=(if s.rd.holds then [s.rd.buf]else [])++s.jP.map (·.buf)
structure js(R:Nat)(iq:List Nat)(b:Buf):Prop where
 perm:(iq++b.free).Perm (ae R)
 H4:b.used.length=R
 H7:b.data.length=R
 used:∀n,n<R→b.used.getD n af=decide (n∈iq)
structure iz(R:Nat)(nums:List Nat)(number:Nat)(holds:Bool)(r:Rg):Prop where
 pw:r.places.length=R
 rN:0<R
 Ny:nums.Nodup
 num:∀n∈nums,r.next≤n∧n<number
 rg:∀n,r.next≤n→n<r.next+R→(r.at_ n).isSome=ai→n<number∧n∉nums
 ahead:number≤r.next+R
 yq:holds=ai→number<r.next+R
 le:r.next≤number
structure Sl(c:Cf)(s:St):Prop where
 holds:s.rd.holds=decide (s.rd.ph=2∨s.rd.ph=3)
 qlen:s.q.items.length≤c.queue
 H9:s.out.items.length≤c.out
 qv:s.fm.length=c.workers
 Br:∀w∈s.fm,1≤w.ph∧w.ph≤4
 Kr:1≤s.rd.ph∧s.rd.ph≤5
 Nz:1≤s.mg.ph∧s.mg.ph≤3
 R9:1≤s.em∧s.em≤2
 Ks:s.q.closed=decide (s.rd.ph=5)
 Qa:s.out.closed=decide (s.mg.ph=3)
 w4:∀w∈s.fm,w.ph=4→s.q.items=[]∧s.q.closed=ai
 e2:s.em=2→s.out.items=[]∧s.out.closed=ai
 NA:s.mg.ph=2↔s.mg.hits≠[]
 yr:s.mg.ph=3→s.pl.cancelled=ai∨(s.rd.ph=5∧s.rg.next=s.pl.number)
 D9:s.mg.ph=3→∀n,s.rg.next≤n→n<s.rg.next+c.ring→(s.rg.at_ n)=aA
structure Room(c:Cf)(s:St):Prop where
 b:js c.ring s.iq s.buf
 n:iz c.ring s.nums s.pl.number s.rd.holds s.rg
 p:Sl c s
section
variable {R:Nat} {iq Pf:List Nat} {b:Buf}
theorem my{h:Type}(l:List h)(i j:Nat)(x d:h)(hi:i<l.length):(l.set i x).getD j d=if j=i then x else l.getD j d:=by
 grind
theorem js.nodup(h:js R iq b):(iq++b.free).Nodup:=h.perm.nodup_iff.2 List.nodup_range
theorem js.lt(h:js R iq b){n:Nat}(d:n∈iq):n<R:=aB.1 (h.perm.mem_iff.1 (List.mem_append_left _ d))
theorem js.Gk(h:js R iq b){n:Nat}(d:n∈b.free):n<R:=aB.1 (h.perm.mem_iff.1 (List.mem_append_right _ d))
theorem js.len(h:js R iq b):iq.length+b.free.length=R:=by have:=h.perm.length_eq;grind
theorem js.congr(h:js R iq b)(d:Pf.Perm iq):js R Pf b:=
 ⟨(ay _ d).trans h.perm,h.H4,h.H7,λn s=>by rw[h.used n s];grind⟩
theorem js.take(h:js R iq b)(s:b.free≠[]):js R (b.take.1::iq) b.take.2∧b.take.1<R∧b.take.1∈b.free:=by
 have I:b.free.getLast?.getD 0=b.free.getLast s:=zG;have E:b.free.getLast s∈b.free:=List.getLast_mem s;have J:b.free.dropLast++[b.free.getLast s]=b.free:=List.dropLast_concat_getLast s;have d:=h.Gk E;unfold Buf.take;simp only[I];refine⟨⟨?_,by simpa using h.H4,by simpa using h.H7,λn H=>?_⟩,d,E⟩
 ·refine aG ?_ h.perm;grind
 ·rw[my _ _ _ _ _ (by rw[h.H4];exact d),h.used n H];grind
theorem js.give{n:Nat}(h:js R (n::iq) b):js R iq (b.give n):=by
 have d:=h.lt (ak ..);have E:=h.nodup;refine⟨?_,by simpa[Buf.give]using h.H4,by simpa[Buf.give]using h.H7,λm s=>?_⟩
 ·refine aG ?_ h.perm;show(iq++(b.free++[n])).Perm (n::iq++b.free);grind
 ·show(b.used.set n af).getD m af=_;rw[my _ _ _ _ _ (by rw[h.H4];exact d),h.used m s];grind
theorem js.put(h:js R iq b)(n:Nat)(l:L8):js R iq (b.put n l):=⟨h.perm,h.H4,by simpa[Buf.put]using h.H7,h.used⟩
theorem js.live(h:js R iq b):b.live.length=iq.length:=by
 unfold Buf.live;rw[h.H4];have e:(ae R).filter (λn=>b.used.getD n af)=(ae R).filter λn=>decide (n∈iq):=List.filter_congr λn E=>h.used n (aB.1 E);rw[e];have s:((ae R).filter λn=>decide (n∈iq)).Perm ((iq++b.free).filter λn=>decide (n∈iq)):=(h.perm.filter _).symm;rw[s.length_eq,aC];have J:iq.filter (λn=>decide (n∈iq))=iq:=List.filter_eq_self.2 λa d=>decide_eq_true d;have I:b.free.filter (λn=>decide (n∈iq))=[]:=List.filter_eq_nil_iff.2 λa d=>by
  have:=List.nodup_append.1 h.nodup;simp only[decide_eq_true_eq];intro H;exact this.2.2 a H a d rfl
 rw[J,I];simp
end
section
variable {R:Nat} {nums Gl:List Nat} {number:Nat} {holds:Bool} {r:Rg}
theorem iz.congr(h:iz R nums number holds r)(d:Gl.Perm nums):iz R Gl number holds r:=
 ⟨h.pw,h.rN,d.nodup_iff.2 h.Ny,λn I=>h.num n (d.mem_iff.1 I),λn H E s=>⟨(h.rg n H E s).1,λJ=>(h.rg n H E s).2 (d.mem_iff.1 J)⟩,h.ahead,h.yq,h.le⟩
theorem iz.less(h:iz R nums number holds r)(hs:Gl.Sublist nums):iz R Gl number holds r:=
 ⟨h.pw,h.rN,hs.nodup h.Ny,λn H=>h.num n (hs.mem H),λn E s d=>⟨(h.rg n E s d).1,λI=>(h.rg n E s d).2 (hs.mem I)⟩,h.ahead,h.yq,h.le⟩
theorem iz.KA(h:iz R nums number holds r):iz R nums number af r:=⟨h.pw,h.rN,h.Ny,h.num,h.rg,h.ahead,zS,h.le⟩
theorem iz.hold(h:iz R nums number holds r)(d:r.admits number=ai):iz R nums number ai r:=by
 refine⟨h.pw,h.rN,h.Ny,h.num,h.rg,h.ahead,λ_=>?_,h.le⟩;unfold Rg.admits at d;rw[h.pw]at d;grind
theorem iz.more(h:iz R nums number ai r):iz R (number::nums) (number+1) af r:=by
 refine⟨h.pw,h.rN,aH.2 ⟨λd=>by have:=(h.num _ d).2;omega,h.Ny⟩,λn hn=>?_,λn H E s=>?_,by have:=h.yq rfl;omega,zS,by have:=h.le;omega⟩
 ·rcases aq.1 hn with rfl|hn
  ·exact⟨h.le,by omega⟩
  ·have:=h.num n hn;omega
 ·have I:=h.rg n H E s;grind
theorem uw{R a b n:Nat}(H:n≤a)(s:a<n+R)(E:n≤b)(d:b<n+R)(h:a%R=b%R):a=b:=by
 have J:=Nat.div_add_mod a R;have I:=Nat.div_add_mod b R;rcases Nat.lt_trichotomy (a/R) (b/R)with h3|h3|h3
 ·have:=Nat.mul_le_mul_left R (show a/R+1≤b/R from h3);grind
 ·grind
 ·have:=Nat.mul_le_mul_left R (show b/R+1≤a/R from h3);grind
theorem Rg.Ea(d:r.places.length=R)(J:0<R)(n:Nat)(x:Hits)(m:Nat)(H:r.next≤n)(E:n<r.next+R)(s:r.next≤m)(h:m<r.next+R):(r.put n x).at_ m=if m=n then aj x else r.at_ m:=by
 unfold Rg.put Rg.at_;simp only[List.length_set,d];rw[my _ _ _ _ _ (by simp_all[Nat.mod_lt])];by_cases e:m=n
 ·grind
 ·rw[if_neg e,if_neg (λI=>e (uw s h H E I))]
theorem iz.put{n:Nat}(h:iz R (n::nums) number holds r)(x:Hits):iz R nums number holds (r.put n x):=by
 have I:=h.num n (ak ..);have d:=aH.1 h.Ny;have O:=h.ahead;refine⟨by simpa[Rg.put]using h.pw,h.rN,d.2,λm J=>h.num m (al _ J),λm H E s=>?_,h.ahead,h.yq,h.le⟩;rw[Rg.Ea h.pw h.rN n x m I.1 zO H E]at s;by_cases e:m=n
 ·grind
 ·rw[if_neg e]at s;have T:=h.rg m H E s;grind
theorem iz.free_at{n:Nat}(h:iz R nums number holds r)(d:n∈nums):r.at_ n=aA∧r.admits n=true:=by
 have s:=h.num n d;have H:=h.ahead;constructor
 ·cases E:r.at_ n with
  |none=>rfl
  |some y=>exact absurd d (h.rg n s.1 zO zG).2
 ·unfold Rg.admits;rw[h.pw];grind
theorem Rg.zL(d:r.places.length=R)(s:0<R)(m:Nat)(H:r.next+1≤m)(E:m<r.next+1+R):r.take.at_ m=if m=r.next+R then aA else r.at_ m:=by
 unfold Rg.take Rg.at_;simp only[List.length_set,d];rw[my _ _ _ _ _ (by simp_all[Nat.mod_lt])];by_cases e:m=r.next+R
 ·subst e;simp
 ·rw[if_neg e,if_neg (λh=>by have:=uw (n:=r.next) zO zO zO zO h;omega)]
theorem iz.take(h:iz R nums number holds r)(H:(r.at_ r.next).isSome=ai):iz R nums number holds r.take:=by
 have T:=h.rg r.next (aK _) (by have:=h.rN;omega) H;have d:r.take.next=r.next+1:=rfl;refine⟨by simpa[Rg.take]using h.pw,h.rN,h.Ny,λn I=>?_,λn E O s=>?_,?_,λJ=>?_,?_⟩
 ·have E:=h.num n I;grind
 ·rw[d]at E O;rw[Rg.zL h.pw h.rN n E zO]at s;split at s
  ·simp at s
  ·exact h.rg n zO zO s
 ·have:=h.ahead;omega
 ·have:=h.yq J;omega
 omega
theorem Rg.BC(m:Nat):r.clear.at_ m=none:=by
 grind[Rg.clear,Rg.at_]
theorem iz.clear(h:iz R nums number holds r):iz R nums number holds r.clear:=
 ⟨by simpa[Rg.clear]using h.pw,h.rN,h.Ny,h.num,λn _ _ d=>(by grind[Rg.BC]),h.ahead,h.yq,h.le⟩
theorem uQ:∀(d a:Nat) (l:List Nat),l.Nodup→(∀n∈l,a≤n∧n<a+d)→l.length≤d
 |0,a,l,_,hm=>by
  cases l with
  |nil=>simp
  |cons x l=>grind[ak]
 |d+1,a,l,h,hm=>by
  by_cases E:a+d∈l
  ·have H:=uQ d a (l.erase (a+d)) (h.erase _) λn s=>by
    grind
   grind
  ·have:=uQ d a l h λn s=>by
    grind
   omega
end
end fq
namespace fq
section
variable {c:Cf} {M:Mc} {ans:List Bool} {s:St}
theorem Room.free(h:Room c s)(J:s.rd.holds=af)(E:s.rg.admits s.pl.number=ai):s.buf.free≠[]:=by
 intro e;have d:=h.b.len;rw[e,List.length_nil,Nat.add_zero]at d;have I:=uQ (s.pl.number-s.rg.next) s.rg.next s.nums h.n.Ny λn H=>by
  have:=h.n.num n H;omega
 unfold St.iq at d;unfold St.nums at I;rw[J]at d;unfold Rg.admits at E;rw[h.n.pw]at E;grind
theorem Room.lL(h:Room c s)(E:s.rd.ph=1)(d:s.rg.admits s.pl.number=ai):Room c s.lL:=by
 have I:s.rd.holds=false:=by rw[h.p.holds,E];rfl
 obtain⟨H,O,J⟩:=h.b.take (h.free I d);refine⟨?_,h.n.hold d,?_⟩
 ·have e:s.iq=s.jP.map (·.buf):=by grind[St.iq]
  rw[e]at H;exact H.put _ _
 ·exact{ h.p with
   holds:=rfl
   Kr:=(by decide:1≤2∧2≤5)
   Ks:=by have:=h.p.Ks;rw[E]at this;exact this
   yr:=λe=>by
    rcases h.p.yr e with h4|h4
    ·exact .inl h4
    omega }
theorem NB{x:Src}{n:Nat}(h:x.next n=aA):x.reads=[]:=by
 grind[Src.next]
theorem Room.gN(h:Room c s)(I:s.rd.ph=2):Room c (s.gN c M):=by
 have J:s.rd.holds=true:=by rw[h.p.holds,I];rfl
 have E:s.mg.ph=3→s.pl.cancelled=true:=λe=>(h.p.yr e).elim id λV=>by omega
 have d:s.q.closed=false:=by rw[h.p.Ks,I];rfl
 unfold St.gN;split
 ·rename_i b T H;refine⟨h.b.put _ _,h.n,?_⟩;have e:∀x:Nat,(if x=c.block then 3 else 2:Nat)=2∨(if x=c.block then 3 else 2:Nat)=3:=λx=>by grind
  have U:∀x:Nat,¬(if x=c.block then 3 else 2:Nat)=5:=λx=>by grind
  exact{ h.p with
   holds:=J.trans (decide_eq_true (e _)).symm
   Kr:=zG
   Ks:=d.trans (decide_eq_false (U _)).symm
   yr:=λe=>.inl (E e) }
 ·split
  ·refine⟨h.b,h.n,?_⟩;exact{ h.p with
    holds:=J.trans rfl
    Kr:=(by decide:1≤3∧3≤5)
    Ks:=d.trans rfl
    yr:=λe=>.inl (E e) }
  ·refine⟨?_,h.n.KA,?_⟩
   ·have e:s.iq=s.rd.buf::s.jP.map (·.buf):=by grind[St.iq]
    have O:=h.b;rw[e]at O;exact O.give
   ·exact{ h.p with
     holds:=rfl
     Kr:=(by decide:1≤4∧4≤5)
     Ks:=d.trans rfl
     yr:=λe=>.inl (E e) }
theorem Room.lR(h:Room c s)(E:s.rd.ph=3)(U:s.q.items.length<c.queue):Room c (s.lR c):=by
 have I:s.rd.holds=true:=by rw[h.p.holds,E];rfl
 have T:s.mg.ph=3→s.pl.cancelled=true:=λe=>(h.p.yr e).elim id λJ=>by omega
 have V:s.q.closed=false:=by rw[h.p.Ks,E];rfl
 have W:(if s.rd.ended then 4 else 1:Nat)=4∨(if s.rd.ended then 4 else 1:Nat)=1:=zG;have d:(s.lR c).jP.Perm (⟨⟨s.pl.number,c.kX+s.rd.ahead,s.rd.eZ,s.buf.data.getD s.rd.buf []⟩,s.rd.buf⟩::s.jP):=by
  unfold St.jP;show((s.q.items++[_])++_).Perm _;rw[ah];exact an
 refine⟨?_,?_,?_⟩
 ·refine h.b.congr ?_;unfold St.iq;rw[I];exact d.map _
 ·have H:=h.n;rw[I]at H;exact H.more.congr (d.map _)
 ·exact{ h.p with
   holds:=by show af=_;symm;apply decide_eq_false;show¬((if s.rd.ended then 4 else 1:Nat)=2∨(if s.rd.ended then 4 else 1:Nat)=3);omega
   qlen:=by show(s.q.items++[_]).length≤_;grind
   Kr:=by show 1≤(if s.rd.ended then 4 else 1:Nat)∧(if s.rd.ended then 4 else 1:Nat)≤5;omega
   Ks:=by show s.q.closed=decide ((if s.rd.ended then 4 else 1:Nat)=5);grind
   w4:=λw O J=>by have:=(h.p.w4 w O J).2;grind
   yr:=λe=>.inl (T e) }
theorem Room.iH(h:Room c s)(E:s.rd.holds=af)(H:s.mg.ph=3→s.pl.cancelled=ai):Room c s.iH:=by
 refine⟨h.b,h.n,?_⟩;exact{ h.p with
  holds:=E.trans rfl
  Kr:=(by decide:1≤5∧5≤5)
  Ks:=rfl
  w4:=λw d I=>⟨(h.p.w4 w d I).1,rfl⟩
  yr:=λe=>.inl (H e) }
theorem Room.ix(h:Room c s)(d:s.pl.cancelled=ai):Room c s.ix:=by
 unfold St.ix;split
 ·rename_i I;have e:s.iq=s.rd.buf::s.jP.map (·.buf):=by grind[St.iq]
  have E:=h.b;rw[e]at E;refine⟨E.give,h.n.KA,?_⟩;exact{ h.p with
   holds:=rfl
   Kr:=(by decide:1≤5∧5≤5)
   Ks:=rfl
   w4:=λw H J=>⟨(h.p.w4 w H J).1,rfl⟩
   yr:=λe=>.inl d }
 ·rename_i I;exact h.iH zG (λ_=>d)
theorem Room.rdStep(h:Room c s)(d:s.kY c=ai):Room c (s.rdStep c M):=by
 unfold St.kY at d;unfold St.rdStep;split at d
 ·cases d
 ·rename_i J;split at d
  ·rename_i E;rw[if_pos E];exact h.ix E
  ·rename_i E;rw[if_neg E];split at d
   ·rename_i I;rw[if_pos I];exact h.lL I d
   ·rename_i I;rw[if_neg I];split at d
    ·rename_i H;rw[if_neg zO,if_pos H];exact h.lR H (of_decide_eq_true d)
    ·rename_i H;rw[if_neg H];split
     ·rename_i T;exact h.gN T
     ·refine h.iH (by rw[h.p.holds];grind) λe=>(h.p.yr e).elim id λO=>absurd O.1 J
theorem yt{i:Nat}{w:Wk}(hi:s.fm[i]?=aj w):w∈s.fm:=List.mem_of_getElem? hi
theorem iU{d:Type}{l:List d}{i:Nat}{x y:d}(h:y∈l.set i x):y=x∨y∈l:=(List.mem_or_eq_of_mem_set h).symm
theorem ow(s:St)(i:Nat)(w x:Wk)(hi:s.fm[i]?=aj w):(w.busy.toList++({ s with fm:=s.fm.set i x }:St).jP).Perm (x.busy.toList++s.jP):=by
 have h:=jW Wk.busy s.fm i x w hi;unfold St.jP;show(_++(s.q.items++_)).Perm (_++(s.q.items++_));rw[←ah,←ah];refine(ay _ aJ).trans ?_;refine aG ?_ (ay _ aJ);rw[ah,ah];exact h.append_left _
theorem Wk.ox:Wk.fresh.busy=none:=rfl
theorem Wk.jX{w:Wk}(h:w.ph=2∨w.ph=3):w.busy=aj w.pc:=if_pos h
theorem Wk.oy{w:Wk}(h:¬(w.ph=2∨w.ph=3)):w.busy=none:=if_neg h
theorem Room.zM(h:Room c s){i:Nat}{w:Wk}(hi:s.fm[i]?=aj w)(J:w.ph=1)(I:s.q.items=[])(H:s.q.closed=ai):Room c { s with fm:=s.fm.set i { w with ph:=4 } }:=by
 have d:({ s with fm:=s.fm.set i { w with ph:=4 } }:St).jP.Perm s.jP:=by
  have:=ow s i w { w with ph:=4 } hi;grind[Wk.oy]
 refine⟨h.b.congr (az _ (d.map _)),h.n.congr (d.map _),?_⟩;exact{ h.p with
  qv:=by simpa using h.p.qv
  Br:=λx E=>(iU E).elim (λe=>by grind) (λE=>h.p.Br x E)
  w4:=λx E O=>⟨I,H⟩ }
theorem Room.jN(h:Room c s){i:Nat}{w:Wk}(hi:s.fm[i]?=aj w)(J:w.ph=1)(hs:s.served=ai):Room c (s.jN i w):=by
 unfold St.jN;split
 ·rename_i E;refine h.zM hi J E ?_;grind[St.served]
 ·rename_i x l E;have d:({ s with q:=s.q.drop1,fm:=s.fm.set i { w with pc:=x,ph:=2 } }:St).jP.Perm s.jP:=by
   have I:=jW Wk.busy s.fm i { w with pc:=x,ph:=2 } w hi;rw[Wk.oy (w:=w) zO,Wk.jX zS]at I;unfold St.jP Ff.drop1;rw[E];show(l++_).Perm (x::(l++_));exact(I.append_left l).trans an
  refine⟨h.b.congr (az _ (d.map _)),h.n.congr (d.map _),?_⟩;have O:=h.p.qlen;rw[E]at O;exact{ h.p with
   qlen:=by show(s.q.items.drop 1).length≤_;grind
   qv:=by simpa using h.p.qv
   Br:=λx hx=>(iU hx).elim (λe=>by grind) (λhx=>h.p.Br x hx)
   w4:=λx hx H=>by
    rcases iU hx with rfl|hx
    ·simp at H
    ·have:=(h.p.w4 x hx H).1;grind }
theorem Room.jO(h:Room c s){i:Nat}{w:Wk}(hi:s.fm[i]?=aj w)(H:w.ph=2):Room c (s.jO c M i w):=by
 unfold St.jO;have e:∀(a b:Nat),(if a=b then 3 else 2:Nat)=2∨(if a=b then 3 else 2:Nat)=3:=λa b=>by grind
 generalize scan M w.pc.blk c.slice w.node w.done []=o;have d:({ s with fm:=s.fm.set i { w with node:=o.1,done:=o.2.1,hits:=w.hits++o.2.2,ph:=if o.2.1=w.pc.blk.data.length then 3 else 2 } }:St).jP.Perm s.jP:=by
  have I:=ow s i w { w with node:=o.1,done:=o.2.1,hits:=w.hits++o.2.2,ph:=if o.2.1=w.pc.blk.data.length then 3 else 2 } hi;grind[Wk.jX,List.perm_cons]
 refine⟨h.b.congr (az _ (d.map _)),h.n.congr (d.map _),?_⟩;exact{ h.p with
  qv:=by simpa using h.p.qv
  Br:=λx hx=>by
   rcases iU hx with rfl|hx
   ·grind
   ·exact h.p.Br x hx
  w4:=λx hx E=>by
   rcases iU hx with rfl|hx
   ·grind
   ·exact h.p.w4 x hx E }
theorem Room.nf(h:Room c s){i:Nat}{w:Wk}(hi:s.fm[i]?=aj w)(T:w.ph=3)(U:s.pl.cancelled=af):Room c (s.nf i w):=by
 unfold St.nf St.ij;have H:(w.pc::({ s with fm:=s.fm.set i Wk.fresh }:St).jP).Perm s.jP:=by
  have h1:=ow s i w Wk.fresh hi;grind[Wk.jX,Wk.ox]
 have O:js c.ring (w.pc.buf::({ s with fm:=s.fm.set i Wk.fresh }:St).iq) s.buf:=h.b.congr (by
  unfold St.iq;grind)
 have I:iz c.ring (w.pc.blk.num::({ s with fm:=s.fm.set i Wk.fresh }:St).nums) s.pl.number s.rd.holds s.rg:=h.n.congr (H.map λx:Pc=>x.blk.num);have E:s.mg.ph≠3:=λe=>by
  rcases h.p.yr e with h1|h1
  ·grind
  ·have:=I.num w.pc.blk.num (ak ..);omega
 refine⟨O.give,I.put _,?_⟩;exact{ h.p with
  qv:=by simpa using h.p.qv
  Br:=λx d=>(iU d).elim (λe=>by subst e;exact(by decide:1≤1∧1≤4)) (λd=>h.p.Br x d)
  w4:=λx d J=>(iU d).elim (λe=>by subst e;exact absurd J zD) (λd=>h.p.w4 x d J)
  yr:=λe=>absurd e E
  D9:=λe=>absurd e E }
theorem Room.Qb(h:Room c s){i:Nat}{w:Wk}(hi:s.fm[i]?=aj w)(J:w.ph=2∨w.ph=3):Room c (s.ij i w):=by
 unfold St.ij;have E:(w.pc::({ s with fm:=s.fm.set i Wk.fresh }:St).jP).Perm s.jP:=by
  have O:=ow s i w Wk.fresh hi;grind[Wk.jX,Wk.ox]
 have I:js c.ring (w.pc.buf::({ s with fm:=s.fm.set i Wk.fresh }:St).iq) s.buf:=h.b.congr (by
  unfold St.iq;grind)
 refine⟨I.give,(h.n.congr (E.map λx:Pc=>x.blk.num)).less (aF _ _),?_⟩;exact{ h.p with
  qv:=by simpa using h.p.qv
  Br:=λx d=>(iU d).elim (λe=>by subst e;exact(by decide:1≤1∧1≤4)) (λd=>h.p.Br x d)
  w4:=λx d H=>(iU d).elim (λe=>by subst e;exact absurd H zD) (λd=>h.p.w4 x d H) }
theorem Room.NC(h:Room c s){i:Nat}{w:Wk}(hi:s.fm[i]?=aj w)(T:w.ph=1){x:Pc}{l:List Pc}(E:s.q.items=x::l):Room c (({ s with q:=s.q.drop1 }:St).ij i { w with pc:=x }):=by
 unfold St.ij;have d:(x::({ s with q:=s.q.drop1,fm:=s.fm.set i Wk.fresh }:St).jP).Perm s.jP:=by
  have I:=jW Wk.busy s.fm i Wk.fresh w hi;rw[Wk.oy (w:=w) zO,Wk.ox]at I;unfold St.jP Ff.drop1;rw[E];exact aR x (I.append_left l)
 have O:js c.ring (x.buf::({ s with q:=s.q.drop1,fm:=s.fm.set i Wk.fresh }:St).iq) s.buf:=h.b.congr (by
  unfold St.iq;grind)
 refine⟨O.give,(h.n.congr (d.map λx:Pc=>x.blk.num)).less (aF _ _),?_⟩;have J:=h.p.qlen;rw[E]at J;exact{ h.p with
  qlen:=by show(s.q.items.drop 1).length≤_;grind
  qv:=by simpa using h.p.qv
  Br:=λx hx=>(iU hx).elim (λe=>by subst e;exact(by decide:1≤1∧1≤4)) (λhx=>h.p.Br x hx)
  w4:=λx hx H=>by
   rcases iU hx with rfl|hx
   ·exact absurd H zD
   ·have:=(h.p.w4 x hx H).1;grind }
theorem Room.kd(h:Room c s){i:Nat}{w:Wk}(hi:s.fm[i]?=aj w)(E:s.kZ w=ai):Room c (s.kd c M i w):=by
 unfold St.kZ at E;unfold St.kd;have T:=h.p.Br w (yt hi);split at E
 ·cases E
 ·rename_i U;split
  ·rename_i J;unfold St.gQ;split at E
   ·rename_i d;rw[if_pos d];split
    ·rename_i H;refine h.zM hi d H ?_;grind[St.served]
    ·rename_i x l H;exact h.NC hi d H
   ·rename_i d;rw[if_neg d];exact h.Qb hi zO
  ·rename_i J;have I:s.pl.cancelled=false:=zG;split at E
   ·rename_i d;rw[if_pos d];exact h.jN hi d E
   ·rename_i d;rw[if_neg d];split
    ·rename_i O;exact h.jO hi O
    ·exact h.nf hi zO I
theorem Room.ke(h:Room c s)(d:s.lf c=ai):Room c s.ke:=by
 unfold St.lf at d;unfold St.ke;have hm:=h.p.Nz;split at d
 ·cases d
 ·rename_i W;have T:s.out.closed=false:=by rw[h.p.Qa];grind
  have U:s.em≠2:=λe=>by have:=(h.p.e2 e).2;grind
  split at d
  ·rename_i O;rw[if_pos O];refine⟨h.b,h.n.clear,?_⟩;exact{ h.p with
    Nz:=(by decide:1≤3∧3≤3)
    Qa:=rfl
    e2:=λe=>absurd e U
    NA:=⟨λE=>absurd E (by decide:¬(3:Nat)=2),λE=>absurd rfl E⟩
    yr:=λ_=>.inl O
    D9:=λ_ n _ _=>Rg.BC n }
  ·rename_i O;have ab:s.pl.cancelled=false:=zG;rw[if_neg O];split at d
   ·rename_i H;rw[if_pos H];have J:s.mg.hits=[]:=ar λE=>by have:=h.p.NA.2 E;omega
    unfold St.kO;unfold St.merged at d;split
    ·rename_i E;rw[E]at d;simp only[Option.isSome_none,Bool.false_or,Bool.and_eq_true,decide_eq_true_eq]at d;refine⟨h.b,h.n,?_⟩;exact{ h.p with
      Nz:=(by decide:1≤3∧3≤3)
      Qa:=rfl
      e2:=λe=>absurd e U
      NA:=⟨λI=>absurd I (by decide:¬(3:Nat)=2),λI=>absurd J I⟩
      yr:=λ_=>.inr d
      D9:=λ_ n H h2=>by
       cases I:s.rg.at_ n with
       |none=>exact I
       |some y=>have:=(h.n.rg n H h2 zG).1;have ad:s.rg.next≤n:=H;omega }
    ·rename_i Y E;refine⟨h.b,h.n.take zG,?_⟩;cases Y with
     |nil=>
      exact{ h.p with
       yr:=λe=>absurd e W
       D9:=λe=>absurd e W }
     |cons y l=>
      exact{ h.p with
       Nz:=(by decide:1≤2∧2≤3)
       Qa:=T.trans rfl
       NA:=⟨λ_=>List.cons_ne_nil _ _,λ_=>rfl⟩
       yr:=λe=>absurd e (by decide:¬(2:Nat)=3)
       D9:=λe=>absurd e (by decide:¬(2:Nat)=3) }
   ·rename_i H;rw[if_neg H];have aa:=h.p.NA.1 zO;unfold St.ka;split
    ·omega
    ·rename_i x l E;have V:=of_decide_eq_true d;refine⟨h.b,h.n,?_⟩;have e0:(l.isEmpty=ai∧l=[])∨(l.isEmpty=af∧l≠[]):=zG;exact{ h.p with
      H9:=by show(s.out.items++[_]).length≤_;grind
      Nz:=zG
      Qa:=by show s.out.closed=decide ((if l.isEmpty then 1 else 2:Nat)=3);grind
      e2:=λe=>absurd e U
      NA:=zG
      yr:=λe=>by grind
      D9:=λe=>by grind }
theorem Room.iI(h:Room c s)(d:s.ng=ai):Room c (s.iI ans):=by
 unfold St.ng at d;unfold St.iI;split at d
 ·cases d
 ·rename_i H;split
  ·rename_i J;unfold St.jV;refine⟨h.b,h.n,?_⟩;cases E:s.out.items with
   |nil=>
    rw[E]at d;exact{ h.p with
     H9:=by show([]:List (Int×Int)).length≤_;simp
     R9:=(by decide:1≤2∧2≤2)
     e2:=λ_=>⟨rfl,by have:s.out.closed=true:=zG;exact this⟩ }
   |cons x l=>
    exact{ h.p with
     H9:=by show([]:List (Int×Int)).length≤_;simp
     e2:=λe=>absurd e H }
  ·unfold St.jr;split
   ·rename_i E;rw[E]at d;exact⟨h.b,h.n,{ h.p with
     R9:=(by decide:1≤2∧2≤2)
     e2:=λ_=>⟨E,by grind⟩ }⟩
   ·rename_i x l E;have I:=h.p.H9;dsimp only;split
    ·exact⟨h.b,h.n,{ h.p with
      H9:=by show(s.out.items.drop 1).length≤_;grind
      e2:=λe=>absurd e H }⟩
    ·exact⟨h.b,h.n,{ h.p with }⟩
theorem Room.step(h:Room c s){k:Nat}(d:s.ready c k=ai):Room c (s.step c M ans k):=by
 unfold St.ready at d;unfold St.step;split at d
 ·rename_i I;rw[if_pos I];exact h.rdStep d
 ·rename_i I;rw[if_neg I];split at d
  ·rename_i H;rw[if_pos H];have O:k-1<s.fm.length:=by rw[h.p.qv];omega
   have J:s.fm[k-1]?=aj (s.fm.getD (k-1) Wk.fresh):=zG;exact h.kd J d
  ·rename_i H;rw[if_neg H];split at d
   ·rename_i E;rw[if_pos E];exact h.ke d
   ·rename_i E;rw[if_neg E];split at d
    ·exact h.iI d
    grind
theorem Room.cancel(h:Room c s):Room c s.cancel:=by
 unfold St.cancel;split
 ·exact h
 ·exact⟨h.b,h.n,{ h.p with yr:=λ_=>.inl rfl }⟩
theorem mz{d h:Type}(f:d→Option h)(x:d)(E:f x=aA):∀n,(ag n x).filterMap f=[]
 |0=>rfl
 |n+1=>by simp_all
theorem Room.start(O:0<c.ring)(d:LL):Room c (St.start c d):=by
 have h:(St.start c d).jP=[]:=by
  unfold St.jP St.start;exact mz _ _ rfl _
 refine⟨?_,?_,?_⟩
 ·unfold St.iq;rw[h];refine⟨?_,by simp[St.start],by simp[St.start],λn I=>?_⟩
  ·show([]++(ae c.ring).reverse).Perm _;grind
  ·show(ag c.ring af).getD n af=decide (n∈([]:List Nat));grind
 ·unfold St.nums;rw[h];refine⟨by simp[St.start],O,List.nodup_nil,(λn I=>by simp at I),λn V U J=>?_,by simp[St.start],(by simp[St.start]),by simp[St.start]⟩;have J:(((ag c.ring aA:List (Option Hits)).getD (n%(ag c.ring aA:List (Option Hits)).length) aA).isSome=ai):=J;grind
 ·exact{
   holds:=rfl
   qlen:=aL _
   H9:=aL _
   qv:=by simp[St.start]
   Br:=λw H=>by have:=au H;subst this;decide
   Kr:=(by decide:1≤1∧1≤5)
   Nz:=(by decide:1≤1∧1≤3)
   R9:=(by decide:1≤1∧1≤2)
   Ks:=rfl
   Qa:=rfl
   w4:=λw H T=>by have:=au H;subst this;exact absurd T zD
   e2:=λe=>absurd e (by decide:¬(1:Nat)=2)
   NA:=⟨λE=>absurd E (by decide:¬(1:Nat)=2),λE=>absurd rfl E⟩
   yr:=λe=>absurd e (by decide:¬(1:Nat)=3)
   D9:=λe=>absurd e (by decide:¬(1:Nat)=3) }
end
end fq
namespace fq
def ni(M:Mc)(b:BB)(k d:Nat):Hits:=if b.eZ<d+1 then(M.words k).map λx:Nat=>((b.start:Int)-(b.eZ:Int)+((d+1:Nat):Int),(x:Int))else []
section
variable {M:Mc} {b:BB}
theorem gY(n k d:Nat)(hs:Hits):scan M b (n+1) k d hs=if d<b.data.length then scan M b n (M.step k (b.data.getD d 0)) (d+1) (hs++ni M b (M.step k (b.data.getD d 0)) d)else(k,d,hs):=by
 grind[scan,ni]
theorem zN:∀(n k d:Nat) (h:Hits),scan M b n k d h=((scan M b n k d []).1,(scan M b n k d []).2.1,h++(scan M b n k d []).2.2)
 |0,k,d,h=>by simp[scan]
 |n+1,k,d,h=>by
  rw[gY,gY];split
  ·rw[zN n _ _ (h++_),zN n _ _ ([]++_)];simp
  ·simp
theorem nL:∀(m n k d:Nat) (s:Hits),scan M b (m+n) k d s=scan M b n (scan M b m k d s).1 (scan M b m k d s).2.1 (scan M b m k d s).2.2
 |0,n,k,d,s=>by rw[Nat.zero_add];rfl
 |m+1,n,k,d,s=>by
  rw[Nat.add_right_comm,gY,gY];split
  ·exact nL m n _ _ _
  ·rename_i h;cases n with
   |zero=>rfl
   |succ n=>rw[gY,if_neg h]
theorem yu(n k d:Nat)(hs:Hits)(h:b.data.length≤d):scan M b n k d hs=(k,d,hs):=by
 cases n with
 |zero=>rfl
 |succ n=>simp_all[gY,if_neg]
theorem ma:∀(n k d:Nat) (s:Hits),d≤b.data.length→(scan M b n k d s).2.1=min (d+n) b.data.length
 |0,k,d,s,h=>by grind[scan]
 |n+1,k,d,s,h=>by
  rw[gY];split
  ·rw[ma n _ _ _ zO];omega
  ·simp only;omega
theorem yv:∀(d:Nat),d≤b.data.length→scan M b d 0 0 []=((b.data.take d).foldl M.step 0,d,(ae d).flatMap λe=>ni M b ((b.data.take (e+1)).foldl M.step 0) e)
 |0,_=>by rfl
 |d+1,h=>by
  rw[nL d 1,yv d zO];simp only;rw[gY,if_pos zO];have e:(b.data.take (d+1)).foldl M.step 0=M.step ((b.data.take d).foldl M.step 0) (b.data.getD d 0):=by
   grind[List.take_add_one,aD]
  grind[av,scan]
end
def qV(c:Cf)(M:Mc)(text:L8)(i:Nat):BB:=⟨i,c.kX+i*c.block,min (M.long-1) (i*c.block),(text.take ((i+1)*c.block)).drop (i*c.block-(M.long-1))⟩
def Ia(M:Mc)(b:BB):Hits:=(scan M b b.data.length 0 0 []).2.2
def Np(c:Cf)(M:Mc)(text:L8)(n:Nat):Hits:=(ae n).flatMap λi=>Ia M (qV c M text i)
structure xR(M:Mc)(S:L8→List Nat):Prop where
 words:∀t:L8,M.words (t.foldl M.step 0)=S t
 last:∀t:L8,S t=S (t.drop (t.length-M.long))
 pos:1≤M.long
def BD(d:Nat)(S:L8→List Nat)(text:L8)(m:Nat):Hits:=(ae m).flatMap λe=>(S (text.take (e+1))).map λx:Nat=>(((d+(e+1):Nat):Int),(x:Int))
section
variable {c:Cf} {M:Mc} {S:List UInt8→List Nat} {text:List UInt8}
theorem xR.drop(h:xR M S)(t:L8)(k:Nat)(d:k+M.long≤t.length∨k=0):S (t.drop k)=S t:=by
 rcases d with d|rfl
 ·rw[h.last (t.drop k),h.last t,aM,List.length_drop];grind
 rfl
theorem oz{d:Type}(f:Nat→List d)(a n:Nat):(ae (a+n)).flatMap f=(ae a).flatMap f++(ae n).flatMap λe=>f (a+e):=by
 rw[List.range_add,aO,List.flatMap_map]
theorem flatMap_nil{d:Type}{l:List Nat}{f:Nat→List d}(h:∀x∈l,f x=[]):l.flatMap f=[]:=List.flatMap_eq_nil_iff.2 h
theorem uR{d:Type}{l:List Nat}{f g:Nat→List d}(h:∀x∈l,f x=g x):l.flatMap f=l.flatMap g:=by
 induction l with
 |nil=>rfl
 |cons x l s=>grind
theorem Eb(i:Nat):(qV c M text i).data.length=min ((i+1)*c.block) text.length-(i*c.block-(M.long-1)):=by
 simp[qV]
theorem Qc(h:xR M S)(i:Nat)(hi:i*c.block≤text.length) :
  Ia M (qV c M text i)=(ae (min ((i+1)*c.block) text.length-i*c.block)).flatMap λe=>(S (text.take (i*c.block+e+1))).map λx:Nat=>(((c.kX+(i*c.block+e+1):Nat):Int),(x:Int)):=by
 have s:=Eb (c:=c) (M:=M) (text:=text) i;have T:(i+1)*c.block=i*c.block+c.block:=zG;unfold Ia;rw[yv _ (aK _)];simp only;generalize I:i*c.block-(M.long-1)=E at s;generalize V:min ((i+1)*c.block) text.length=J at s ⊢;have U:(qV c M text i).eZ=i*c.block-E:=by grind[qV]
 have e:(qV c M text i).data.length=(i*c.block-E)+(J-i*c.block):=zO;rw[e,oz];rw[flatMap_nil (l:=ae (i*c.block-E)) (λd O=>by
  unfold ni;grind)]
 rw[List.nil_append];refine uR λd O=>?_;have O:=aB.1 O;unfold ni;rw[if_pos zO,h.words];have H:(qV c M text i).data.take (i*c.block-E+d+1)=(text.take (i*c.block+d+1)).drop E:=by
  unfold qV;simp only;rw[I,List.take_drop,List.take_take];congr 2;omega
 rw[H,h.drop _ E (by
  grind)]
 congr 1;funext x;rw[U];unfold qV;grind
theorem Gm(h:xR M S):∀(n:Nat),(0<n→(n-1)*c.block≤text.length)→Np c M text n=BD c.kX S text (min (n*c.block) text.length)
 |0,_=>by simp[Np,BD]
 |n+1,hn=>by
  have d:n*c.block≤text.length:=hn zO;have E:(n+1)*c.block=n*c.block+c.block:=zG;have s:=Gm h n (λH=>aP (Nat.mul_le_mul_right _ zO) d);unfold Np at s ⊢;rw[av,aO,s];simp only[List.flatMap_cons,List.flatMap_nil,aI];rw[Qc h n d,Nat.min_eq_left d];unfold BD;rw[show min ((n+1)*c.block) text.length=n*c.block+(min ((n+1)*c.block) text.length-n*c.block) by omega,oz];grind
theorem KB(d:Nat){m n:Nat}(h:m≤n):BD d S text m<+:BD d S text n:=by
 unfold BD;rw[show n=m+(n-m) by omega,oz];grind
theorem ND{m n:Nat}(h:m≤n):Np c M text m<+:Np c M text n:=by
 unfold Np;rw[show n=m+(n-m) by omega,oz];grind
end
end fq
namespace fq
structure Sm(c:Cf)(M:Mc)(text:L8)(rd:Rd)(reads:LL)(read number:Nat)(T6:L8):Prop where
 NF:reads.flatten=text.drop read
 KC:read≤text.length
 tail:rd.tail=(text.take read).drop (read-(M.long-1))
 Pg:rd.ph=1→read=number*c.block∧rd.ended=af
 uS:rd.ph=2∨rd.ph=3→rd.ahead=number*c.block∧read=rd.ahead+rd.own∧rd.eZ=min (M.long-1) rd.ahead∧T6=(text.take read).drop (rd.ahead-(M.long-1))
 NG:rd.ph=2→rd.own<c.block∧rd.ended=af
 NH:rd.ph=3→1≤rd.own∧rd.own≤c.block∧(rd.ended=ai→read=text.length)∧(rd.ended=af→rd.own=c.block)
 Ph:rd.ph=4∨rd.ph=5→read=text.length∧text.length≤number*c.block
 cnt:0<number→(number-1)*c.block<text.length
structure T7(c:Cf)(M:Mc)(text:L8)(w:Wk):Prop where
 wk:w.ph=2∨w.ph=3→scan M w.pc.blk w.done 0 0 []=(w.node,w.done,w.hits)∧w.done≤w.pc.blk.data.length∧(w.ph=3→w.done=w.pc.blk.data.length)
 WN:w.ph=1→w.node=0∧w.done=0∧w.hits=[]
structure KD(c:Cf)(M:Mc)(text:L8)(nums:List Nat)(number:Nat)(r:Rg):Prop where
 rg:∀n,r.next≤n→n<r.next+c.ring→∀h,r.at_ n=aj h→h=Ia M (qV c M text n)
 cover:∀n,r.next≤n→n<number→n∈nums∨(r.at_ n).isSome=ai
structure Dat(c:Cf)(M:Mc)(text:L8)(s:St):Prop where
 r:Sm c M text s.rd s.src.reads s.pl.read s.pl.number (s.buf.data.getD s.rd.buf [])
 jP:∀p∈s.jP,p.blk=qV c M text p.blk.num
 w:∀w∈s.fm,T7 c M text w
 g:KD c M text s.nums s.pl.number s.rg
 took:s.pl.took++s.out.items++s.mg.hits=Np c M text s.rg.next
section
variable {c:Cf} {M:Mc} {text:List UInt8} {ans:List Bool} {s:St}
theorem KD.perm{nums E:List Nat}{d:Nat}{r:Rg}(h:KD c M text nums d r)(H:E.Perm nums):KD c M text E d r:=
 ⟨h.rg,λn J I=>(h.cover n J I).imp (H.mem_iff.2) id⟩
theorem BE{E:Type}(l:List E)(i j:Nat)(x d:E)(h:j≠i):(l.set i x).getD j d=l.getD j d:=by
 grind
theorem py{E:Type}(l:List E)(i:Nat)(x d:E)(h:i<l.length):(l.set i x).getD i d=x:=by
 grind
theorem Dat.lL(h:Dat c M text s)(d:Room c s)(T:1≤c.block)(E:s.rd.ph=1)(I:s.rg.admits s.pl.number=ai):Dat c M text s.lL:=by
 have J:s.rd.holds=false:=by rw[d.p.holds,E];rfl
 obtain⟨h1,U,h3⟩:=d.b.take (d.free J I);obtain⟨W,V⟩:=h.r.Pg E;have H:=h.r.tail;refine⟨?_,h.jP,h.w,h.g,h.took⟩;have O:(s.buf.take.2.put s.buf.take.1 s.rd.tail).data.getD s.buf.take.1 []=s.rd.tail:=by
  have Y:s.buf.take.1<s.buf.data.length:=by rw[d.b.H7];exact U
  unfold Buf.put;simp only;have e0:s.buf.take.2.data=s.buf.data.set s.buf.take.1 []:=rfl;grind
 exact{ h.r with
  Pg:=λe=>absurd e (by decide:¬(2:Nat)=1)
  uS:=λ_=>⟨W,rfl,by
   show s.rd.tail.length=min (M.long-1) s.pl.read;rw[H,List.length_drop,List.length_take];have:=h.r.KC;omega,O.trans H⟩
  NG:=λ_=>⟨T,V⟩
  NH:=λe=>absurd e (by decide:¬(2:Nat)=3)
  Ph:=λe=>absurd e (by decide:¬((2:Nat)=4∨(2:Nat)=5)) }
theorem BF{x d:Src}{n:Nat}{b:L8}(h:x.next n=aj (b,d)):b.length≤n∧x.reads.flatten=b++d.reads.flatten:=by
 grind[Src.next,List.length_take,List.flatten_cons,ah,List.take_append_drop]
theorem Dat.gN(h:Dat c M text s)(U:Room c s)(T:s.rd.ph=2):Dat c M text (s.gN c M):=by
 obtain⟨Y,e2,W,e4⟩:=h.r.uS (.inl T);obtain⟨e5,e6⟩:=h.r.NG T;have et:=h.r.tail;have hL:=h.r.KC;have hh:s.rd.holds=true:=by rw[U.p.holds,T];rfl
 have ab:s.rd.buf<s.buf.data.length:=by
  rw[U.b.H7];refine U.b.lt ?_;grind[St.iq]
 unfold St.gN;split
 ·rename_i b J d;obtain⟨h1,h2⟩:=BF d;have V:=h.r.NF;rw[h2]at V;have I:s.pl.read+b.length≤text.length:=by
   have:=congrArg List.length V;grind
  have hb:b=(text.drop s.pl.read).take b.length:=zG;have O:text.take s.pl.read++b=text.take (s.pl.read+b.length):=by
   grind
  refine⟨?_,h.jP,h.w,h.g,h.took⟩;have e0:∀x:Nat,¬(if x=c.block then 3 else 2:Nat)=1∧¬((if x=c.block then 3 else 2:Nat)=4∨(if x=c.block then 3 else 2:Nat)=5):=λx=>by grind
  exact{ h.r with
   NF:=by
    show J.reads.flatten=text.drop (s.pl.read+b.length);rw[←aM,←V];simp
   KC:=I
   tail:=by
    show(s.rd.tail++b).drop ((s.rd.tail++b).length-(M.long-1))=(text.take (s.pl.read+b.length)).drop (s.pl.read+b.length-(M.long-1));rw[←O,et];have aa:(text.take s.pl.read).length=s.pl.read:=zG;rw[←List.drop_append_of_le_length zO,aM];congr 1;grind
   Pg:=λe=>absurd e (e0 _).1
   uS:=λ_=>⟨Y,by grind,W,by
    show(s.buf.data.set s.rd.buf (s.buf.data.getD s.rd.buf []++b)).getD s.rd.buf []=(text.take (s.pl.read+b.length)).drop (s.rd.ahead-(M.long-1));grind⟩
   NG:=λe=>by
    grind
   NH:=λe=>by
    grind
   Ph:=λe=>absurd e (e0 _).2 }
 ·rename_i d;have h0:=NB d;have H:s.pl.read=text.length:=by
   have:=h.r.NF;rw[h0]at this;have:=congrArg List.length this;grind
  split
  ·rename_i E;refine⟨?_,h.jP,h.w,h.g,h.took⟩;exact{ h.r with
    Pg:=λe=>absurd e (by decide:¬(3:Nat)=1)
    uS:=λ_=>⟨Y,e2,W,e4⟩
    NG:=λe=>absurd e (by decide:¬(3:Nat)=2)
    NH:=λ_=>⟨E,aQ e5,λ_=>H,λe=>by cases e⟩
    Ph:=λe=>absurd e (by decide:¬((3:Nat)=4∨(3:Nat)=5)) }
  ·rename_i E;refine⟨?_,h.jP,h.w,h.g,h.took⟩;exact{ h.r with
    Pg:=λe=>absurd e (by decide:¬(4:Nat)=1)
    uS:=λe=>absurd e (by decide:¬((4:Nat)=2∨(4:Nat)=3))
    NG:=λe=>absurd e (by decide:¬(4:Nat)=2)
    NH:=λe=>absurd e (by decide:¬(4:Nat)=3)
    Ph:=λ_=>⟨H,by grind⟩ }
theorem Dat.lR(h:Dat c M text s)(I:s.rd.ph=3):Dat c M text (s.lR c):=by
 obtain⟨Y,e2,W,V⟩:=h.r.uS (.inr I);obtain⟨e5,e6,U,e8⟩:=h.r.NH I;have hL:=h.r.KC;have J:(s.pl.number+1)*c.block=s.pl.number*c.block+c.block:=zG;have d:(s.lR c).jP.Perm (⟨⟨s.pl.number,c.kX+s.rd.ahead,s.rd.eZ,s.buf.data.getD s.rd.buf []⟩,s.rd.buf⟩::s.jP):=by
  unfold St.jP;show((s.q.items++[_])++_).Perm _;rw[ah];exact an
 have e0:(if s.rd.ended then 4 else 1:Nat)=4∨(if s.rd.ended then 4 else 1:Nat)=1:=zG;have E:(⟨s.pl.number,c.kX+s.rd.ahead,s.rd.eZ,s.buf.data.getD s.rd.buf []⟩:BB)=qV c M text s.pl.number:=by
  unfold qV;rw[V,W,Y];have:text.take s.pl.read=text.take ((s.pl.number+1)*c.block):=by
   cases H:s.rd.ended with
   |true=>
    simp_all
   |false=>grind
  rw[this]
 refine⟨?_,λp hm=>?_,h.w,?_,h.took⟩
 ·exact{ h.r with
   Pg:=λe=>by
    have e:(if s.rd.ended then 4 else 1:Nat)=1:=e;cases H:s.rd.ended with
    |true=>grind
    |false=>exact⟨by show s.pl.read=(s.pl.number+1)*c.block;grind,H⟩
   uS:=λe=>by
    have e:(if s.rd.ended then 4 else 1:Nat)=2∨(if s.rd.ended then 4 else 1:Nat)=3:=e;omega
   NG:=λe=>by
    have e:(if s.rd.ended then 4 else 1:Nat)=2:=e;omega
   NH:=λe=>by
    have e:(if s.rd.ended then 4 else 1:Nat)=3:=e;omega
   Ph:=λe=>by
    have e:(if s.rd.ended then 4 else 1:Nat)=4∨(if s.rd.ended then 4 else 1:Nat)=5:=e;cases H:s.rd.ended with
    |false=>grind
    |true=>exact⟨U H,by show text.length≤(s.pl.number+1)*c.block;grind⟩
   cnt:=λ_=>by show(s.pl.number+1-1)*c.block<text.length;grind }
 ·rcases aq.1 (d.mem_iff.1 hm)with rfl|hm
  ·exact E
  ·exact h.jP p hm
 ·refine(KD.perm (nums:=s.pl.number::s.nums) ⟨h.g.rg,λn T O=>?_⟩ (d.map λx:Pc=>x.blk.num));by_cases e:n=s.pl.number
  ·grind
  ·exact(h.g.cover n T (by have O:n<s.pl.number+1:=O;omega)).imp (al _) id
theorem Dat.iH(h:Dat c M text s)(d:s.rd.ph=4):Dat c M text s.iH:=by
 refine⟨?_,h.jP,h.w,h.g,h.took⟩;exact{ h.r with
  Pg:=λe=>absurd e (by decide:¬(5:Nat)=1)
  uS:=λe=>absurd e (by decide:¬((5:Nat)=2∨(5:Nat)=3))
  NG:=λe=>absurd e (by decide:¬(5:Nat)=2)
  NH:=λe=>absurd e (by decide:¬(5:Nat)=3)
  Ph:=λ_=>h.r.Ph (.inl d) }
theorem Dat.rdStep(h:Dat c M text s)(I:Room c s)(T:1≤c.block)(O:s.pl.cancelled=af)(d:s.kY c=ai):Dat c M text (s.rdStep c M):=by
 unfold St.kY at d;unfold St.rdStep;have J:=I.p.Kr;split at d
 ·cases d
 ·rename_i V;rw[if_neg (by simp[O])]at d ⊢;split at d
  ·rename_i H;rw[if_pos H];exact h.lL I T H d
  ·rename_i H;rw[if_neg H];split at d
   ·rename_i E;rw[if_neg zO,if_pos E];exact h.lR E
   ·rename_i E;rw[if_neg E];split
    ·rename_i U;exact h.gN I U
    ·exact h.iH zO
theorem Dat.zM(h:Dat c M text s){i:Nat}{w:Wk}(hi:s.fm[i]?=aj w)(H:w.ph=1):Dat c M text { s with fm:=s.fm.set i { w with ph:=4 } }:=by
 have d:({ s with fm:=s.fm.set i { w with ph:=4 } }:St).jP.Perm s.jP:=by
  have:=ow s i w { w with ph:=4 } hi;grind[Wk.oy]
 refine⟨h.r,λp E=>h.jP p (d.mem_iff.1 E),λx hx=>?_,h.g.perm (d.map λx:Pc=>x.blk.num),h.took⟩;rcases iU hx with rfl|hx
 ·exact⟨λe=>by simp at e,λe=>by simp at e⟩
 ·exact h.w x hx
theorem Dat.jN(h:Dat c M text s){i:Nat}{w:Wk}(hi:s.fm[i]?=aj w)(H:w.ph=1):Dat c M text (s.jN i w):=by
 unfold St.jN;split
 ·exact h.zM hi H
 ·rename_i x l I;have d:({ s with q:=s.q.drop1,fm:=s.fm.set i { w with pc:=x,ph:=2 } }:St).jP.Perm s.jP:=by
   have E:=jW Wk.busy s.fm i { w with pc:=x,ph:=2 } w hi;rw[Wk.oy (w:=w) zO,Wk.jX zS]at E;unfold St.jP Ff.drop1;rw[I];show(l++_).Perm (x::(l++_));exact(E.append_left l).trans an
  obtain⟨E,T,O⟩:=(h.w w (yt hi)).WN H;refine⟨h.r,λp J=>h.jP p (d.mem_iff.1 J),λy hy=>?_,h.g.perm (d.map λx:Pc=>x.blk.num),h.took⟩;rcases iU hy with rfl|hy
  ·refine⟨λ_=>⟨?_,?_,λe=>by simp at e⟩,λe=>by simp at e⟩
   ·simp only;rw[E,T,O];rfl
   grind
  ·exact h.w y hy
theorem Dat.jO(h:Dat c M text s){i:Nat}{w:Wk}(hi:s.fm[i]?=aj w)(I:w.ph=2):Dat c M text (s.jO c M i w):=by
 unfold St.jO;have e:∀(a b:Nat),(if a=b then 3 else 2:Nat)=2∨(if a=b then 3 else 2:Nat)=3:=λa b=>by grind
 obtain⟨H,U,_⟩:=(h.w w (yt hi)).wk (.inl I);have E:=nL (M:=M) (b:=w.pc.blk) w.done c.slice 0 0 [];rw[H]at E;simp only at E;rw[zN c.slice]at E;have T:=ma (M:=M) (b:=w.pc.blk) c.slice w.node w.done [] U;generalize scan M w.pc.blk c.slice w.node w.done []=o at E T;have d:({ s with fm:=s.fm.set i { w with node:=o.1,done:=o.2.1,hits:=w.hits++o.2.2,ph:=if o.2.1=w.pc.blk.data.length then 3 else 2 } }:St).jP.Perm s.jP:=by
  have H:=ow s i w { w with node:=o.1,done:=o.2.1,hits:=w.hits++o.2.2,ph:=if o.2.1=w.pc.blk.data.length then 3 else 2 } hi;grind[Wk.jX,w,List.perm_cons]
 refine⟨h.r,λp J=>h.jP p (d.mem_iff.1 J),λy hy=>?_,h.g.perm (d.map λx:Pc=>x.blk.num),h.took⟩;rcases iU hy with rfl|hy
 ·refine⟨λ_=>⟨?_,?_,λe=>?_⟩,λV=>?_⟩
  ·simp only;rcases Nat.le_total (w.done+c.slice) w.pc.blk.data.length with h5|h5
   ·grind
   ·have O:w.done+c.slice=w.pc.blk.data.length+(w.done+c.slice-w.pc.blk.data.length):=zO;rw[O,nL,yu _ _ _ _ (by simp[ma,aL])]at E;grind
  ·grind
  ·grind
  grind
 ·exact h.w y hy
theorem Dat.nf(h:Dat c M text s)(H:Room c s){i:Nat}{w:Wk}(hi:s.fm[i]?=aj w)(hp:w.ph=3):Dat c M text (s.nf i w):=by
 unfold St.nf St.ij;have d:(w.pc::({ s with fm:=s.fm.set i Wk.fresh }:St).jP).Perm s.jP:=by
  have O:=ow s i w Wk.fresh hi;grind[Wk.jX,w,Wk.ox]
 have T:w.pc∈s.jP:=d.mem_iff.1 (ak ..);have hn:iz c.ring (w.pc.blk.num::({ s with fm:=s.fm.set i Wk.fresh }:St).nums) s.pl.number s.rd.holds s.rg:=H.n.congr (d.map λx:Pc=>x.blk.num);have E:=hn.num w.pc.blk.num (ak ..);have ad:=H.n.ahead;obtain⟨O,U,h3⟩:=(h.w w (yt hi)).wk (.inr hp);have Y:w.hits=Ia M (qV c M text w.pc.blk.num):=by
  rw[←h.jP w.pc T];grind[Ia]
 refine⟨?_,λp hm=>h.jP p (d.mem_iff.1 (al _ hm)),λy hy=>?_,⟨λn O U x hx=>?_,λn O U=>?_⟩,h.took⟩
 ·have hr:=h.r;by_cases V:s.rd.ph=2∨s.rd.ph=3
  ·have hh:s.rd.holds=true:=by rw[H.p.holds];grind
   have W:s.rd.buf≠w.pc.buf:=λe=>by
    have ab:=(List.nodup_append.1 H.b.nodup).1;grind[St.iq,aH,List.mem_map_of_mem]
   have e:(s.buf.give w.pc.buf).data.getD s.rd.buf []=s.buf.data.getD s.rd.buf []:=BE _ _ _ _ _ W;grind
  ·exact{ hr with uS:=λe=>absurd e V }
 ·rcases iU hy with rfl|hy
  ·exact⟨λe=>absurd e zD,λ_=>⟨rfl,rfl,rfl⟩⟩
  ·exact h.w y hy
 ·have J:n<s.rg.next+c.ring:=U;have I:(s.rg.put w.pc.blk.num w.hits).at_ n=aj x:=hx;rw[Rg.Ea H.n.pw H.n.rN _ _ n E.1 zO O J]at I;split at I
  ·grind
  ·exact h.g.rg n O J x I
 ·have aa:s.rg.next≤n:=O;have J:n<s.pl.number:=U;show n∈_∨((s.rg.put w.pc.blk.num w.hits).at_ n).isSome=ai;rw[Rg.Ea H.n.pw H.n.rN _ _ n E.1 zO aa zO];by_cases e:n=w.pc.blk.num
  ·grind
  ·rw[if_neg e];rcases h.g.cover n O U with hm|hm
   ·left;have:=(d.map λx:Pc=>x.blk.num).mem_iff.2 hm;exact(aq.1 this).resolve_left e
   grind
theorem Dat.kd(h:Dat c M text s)(H:Room c s)(I:s.pl.cancelled=af){i:Nat}{w:Wk}(hi:s.fm[i]?=aj w)(d:s.kZ w=ai):Dat c M text (s.kd c M i w):=by
 unfold St.kZ at d;unfold St.kd;have O:=H.p.Br w (yt hi);rw[if_neg (by simp[I])];split at d
 ·cases d
 ·split at d
  ·rename_i E;rw[if_pos E];exact h.jN hi E
  ·rename_i T E;rw[if_neg E];split
   ·rename_i J;exact h.jO hi J
   ·exact h.nf H hi zO
theorem Dat.ke(h:Dat c M text s)(V:Room c s)(hc:s.pl.cancelled=af)(T:s.lf c=ai):Dat c M text s.ke:=by
 unfold St.lf at T;unfold St.ke;split at T
 ·cases T
 ·rename_i h3;rw[if_neg (by simp[hc])]at T ⊢;split at T
  ·rename_i I;rw[if_pos I];have U:s.mg.hits=[]:=ar λJ=>by have:=V.p.NA.2 J;omega
   unfold St.kO;split
   ·exact⟨h.r,h.jP,h.w,h.g,h.took⟩
   ·rename_i hs J;have O:=V.n.rN;have hh:=h.g.rg s.rg.next (aK _) zO hs J;refine⟨h.r,h.jP,h.w,⟨λn I h2 x W=>?_,λn I h2=>?_⟩,?_⟩
    ·have H:s.rg.next+1≤n:=I;have E:n<s.rg.next+1+c.ring:=h2;have d:s.rg.take.at_ n=aj x:=W;rw[Rg.zL V.n.pw O n H E]at d;split at d
     ·cases d
     ·exact h.g.rg n zO zO x d
    ·have H:s.rg.next+1≤n:=I;have E:n<s.pl.number:=h2;have:=V.n.ahead;show n∈_∨(s.rg.take.at_ n).isSome=ai;rw[Rg.zL V.n.pw O n H zO,if_neg (show¬n=s.rg.next+c.ring by omega)];exact h.g.cover n zO E
    ·have Y:=h.took;rw[U,aI]at Y;show s.pl.took++s.out.items++(if hs.isEmpty then s.mg else⟨2,hs⟩:Mg).hits=Np c M text (s.rg.next+1);grind[Np,av]
  ·rename_i I;rw[if_neg I];unfold St.ka;split
   ·exact h
   ·rename_i x l J;refine⟨h.r,h.jP,h.w,h.g,?_⟩;have Y:=h.took;rw[J]at Y;show s.pl.took++(s.out.items++[x])++l=_;grind
theorem Dat.iI(h:Dat c M text s)(H:s.pl.cancelled=af):Dat c M text (s.iI ans):=by
 unfold St.iI;rw[if_neg (by simp[H])];unfold St.jr;split
 ·exact⟨h.r,h.jP,h.w,h.g,h.took⟩
 ·rename_i x l E;dsimp only;split
  ·refine⟨h.r,h.jP,h.w,h.g,?_⟩;have d:=h.took;rw[E]at d;show(s.pl.took++[x])++s.out.items.drop 1++s.mg.hits=_;grind
  ·exact⟨h.r,h.jP,h.w,h.g,h.took⟩
theorem Dat.step(h:Dat c M text s)(H:Room c s)(U:1≤c.block)(E:s.pl.cancelled=af){k:Nat}(d:s.ready c k=ai):Dat c M text (s.step c M ans k):=by
 unfold St.ready at d;unfold St.step;split at d
 ·rename_i O;rw[if_pos O];exact h.rdStep H U E d
 ·rename_i O;rw[if_neg O];split at d
  ·rename_i J;rw[if_pos J];have V:k-1<s.fm.length:=by rw[H.p.qv];omega
   have T:s.fm[k-1]?=aj (s.fm.getD (k-1) Wk.fresh):=zG;exact h.kd H E T d
  ·rename_i J;rw[if_neg J];split at d
   ·rename_i I;rw[if_pos I];exact h.ke H E d
   ·rename_i I;rw[if_neg I];exact h.iI E
theorem Dat.start(c:Cf)(M:Mc)(d:LL):Dat c M d.flatten (St.start c d):=by
 have J:(St.start c d).jP=[]:=by
  unfold St.jP St.start;exact mz _ _ rfl _
 refine⟨?_,λp T=>zG,λw I=>?_,⟨λn O H h E=>?_,λn O H=>?_⟩,rfl⟩
 ·exact{
   NF:=by rfl
   KC:=aL _
   tail:=by simp[St.start]
   Pg:=λ_=>⟨by simp[St.start],rfl⟩
   uS:=λe=>absurd e (by decide:¬((1:Nat)=2∨(1:Nat)=3))
   NG:=λe=>absurd e (by decide:¬(1:Nat)=2)
   NH:=λe=>absurd e (by decide:¬(1:Nat)=3)
   Ph:=λe=>absurd e (by decide:¬((1:Nat)=4∨(1:Nat)=5))
   cnt:=λe=>absurd e (Nat.lt_irrefl 0) }
 ·have:=au I;subst this;exact⟨λe=>absurd e zD,λ_=>⟨rfl,rfl,rfl⟩⟩
 ·have E:(ag c.ring aA:List (Option Hits)).getD _ aA=aj h:=E;grind
 ·exact absurd H (Nat.not_lt_zero _)
end
end fq
namespace fq
def o7(w:Wk):Nat:=if w.ph=4 then 0 else if w.ph=1 then 1 else 2
def sumW:List Wk→Nat
 |[]=>0
 |w::l=>o7 w+sumW l
def St.cost(s:St):Nat:=(if s.rd.ph=5 then 0 else 1)+(if s.mg.ph=3 then 0 else 1)+(if s.em=2 then 0 else if s.out.items.isEmpty then 1 else 2)+s.q.items.length+sumW s.fm
section
variable {c:Cf} {M:Mc} {ans:List Bool} {s:St}
theorem rO:∀(l:List Wk) (i:Nat) (x y:Wk),l[i]?=aj y→sumW (l.set i x)+o7 y=sumW l+o7 x
 |[],i,x,y,h=>by simp at h
 |a::l,0,x,y,h=>by
  grind[aE,aw,sumW]
 |a::l,i+1,x,y,h=>by
  have:=rO l i x y (by simpa using h);simp only[List.set_cons_succ,sumW];omega
theorem Ib(h:Room c s)(E:s.pl.cancelled=ai){k:Nat}(d:s.ready c k=ai) :
  (s.step c M ans k).cost<s.cost∧(s.step c M ans k).pl.cancelled=ai∧(s.step c M ans k).pl.took=s.pl.took∧(s.step c M ans k).iG=s.iG:=by
 unfold St.ready at d;unfold St.step;split at d
 ·rename_i T;rw[if_pos T];unfold St.kY at d;unfold St.rdStep;rw[if_pos E];split at d
  ·cases d
  ·rename_i J;unfold St.ix St.iH;have e:(if s.rd.ph=5 then 0 else 1:Nat)=1:=if_neg J;split
   ·refine⟨?_,E,rfl,rfl⟩;unfold St.cost;rw[e];show 0+(if s.mg.ph=3 then 0 else 1)+(if s.em=2 then 0 else if s.out.items.isEmpty then 1 else 2)+s.q.items.length+sumW s.fm<_;omega
   ·refine⟨?_,E,rfl,rfl⟩;unfold St.cost;rw[e];show 0+(if s.mg.ph=3 then 0 else 1)+(if s.em=2 then 0 else if s.out.items.isEmpty then 1 else 2)+s.q.items.length+sumW s.fm<_;omega
 ·rename_i T;rw[if_neg T];split at d
  ·rename_i H;rw[if_pos H];have hk:k-1<s.fm.length:=by rw[h.p.qv];omega
   have I:s.fm[k-1]?=aj (s.fm.getD (k-1) Wk.fresh):=zG;generalize s.fm.getD (k-1) Wk.fresh=w at d I;generalize k-1=i at I;unfold St.kZ at d;unfold St.kd;rw[if_pos E];unfold St.gQ;split at d
   ·cases d
   ·rename_i h4;split at d
    ·rename_i H;rw[if_pos H];split
     ·rename_i Y;refine⟨?_,E,rfl,rfl⟩;have J:=rO s.fm i { w with ph:=4 } w I;have W:o7 { w with ph:=4 }=0:=rfl;have V:o7 w=1:=by simp_all[o7]
      grind[St.cost,sumW]
     ·rename_i x l Y;refine⟨?_,E,rfl,rfl⟩;have J:=rO s.fm i Wk.fresh w I;have W:o7 Wk.fresh=1:=rfl;have V:o7 w=1:=by simp_all[o7]
      unfold St.cost;show(if s.rd.ph=5 then 0 else 1)+(if s.mg.ph=3 then 0 else 1)+(if s.em=2 then 0 else if s.out.items.isEmpty then 1 else 2)+(s.q.items.drop 1).length+sumW (s.fm.set i Wk.fresh)<_;grind
    ·rename_i H;rw[if_neg H];refine⟨?_,E,rfl,rfl⟩;have J:=rO s.fm i Wk.fresh w I;have W:o7 Wk.fresh=1:=rfl;have V:o7 w=2:=by simp_all[o7]
     unfold St.cost;show(if s.rd.ph=5 then 0 else 1)+(if s.mg.ph=3 then 0 else 1)+(if s.em=2 then 0 else if s.out.items.isEmpty then 1 else 2)+s.q.items.length+sumW (s.fm.set i Wk.fresh)<_;omega
  ·rename_i H;rw[if_neg H];split at d
   ·rename_i O;rw[if_pos O];unfold St.lf at d;unfold St.ke;rw[if_pos E];split at d
    ·cases d
    ·rename_i U;refine⟨?_,E,rfl,rfl⟩;have e:(if s.mg.ph=3 then 0 else 1:Nat)=1:=if_neg U;unfold St.cost;rw[e];show(if s.rd.ph=5 then 0 else 1)+0+(if s.em=2 then 0 else if s.out.items.isEmpty then 1 else 2)+s.q.items.length+sumW s.fm<_;omega
   ·rename_i O;rw[if_neg O];split at d
    ·unfold St.ng at d;unfold St.iI;rw[if_pos E];split at d
     ·cases d
     ·rename_i U;unfold St.jV;refine⟨?_,E,rfl,rfl⟩;unfold St.cost;cases hi:s.out.items with
      |nil=>
       grind
      |cons x l=>
       show(if s.rd.ph=5 then 0 else 1)+(if s.mg.ph=3 then 0 else 1)+(if s.em=2 then 0 else 1)+s.q.items.length+sumW s.fm<_;grind
    grind
theorem tG{k:Nat}:k∈s.enabled c↔k<c.workers+3∧s.ready c k=true:=by simp[St.enabled]
def St.pick(c:Cf)(M:Mc)(ans:List Bool)(s:St)(n:Int):St:=match uP n (s.enabled c)with
 |none=>s
 |some k=>s.step c M ans k
theorem Ed{n:Int}{l:List Nat}{k:Nat}(h:uP n l=aj k):k∈l:=by
 unfold uP at h;cases l with
 |nil=>simp at h
 |cons x l=>
  simp only[List.isEmpty_cons,Bool.false_eq_true,if_false,aw]at h;have d:(0:Int)<((x::l).length:Int):=zG;have H:0≤n%((x::l).length:Int):=Int.emod_nonneg _ zO;have E:n%((x::l).length:Int)<((x::l).length:Int):=Int.emod_lt_of_pos _ d;grind
theorem Room.pick(h:Room c s)(n:Int):Room c (s.pick c M ans n):=by
 unfold St.pick;split
 ·exact h
 ·rename_i k d;exact h.step (tG.1 (Ed d)).2
def St.picks(c:Cf)(M:Mc)(ans:List Bool)(f:Nat→Int)(s:St):Nat→St
 |0=>s
 |n+1=>(St.picks c M ans f s n).pick c M ans (f n)
theorem Room.picks(h:Room c s)(f:Nat→Int):∀n,Room c (s.picks c M ans f n)
 |0=>h
 |n+1=>(h.picks f n).pick (f n)
end
end fq
namespace fq
structure Good(c:Cf)(M:Mc)(S:L8→List Nat)(text:L8)(ans:List Bool)(s:St):Prop where
 room:Room c s
 dat:s.pl.cancelled=af→Dat c M text s
 took:s.pl.took<+:BD c.kX S text text.length
 same:s.iG.took=s.pl.took
 says:s.iG.took.length=((ae s.iG.offers).filter λi=>Snk.says ans i).length
section
variable {c:Cf} {M:Mc} {S:List UInt8→List Nat} {text:List UInt8} {ans:List Bool} {s:St}
theorem Dat.pre(h:Dat c M text s)(E:Room c s)(d:xR M S):s.pl.took<+:BD c.kX S text text.length:=by
 have H:s.pl.took<+:Np c M text s.rg.next:=by rw[←h.took,ah];grind
 refine(H.trans (ND E.n.le)).trans ?_;rw[Gm d _ (λI=>aQ (h.r.cnt I))];grind[KB,Nat.min_le_right]
theorem Ic(I:s.iG.took=s.pl.took)(H:s.iG.took.length=((ae s.iG.offers).filter λi=>Snk.says ans i).length)(d:s.pl.cancelled=af) :
  (s.iI ans).iG.took=(s.iI ans).pl.took∧(s.iI ans).iG.took.length=((ae (s.iI ans).iG.offers).filter λi=>Snk.says ans i).length:=by
 unfold St.iI;rw[if_neg (by simp[d])];unfold St.jr;split
 ·grind
 ·rename_i x l E;dsimp only;unfold Snk.offer;cases h:Snk.says ans s.iG.offers with
  |true=>
   simp_all[List.length_append,av,aC]
  |false=>
   simp_all[Bool.false_eq_true,av,aC]
theorem KE(s:St)(k:Nat):(s.step c M ans k).pl.cancelled=s.pl.cancelled:=by
 unfold St.step;split
 ·grind[St.rdStep,St.lL,St.gN,St.lR,St.iH,St.ix]
 ·split
  ·grind[St.kd,St.gQ,St.jN,St.jO,St.nf,St.ij]
  ·split
   ·grind[St.ke,St.nK,St.lM,St.kO,St.ka]
   grind[St.iI,St.jV,St.jr]
theorem KF(s:St){k:Nat}(d:s.ready c k=ai)(h:k≠c.workers+2):(s.step c M ans k).iG=s.iG∧(s.step c M ans k).pl.took=s.pl.took:=by
 unfold St.ready at d;unfold St.step;split
 ·grind[St.rdStep,St.lL,St.gN,St.lR,St.iH,St.ix]
 ·rename_i H;rw[if_neg H]at d;split
  ·grind[St.kd,St.gQ,St.jN,St.jO,St.nf,St.ij]
  ·rename_i E;rw[if_neg E]at d;split
   ·grind[St.ke,St.nK,St.lM,St.kO,St.ka]
   grind
theorem Good.step(h:Good c M S text ans s)(Y:xR M S)(hB:1≤c.block){k:Nat}(I:s.ready c k=ai):Good c M S text ans (s.step c M ans k):=by
 have H:=KE (c:=c) (M:=M) (ans:=ans) s k;have d:=h.room.step (M:=M) (ans:=ans) I;have E:(s.step c M ans k).pl.cancelled=af→Dat c M text (s.step c M ans k):=λe=>by
  rw[H]at e;exact(h.dat e).step h.room hB e I
 cases T:s.pl.cancelled with
 |true=>
  obtain⟨_,_,O,J⟩:=Ib (M:=M) (ans:=ans) h.room T I;exact⟨d,E,by rw[O];exact h.took,by rw[O,J];exact h.same,by rw[J];exact h.says⟩
 |false=>
  have W:=E (H.trans T);have U:(s.step c M ans k).iG.took=(s.step c M ans k).pl.took∧(s.step c M ans k).iG.took.length=((ae (s.step c M ans k).iG.offers).filter λi=>Snk.says ans i).length:=by
   by_cases V:k=c.workers+2
   ·have e:s.step c M ans k=s.iI ans:=by
     simp_all[St.step,if_neg]
    rw[e];exact Ic h.same h.says T
   ·obtain⟨O,J⟩:=KF (M:=M) (ans:=ans) s I V;rw[O,J];exact⟨h.same,h.says⟩
  exact⟨d,E,W.pre d Y,U.1,U.2⟩
theorem Good.cancel(h:Good c M S text ans s):Good c M S text ans s.cancel:=by
 have d:=h.room.cancel;unfold St.cancel at d ⊢;split
 ·exact h
 ·rename_i E;rw[if_neg E]at d;exact⟨d,λe=>(by cases e),h.took,h.same,h.says⟩
theorem Good.start(E:xR M S)(h:0<c.ring)(ans:List Bool)(d:LL):Good c M S d.flatten ans (St.start c d):=
 ⟨Room.start h d,λ_=>Dat.start c M d,(Dat.start c M d).pre (Room.start h d) E,rfl,rfl⟩
theorem Good.done(h:Good c M S text ans s)(T:xR M S)(E:s.over=ai)(I:s.pl.cancelled=af):s.pl.took=BD c.kX S text text.length∧s.pl.read=text.length:=by
 have H:=h.dat I;unfold St.over at E;simp only[Bool.and_eq_true,decide_eq_true_eq]at E;obtain⟨⟨⟨Y,_⟩,W⟩,V⟩:=E;obtain⟨e1,e2⟩:=H.r.Ph (.inr Y);have U:=(h.room.p.yr W).resolve_left (by simp[I]);have O:s.mg.hits=[]:=ar λJ=>by have:=h.room.p.NA.2 J;omega
 have d:=H.took;rw[(h.room.p.e2 V).1,O,U.2]at d;simp only[aI]at d;rw[d,Gm T _ (λh0=>aQ (H.r.cnt h0)),Nat.min_eq_right e2];exact⟨rfl,e1⟩
variable {r:Rn} {g:Go}
theorem qG:∀(l:List Nat) (x:Nat),l.foldl min x=x∨l.foldl min x∈l
 |[],x=>.inl rfl
 |y::l,x=>by
  rw[ao];rcases qG l (min x y)with h|h
  ·grind
  grind
theorem qH:∀(l:List Nat) (x:Nat),l.foldl max x=x∨l.foldl max x∈l
 |[],x=>.inl rfl
 |y::l,x=>by
  rw[ao];rcases qH l (max x y)with h|h
  ·grind
  grind
theorem BG{l:List Nat}(h:l≠[]):minL l∈l:=by
 cases l with
 |nil=>grind
 |cons x l=>
  rcases qG l x with e|e
  ·show List.foldl min x l∈_;grind
  ·exact al _ e
theorem KG{l:List Nat}(h:l≠[]):maxL l∈l:=by
 cases l with
 |nil=>grind
 |cons x l=>
  rcases qH l x with e|e
  ·show List.foldl max x l∈_;grind
  ·exact al _ e
def fT(last:Int)(a:Option Nat)(n:Nat):Option Nat:=if last<(n:Int)then(match a with|none=>aj n|some m=>if n<m then aj n else aj m)else a
theorem tH(last:Int):∀(l:List Nat),l.foldl (fT last) aA=aA→∀x∈l,(x:Int)≤last
 |[],_,x,hx=>by cases hx
 |y::l,h,x,hx=>by
  have d:∀(l:List Nat) (m:Nat),∃k,l.foldl (fT last) (aj m)=aj k:=by
   intro l
   induction l with
   |nil=>simp_all
   |cons z l E=>
    intro m;rw[ao];unfold fT;split
    ·simp only;split<;>exact E _
    ·exact E m
  rw[ao]at h;by_cases H:last<(y:Int)
  ·have e:fT last aA y=aj y:=by unfold fT;grind
   rw[e]at h;obtain⟨k,I⟩:=d l y;grind
  ·have e:fT last aA y=none:=by unfold fT;grind
   rw[e]at h;rcases aq.1 hx with rfl|hx
   ·omega
   ·exact tH last l h x hx
theorem tI(last:Int):∀(l:List Nat) (a:Option Nat) (k:Nat),l.foldl (fT last) a=aj k→(∀m,a=aj m→last<(m:Int))→
  (k∈l∨a=aj k)∧last<(k:Int)∧(∀x∈l,last<(x:Int)→k≤x)∧∀m,a=aj m→k≤m
 |[],a,k,h,ha=>by
  grind
 |y::l,a,k,h,ha=>by
  rw[ao]at h;have H:∀m,fT last a y=aj m→last<(m:Int):=λm d=>by
   unfold fT at d;grind
  obtain⟨h1,I,O,J⟩:=tI last l _ k h H;refine⟨?_,I,λx hx E=>?_,λm d=>?_⟩
  ·rcases h1 with h1|h1
   ·grind
   ·unfold fT at h1;grind
  ·rcases aq.1 hx with rfl|hx
   ·have e:∃m,fT last a x=aj m∧m≤x:=by
     unfold fT;grind
    grind
   grind
  ·have e:∃z,fT last a y=aj z∧z≤m:=by
    unfold fT;grind
   grind
theorem rP:∀(l:List Nat) (x:Nat),l.foldl min x≤x∧∀y∈l,l.foldl min x≤y
 |[],x=>⟨aK _,λy hy=>(by cases hy)⟩
 |z::l,x=>by
  rw[ao];obtain⟨d,h⟩:=rP l (min x z);refine⟨aP d (Nat.min_le_left _ _),λy hy=>?_⟩;rcases aq.1 hy with rfl|hy
  ·exact aP d (Nat.min_le_right _ _)
  ·exact h y hy
theorem NI{l:List Nat}{y:Nat}(h:y∈l):minL l≤y:=by
 cases l with
 |nil=>cases h
 |cons x l=>
  obtain⟨E,d⟩:=rP l x;rcases aq.1 h with rfl|h
  ·exact E
  ·exact d y h
theorem Ie(last:Int)(l:List Nat):ji last l=match l.foldl (fT last) aA with|some n=>n|none=>minL l:=rfl
theorem pz(last:Int){l:List Nat}(h:l≠[]):ji last l∈l∧((last<(ji last l:Int)∧∀x∈l,last<(x:Int)→ji last l≤x)∨((∀x∈l,(x:Int)≤last)∧∀x∈l,ji last l≤x)):=by
 rw[Ie];cases d:l.foldl (fT last) aA with
 |none=>exact⟨BG h,.inr ⟨tH last l d,λx E=>NI E⟩⟩
 |some k=>
  obtain⟨O,J,I,_⟩:=tI last l aA k d (λm H=>by cases H);grind
theorem KH{p d:Pn}{l:List Nat}{n:Nat}(h:p.pick l=aj (n,d)):n∈l:=by
 unfold Pn.pick at h;by_cases E:l=[]
 ·grind
 ·rw[if_neg zG]at h;split at h
  ·grind[BG]
  ·split at h
   ·grind[KG]
   ·split at h
    ·grind[pz]
    ·split at h
     ·simp only[aw,Prod.mk.injEq]at h;grind[List.length_pos_iff,Nat.mod_lt,aD,List.getElem_mem]
     ·cases h
theorem Ee{l:List Nat}{n:Nat}{p:Pn}(h:r.choice g l=aj (n,p)):n∈l:=by
 grind[Rn.choice,Option.map_eq_some_iff,Ed,KH]
theorem Good.begun(h:Good c M S text ans g.s):Good c M S text ans (r.begun g):=by
 unfold Rn.begun;split
 ·exact h.cancel
 ·exact h
structure dY(r:Rn)(M:Mc)(S:L8→List Nat)(g:Go):Prop where
 good:Good r.cf M S r.reads.flatten r.answers g.s
 can:g.s.pl.cancelled=ai→0≤r.cancel∧(r.cancel<g.turns.length∨g.s.over=af)
theorem dY.turn(h:dY r M S g)(T:g.s.pl.cancelled=ai→r.cancel<g.turns.length)(Y:xR M S)(hB:1≤r.cf.block) :
  dY r M S (r.turn M g).2∧((r.turn M g).1=ai→(r.turn M g).2.s.pl.cancelled=ai→r.cancel<(r.turn M g).2.turns.length):=by
 have I:(r.begun g).pl.cancelled=ai→0≤r.cancel∧(r.cancel<g.turns.length∨(r.cancel=g.turns.length∧(r.begun g).over=af)):=by
  unfold Rn.begun;split
  ·rename_i W;unfold St.cancel;split
   ·intro d;exact⟨(h.can d).1,.inl (T d)⟩
   ·rename_i d;intro _;have d:¬(g.s.pl.cancelled=ai∨g.s.over=ai):=by simpa using d
    refine⟨by omega,.inr ⟨W,?_⟩⟩;show g.s.over=af;cases U:g.s.over with
    |false=>rfl
    |true=>exact absurd (.inr U) d
  ·intro d;exact⟨(h.can d).1,.inl (T d)⟩
 have O:Good r.cf M S r.reads.flatten r.answers (r.begun g):=h.good.begun;unfold Rn.turn;dsimp only;split
 ·refine⟨⟨O,λd=>⟨(I d).1,?_⟩⟩,λe=>by cases e⟩;rcases(I d).2 with h1|h1
  ·exact .inl h1
  ·exact .inr h1.2
 ·rename_i n p J;have V:=(tG.1 (Ee J)).2;have E:(g.turns++[((r.begun g).enabled r.cf,n)]).length=g.turns.length+1:=by simp
  have H:=KE (c:=r.cf) (M:=M) (ans:=r.answers) (r.begun g) n;refine⟨⟨O.step Y hB V,λd=>?_⟩,λ_ d=>?_⟩
  ·have d:((r.begun g).step r.cf M r.answers n).pl.cancelled=true:=d;rw[H]at d;refine⟨(I d).1,.inl ?_⟩;show r.cancel<((g.turns++[((r.begun g).enabled r.cf,n)]).length:Int)
   rw[E];rcases(I d).2 with h1|h1<;>omega
  ·have d:((r.begun g).step r.cf M r.answers n).pl.cancelled=true:=d;rw[H]at d;show r.cancel<((g.turns++[((r.begun g).enabled r.cf,n)]).length:Int)
   rw[E];rcases(I d).2 with h1|h1<;>omega
theorem dY.run(H:xR M S)(I:1≤r.cf.block):∀(f:Nat) (g:Go),dY r M S g→(g.s.pl.cancelled=ai→r.cancel<g.turns.length)→dY r M S (r.run M f g)
 |0,g,h,_=>h
 |f+1,g,h,hc=>by
  unfold Rn.run;split
  ·exact h
  ·split
   ·obtain⟨d,J⟩:=h.turn hc H I;split
    ·rename_i O E;rw[E]at d J;exact dY.run H I f O d (J rfl)
    ·rename_i O E;rw[E]at d;exact d
   ·exact h
end
end fq
end Go.Proofs.YtofgfpffcegioaaGreat
namespace Go.Proofs.YtofgfpffcegioaaGreat.uT
abbrev Cnt:=Int×Int×Int
def qX(c:Cnt):Bool:=if c.1<0∨2147483647<c.1 then false else if c.2.1=0 then decide (c.2.2=c.1)else decide (1≤c.2.1)&&decide (c.2.1≤c.1)&&decide (0≤c.2.2)&&decide (c.2.2≤c.1-c.2.1)
def rQ(c:Cnt)(b:UInt8):Cnt:=if b.toNat=10 then(c.1+1,c.2.1+1,0)else(c.1+1,c.2.1,c.2.2+1)
def lN(c:Cnt)(bs:List UInt8):Cnt:=bs.foldl rQ c
def KO(c:Cnt):Int×Int:=if qX c then(c.2.1+1,c.2.2+1)else(0,0)
def VF(text:List UInt8)(d:Int):(Int×Int)×Bool:=if d<0∨(text.length:Int)≤d then((0,0),false)else(KO (lN (0,0,0) (text.take d.toNat)),true)
theorem Ef(c:Cnt):qX c=true↔0≤c.1∧c.1≤2147483647∧((c.2.1=0∧c.2.2=c.1)∨(1≤c.2.1∧c.2.1≤c.1∧0≤c.2.2∧c.2.2≤c.1-c.2.1)):=by
 grind[qX]
theorem BH(c:Cnt)(b:UInt8)(h:qX c=true)(d:c.1<2147483647):qX (rQ c b)=true:=by
 grind[Ef,rQ]
theorem zP(c:Cnt)(bs:List UInt8)(h:qX c=true)(s:c.1+bs.length≤2147483647):qX (lN c bs)=true:=by
 induction bs generalizing c with
 |nil=>exact h
 |cons b bs d=>
  have E:(rQ c b).1=c.1+1:=by grind[rQ]
  simp at s;exact d _ (BH c b h (by omega)) (by omega)
end Go.Proofs.YtofgfpffcegioaaGreat.uT
namespace Go.Proofs.YtofgfpffcegioaaGreat
namespace fq
def Cf.at_(c:Cf)(f:Nat):Cf:={ c with kX:=f }
section
variable {c:Cf} {M:Mc} {ans:List Bool} {f:Nat} {s:St}
def Rn.at_(r:Rn)(f:Nat):Rn:={ r with cf:=r.cf.at_ f }
variable {r:Rn} {g:Go}
end
end fq
end Go.Proofs.YtofgfpffcegioaaGreat
