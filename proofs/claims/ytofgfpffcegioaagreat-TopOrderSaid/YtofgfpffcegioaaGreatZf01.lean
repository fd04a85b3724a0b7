/- A part of the proof. -/
import Derived.Test.YtofgfpffcegioaaGreatZfM
import Derived.WalkKit
set_option maxRecDepth 100000
set_option maxHeartbeats 8000000
namespace Go.Proofs.YtofgfpffcegioaaGreat
open Go.RowKit
open _root_.Array renaming getElem?_eq_some_iff → aO,getElem?_setIfInBounds_ne → aW,getElem?_eq_getElem → aZ,getD_eq_getD_getElem? → a7,size_setIfInBounds → br,replicate → bx,getElem?_modify → bC,getElem?_push → bE
open Bool renaming true → aM,false → aU,and_eq_true → aY,or_eq_true → bl
open Go renaming World → aN,Operand → aP,TypeId → aS,execOp → aT,Oper → aV,Value → aX,getD_set_ne → bf,undef → bm,IntKind → bn,Program → bF
open Go.Act renaming put → ba
open Go.Code renaming region → bk
open Go.Instr renaming extract → bq,loadAt → bw
open Go.IntKind renaming i64 → bL
open Go.IntWalk renaming i64_in → bD
open Go.Oper renaming wp → bH
open Go.Region renaming binds → aQ,wanted → bc,ready → bh
open Go.Result renaming andThen_ok → a8
open Go.RowKit.Below renaming trans → bJ,refl → bM
open Go.Sem renaming run_bind → a6,run_pure → bb
open Go.World renaming setRow → bI
open List renaming all_eq_true → a1,range → bd,mem_range → bg,map_toArray → bj,getD_eq_getElem?_getD → bo,range' → bp,map_cons → bs,map_nil → bu,getElem?_reverse → bA
open Nat renaming ble → bt,le_of_ble_eq_true → bB,zero_add → bG,le_refl → bK
open Option renaming some → aR,none → bz
theorem zK {P:Prop} (h:P:=by kernel_rfl):P:=h
abbrev iV (n:Int):Value:=.int .i64 n
abbrev gP (b:Nat):Value:=.pointer (some ⟨b,0,none⟩)
abbrev nS:Value:=.slice none 0 0
abbrev AV:=Array Value
abbrev Ext(w d:aN):Prop:=Below w.heap.size w d
theorem Ext.rf(w:aN):Ext w w:=bM _ _
theorem Ext.tr{a b c:aN}(h:Ext a b)(k:Ext b c):Ext a c:=bJ h (k.mono h.size)
theorem Ext.rules{w w1:aN}(d:Ext w w1):(∀b o,b<w.heap.size→w1.cell? ⟨b,o,bz⟩=w.cell? ⟨b,o,bz⟩)∧(∀b o,b<w.heap.size→w1.frozen? ⟨b,o,bz⟩=w.frozen? ⟨b,o,bz⟩):=
 ⟨λb o h=>d.cell (p:=⟨b,o,bz⟩) h,λb o h=>d.frozen (p:=⟨b,o,bz⟩) h⟩
theorem hide{p:Prop}(h:p):Hid p:=h
def Qe(x y:Option Obj):Prop:=∃(d:AV) (e:aS),x=aR (.cells d e (0,0))∧y=aR (.cells d e (d.size,d.size+1))∧∃z,d[0]?=aR (.int .u8 z)∧False
structure qY(w w':aN):Prop where
 size:w.heap.size≤w'.heap.size
 block:∀k,k<w.heap.size→w'.heap[k]?=w.heap[k]?∨Qe w.heap[k]? w'.heap[k]?
theorem Ext.weak{w d:aN}(h:Ext w d):qY w d:=⟨h.size,λk s=>.inl (h.block k s)⟩
theorem qY.cell{w d:aN}(h:qY w d){b o:Nat}(s:b<w.heap.size):d.cell? ⟨b,o,bz⟩=w.cell? ⟨b,o,bz⟩:=by
 rcases h.block b s with e|⟨I,t,H,E,_⟩
 ·grind[World.cell?]
 grind
def Grow(b:Nat)(w d:aN):Prop:=Below b w d∧qY w d
theorem Ext.grow{b:Nat}{w d:aN}(h:Ext w d)(s:b≤w.heap.size):Grow b w d:=⟨h.mono s,h.weak⟩
structure VP where
 p:aX→aN→Prop
 wk:∀v w w',p v w→qY w w'→p v w'
theorem VP.st(F:VP)(v:aX)(w d:aN)(h:F.p v w)(s:Ext w d):F.p v d:=F.wk v w d h s.weak
instance:CoeFun VP (fun _=>aX→aN→Prop):=⟨VP.p⟩
def eC(x:aX):VP:=⟨λv _=>v=x,λ_ _ _ h _=>h⟩
def Sn:VP:=⟨λ_ _=>True,λ_ _ _ h _=>h⟩
theorem eC.mk(x:aX)(w:aN):eC x x w:=rfl
def eB(w:aN)(F:VP):Ending→aN→Prop:=λe d=>∃v,e=.returned v∧Ext w d∧F v d
def eY(w:aN)(F:aX→aN→Prop):Ending→aN→Prop:=λe d=>∃v,e=.returned v∧Ext w d∧F v d
theorem eY.mk{w d:aN}{F:aX→aN→Prop}{v:aX}(s:Ext w d)(h:F v d):eY w F (.returned v) d:=⟨v,rfl,s,h⟩
theorem eB.mk{w d:aN}{F:VP}{v:aX}(s:Ext w d)(h:F v d):eB w F (.returned v) d:=⟨v,rfl,s,h⟩
def fC(d:Array aV)(i:Nat):Option Tmp:=(d[i]?).bind (·.dst)
structure Ctx(ops:Array aV)(m:Nat)(a0 a:Act):Prop where
 size:a.tmps.size=a0.tmps.size
 defers:a.defers=a0.defers
 frame:∀t,(∀i,i<m→fC ops i≠aR t)→a.tmps[t]?=a0.tmps[t]?
def kl(d:List VP)(j:Nat):VP:=d.reverse.getD j Sn
def Qf(h:Array aV)(s:Nat→VP)(o:aV)(a:Act)(w:aN):Prop:=
 ∀e∈o.after,aQ .any e=aM→∀d,fC h e.on=aR d→s e.on (a.tmps.getD d bm) w
def Spec(P:bF)(Q:Exit→Act→aN→Prop)(d:Array aV)(m:Nat)(a0:Act)(w0:aN)(h:Nat→VP)(o:aV)(F:VP):Prop:=
 ∀a w,Ext w0 w→Ctx d m a0 a→Qf d h o a w→
  if bc o (yielded d a.tmps)=aM then o.wp P a w (λE s=>∃v,E=a.put o.dst v∧Grow w0.heap.size w s∧F v s) Q else F bm w
def tc(d:Array aV):Bool:=(bd d.size).all λi=>match d[i]? with|some o=>o.after.all (λe=>!Region.binds .any e||decide (e.on<i))|none=>aM
def marks(j:Nat)(l:List aV):Array Bool:=l.foldl (λd o=>d.push (d.size==j||o.after.toList.any λe=>aQ .any e&&d.getD e.on aU)) #[]
def yx(d:Array aV)(m:Nat)(fl:List Nat):Bool:=(bd d.size).all λj=>fl.contains j||(let mk:=marks j d.toList;(bd d.size).all λk=>decide (k<m)||decide (k≤j)||mk.getD k aU)
def Ij(h:Array aV)(m n:Nat):Bool:=(bd m).all λi=>match fC h i with|none=>aM|some d=>decide (d<n)&&(bd m).all λj=>i==j||fC h j !=aR d
def uU:Op→Bool
 |.extract ..|.move _=>aM
 |_=>aU
def KQ(d:Array aV)(m:Nat)(fl:List Nat):Bool:=fl.all λi=>decide (i<m)&&match d[i]? with
 |some oi=>uU oi.op&&oi.dst.isSome&&(bd d.size).all λj=>i==j||match d[j]? with
  |some oj=>oi.after.toList.any (λe=>aQ .any e&&e.on==j)||oj.after.toList.any (λe=>aQ .any e&&e.on==i)||oi.apart d oj
  |none=>aM
 |none=>aU
def preB(d:Array aV)(m n:Nat)(fl:List Nat):Bool:=decide (m≤d.size)&&tc d&&yx d m fl&&Ij d m n&&KQ d m fl&&Region.noSelect d
theorem iw{d:Array aV}(h:tc d=aM){i:Nat}{o:aV}(s:d[i]?=aR o){e:Edge}(H:e∈o.after)(I:aQ .any e=aM):e.on<i:=by
 have E:i<d.size:=(aO.1 s).1;have J:=a1.1 h i (bg.2 E);grind[Array.all_eq_true_iff_forall_mem]
theorem yz(j:Nat):∀(l:List aV) (d:Array Bool),(∀k,d.getD k aU=aM→k<d.size)→
  let r:=l.foldl (λd o=>d.push (d.size==j||o.after.toList.any λe=>aQ .any e&&d.getD e.on aU)) d
  r.size=d.size+l.length∧(∀k,k<d.size→r.getD k aU=d.getD k aU)∧
   ∀i o,l[i]?=aR o→r.getD (d.size+i) aU=aM→d.size+i=j∨∃e∈o.after,aQ .any e=aM∧r.getD e.on aU=aM
 |[],d,_=>⟨by simp,λ_ _=>rfl,λi o h=>by simp at h⟩
 |x::l,d,hacc=>by
  have E:∀k,(d.push (d.size==j||x.after.toList.any λe=>aQ .any e&&d.getD e.on aU)).getD k aU=aM→k<(d.push (d.size==j||x.after.toList.any λe=>aQ .any e&&d.getD e.on aU)).size:=λk H=>by
   grind
  have I:=yz j l (d.push (d.size==j||x.after.toList.any λe=>aQ .any e&&d.getD e.on aU)) E;dsimp only at I ⊢;rw[List.foldl_cons];obtain⟨V,O,U⟩:=I;have s:∀k,k<d.size→(d.push (d.size==j||x.after.toList.any λe=>aQ .any e&&d.getD e.on aU)).getD k aU=d.getD k false:=λk H=>by
   rw[a7,bE,if_neg zO,←a7]
  refine⟨by grind,λk H=>(O k zG).trans (s k H),λi o J T=>?_⟩;cases i with
  |zero=>
   simp at J;subst J;rw[Nat.add_zero,O d.size zS,a7,bE,if_pos rfl,Option.getD_some,bl]at T;grind
  |succ i=>
   grind
theorem uV{d:Array aV}{j k:Nat}{o:aV}(H:d[k]?=aR o)(h:(marks j d.toList).getD k aU=aM):k=j∨∃e∈o.after,aQ .any e=aM∧(marks j d.toList).getD e.on aU=true:=by
 have s:=(yz j d.toList #[] (λk E=>by simp at E)).2.2 k o zG;simp only[Array.size_empty,bG]at s;exact s h
def Closed(h:Array aV)(d:Array Bool):Prop:=∀i o,h[i]?=aR o→d.getD i aM=aM→∀e∈o.after,aQ .any e=aM→d.getD e.on aM=aM
theorem uW{h:Array aV}{d:Array Bool}(hf:tc h=aM)(hc:Closed h d){j:Nat}(Y:d.getD j aM=aU):∀k,k<h.size→(marks j h.toList).getD k aU=aM→d.getD k aM=false:=by
 intro k
 induction k using Nat.strongRecOn with
 |ind k T=>
  intro W U;have s:h[k]?=aR h[k]:=aZ W;rcases uV s U with rfl|⟨e,I,J,E⟩
  ·exact Y
  ·have H:=iw hf s I J;have O:=T e.on H zO E;cases V:d.getD k aM
   ·rfl
   ·rw[hc k _ s V e I J]at O;cases O
theorem dW{s:Array aV}{m:Nat}{fl:List Nat}(h:yx s m fl=aM)(T:tc s=aM){d:Array Bool}(hc:Closed s d){k j:Nat}{o:aV}(E:s[k]?=aR o)(Y:m≤k)(hj:j<k)(O:j∉fl)(W:d.getD j aM=aU) :
  ∃e∈o.after,aQ .any e=aM∧d.getD e.on aM=false:=by
 have J:k<s.size:=(aO.1 E).1;have h1:=a1.1 h j (bg.2 zO);rw[bl]at h1;rcases h1 with h1|h1
 ·grind
 ·have h2:=a1.1 h1 k (bg.2 J);rw[bl,bl]at h2;rcases h2 with(h2|h2)|h2
  ·grind
  ·grind
  ·rcases uV E h2 with e|⟨e,U,V,H⟩
   ·omega
   ·have I:=iw T E U V;grind[uW]
theorem kP{s:Array aV}{m n:Nat}(h:Ij s m n=aM){i:Nat}{d:Tmp}(hi:i<m)(E:fC s i=aR d):d<n∧∀j,j<m→j≠i→fC s j≠aR d:=by
 have H:=a1.1 h i (bg.2 hi);grind
def cnt(p:Nat→Bool):Nat→Nat
 |0=>0
 |n+1=>cnt p n+if p n then 1 else 0
theorem yA{p q:Nat→Bool}:∀n,(∀j,j<n→q j=p j)→cnt q n=cnt p n
 |0,_=>rfl
 |n+1,h=>by simp only[cnt];rw[yA n (λj d=>h j zO),h n zO]
theorem uX{p q:Nat→Bool}{i:Nat}(s:p i=aM)(d:q i=aU)(h:∀j,j≠i→q j=p j):∀n,i<n→cnt q n+1=cnt p n
 |0,hi=>by omega
 |n+1,hi=>by
  simp only[cnt];by_cases e:i=n
  ·grind[yA]
  ·have:=uX s d h n zO;grind
theorem uY{p:Nat→Bool}:∀n,cnt p n=0→∀j,j<n→p j=aU
 |0,_,j,hj=>by omega
 |n+1,h,j,hj=>by
  simp only[cnt]at h;by_cases e:j=n
  ·grind
  ·exact uY n zO j zO
section
variable {P:bF} {ops:Array aV} {Q:Exit→Act→aN→Prop}
theorem mB{p:Nat→Bool}:∀n,(∃j,j<n∧p j=aM)→∃j,j<n∧p j=aM∧∀i,i<j→p i=aU
 |0,⟨j,hj,_⟩=>by omega
 |n+1,⟨j,hj,hp⟩=>by
  by_cases h:∃j,j<n∧p j=aM
  ·obtain⟨k,d,E,s⟩:=mB n h;grind
  grind
theorem kB(H:tc ops=aM){d:Array Bool}{j:Nat}(h:j<ops.size)(s:d.getD j aM=aU)(O:∀i,i<j→d.getD i aM=aM)(hs:d.size=ops.size):j∈bh .any ops d:=by
 refine mem_ready.2 ⟨s,ops[j],aZ h,λe I J=>?_⟩;have E:=iw H (aZ h) I J;grind
theorem iQ{d:Array Bool}{i:Nat}(h:i<d.size):d.getD i aM=d.getD i false:=by simp[h]
theorem oB{d:Array Bool}{i:Nat}{o:aV}(hs:d.size=ops.size)(W:tc ops=aM)(Y:Closed ops d)(ho:ops[i]?=aR o)(O:∀e∈o.after,aQ .any e=aM→d.getD e.on aU=aM):Closed ops (d.setIfInBounds i aM):=by
 intro k T h H e I J;have U:=iw W h I J;have V:k<ops.size:=(aO.1 h).1;by_cases E:i=e.on
 ·simp_all
 ·rw[bf aM E];by_cases s:i=k
  ·grind
  ·rw[bf aM s]at H;exact Y k T h H e I J
theorem tK(ops:Array aV):Closed ops (bx ops.size aU):=by
 intro i o d h;have s:i<ops.size:=(aO.1 d).1;simp_all
theorem NJ(m:Nat)(fl:List Nat)(U:∀i∈fl,i<m)(V:tc ops=aM)(ht:yx ops m fl=aM):∀(r k:Nat),k+r=ops.size→m≤k→∀(s:Nat) (d:Array Bool) (a:Act) (w:aN),r≤s→d.size=ops.size→Closed ops d→
  (∀j,j<k→d.getD j aM=aM)→(∀j,k≤j→j<ops.size→d.getD j aM=aU)→wpOps P ops Q (bp k r) a w→wpAny P .any ops Q s d a w:=by
 intro r
 induction r with
 |zero=>
  intro k hk _ s d a w _ H _ W _ h;have hr:bh .any ops d=[]:=by
   simp_all[bh]
  cases s with
  |zero=>exact⟨hr,h⟩
  |succ f=>exact⟨λ_=>h,λi T=>by grind⟩
 |succ r ih=>
  intro k hk aa s d a w af H J W h2 h;cases s with
  |zero=>omega
  |succ f=>
   have ab:k∈bh .any ops d:=kB V zO (h2 k zO zO) W H;refine⟨λh0=>zG,λi T=>?_⟩;obtain⟨hu,o,O,E⟩:=mem_ready.1 T;have ae:i<ops.size:=(aO.1 O).1;have I:i=k:=by
    grind[Nat.lt_trichotomy,dW,iw,iQ]
   subst I;rw[List.range'_succ,wpOps_cons]at h;refine wpOp_mono (λa' Y h'=>?_) h;refine ih (i+1) zO zO f _ a' Y zO zG (oB H V J O E) (λj hj=>?_) (λj hj ad=>?_) h'
   ·by_cases e:i=j
    ·simp_all
    ·rw[bf aM e];grind
   ·rw[bf aM zO];grind
structure Inv(ops:Array aV)(m:Nat)(a0:Act)(w0:aN)(env:Nat→VP)(listed:Array Bool)(a:Act)(w:aN):Prop where
 size:listed.size=ops.size
 closed:Closed ops listed
 tail:∀j,m≤j→j<ops.size→listed.getD j aM=aU
 ext:Ext w0 w
 ctx:Ctx ops m a0 a
 facts:∀i,i<m→listed.getD i aM=aM→∃v,env i v w∧∀d,fC ops i=aR d→v=a.tmps.getD d bm
theorem uZ{m:Nat}{fl:List Nat}(h:KQ ops m fl=aM){i:Nat}(hi:i∈fl):i<m∧∃s,ops[i]?=aR s∧uU s.op=aM∧(∃d,s.dst=aR d)∧
  ∀(j:Nat) E,ops[j]?=aR E→i≠j→(∃e∈s.after,aQ .any e=aM∧e.on=j)∨(∃e∈E.after,aQ .any e=aM∧e.on=i)∨s.apart ops E=true:=by
 have H:=a1.1 h i hi;rw[aY]at H;refine⟨of_decide_eq_true H.1,?_⟩;cases J:ops[i]? with
 |none=>grind
 |some s=>
  have I:=H.2;simp only[J,aY]at I;obtain⟨⟨U,T⟩,W⟩:=I;refine⟨s,rfl,U,Option.isSome_iff_exists.1 T,λj E V O=>?_⟩;grind
theorem NK{a:Act}{d:Tmp}{x v:aX}(s:d<a.tmps.size)(h:a.put (aR d) x=a.put (aR d) v):x=v:=by
 have E:=congrArg (λ(b:Act)=>b.tmps[d]?) h;grind[ba,Array.getElem?_setIfInBounds_self_of_lt,Option.some.injEq]
theorem BJ{b:Nat}{o:aV}{a:Act}{w:aN}{F:aX→aN→Prop}{d:Tmp}(I:uU o.op=aM)(V:o.dst=aR d)(T:d<a.tmps.size)(h:o.wp P a w (λW E=>∃v,W=a.put o.dst v∧Grow b w E∧F v E) Q):∃v,(∀w,(aT a.eval o).run P w=.ok (.value v) w)∧F v w:=by
 have O:∀x,(∀w,(aT a.eval o).run P w=.ok (.value x) w)→∃v,(∀w,(aT a.eval o).run P w=.ok (.value v) w)∧F v w:=by
  grind[bH,Oper.upon_value,NK]
 cases s:o.op with
 |move x=>simp_all[aT]
 |extract x i=>
  unfold bH at h;cases H:a.eval x with
  |tuple J=>
   cases U:J[i]? with
   |some y=>simp_all[aT,bq]
   |none=>simp only[aT,s,H,bq,U]at h;exact absurd h id
  |_=>simp only[aT,s,H,bq]at h;exact absurd h id
 |_=>rw[s]at I;cases I
theorem Qg(m:Nat)(fl:List Nat)(a0:Act)(w0:aN)(O:Nat→VP)(aE:m≤ops.size)(hf:tc ops=aM)(ht:yx ops m fl=aM)(hd:Ij ops m a0.tmps.size=aM)(am:KQ ops m fl=aM)(af:Region.noSelect ops=aM)
  (hQ:fl≠[]→∀c a (d:Tmp) v w,Q (.panic c) { a with tmps:=a.tmps.setIfInBounds d v } w→Q (.panic c) a w)
  (au:∀i o,i<m→ops[i]?=aR o→Spec P Q ops m a0 w0 O o (O i))
  (an:∀a w,Ext w0 w→Ctx ops m a0 a→(∀i,i<m→∃v,O i v w∧∀d,fC ops i=aR d→v=a.tmps.getD d bm)→wpOps P ops Q (bp m (ops.size-m)) a w) :
  ∀(E:Nat) (s:Array Bool) (a:Act) (w:aN),cnt (λi=>!s.getD i aM) ops.size≤E→Inv ops m a0 w0 O s a w→wpAny P .any ops Q E s a w:=by
 intro E;have ao:∀(E:Nat) (s:Array Bool) (a:Act) (w:aN),cnt (λi=>!s.getD i aM) ops.size≤E→Inv ops m a0 w0 O s a w→(∀i,i<m→s.getD i aM=aM)→wpAny P .any ops Q E s a w:=by
  intro E s a w hc H V;refine NJ m fl (λi Y=>(uZ am Y).1) hf ht (ops.size-m) m zO (bK _) E s a w ?_ H.size H.closed V H.tail (an a w H.ext H.ctx λi Y=>H.facts i Y (V i Y));have:∀r,r≤ops.size-m→r≤cnt (λi=>!s.getD i aM) (m+r):=by
   intro r
   induction r with
   |zero=>omega
   |succ r ih=>
    intro hr;have h1:=ih zO;have h2:=H.tail (m+r) zO zO;simp_all[cnt,Bool.not_false,Nat.succ_le_succ]
  have h2:=this (ops.size-m) (bK _);grind
 induction E with
 |zero=>
  intro s a w hc H;refine ao 0 s a w hc H λi Y=>?_;have:=uY (p:=λi=>!s.getD i aM) ops.size zO i (show i<ops.size by omega);grind
 |succ E ih=>
  intro s a w hc H;by_cases V:∀i,i<m→s.getD i aM=aM
  ·exact ao _ s a w hc H V
  ·have aC:∃j,j<m∧(!s.getD j aM)=true:=by
    grind
   obtain⟨j0,aL,aH,aJ⟩:=mB (p:=λi=>!s.getD i aM) m aC;have av:j0∈bh .any ops s:=kB hf zO zG (λi Y=>by grind) H.size;have next:∀i o,i<m→ops[i]?=aR o→s.getD i aM=aU→(∀e∈o.after,aQ .any e=aM→s.getD e.on aU=aM)→∀v w',Grow w0.heap.size w w'→O i v w'→wpAny P .any ops Q E (s.setIfInBounds i aM) (a.put o.dst v) w':=by
    intro i o J T hu I v w' hE hF;have ak:i<ops.size:=(aO.1 T).1;refine ih _ _ _ ?_ ⟨by simpa using H.size,oB H.size hf H.closed T I,λj hj aB=>by rw[bf aM zO];exact H.tail j hj aB,bJ H.ext hE.1,?_,?_⟩
    ·have:=uX (p:=λi=>!s.getD i aM) (q:=λj=>!(s.setIfInBounds i aM).getD j aM) (i:=i) zG (by simp_all)
      (λj hj=>by rw[bf aM (Ne.symm hj)]) ops.size ak
     omega
    ·cases W:o.dst with
     |none=>exact H.ctx
     |some d=>
      refine⟨by simp only[ba,br];exact H.ctx.size,H.ctx.defers,λt ae=>?_⟩;have ad:d≠t:=λe=>ae i J (by grind[fC]);simp only[ba,aW ad];exact H.ctx.frame t ae
    ·intro k hk aj;by_cases e:i=k
     ·subst e;refine⟨v,hF,λd aa=>?_⟩;have W:o.dst=aR d:=by grind[fC]
      have ai:=(kP hd J aa).1;rw[W];simp[ba,H.ctx.size,ai]
     ·rw[bf aM e]at aj;obtain⟨u,ar,aq⟩:=H.facts k hk aj;refine⟨u,(O k).wk u w w' ar hE.2,λd aa=>?_⟩;rw[aq d aa];cases W:o.dst with
      |none=>rfl
      |some d2=>
       have ad:d2≠d:=λe2=>(kP hd hk aa).2 i J e (by grind[fC]);simp[ba,aW ad]
   have ab:∀i o,i<m→ops[i]?=aR o→(∀e∈o.after,aQ .any e=aM→s.getD e.on aU=aM)→
     if bc o (yielded ops a.tmps)=aM then o.wp P a w (λa' w'=>∃v,a'=a.put o.dst v∧Grow w0.heap.size w w'∧O i v w') Q else O i bm w:=by
    intro i o J T I;refine au i o J T a w H.ext H.ctx ?_;intro e he hb d aa;have ai:=iw hf T he hb;obtain⟨v,hv,aF⟩:=H.facts e.on zO zG;grind
   by_cases U:∃i∈fl,i∈bh .any ops s
   ·
    obtain⟨i,al,Y⟩:=U;obtain⟨hu,o,T,I⟩:=mem_ready.1 Y;obtain⟨J,oi,ag,aw,⟨d,W⟩,aD⟩:=uZ am al;rw[T]at ag;cases ag;have hs:=ab i o J T I;have hy:∃v,Yields P ops o v a∧O i v w:=by
     by_cases hw:bc o (yielded ops a.tmps)=aM
     ·rw[if_pos hw]at hs;obtain⟨v,hv,hF⟩:=BJ aw W (by rw[H.ctx.size];exact(kP hd J (by grind[fC])).1) hs;exact⟨v,.inl ⟨hw,hv⟩,hF⟩
     ·rw[if_neg hw]at hs;exact⟨bm,.inr ⟨by grind,rfl⟩,hs⟩
    obtain⟨v,ap,hF⟩:=hy;refine wpAny_first T (Region.noSelect_spec af) ?_ E s a w (λj oj az aA aK aI=>?_) Y ap (next i o J T hu I v w ((Ext.rf _).grow H.ext.size) hF)
    ·rw[W];intro c a w h;exact hQ zG c a d v w h
    ·rcases aD j oj az (Ne.symm aA)with⟨e,he,hb,ay⟩|⟨e,he,hb,ay⟩|h
     ·grind
     ·grind
     ·exact h
   ·refine⟨λh0=>zG,λi Y=>?_⟩;obtain⟨hu,o,T,I⟩:=mem_ready.1 Y;have ak:i<ops.size:=(aO.1 T).1;have J:i<m:=by
     rcases Nat.lt_or_ge i m with h|h
     ·exact h
     ·obtain⟨e,he,hb,aG⟩:=dW ht hf H.closed T h (show j0<i by omega) (λah=>U ⟨j0,ah,av⟩) zG;grind
    have hs:=ab i o J T I;unfold wpOp;simp only[T];split
    ·rename_i hw;rw[if_pos hw]at hs;grind[Oper.wp_mono]
    ·rename_i hw;rw[if_neg hw]at hs;exact next i o J T hu I bm w ((Ext.rf _).grow H.ext.size) hs
def ed(P:bF)(Q:Exit→Act→aN→Prop)(ops:Array aV)(M:Nat)(a0:Act)(w0:aN)(K:List aV→List VP→Prop):Nat→List aV→List VP→Prop
 |0,rest,env=>K rest env
 |m+1,o::rest,env=>∃F:VP,Spec P Q ops M a0 w0 (kl env) o F∧ed P Q ops M a0 w0 K m rest (F::env)
 |_+1,[],_=>False
def ew(P:bF)(Q:Exit→Act→aN→Prop)(ops:Array aV)(tail:List aV):List aV→List VP→Act→aN→Prop
 |o::os,F::Fs,a,w=>∀v,F v w→ew P Q ops tail os Fs (a.put o.dst v) w
 |_,_,a,w=>wpList P ops Q tail a w
theorem ed.spec{M:Nat}{a0:Act}{w0:aN}{K:List aV→List VP→Prop}(O:tc ops=aM):∀(m:Nat) (l:List aV) (s:List VP),(∀j,l[j]?=ops[s.length+j]?)→ed P Q ops M a0 w0 K m l s→
  m≤l.length∧∃E:List VP,E.length=m∧K (l.drop m) (E++s)∧
   ∀i o,i<m→ops[s.length+i]?=aR o→Spec P Q ops M a0 w0 (kl (E++s)) o (kl (E++s) (s.length+i))
 |0,l,s,_,h=>⟨Nat.zero_le _,[],rfl,by grind[ed],λi o W=>by omega⟩
 |m+1,[],s,_,h=>h.elim
 |m+1,o::rest,s,hl,h=>by
  obtain⟨F,Y,hR⟩:=h;obtain⟨h0,E,h1,h2,h4⟩:=ed.spec O m rest (F::s) (λj=>by have:=hl (j+1);grind) hR;have e1:E++F::s=(E++[F])++s:=by simp
  have e2:kl ((E++[F])++s) s.length=F:=by simp[kl]
  rw[e1]at h2 h4;refine⟨by grind,E++[F],by simp[h1],by grind,λi o' W I=>?_⟩;cases i with
  |zero=>
   have H:ops[s.length]?=aR o:=by have:=hl 0;grind
   rw[Nat.add_zero]at I ⊢;rw[H]at I;injection I with I;subst I;rw[e2];intro a w hE hC hD;refine Y a w hE hC λe T U d J=>?_;have V:=iw O H T U;have:=hD e T U d J;grind[kl,List.reverse_append,List.getElem?_append_left]
  |succ i=>
   grind
theorem BK{tail:List aV}{w:aN}{b:Act}(n:Nat)(V:b.tmps.size=n):∀(l:List aV) (s:List VP) (a:Act),l.length=s.length→a.tmps.size=n→a.defers=b.defers→
  (∀(i:Nat) (F:VP),s[i]?=aR F→∃v,F v w∧∀(o:aV) (d:Tmp),l[i]?=aR o→o.dst=aR d→v=b.tmps.getD d bm)→
  (∀t:Nat,a.tmps[t]?=b.tmps[t]?∨∃(i:Nat) (o:aV),l[i]?=aR o∧o.dst=aR t)→
  ew P Q ops tail l s a w→wpList P ops Q tail b w
 |[],[],a,_,hs,hd,_,hf,h=>by
  have:a=b:=by
   obtain⟨J,d1⟩:=a;obtain⟨I,d2⟩:=b;have:J=I:=by
    apply Array.ext_getElem?;grind
   grind
  subst this;exact h
 |[],_::_,_,hl,_,_,_,_,_=>by simp at hl
 |_::_,[],_,hl,_,_,_,_,_=>by simp at hl
 |o::l,F::s,a,hl,hs,hd,hF,hf,h=>by
  obtain⟨v,O,E⟩:=hF 0 F rfl;refine BK n V l s (a.put o.dst v) zG (by cases o.dst<;>simp[ba,hs]) (by cases o.dst<;>simp[ba,hd]) (λi F' U=>?_) (λt=>?_) (h v O)
  ·obtain⟨u,Y,W⟩:=hF (i+1) F' U;grind
  ·cases H:o.dst with
   |none=>
    rcases hf t with h'|⟨i,o',Y,W⟩
    ·exact .inl h'
    grind
   |some d=>
    by_cases e:d=t
    ·subst e;left;have:=E o d rfl H;rw[this];simp only[ba];by_cases T:d<a.tmps.size
     ·simp_all
     grind
    grind[ba,aW,absurd]
theorem ew.eq{tail os:List aV}{o:aV}{x:aX}{Fs:List VP}{a:Act}{w:aN}(h:ew P Q ops tail os Fs (a.put o.dst x) w):ew P Q ops tail (o::os) (eC x::Fs) a w:=by
 intro v d;rw[show v=x from d];exact h
theorem ew.any{tail os:List aV}{o:aV}{F:VP}{Fs:List VP}{a:Act}{w:aN}(h:∀v,F v w→ew P Q ops tail os Fs (a.put o.dst v) w):ew P Q ops tail (o::os) (F::Fs) a w:=h
theorem ew.nil{tail:List aV}{a:Act}{w:aN}(h:wpList P ops Q tail a w):ew P Q ops tail [] [] a w:=h
def qI(ops:Array aV)(m:Nat)(h:List VP)(a:Act)(w:aN):Prop:=∀i,i<m→∃v,kl h i v w∧∀d,fC ops i=aR d→v=a.tmps.getD d bm
theorem rR{l:List aV}{a0:Act}{w:aN}(m:Nat)(fl:List Nat)(V:preB l.toArray m a0.tmps.size fl=aM)(hQ:fl≠[]→∀c a (d:Tmp) v w,Q (.panic c) { a with tmps:=a.tmps.setIfInBounds d v } w→Q (.panic c) a w)
  (h:ed P Q l.toArray m a0 w.drew (λE T=>∀a s,Ext w.drew s→Ctx l.toArray m a0 a→qI l.toArray m T a s→wpList P l.toArray Q E a s) m l []):wpAny P .any l.toArray Q l.toArray.size (bx l.toArray.size aU) a0 w.drew:=by
 simp only[preB,aY,decide_eq_true_eq]at V;obtain⟨⟨⟨⟨⟨I,U⟩,ht⟩,hd⟩,O⟩,H⟩:=V;obtain⟨h0,Fs,h1,Y,W⟩:=ed.spec U m l [] (λj=>by simp) h;simp only[List.append_nil,List.length_nil,bG]at Y W;refine Qg m fl a0 w.drew (kl Fs) I U ht hd O H hQ W ?_ _ _ _ _ ?_ ⟨by simp,tK _,λj _ hj=>by simp_all,Ext.rf _,⟨rfl,rfl,λ_ _=>rfl⟩,λi hi hl=>?_⟩
 ·intro a s hE hC hF;have J:(l.drop m).length=l.toArray.size-m:=by simp
  rw[←J,wpOps_eq_wpList (l.drop m) m (λj=>by simp)];exact Y a s hE hC hF
 ·have:∀n p,cnt p n≤n:=by
   intro n p
   induction n with
   |zero=>simp[cnt]
   |succ n ih=>grind[cnt]
  grind
 ·exfalso;have:i<l.length:=zO;simp_all
theorem tL{l:List aV}{a0:Act}{w:aN}(m:Nat)(fl:List Nat)(J:preB l.toArray m a0.tmps.size fl=aM)(I:∀c a (d:Tmp) v w,Q (.panic c) { a with tmps:=a.tmps.setIfInBounds d v } w→Q (.panic c) a w)
  (h:ed P Q l.toArray m a0 w.drew (λs H=>∀a E,Ext w.drew E→Ctx l.toArray m a0 a→qI l.toArray m H a E→wpList P l.toArray Q s a E) m l []):wpAny P .any l.toArray Q l.toArray.size (bx l.toArray.size aU) a0 w.drew:=
 rR m fl J (λ_=>I) h
theorem BL{I:Nat}{l:List aV}{a0:Act}{w:aN}(m:Nat)(fl:List Nat)(J:P.follows .mixedOrders=aM)(T:preB l.toArray m a0.tmps.size fl=aM)(O:∀c a (d:Tmp) v w,Q (.panic c) { a with tmps:=a.tmps.setIfInBounds d v } w→Q (.panic c) a w)
  (h:ed P Q l.toArray m a0 w.drew (λs H=>∀a E,Ext w.drew E→Ctx l.toArray m a0 a→qI l.toArray m H a E→wpList P l.toArray Q s a E) m l []):(bk I l.toArray aM).wp P Q a0 w:=
 wp_region_any J (tL m fl T O h)
def qJ(ops:Array aV)(m n:Nat):Bool:=decide (m≤ops.size)&&tc ops&&Ij ops m n
theorem Qh(m:Nat)(a0:Act)(w0:aN)(h:Nat→VP)(ab:m≤ops.size)(hf:tc ops=aM)(hd:Ij ops m a0.tmps.size=aM)
  (Y:∀i o,i<m→ops[i]?=aR o→Spec P Q ops m a0 w0 h o (h i))
  (ad:∀a w,Ext w0 w→Ctx ops m a0 a→(∀i,i<m→∃v,h i v w∧∀d,fC ops i=aR d→v=a.tmps.getD d bm)→wpOps P ops Q (bp m (ops.size-m)) a w) :
  ∀(r k:Nat),k+r=m→∀(a:Act) (w:aN),Ext w0 w→Ctx ops m a0 a→(∀i,i<k→∃v,h i v w∧∀d,fC ops i=aR d→v=a.tmps.getD d bm)→wpOps P ops Q (bp k (ops.size-k)) a w:=by
 intro r
 induction r with
 |zero=>
  grind
 |succ r ih=>
  intro k hk a w hE I hF;have aa:k<ops.size:=zO;have ho:ops[k]?=aR ops[k]:=aZ aa;rw[show ops.size-k=(ops.size-(k+1))+1 by omega,List.range'_succ,wpOps_cons];have hs:=Y k ops[k] zO ho a w hE I (λe he hb d s=>by
   have T:=iw hf ho he hb;grind)
  have next:∀v J,Grow w0.heap.size w J→h k v J→wpOps P ops Q (bp (k+1) (ops.size-(k+1))) (a.put ops[k].dst v) J:=by
   intro v J hG hv;refine ih (k+1) zO _ _ (bJ hE hG.1) ?_ ?_
   ·cases H:ops[k].dst with
    |none=>exact I
    |some d=>
     refine⟨by simp only[ba,br];exact I.size,I.defers,λt O=>?_⟩;have E:d≠t:=λe=>O k zO (by grind[fC]);simp only[ba,aW E];exact I.frame t O
   ·intro i hi;by_cases e:i=k
    ·subst e;refine⟨v,hv,λd s=>?_⟩;have H:ops[i].dst=aR d:=by grind[fC]
     have T:=(kP hd (show i<m by omega) s).1;rw[H];simp[ba,I.size,T]
    ·obtain⟨u,W,V⟩:=hF i zO;refine⟨u,(h i).wk u w J W hG.2,λd s=>?_⟩;rw[V d s];cases H:ops[k].dst with
     |none=>rfl
     |some d2=>
      have E:d2≠d:=λe2=>(kP hd (show i<m by omega) s).2 k zO (Ne.symm e) (by grind[fC]);simp[ba,aW E]
  unfold wpOp;simp only[ho];split
  ·rename_i U;rw[if_pos U]at hs;grind[Oper.wp_mono]
  ·rename_i U;rw[if_neg U]at hs;exact next bm w ((Ext.rf _).grow hE.size) hs
theorem tM{l:List aV}{a0:Act}{w:aN}(m:Nat)(O:qJ l.toArray m a0.tmps.size=aM)
  (h:ed P Q l.toArray m a0 w (λs I=>∀a d,Ext w d→Ctx l.toArray m a0 a→qI l.toArray m I a d→wpList P l.toArray Q s a d) m l []):wpOps P l.toArray Q (bd l.toArray.size) a0 w:=by
 simp only[qJ,aY,decide_eq_true_eq]at O;obtain⟨⟨E,J⟩,V⟩:=O;obtain⟨h0,Fs,h1,U,T⟩:=ed.spec J m l [] (λj=>by simp) h;simp only[List.append_nil,List.length_nil,bG]at U T;rw[List.range_eq_range'];refine Qh m a0 w (kl Fs) E J V T ?_ m 0 zO a0 w (Ext.rf _) ⟨rfl,rfl,λ_ _=>rfl⟩ (λi hi=>by omega);intro a d Y hC W;have H:(l.drop m).length=l.toArray.size-m:=by simp
 rw[←H,wpOps_eq_wpList (l.drop m) m (λj=>by simp)];exact U a d Y hC W
theorem yB{H:Nat}{l:List aV}{a0:Act}{w:aN}(m:Nat)(I:qJ l.toArray m a0.tmps.size=aM)
  (h:ed P Q l.toArray m a0 w (λd E=>∀a s,Ext w s→Ctx l.toArray m a0 a→qI l.toArray m E a s→wpList P l.toArray Q d a s) m l []):(bk H l.toArray aU).wp P Q a0 w:=
 wp_region (tM m I h)
theorem NL{l:List aV}{a0 a:Act}{E:aN}{m:Nat}{Fs:List VP}{tail:List aV}(V:m≤l.length)(h1:Fs.length=m)(T:Ctx l.toArray m a0 a)(Y:qI l.toArray m Fs a E)
  (h:ew P Q l.toArray tail (l.take m) Fs.reverse a0 E):wpList P l.toArray Q tail a E:=by
 refine BK a0.tmps.size T.size (l.take m) Fs.reverse a0 zG rfl T.defers.symm (λi F O=>?_) (λt=>?_) h
 ·have J:i<m:=zG;obtain⟨v,hv,H⟩:=Y i J;refine⟨v,by grind[kl],λo d U W=>H d ?_⟩;rw[List.getElem?_take]at U;simp_all[fC]
 ·by_cases s:∃i,i<m∧fC l.toArray i=aR t
  ·obtain⟨i,O,s⟩:=s;right;unfold fC at s;obtain⟨o,U,I⟩:=Option.bind_eq_some_iff.1 s;exact⟨i,o,by grind,I⟩
  ·left;exact(T.frame t λi O e=>s ⟨i,O,e⟩).symm
theorem me{l:List aV}{a0:Act}{w0:aN}(m:Nat)(H:m≤l.length):∀(k:Nat) (r:List aV) (d:List VP),ed P Q l.toArray m a0 w0 (λs d=>decide (d.length=m)=aM∧∀E,Ext w0 E→ew P Q l.toArray s (l.take m) d.reverse a0 E) k r d→
  ed P Q l.toArray m a0 w0 (λs d=>∀a E,Ext w0 E→Ctx l.toArray m a0 a→qI l.toArray m d a E→wpList P l.toArray Q s a E) k r d
 |0,r,d,h=>λa E J O I=>NL H (of_decide_eq_true h.1) O I (h.2 E J)
 |k+1,[],d,h=>h
 |k+1,o::r,d,h=>by
  obtain⟨F,U,T⟩:=h;exact⟨F,U,me m H k _ _ T⟩
theorem ux{l:List aV}{m n:Nat}{fl:List Nat}(d:preB l.toArray m n fl=aM):m≤l.length:=by
 simp_all[preB,aY,decide_eq_true_eq]
theorem fK{J:Nat}{l:List aV}{a0:Act}{w:aN}(m:Nat)(fl:List Nat)(O:P.follows .mixedOrders=aM)(I:preB l.toArray m a0.tmps.size fl=aM)(T:∀c a (d:Tmp) v w,Q (.panic c) { a with tmps:=a.tmps.setIfInBounds d v } w→Q (.panic c) a w)
  (h:ed P Q l.toArray m a0 w.drew (λs E=>decide (E.length=m)=aM∧∀H,Ext w.drew H→ew P Q l.toArray s (l.take m) E.reverse a0 H) m l []):(bk J l.toArray aM).wp P Q a0 w:=
 BL m fl O I T (me m (ux I) _ _ _ h)
theorem BM{l:List aV}{m n:Nat}(d:qJ l.toArray m n=aM):m≤l.length:=by
 simp_all[qJ,aY,decide_eq_true_eq]
theorem mC{I:Nat}{l:List aV}{a0:Act}{w:aN}(m:Nat)(H:qJ l.toArray m a0.tmps.size=aM)
  (h:ed P Q l.toArray m a0 w (λd s=>decide (s.length=m)=aM∧∀E,Ext w E→ew P Q l.toArray d (l.take m) s.reverse a0 E) m l []):(bk I l.toArray aU).wp P Q a0 w:=
 yB m H (me m (BM H) _ _ _ h)
end
section
variable {P:bF} {Q:Exit→Act→aN→Prop} {ops:Array aV} {M m:Nat} {a0:Act} {w0:aN} {K:List aV→List VP→Prop} {o:aV} {rest:List aV} {env:List VP}
def fu(ops:Array aV)(M:Nat)(a0:Act)(w0:aN)(env:List VP)(o:aV)(x:aP)(F:VP):Prop:=
 ∀a w,Ext w0 w→Ctx ops M a0 a→Qf ops (kl env) o a w→F (a.eval x) w
def qZ(ops:Array aV)(M t:Nat):Bool:=(bd M).all λi=>fC ops i !=aR t
def jA(o:aV)(j:Nat):Bool:=o.after.toList.any λe=>aQ .any e&&e.on==j
theorem eE(v:aX):fu ops M a0 w0 env o (.const v) (eC v):=λ_ _ _ _ _=>rfl
def nth{d:Type}:List d→Nat→Option d
 |[],_=>bz
 |x::_,0=>aR x
 |_::xs,n+1=>nth xs n
theorem pA{d:Type}:∀(l:List d) (n:Nat),nth l n=l[n]?
 |[],_=>by rfl
 |_::_,0=>by rfl
 |_::xs,n+1=>by simp[nth,pA xs n]
theorem mf(t:Nat){v:aX}(I:nth a0.tmps.toList t=aR v)(d:qZ ops M t=aM):fu ops M a0 w0 env o (.tmp t) (eC v):=λa w _ E _=>by
 have h:a0.tmps[t]?=aR v:=by grind[pA]
 have H:=E.frame t λi s e=>by
  have:=a1.1 d i (bg.2 s);grind
 show a.tmps.getD t bm=v;simp_all
theorem oC(j t r:Nat){F:VP}(s:jA o j=aM)(J:fC ops j=aR t)(I:env.length=j+r+1)(E:nth env r=aR F):fu ops M a0 w0 env o (.tmp t) F:=λa w _ _ H=>by
 obtain⟨e,h,d⟩:=List.any_eq_true.1 s;simp only[aY,beq_iff_eq]at d;have:=H e (Array.mem_toList_iff.1 h) d.1 t zG;rw[d.2]at this;unfold kl at this;rw[bo,bA zO,show env.length-1-j=r by omega,←pA,E]at this;exact this
theorem eh(w:aN):Ext w w.drew:=(bM _ _).drew
theorem ek(w:aN)(x:Obj):Ext w (w.alloc x):=(bM _ _).alloc (bK _) _
theorem fU(t:Nat){v:aX}{F:VP}{w:aN}(h:nth a0.tmps.toList t=aR v)(H:F v w)(I:Ext w w0)(E:qZ ops M t=aM):fu ops M a0 w0 env o (.tmp t) F:=λa s d O J=>by
 rw[show a.eval (.tmp t)=v from mf t h E a s d O J];exact F.st _ _ _ H (I.tr d)
def Want(ops:Array aV)(M:Nat)(a0:Act)(w0:aN)(env:List VP)(o:aV)(b:Bool):Prop:=
 ∀a w,Ext w0 w→Ctx ops M a0 a→Qf ops (kl env) o a w→bc o (yielded ops a.tmps)=b
theorem ee(h:o.guard=bz):Want ops M a0 w0 env o true:=λ_ _ _ _ _=>by simp[bc,h]
theorem km(j t r:Nat){c b:Bool}(U:o.guard=aR (j,b))(d:bt (t+1) a0.tmps.size=aM)(I:jA o j=aM)(H:fC ops j=aR t)(E:env.length=j+r+1)(J:nth env r=aR (eC (.bool c))):Want ops M a0 w0 env o (c==b):=λa w O s T=>by
 have W:a.tmps.getD t bm=.bool c:=oC (M:=M) (a0:=a0) (w0:=w0) j t r I H E J a w O s T;have V:a.tmps[t]?=aR (.bool c):=by
  have h:t<a.tmps.size:=by rw[s.size];exact bB d
  simp_all
 grind[yielded,fC,bc]
theorem NM(j t r:Nat)(s:o.guard=aR (j,aM))(d:bt (t+1) a0.tmps.size=aM)(H:jA o j=aM)(E:fC ops j=aR t)(h:env.length=j+r+1)(I:nth env r=aR (eC (.bool aM))):Want ops M a0 w0 env o true:=km j t r s d H E h I
theorem NN(j t r:Nat)(s:o.guard=aR (j,aU))(d:bt (t+1) a0.tmps.size=aM)(H:jA o j=aM)(E:fC ops j=aR t)(h:env.length=j+r+1)(I:nth env r=aR (eC (.bool aU))):Want ops M a0 w0 env o true:=km j t r s d H E h I
theorem NO(j t r:Nat)(s:o.guard=aR (j,aM))(d:bt (t+1) a0.tmps.size=aM)(H:jA o j=aM)(E:fC ops j=aR t)(h:env.length=j+r+1)(I:nth env r=aR (eC (.bool aU))):Want ops M a0 w0 env o false:=km j t r s d H E h I
theorem NP(j t r:Nat)(s:o.guard=aR (j,aU))(d:bt (t+1) a0.tmps.size=aM)(H:jA o j=aM)(E:fC ops j=aR t)(h:env.length=j+r+1)(I:nth env r=aR (eC (.bool aM))):Want ops M a0 w0 env o false:=km j t r s d H E h I
theorem ed.skip(d:Want ops M a0 w0 env o aU)(h:ed P Q ops M a0 w0 K m rest (eC bm::env)):ed P Q ops M a0 w0 K (m+1) (o::rest) env:=
 ⟨eC bm,λa w s H E=>by rw[d a w s H E];exact rfl,h⟩
theorem ed.val{F:VP}(H:Want ops M a0 w0 env o aM)(h:∀a w,Ext w0 w→Ctx ops M a0 a→Qf ops (kl env) o a w→∃v,(aT a.eval o).run P w=.ok (.value v) w∧F v w)
  (I:ed P Q ops M a0 w0 K m rest (F::env)):ed P Q ops M a0 w0 K (m+1) (o::rest) env:=
 ⟨F,λa w d E s=>by
  obtain⟨v,O,J⟩:=h a w d E s;rw[H a w d E s,if_pos rfl];unfold bH;rw[O];exact⟨v,rfl,(Ext.rf _).grow d.size,J⟩,I⟩
theorem ed.new{F:VP}(I:Want ops M a0 w0 env o aM)(h:∀a w,Ext w0 w→Ctx ops M a0 a→Qf ops (kl env) o a w→∃v d,(aT a.eval o).run P w=.ok (.value v) d∧Ext w d∧F v d)
  (J:ed P Q ops M a0 w0 K m rest (F::env)):ed P Q ops M a0 w0 K (m+1) (o::rest) env:=
 ⟨F,λa w s H E=>by
  obtain⟨v,d,U,T,O⟩:=h a w s H E;rw[I a w s H E,if_pos rfl];unfold bH;rw[U];exact⟨v,rfl,T.grow s.size,O⟩,J⟩
theorem ed.move{F:VP}(x:aP)(J:o.op=.move x)(h:Want ops M a0 w0 env o aM)(d:fu ops M a0 w0 env o x F)
  (s:ed P Q ops M a0 w0 K m rest (F::env)):ed P Q ops M a0 w0 K (m+1) (o::rest) env:=
 .val h (λa w E I H=>⟨a.eval x,by simp_all[aT],d a w E I H⟩) s
theorem ed.assign{F:VP}(x:aP)(J:o.op=.assign x)(h:Want ops M a0 w0 env o aM)(d:fu ops M a0 w0 env o x F)
  (s:ed P Q ops M a0 w0 K m rest (F::env)):ed P Q ops M a0 w0 K (m+1) (o::rest) env:=
 .val h (λa w E I H=>⟨a.eval x,by simp_all[aT],d a w E I H⟩) s
theorem ed.nj{F:VP}(c x y:aP)(O:o.op=.pick c x y)(H:Want ops M a0 w0 env o aM)(J:fu ops M a0 w0 env o c (eC (.bool aM)))(E:fu ops M a0 w0 env o x F)
  (I:ed P Q ops M a0 w0 K m rest (F::env)):ed P Q ops M a0 w0 K (m+1) (o::rest) env:=
 .val H (λa w d s h=>⟨a.eval x,by
  have T:a.eval c=.bool true:=J a w d s h;grind[aT,asBool,a6,bb,a8],E a w d s h⟩) I
theorem ed.Gq{F:VP}(c x y:aP)(O:o.op=.pick c x y)(H:Want ops M a0 w0 env o aM)(J:fu ops M a0 w0 env o c (eC (.bool aU)))(E:fu ops M a0 w0 env o y F)
  (I:ed P Q ops M a0 w0 K m rest (F::env)):ed P Q ops M a0 w0 K (m+1) (o::rest) env:=
 .val H (λa w d s h=>⟨a.eval y,by
  have T:a.eval c=.bool false:=J a w d s h;grind[aT,asBool,a6,bb,a8],E a w d s h⟩) I
theorem ed.gF{r s:aX}(x:aP)(I:Want ops M a0 w0 env o aM)(H:fu ops M a0 w0 env o x (eC s))
  (h:∀(d:aP→aX) w,Ext w0 w→d x=s→(aT d o).run P w=.ok (.value r) w)
  (J:ed P Q ops M a0 w0 K m rest (eC r::env)):ed P Q ops M a0 w0 K (m+1) (o::rest) env:=
 .val I (λa w E T O=>⟨r,h a.eval w E (H a w E T O),rfl⟩) J
theorem ed.iu{r H E:aX}(x y:aP)(U:Want ops M a0 w0 env o aM)(T:fu ops M a0 w0 env o x (eC H))(O:fu ops M a0 w0 env o y (eC E))
  (h:∀(d:aP→aX) w,Ext w0 w→d x=H→d y=E→(aT d o).run P w=.ok (.value r) w)
  (V:ed P Q ops M a0 w0 K m rest (eC r::env)):ed P Q ops M a0 w0 K (m+1) (o::rest) env:=
 .val U (λa w s J I=>⟨r,h a.eval w s (T a w s J I) (O a w s J I),rfl⟩) V
theorem ed.T9{r O J I:aX}(x y z:aP)(W:Want ops M a0 w0 env o aM)(V:fu ops M a0 w0 env o x (eC O))(U:fu ops M a0 w0 env o y (eC J))(T:fu ops M a0 w0 env o z (eC I))
  (h:∀(d:aP→aX) w,Ext w0 w→d x=O→d y=J→d z=I→(aT d o).run P w=.ok (.value r) w)
  (Y:ed P Q ops M a0 w0 K m rest (eC r::env)):ed P Q ops M a0 w0 K (m+1) (o::rest) env:=
 .val W (λa w s H E=>⟨r,h a.eval w s (V a w s H E) (U a w s H E) (T a w s H E),rfl⟩) Y
theorem ed.TR{F H:VP}(x:aP)(J:Want ops M a0 w0 env o aM)(I:fu ops M a0 w0 env o x H)
  (h:∀(s:aP→aX) w,Ext w0 w→H (s x) w→∃v d,(aT s o).run P w=.ok (.value v) d∧Ext w d∧F v d)
  (O:ed P Q ops M a0 w0 K m rest (F::env)):ed P Q ops M a0 w0 K (m+1) (o::rest) env:=
 .new J (λa w E U T=>h a.eval w E (I a w E U T)) O
theorem ed.WO{F O J:VP}(x y:aP)(V:Want ops M a0 w0 env o aM)(U:fu ops M a0 w0 env o x O)(T:fu ops M a0 w0 env o y J)
  (h:∀(d:aP→aX) w,Ext w0 w→O (d x) w→J (d y) w→∃v s,(aT d o).run P w=.ok (.value v) s∧Ext w s∧F v s)
  (W:ed P Q ops M a0 w0 K m rest (F::env)):ed P Q ops M a0 w0 K (m+1) (o::rest) env:=
 .new V (λa w E I H=>h a.eval w E (U a w E I H) (T a w E I H)) W
theorem ed.call{F:VP}(f:FuncId)(args:Array aP)(E:Array aS)(V:o.op=.call { callee:=.value (.func f),args:=args,argTypes:=E })
  (s:∀O w,(callFunc f O).run P w=.ok (.enter f O) w)(T:Want ops M a0 w0 env o aM)
  (h:∀a w,Ext w0 w→Ctx ops M a0 a→Qf ops (kl env) o a w→Calls P f (args.map a.eval) w (eB w F))
  (U:ed P Q ops M a0 w0 K m rest (F::env)):ed P Q ops M a0 w0 K (m+1) (o::rest) env:=
 ⟨F,λa w H J I=>by
  rw[T a w H J I,if_pos rfl];have d:(aT a.eval o).run P w=.ok (.enter f (args.map a.eval)) w:=by
   unfold aT;simp only[V,resolve,Act.eval,a6];simp[go_sem,s]
  unfold bH;rw[d];refine(h a w H J I).mono ?_;rintro e w' ⟨v,rfl,Y,W⟩;exact⟨v,rfl,Y.grow H.size,W⟩,U⟩
theorem ed.gz{F I:VP}(f:FuncId)(x:aP)(d:Array aS)(U:o.op=.call { callee:=.value (.func f),args:=#[x],argTypes:=d })
  (s:∀H w,(callFunc f H).run P w=.ok (.enter f H) w)(O:Want ops M a0 w0 env o aM)(J:fu ops M a0 w0 env o x I)
  (h:∀u w,Ext w0 w→I u w→Calls P f #[u] w (eB w F))
  (T:ed P Q ops M a0 w0 K m rest (F::env)):ed P Q ops M a0 w0 K (m+1) (o::rest) env:=
 .call f _ d U s O (λa w E W V=>by simpa only[bj,bs,bu]using h (a.eval x) w E (J a w E W V)) T
theorem ed.call2{F T O:VP}(f:FuncId)(x y:aP)(d:Array aS)(ho:o.op=.call { callee:=.value (.func f),args:=#[x,y],argTypes:=d })
  (s:∀J w,(callFunc f J).run P w=.ok (.enter f J) w)(W:Want ops M a0 w0 env o aM)(V:fu ops M a0 w0 env o x T)(U:fu ops M a0 w0 env o y O)
  (h:∀u v w,Ext w0 w→T u w→O v w→Calls P f #[u,v] w (eB w F))
  (Y:ed P Q ops M a0 w0 K m rest (F::env)):ed P Q ops M a0 w0 K (m+1) (o::rest) env:=
 .call f _ d ho s W (λa w E I H=>by simpa only[bj,bs,bu]using h (a.eval x) (a.eval y) w E (V a w E I H) (U a w E I H)) Y
theorem ed.call3{F V U T:VP}(f:FuncId)(x y z:aP)(d:Array aS)(ho:o.op=.call { callee:=.value (.func f),args:=#[x,y,z],argTypes:=d })
  (E:∀O w,(callFunc f O).run P w=.ok (.enter f O) w)(hw:Want ops M a0 w0 env o aM)(hx:fu ops M a0 w0 env o x V)(Y:fu ops M a0 w0 env o y U)(W:fu ops M a0 w0 env o z T)
  (h:∀u v s w,Ext w0 w→V u w→U v w→T s w→Calls P f #[u,v,s] w (eB w F))
  (hr:ed P Q ops M a0 w0 K m rest (F::env)):ed P Q ops M a0 w0 K (m+1) (o::rest) env:=
 .call f _ d ho E hw (λa w H J I=>by simpa only[bj,bs,bu]using h (a.eval x) (a.eval y) (a.eval z) w H (hx a w H J I) (Y a w H J I) (W a w H J I)) hr
theorem ed.call4{F V U T Fs:VP}(f:FuncId)(x y z s:aP)(d:Array aS)(ho:o.op=.call { callee:=.value (.func f),args:=#[x,y,z,s],argTypes:=d })
  (E:∀O w,(callFunc f O).run P w=.ok (.enter f O) w)(hw:Want ops M a0 w0 env o aM)(hx:fu ops M a0 w0 env o x V)(Y:fu ops M a0 w0 env o y U)(W:fu ops M a0 w0 env o z T)(hs:fu ops M a0 w0 env o s Fs)
  (h:∀u v t r w,Ext w0 w→V u w→U v w→T t w→Fs r w→Calls P f #[u,v,t,r] w (eB w F))
  (hr:ed P Q ops M a0 w0 K m rest (F::env)):ed P Q ops M a0 w0 K (m+1) (o::rest) env:=
 .call f _ d ho E hw (λa w H J I=>by simpa only[bj,bs,bu]using h (a.eval x) (a.eval y) (a.eval z) (a.eval s) w H (hx a w H J I) (Y a w H J I) (W a w H J I) (hs a w H J I)) hr
theorem ed.load{r p:aX}(t:aS)(x:aP)(J:o.op=.load t x)(E:Want ops M a0 w0 env o aM)(s:fu ops M a0 w0 env o x (eC p))
  (h:∀w,Ext w0 w→(bw t p).run P w=.ok r w)
  (H:ed P Q ops M a0 w0 K m rest (eC r::env)):ed P Q ops M a0 w0 K (m+1) (o::rest) env:=
 .gF x E s (λI w O d=>by grind[aT,a6,bb,a8]) H
theorem ed.KR{F G:VP}(t:aS)(x:aP)(O:o.op=.load t x)(E:Want ops M a0 w0 env o aM)(s:fu ops M a0 w0 env o x G)
  (h:∀p w,Ext w0 w→G p w→∃r,(bw t p).run P w=.ok r w∧F r w)
  (H:ed P Q ops M a0 w0 K m rest (F::env)):ed P Q ops M a0 w0 K (m+1) (o::rest) env:=
 .val E (λa w d J I=>by
  obtain⟨r,U,T⟩:=h (a.eval x) w d (s a w d J I);grind[aT,a6,bb,a8]) H
def Box(w:aN)(g:Nat)(t:aS)(cs:AV):Prop:=w.heap[g]?=aR (.cells cs t (0,0))
theorem Box.lt{w:aN}{g:Nat}{t:aS}{cs:AV}(h:Box w g t cs):g<w.heap.size:=(aO.1 h).1
theorem Box.new(w:aN)(t:aS)(cs:AV):Box (w.alloc (.cells cs t)) w.heap.size t cs:=heap_alloc_new w _
theorem Box.ext{w d:aN}{g:Nat}{t:aS}{cs:AV}(h:Box w g t cs)(s:Ext w d):Box d g t cs:=(s.block g h.lt).trans h
theorem Box.alloc{w:aN}{g:Nat}{t:aS}{cs:AV}(h:Box w g t cs)(o:Obj):Box (w.alloc o) g t cs:=h.ext (ek w o)
theorem Box.cell{w:aN}{g:Nat}{t:aS}{cs:AV}(h:Box w g t cs)(i:Nat):w.cell? ⟨g,i,bz⟩=cs[i]?:=cell_of_row w g i cs t (0,0) h
theorem Box.at_{w:aN}{g:Nat}{t:aS}{cs:AV}{v:aX}(h:Box w g t cs)(i:Nat)(hi:nth cs.toList i=aR v):w.cell? ⟨g,i,bz⟩=aR v:=by
 rw[h.cell i];grind[pA]
theorem Box.frozen{w:aN}{g:Nat}{t:aS}{cs:AV}(h:Box w g t cs)(i:Nat):w.frozen? ⟨g,i,bz⟩=false:=by
 grind[Box,World.frozen?]
theorem Box.drew{w:aN}{g:Nat}{t:aS}{cs:AV}(h:Box w g t cs):Box w.drew g t cs:=h
theorem Box.eL{w:aN}{g:Nat}{t:aS}{cs:AV}(h:Box w g t cs)(i:Nat)(u:aX):Box (w.setCell ⟨g,i,bz⟩ u) g t (cs.setIfInBounds i u):=by
 grind[Box,World.setCell]
theorem Box.far{w:aN}{g:Nat}{t:aS}{cs:AV}(h:Box w g t cs){p:Addr}(d:g≠p.block)(u:aX):Box (w.setCell p u) g t cs:=(Below.heap_setCell w p u g d).trans h
theorem Box.gR{w:aN}{g:Nat}{t:aS}{d cs:AV}(h:Box w g t d):Box (w.setRow g cs) g t cs:=by
 unfold Box bI at*;simp[bC,h]
theorem eK{P:bF}{Q:Exit→Act→aN→Prop}{ops:Array aV}{rest:List aV}{o:aV}{a:Act}{w:aN}(U:o.guard=bz)(O:aS)(x y:aP)(ho:o.op=.store O x y)(E:o.dst=bz)
  (g:Nat)(cells:AV)(Y:a.eval x=gP g)(W:a.eval y=.agg cells)(t:aS)(d:AV)(V:Box w g t d)(hi:(P.info? O).map (·.size)=aR cells.size)
  (s:d.size=cells.size)(h1:cells.toList.all (·.oneCell')=aM)
  (h:∀I,Box I g t cells→(∀k,k≠g→I.heap[k]?=w.heap[k]?)→(∀w0,Ext w0 w→w0.heap.size≤g→Ext w0 I)→wpList P ops Q rest a I):wpList P ops Q (o::rest) a w:=by
 refine wpList_store_row U O x y ho g cells Y W t d V hi s zG ?_;rw[E];have J:∀k,k≠g→(w.setRow g cells).heap[k]?=w.heap[k]?:=λk J=>by
  unfold bI;simp[bC,Ne.symm J]
 exact h _ V.gR J λw0 H hg=>⟨H.os,H.tape,H.output,by unfold bI;simpa using H.size,λk T=>(J k zO).trans (H.block k T)⟩
theorem ed.gG{v:aX}{p:Addr}{w:aN}(t:aS)(x:aP)(O:o.op=.load t x)(I:Want ops M a0 w0 env o aM)(H:fu ops M a0 w0 env o x (eC (.pointer (aR p))))
  (s:∀w:aN,(isAgg t).run P w=.ok aU w)(h:w.cell? p=aR v)(T:Ext w w0)
  (J:ed P Q ops M a0 w0 K m rest (eC v::env)):ed P Q ops M a0 w0 K (m+1) (o::rest) env:=
 .load t x O I H (λE d=>by
  have U:E.cell? p=aR v:=((T.tr d).cell (World.block_lt_of_cell? w p h)).trans h;simp_all[bw,Instr.sureAddr,loadVar,a6]) J
theorem ed.eU{g:Nat}{T:aS}{cs:AV}{w:aN}(t:aS)(x:aP)(O:o.op=.load t x)(H:Want ops M a0 w0 env o aM)(E:fu ops M a0 w0 env o x (eC (gP g)))
  {d:TypeDesc}(I:P.underlying t=aR d)(U:(match d with|.struct _|.array _ _=>aM|_=>aU)=aM)(hi:(P.info? t).map (·.size)=aR cs.size)(V:Box w g T cs)(W:Ext w w0)
  (J:ed P Q ops M a0 w0 K m rest (eC (.agg cs)::env)):ed P Q ops M a0 w0 K (m+1) (o::rest) env:=
 .load t x O H E (λs h=>by
  simp only[bw,Instr.sureAddr,a6,bb,a8,run_loadVar_row s g T t cs (0,0) d (V.ext (W.tr h)) I U hi]) J
theorem ed.ko{a b:Int}(t t':aS)(x y:aP)(H:o.op=.binOp .add t x y t')(s:Want ops M a0 w0 env o aM)(h:fu ops M a0 w0 env o x (eC (iV a)))(d:fu ops M a0 w0 env o y (eC (iV b)))
  (I:-9223372036854775808≤a+b∧a+b≤9223372036854775807)
  (E:ed P Q ops M a0 w0 K m rest (eC (iV (a+b))::env)):ed P Q ops M a0 w0 K (m+1) (o::rest) env:=
 .iu x y s h d (λU w _ T O=>by
  have J:bL.wrap (a+b)=a+b:=bD _ I;unfold aT;simp[H,T,O,go_sem,J]) E
theorem ed.kC{a b:Int}(t t':aS)(x y:aP)(H:o.op=.binOp .sub t x y t')(s:Want ops M a0 w0 env o aM)(h:fu ops M a0 w0 env o x (eC (iV a)))(d:fu ops M a0 w0 env o y (eC (iV b)))
  (I:-9223372036854775808≤a-b∧a-b≤9223372036854775807)
  (E:ed P Q ops M a0 w0 K m rest (eC (iV (a-b))::env)):ed P Q ops M a0 w0 K (m+1) (o::rest) env:=
 .iu x y s h d (λU w _ T O=>by
  have J:bL.wrap (a-b)=a-b:=bD _ I;unfold aT;simp[H,T,O,go_sem,J]) E
theorem ed.tN{a b:Int}(t t':aS)(x y:aP)(H:o.op=.binOp .mul t x y t')(s:Want ops M a0 w0 env o aM)(h:fu ops M a0 w0 env o x (eC (iV a)))(d:fu ops M a0 w0 env o y (eC (iV b)))
  (I:-9223372036854775808≤a*b∧a*b≤9223372036854775807)
  (E:ed P Q ops M a0 w0 K m rest (eC (iV (a*b))::env)):ed P Q ops M a0 w0 K (m+1) (o::rest) env:=
 .iu x y s h d (λU w _ T O=>by
  have J:bL.wrap (a*b)=a*b:=bD _ I;unfold aT;simp[H,T,O,go_sem,J]) E
theorem ed.Qi{k:bn}{a b:Int}(t t':aS)(x y:aP)(I:o.op=.binOp .eql t x y t')(E:Want ops M a0 w0 env o aM)(s:fu ops M a0 w0 env o x (eC (.int k a)))(h:fu ops M a0 w0 env o y (eC (.int k b)))
  (d:a=b)
  (H:ed P Q ops M a0 w0 K m rest (eC (.bool aM)::env)):ed P Q ops M a0 w0 K (m+1) (o::rest) env:=
 .iu x y E s h (λT w _ O J=>by
  subst d;unfold aT;simp[I,O,J,go_sem]) H
theorem ed.Eh{k:bn}{a b:Int}(t t':aS)(x y:aP)(H:o.op=.binOp .geq t x y t')(s:Want ops M a0 w0 env o aM)(h:fu ops M a0 w0 env o x (eC (.int k a)))(d:fu ops M a0 w0 env o y (eC (.int k b)))
  (I:b≤a)
  (E:ed P Q ops M a0 w0 K m rest (eC (.bool aM)::env)):ed P Q ops M a0 w0 K (m+1) (o::rest) env:=
 .iu x y s h d (λT w _ O J=>by
  unfold aT;simp[H,O,J,go_sem];omega) E
theorem ed.Sq{k:bn}{a b:Int}(t t':aS)(x y:aP)(H:o.op=.binOp .geq t x y t')(s:Want ops M a0 w0 env o aM)(h:fu ops M a0 w0 env o x (eC (.int k a)))(d:fu ops M a0 w0 env o y (eC (.int k b)))
  (I:¬b≤a)
  (E:ed P Q ops M a0 w0 K m rest (eC (.bool aU)::env)):ed P Q ops M a0 w0 K (m+1) (o::rest) env:=
 .iu x y s h d (λT w _ O J=>by
  unfold aT;simp[H,O,J,go_sem];omega) E
theorem ed.Sr{k:bn}{a b:Int}(t t':aS)(x y:aP)(H:o.op=.binOp .leq t x y t')(s:Want ops M a0 w0 env o aM)(h:fu ops M a0 w0 env o x (eC (.int k a)))(d:fu ops M a0 w0 env o y (eC (.int k b)))
  (I:a≤b)
  (E:ed P Q ops M a0 w0 K m rest (eC (.bool aM)::env)):ed P Q ops M a0 w0 K (m+1) (o::rest) env:=
 .iu x y s h d (λT w _ O J=>by
  unfold aT;simp[H,O,J,go_sem];omega) E
theorem ed.KS{k:bn}{a b:Int}(t t':aS)(x y:aP)(H:o.op=.binOp .gtr t x y t')(s:Want ops M a0 w0 env o aM)(h:fu ops M a0 w0 env o x (eC (.int k a)))(d:fu ops M a0 w0 env o y (eC (.int k b)))
  (I:b<a)
  (E:ed P Q ops M a0 w0 K m rest (eC (.bool aM)::env)):ed P Q ops M a0 w0 K (m+1) (o::rest) env:=
 .iu x y s h d (λT w _ O J=>by
  unfold aT;simp[H,O,J,go_sem];omega) E
theorem ed.Ei{k:bn}{a b:Int}(t t':aS)(x y:aP)(H:o.op=.binOp .gtr t x y t')(s:Want ops M a0 w0 env o aM)(h:fu ops M a0 w0 env o x (eC (.int k a)))(d:fu ops M a0 w0 env o y (eC (.int k b)))
  (I:¬b<a)
  (E:ed P Q ops M a0 w0 K m rest (eC (.bool aU)::env)):ed P Q ops M a0 w0 K (m+1) (o::rest) env:=
 .iu x y s h d (λT w _ O J=>by
  unfold aT;simp[H,O,J,go_sem];omega) E
theorem ed.qw{k:bn}{a b:Int}(t t':aS)(x y:aP)(H:o.op=.binOp .lss t x y t')(s:Want ops M a0 w0 env o aM)(h:fu ops M a0 w0 env o x (eC (.int k a)))(d:fu ops M a0 w0 env o y (eC (.int k b)))
  (I:a<b)
  (E:ed P Q ops M a0 w0 K m rest (eC (.bool aM)::env)):ed P Q ops M a0 w0 K (m+1) (o::rest) env:=
 .iu x y s h d (λT w _ O J=>by
  unfold aT;simp[H,O,J,go_sem];omega) E
theorem ed.xT{k:bn}{a b:Int}(t t':aS)(x y:aP)(H:o.op=.binOp .lss t x y t')(s:Want ops M a0 w0 env o aM)(h:fu ops M a0 w0 env o x (eC (.int k a)))(d:fu ops M a0 w0 env o y (eC (.int k b)))
  (I:¬a<b)
  (E:ed P Q ops M a0 w0 K m rest (eC (.bool aU)::env)):ed P Q ops M a0 w0 K (m+1) (o::rest) env:=
 .iu x y s h d (λT w _ O J=>by
  unfold aT;simp[H,O,J,go_sem];omega) E
theorem ed.zQ{k:bn}{a b:Int}(t t':aS)(x y:aP)(I:o.op=.binOp .eql t x y t')(E:Want ops M a0 w0 env o aM)(s:fu ops M a0 w0 env o x (eC (.int k a)))(h:fu ops M a0 w0 env o y (eC (.int k b)))
  (d:a≠b)
  (H:ed P Q ops M a0 w0 K m rest (eC (.bool aU)::env)):ed P Q ops M a0 w0 K (m+1) (o::rest) env:=
 .iu x y E s h (λT w _ O J=>by
  unfold aT;simp[I,O,J,go_sem,d]) H
theorem ed.Ua{a b:ByteArray}(t t':aS)(x y:aP)(I:o.op=.binOp .eql t x y t')(E:Want ops M a0 w0 env o aM)(s:fu ops M a0 w0 env o x (eC (.string a)))(h:fu ops M a0 w0 env o y (eC (.string b)))
  (d:a=b)
  (H:ed P Q ops M a0 w0 K m rest (eC (.bool aM)::env)):ed P Q ops M a0 w0 K (m+1) (o::rest) env:=
 .iu x y E s h (λT w _ O J=>by
  subst d;unfold aT;simp[I,O,J,go_sem]) H
theorem ed.Ub{a b:ByteArray}(t t':aS)(x y:aP)(I:o.op=.binOp .neq t x y t')(E:Want ops M a0 w0 env o aM)(s:fu ops M a0 w0 env o x (eC (.string a)))(h:fu ops M a0 w0 env o y (eC (.string b)))
  (d:a=b)
  (H:ed P Q ops M a0 w0 K m rest (eC (.bool aU)::env)):ed P Q ops M a0 w0 K (m+1) (o::rest) env:=
 .iu x y E s h (λT w _ O J=>by
  subst d;unfold aT;simp[I,O,J,go_sem]) H
theorem ed.BN{a c:Bool}(t:aS)(x:aP)(E:o.op=.unOp .not t x)(h:Want ops M a0 w0 env o aM)(d:fu ops M a0 w0 env o x (eC (.bool a)))(H:(!a)=c)
  (s:ed P Q ops M a0 w0 K m rest (eC (.bool c)::env)):ed P Q ops M a0 w0 K (m+1) (o::rest) env:=
 .gF x h d (λJ w _ I=>by
  subst H;unfold aT;simp[E,I,go_sem]) s
def eR(Fs:List VP):VP:=⟨λu w=>∃d:List aX,u=.tuple d.toArray∧d.length=Fs.length∧∀(i:Nat) (F:VP),Fs[i]?=aR F→∃v,d[i]?=aR v∧F v w,λu w T ⟨d,O,J,I⟩ s=>⟨d,O,J,λi F h=>by
 obtain⟨v,H,E⟩:=I i F h;exact⟨v,H,F.wk _ _ _ E s⟩⟩⟩
theorem eR.two{F G:VP}{u v:aX}{w:aN}(s:F u w)(h:G v w):eR [F,G] (.tuple #[u,v]) w:=⟨[u,v],rfl,rfl,λi X d=>by
 grind⟩
theorem eR.three{F G H:VP}{u v x:aX}{w:aN}(E:F u w)(s:G v w)(h:H x w):eR [F,G,H] (.tuple #[u,v,x]) w:=⟨[u,v,x],rfl,rfl,λi X d=>by
 grind⟩
theorem eR.inv2{F G:VP}{u:aX}{w:aN}(h:eR [F,G] u w):∃a b,u=.tuple #[a,b]∧F a w∧G b w:=by
 obtain⟨s,rfl,E,d⟩:=h
 match s,E with
 |[a,b],_=>
  obtain⟨x,O,J⟩:=d 0 F rfl;obtain⟨y,I,H⟩:=d 1 G rfl;grind
theorem eR.Ss{F G H:VP}{u:aX}{w:aN}(h:eR [F,G,H] u w):∃a b c,u=.tuple #[a,b,c]∧F a w∧G b w∧H c w:=by
 obtain⟨s,rfl,E,d⟩:=h
 match s,E with
 |[a,b,c],_=>
  obtain⟨x,V,U⟩:=d 0 F rfl;obtain⟨y,T,O⟩:=d 1 G rfl;obtain⟨z,J,I⟩:=d 2 H rfl;grind
theorem ed.extract{Fs:List VP}{F:VP}(x:aP)(i:Nat)(V:o.op=.extract x i)(E:nth Fs i=aR F)(h:Want ops M a0 w0 env o aM)(d:fu ops M a0 w0 env o x (eR Fs))
  (s:ed P Q ops M a0 w0 K m rest (F::env)):ed P Q ops M a0 w0 K (m+1) (o::rest) env:=
 .val h (λa w I O J=>by
  obtain⟨U,h1,_,T⟩:=d a w I O J;have H:Fs[i]?=aR F:=by grind[pA]
  obtain⟨v,Y,W⟩:=T i F H;simp_all[aT,bq]) s
def u5(cs:AV):Bool:=match cs[0]? with|some (Value.int IntKind.u8 _)=>aU|_=>aM
theorem BO{cs:AV}(h:u5 cs=aM)(z:Int):cs[0]?≠aR (Value.int .u8 z):=λe=>by grind[u5]
theorem qY.KT{w d:aN}(h:qY w d){g:Nat}{cs:AV}{t:aS}{m:Nat×Nat}(s:w.heap[g]?=aR (.cells cs t m))(_:u5 cs=aM∨m≠(0,0)):d.heap[g]?=aR (.cells cs t m):=by
 rcases h.block g (aO.1 s).1 with e|⟨E,H,O,_,z,I⟩
 ·rw[e,s]
 grind
def Uc(B:Nat)(t:aS)(cs:AV):VP:=⟨λu w=>∃g,u=gP g∧B≤g∧w.heap[g]?=aR (.cells cs t (0,0))∧u5 cs=aM,λ_ _ _ ⟨g,H,E,s,d⟩ h=>⟨g,H,E,h.KT s (.inl d),d⟩⟩
theorem ed.alloc{z:aX}(t:aS)(H:o.op=.alloc t)(s:Want ops M a0 w0 env o aM)(d:(P.info? t).bind (·.zero)=aR z)(I:u5 z.cells=aM)
  (E:ed P Q ops M a0 w0 K m rest (Uc w0.heap.size t z.cells::env)):ed P Q ops M a0 w0 K (m+1) (o::rest) env:=
 .new s (λa w J _ _=>by
  cases h:P.info? t with
  |none=>grind
  |some i=>
   simp only[h,Option.bind_some]at d;refine⟨gP w.heap.size,w.alloc (.cells z.cells t),?_,ek _ _,⟨_,rfl,J.size,heap_alloc_new w _,I⟩⟩;unfold aT;simp[H,Instr.alloc,zeroValue,typeInfo,h,d,newVar,newRow,a6,bb]) E
theorem vc{l:List aV}{w0:aN}{I:Func}{r:aX}{R:Ending→aN→Prop}{J:Act→aN→Prop}(aa:∀a w,Code.ret.wp P (bodyPost P I R) a w→J a w)(M:Nat)(d t:Tmp)(O:aV)
  (U:O.op=.assign (.tmp t))(W:O.guard=bz)(Y:O.dst=aR d)(ab:I.results=#[.tmp d])(V:bt (d+1) a0.tmps.size=aM)(H:a0.defers=[])(j:Nat)(hj:j+1=M)(ah:fC l.toArray j=aR t) :
  ∀(k:Nat) (rest:List aV) (env:List VP),ed P (Exit.then J (bodyPost P I R)) l.toArray M a0 w0 (λs env=>s=[O]∧env.length=M∧env[0]?=aR (eC r)∧∀E,Ext w0 E→R (.returned r) E) k rest env→
   ed P (Exit.then J (bodyPost P I R)) l.toArray M a0 w0 (λs env=>∀a E,Ext w0 E→Ctx l.toArray M a0 a→qI l.toArray M env a E→wpList P l.toArray (Exit.then J (bodyPost P I R)) s a E) k rest env:=by
 intro k
 induction k with
 |zero=>
  rintro _ env ⟨rfl,ae,h2,h3⟩ a E hE hC hF;obtain⟨v,T,af⟩:=hF j zO;have ag:v=r:=by
   unfold kl at T;rw[bo,bA zO,show env.length-1-j=0 by omega,h2]at T;exact T
  have ai:a.tmps.getD t bm=r:=zG;refine wpList_plain W λ_ hK=>?_;unfold bH aT;simp only[U,Act.eval,bb];refine hK _ _ ?_;show J _ E;refine aa _ _ (wp_ret ?_);have ad:d<a.tmps.size:=by rw[hC.size];exact bB V
  refine⟨by rw[Y];exact hC.defers.trans H,r,?_,h3 E hE⟩;simp_all[results,ba]
 |succ k ih=>
  intro rest env h;cases rest with
  |nil=>exact h
  |cons o rest=>
   obtain⟨F,h1,h2⟩:=h;exact⟨F,h1,ih _ _ h2⟩
theorem NQ{id:Nat}{l:List aV}{w:aN}{E:Func}{r:aX}{R:Ending→aN→Prop}{O:Act→aN→Prop}(aa:∀a w,Code.ret.wp P (bodyPost P E R) a w→O a w)(M:Nat)(fl:List Nat)(d t:Tmp)(s:aV)(hm:P.follows .mixedOrders=aM)(hB:preB l.toArray M a0.tmps.size fl=aM)(hQ:∀c a (d:Tmp) v w,Exit.then O (bodyPost P E R) (.panic c) { a with tmps:=a.tmps.setIfInBounds d v } w→Exit.then O (bodyPost P E R) (.panic c) a w)(_:nth l M=aR s)
  (T:s.op=.assign (.tmp t))(W:s.guard=bz)(Y:s.dst=aR d)(I:E.results=#[.tmp d])(U:bt (d+1) a0.tmps.size=aM)(J:a0.defers=[])(j:Nat)(hj:j+1=M)(V:fC l.toArray j=aR t)
  (h:ed P (Exit.then O (bodyPost P E R)) l.toArray M a0 w.drew (λH env=>H=[s]∧env.length=M∧env[0]?=aR (eC r)∧∀w',Ext w.drew w'→R (.returned r) w') M l []) :
  (bk id l.toArray aM).wp P (Exit.then O (bodyPost P E R)) a0 w:=
 BL M fl hm hB hQ (vc aa M d t s T W Y I U J j hj V _ _ _ h)
theorem BP{id:Nat}{l:List aV}{w:aN}{J:Func}{r:aX}{R:Ending→aN→Prop}{KK:Act→aN→Prop}(Y:∀a w,Code.ret.wp P (bodyPost P J R) a w→KK a w)(M:Nat)(d t:Tmp)(s:aV)(hB:qJ l.toArray M a0.tmps.size=aM)(_:nth l M=aR s)
  (O:s.op=.assign (.tmp t))(V:s.guard=bz)(W:s.dst=aR d)(H:J.results=#[.tmp d])(T:bt (d+1) a0.tmps.size=aM)(I:a0.defers=[])(j:Nat)(hj:j+1=M)(U:fC l.toArray j=aR t)
  (h:ed P (Exit.then KK (bodyPost P J R)) l.toArray M a0 w (λE env=>E=[s]∧env.length=M∧env[0]?=aR (eC r)∧∀w',Ext w w'→R (.returned r) w') M l []) :
  (bk id l.toArray aU).wp P (Exit.then KK (bodyPost P J R)) a0 w:=
 yB M hB (vc Y M d t s O V W H T I j hj U _ _ _ h)
theorem ed.Su{b:Bool}(h:b=aM)(d:ed P Q ops M a0 w0 K m rest (eC (.bool aM)::env)):ed P Q ops M a0 w0 K m rest (eC (.bool b)::env):=by subst h;exact d
theorem ed.Po{b:Bool}(h:b=aU)(d:ed P Q ops M a0 w0 K m rest (eC (.bool aU)::env)):ed P Q ops M a0 w0 K m rest (eC (.bool b)::env):=by subst h;exact d
theorem ed.kD{k:bn}{x y:Int}(h:x=y)(d:ed P Q ops M a0 w0 K m rest (eC (.int k y)::env)):ed P Q ops M a0 w0 K m rest (eC (.int k x)::env):=by subst h;exact d
theorem ed.head{F G:VP}(h:F=G)(d:ed P Q ops M a0 w0 K m rest (G::env)):ed P Q ops M a0 w0 K m rest (F::env):=by subst h;exact d
end
section
variable {P:Program} {Q:Exit→Act→World→Prop} {ops:Array Oper} {M m:Nat} {a0:Act} {w0:World} {K:List Oper→List VP→Prop} {o:Oper} {rest:List Oper} {env:List VP}
theorem od (j t r:Nat) {F:VP} (h:(jA o j,fC ops j,env.length,nth env r)=(true,some t,j+r+1,some F)):fu ops M a0 w0 env o (.tmp t) F:=oC j t r (congrArg (·.1) h) (congrArg (·.2.1) h) (congrArg (·.2.2.1) h) (congrArg (·.2.2.2) h)
theorem ik (t:Nat) {v:Value} (h0:nth a0.tmps.toList t=some v) (hn:qZ ops M t=true:=by kernel_rfl):fu ops M a0 w0 env o (.tmp t) (eC v):=mf t h0 hn
theorem wtt (j t r:Nat) (hg:o.guard=some (j,true):=by exact rfl) (hlt:Nat.ble (t+1) a0.tmps.size=true:=by kernel_rfl) (ha:jA o j=true:=by exact rfl) (hd:fC ops j=some t:=by exact rfl) (hr:env.length=j+r+1:=by exact rfl) (hF:nth env r=some (eC (.bool true)):=by exact rfl):Want ops M a0 w0 env o true:=NM j t r hg hlt ha hd hr hF
theorem tO (j t r:Nat) (hg:o.guard=some (j,false):=by exact rfl) (hlt:Nat.ble (t+1) a0.tmps.size=true:=by kernel_rfl) (ha:jA o j=true:=by exact rfl) (hd:fC ops j=some t:=by exact rfl) (hr:env.length=j+r+1:=by exact rfl) (hF:nth env r=some (eC (.bool false)):=by exact rfl):Want ops M a0 w0 env o true:=NN j t r hg hlt ha hd hr hF
theorem lO (j t r:Nat) (hg:o.guard=some (j,true):=by exact rfl) (hlt:Nat.ble (t+1) a0.tmps.size=true:=by kernel_rfl) (ha:jA o j=true:=by exact rfl) (hd:fC ops j=some t:=by exact rfl) (hr:env.length=j+r+1:=by exact rfl) (hF:nth env r=some (eC (.bool false)):=by exact rfl):Want ops M a0 w0 env o false:=NO j t r hg hlt ha hd hr hF
theorem XM (j t r:Nat) (hg:o.guard=some (j,false):=by exact rfl) (hlt:Nat.ble (t+1) a0.tmps.size=true:=by kernel_rfl) (ha:jA o j=true:=by exact rfl) (hd:fC ops j=some t:=by exact rfl) (hr:env.length=j+r+1:=by exact rfl) (hF:nth env r=some (eC (.bool true)):=by exact rfl):Want ops M a0 w0 env o false:=NP j t r hg hlt ha hd hr hF
theorem ed.rm (j t r:Nat) {F:VP} (hr:ed P Q ops M a0 w0 K m rest (F::env)) (ho:o.op=.move (.tmp t):=by exact rfl) (hg:o.guard=none:=by exact rfl) (ha:jA o j=true:=by exact rfl) (hd:fC ops j=some t:=by exact rfl) (hl:env.length=j+r+1:=by exact rfl) (hF:nth env r=some F:=by exact rfl):ed P Q ops M a0 w0 K (m+1) (o::rest) env:=.move _ ho (ee hg) (oC j t r ha hd hl hF) hr
theorem ed.rn (t:Nat) {v:Value} (hr:ed P Q ops M a0 w0 K m rest (eC v::env)) (ho:o.op=.move (.tmp t):=by exact rfl) (hg:o.guard=none:=by exact rfl) (h0:nth a0.tmps.toList t=some v:=by exact rfl) (hn:qZ ops M t=true:=by kernel_rfl):ed P Q ops M a0 w0 K (m+1) (o::rest) env:=.move _ ho (ee hg) (mf t h0 hn) hr
theorem ed.rd (j t r:Nat) {vx y:Value} (hr:ed P Q ops M a0 w0 K m rest (eC y::env)) (hg:o.guard=none:=by exact rfl) (ha:jA o j=true:=by exact rfl) (hd:fC ops j=some t:=by exact rfl) (hl:env.length=j+r+1:=by exact rfl) (hF:nth env r=some (eC vx):=by exact rfl) (h:∀ (ρ:Operand→Value) w,Ext w0 w→ρ (.tmp t)=vx→(execOp ρ o).run P w=.ok (.value y) w:=by intro ρ w hE h1;simp [execOp,h1,go_sem];rfl):ed P Q ops M a0 w0 K (m+1) (o::rest) env:=.gF _ (ee hg) (oC j t r ha hd hl hF) h hr
theorem ed.re (t:Nat) {v y:Value} (hr:ed P Q ops M a0 w0 K m rest (eC y::env)) (hg:o.guard=none:=by exact rfl) (h0:nth a0.tmps.toList t=some v:=by exact rfl) (hn:qZ ops M t=true:=by kernel_rfl) (h:∀ (ρ:Operand→Value) w,Ext w0 w→ρ (.tmp t)=v→(execOp ρ o).run P w=.ok (.value y) w:=by intro ρ w hE h1;simp [execOp,h1,go_sem];rfl):ed P Q ops M a0 w0 K (m+1) (o::rest) env:=.gF _ (ee hg) (mf t h0 hn) h hr
theorem ed.rl (T:TypeId) (j t r:Nat) {v:Value} {p:Addr} {w:World} (hc:w.cell? p=some v) (hE:Ext w w0) (hr:ed P Q ops M a0 w0 K m rest (eC v::env)) (ho:o.op=.load T (.tmp t):=by exact rfl) (hg:o.guard=none:=by exact rfl) (ha:jA o j=true:=by exact rfl) (hd:fC ops j=some t:=by exact rfl) (hl:env.length=j+r+1:=by exact rfl) (hF:nth env r=some (eC (.pointer (some p))):=by exact rfl) (hagg:∀ w:World,(isAgg T).run P w=.ok false w:=by exact fun _=>by kernel_rfl):ed P Q ops M a0 w0 K (m+1) (o::rest) env:=.gG T _ ho (ee hg) (oC j t r ha hd hl hF) hagg hc hE hr
theorem ed.rk (T:TypeId) (t:Nat) {v:Value} {p:Addr} {w:World} (hc:w.cell? p=some v) (hE:Ext w w0) (hr:ed P Q ops M a0 w0 K m rest (eC v::env)) (ho:o.op=.load T (.tmp t):=by exact rfl) (hg:o.guard=none:=by exact rfl) (h0:nth a0.tmps.toList t=some (.pointer (some p)):=by exact rfl) (hn:qZ ops M t=true:=by kernel_rfl) (hagg:∀ w:World,(isAgg T).run P w=.ok false w:=by exact fun _=>by kernel_rfl):ed P Q ops M a0 w0 K (m+1) (o::rest) env:=.gG T _ ho (ee hg) (mf t h0 hn) hagg hc hE hr
end
section
variable {P:Program} {Q:Exit→Act→World→Prop} {ops:Array Oper} {M m:Nat} {a0:Act} {w0:World} {K:List Oper→List VP→Prop} {o:Oper} {rest:List Oper} {env:List VP}
def dX (ops:Array Oper) (n t:Nat):List Edge→Nat
 | []=>n
 | e::l=>bif Region.binds .any e&&(match fC ops e.on with | some d=>Nat.beq d t | none=>false)&&Nat.ble (e.on+1) n then n-e.on-1 else dX ops n t l
theorem Pp {n t:Nat}:∀ l:List Edge,dX ops n t l<n→∃ e∈l,Region.binds .any e=true∧fC ops e.on=some t∧n=e.on+dX ops n t l+1
 | [],h=>absurd h (Nat.lt_irrefl _)
 | e::l,h=>by
  unfold dX at h ⊢
  cases hc:(Region.binds .any e&&(match fC ops e.on with | some d=>Nat.beq d t | none=>false)&&Nat.ble (e.on+1) n) with
  | true=>
   simp only [Bool.and_eq_true] at hc
   obtain ⟨⟨h1,h2⟩,h3⟩:=hc
   refine ⟨e,List.mem_cons_self,h1,?_,?_⟩
   ·cases hd:fC ops e.on with
    | none=>rw [hd] at h2;cases h2
    | some d=>rw [hd] at h2;rw [Nat.eq_of_beq_eq_true h2]
   ·have:=Nat.le_of_ble_eq_true h3
    rw [cond_true];omega
  | false=>
   rw [hc,cond_false] at h
   obtain ⟨x,hx,h1⟩:=Pp l h
   exact ⟨x,List.mem_cons_of_mem _ hx,by rw [cond_false];exact h1⟩
theorem Qj {α:Type} {l:List α} {n:Nat} {x:α} (h:nth l n=some x):n<l.length:=by
 rw [pA] at h
 exact (List.getElem?_eq_some_iff.1 h).1
theorem Nq {t:Nat} {F:VP} (h:nth env (dX ops env.length t o.after.toList)=some F):fu ops M a0 w0 env o (.tmp t) F:=by
 obtain ⟨e,he,h1,h2,h3⟩:=Pp _ (Qj h)
 exact oC e.on t _ (List.any_eq_true.2 ⟨e,he,by simp [h1]⟩) h2 h3 h
theorem Pq {t:Nat} {v:Value} (h0:nth a0.tmps.toList t=some v) (hn:qZ ops M t=true:=by kernel_rfl):fu ops M a0 w0 env o (.tmp t) (eC v):=mf t h0 hn
theorem Pr {j t:Nat} {b:Bool} (hg:o.guard=some (j,b):=by exact rfl) (hd:fC ops j=some t:=by exact rfl) (hF:nth env (env.length-j-1)=some (eC (.bool b)):=by exact rfl) (hlt:Nat.ble (t+1) a0.tmps.size=true:=by kernel_rfl) (ha:jA o j=true:=by exact rfl) (hj:Nat.ble (j+1) env.length=true:=by exact rfl):Want ops M a0 w0 env o true:=by
 have h:Want ops M a0 w0 env o (b==b):=km j t _ hg hlt ha hd (by have:=Nat.le_of_ble_eq_true hj;omega) hF
 cases b<;>exact h
theorem WQ {j t:Nat} {b:Bool} (hg:o.guard=some (j,b):=by exact rfl) (hd:fC ops j=some t:=by exact rfl) (hF:nth env (env.length-j-1)=some (eC (.bool (!b))):=by exact rfl) (hlt:Nat.ble (t+1) a0.tmps.size=true:=by kernel_rfl) (ha:jA o j=true:=by exact rfl) (hj:Nat.ble (j+1) env.length=true:=by exact rfl):Want ops M a0 w0 env o false:=by
 have h:Want ops M a0 w0 env o ((!b)==b):=km j t _ hg hlt ha hd (by have:=Nat.le_of_ble_eq_true hj;omega) hF
 cases b<;>exact h
def arg1:Op→Option Operand
 | .fieldAddr _ x _=>some x
 | .field _ x _=>some x
 | .convert _ _ x=>some x
 | .call ⟨.builtin _,⟨[x]⟩,_⟩=>some x
 | _=>none
theorem ed.mv {x:Operand} {F:VP} (hr:ed P Q ops M a0 w0 K m rest (F::env)) (ho:o.op=.move x:=by exact rfl) (hx:fu ops M a0 w0 env o x F:=by first|exact Nq rfl|exact Pq rfl|exact eE _) (hw:Want ops M a0 w0 env o true:=by first|exact ee rfl|exact Pr):ed P Q ops M a0 w0 K (m+1) (o::rest) env:=.move x ho hw hx hr
theorem ed.as {x:Operand} {F:VP} (hr:ed P Q ops M a0 w0 K m rest (F::env)) (ho:o.op=.assign x:=by exact rfl) (hx:fu ops M a0 w0 env o x F:=by first|exact Nq rfl|exact Pq rfl|exact eE _) (hw:Want ops M a0 w0 env o true:=by first|exact ee rfl|exact Pr):ed P Q ops M a0 w0 K (m+1) (o::rest) env:=.assign x ho hw hx hr
theorem ed.dt {x:Operand} {vx y:Value} (hr:ed P Q ops M a0 w0 K m rest (eC y::env)) (_:arg1 o.op=some x:=by exact rfl) (hx:fu ops M a0 w0 env o x (eC vx):=by first|exact Nq rfl|exact Pq rfl) (hw:Want ops M a0 w0 env o true:=by first|exact ee rfl|exact Pr) (h:∀ (ρ:Operand→Value) w,Ext w0 w→ρ x=vx→(execOp ρ o).run P w=.ok (.value y) w:=by intro ρ w hE h1;simp [execOp,h1,go_sem];rfl):ed P Q ops M a0 w0 K (m+1) (o::rest) env:=.gF x hw hx h hr
theorem ed.sk (hr:ed P Q ops M a0 w0 K m rest (eC undef::env)) (hw:Want ops M a0 w0 env o false:=by exact WQ):ed P Q ops M a0 w0 K (m+1) (o::rest) env:=.skip hw hr
theorem ed.pT {c x y:Operand} {F:VP} (hr:ed P Q ops M a0 w0 K m rest (F::env)) (ho:o.op=.pick c x y:=by exact rfl) (hc:fu ops M a0 w0 env o c (eC (.bool true)):=by exact Nq rfl) (hx:fu ops M a0 w0 env o x F:=by first|exact Nq rfl|exact Pq rfl|exact eE _) (hw:Want ops M a0 w0 env o true:=by first|exact ee rfl|exact Pr):ed P Q ops M a0 w0 K (m+1) (o::rest) env:=.nj c x y ho hw hc hx hr
theorem ed.pF {c x y:Operand} {F:VP} (hr:ed P Q ops M a0 w0 K m rest (F::env)) (ho:o.op=.pick c x y:=by exact rfl) (hc:fu ops M a0 w0 env o c (eC (.bool false)):=by exact Nq rfl) (hx:fu ops M a0 w0 env o y F:=by first|exact Nq rfl|exact Pq rfl|exact eE _) (hw:Want ops M a0 w0 env o true:=by first|exact ee rfl|exact Pr):ed P Q ops M a0 w0 K (m+1) (o::rest) env:=.Gq c x y ho hw hc hx hr
theorem ed.l1 {T:TypeId} {x:Operand} {v:Value} {p:Addr} (hr:ed P Q ops M a0 w0 K m rest (eC v::env)) (ho:o.op=.load T x:=by exact rfl) (hx:fu ops M a0 w0 env o x (eC (.pointer (some p))):=by first|exact Nq rfl|exact Pq rfl) (hc:w0.cell? p=some v:=by with_reducible assumption) (hw:Want ops M a0 w0 env o true:=by first|exact ee rfl|exact Pr) (hagg:∀ w:World,(isAgg T).run P w=.ok false w:=by exact fun _=>by kernel_rfl):ed P Q ops M a0 w0 K (m+1) (o::rest) env:=.gG T x ho hw hx hagg hc (Ext.rf _) hr
theorem ed.l2 {T:TypeId} {x:Operand} {v:Value} {p:Addr} {w:World} (hr:ed P Q ops M a0 w.drew K m rest (eC v::env)) (ho:o.op=.load T x:=by exact rfl) (hx:fu ops M a0 w.drew env o x (eC (.pointer (some p))):=by first|exact Nq rfl|exact Pq rfl) (hc:w.cell? p=some v:=by with_reducible assumption) (hw:Want ops M a0 w.drew env o true:=by first|exact ee rfl|exact Pr) (hagg:∀ w:World,(isAgg T).run P w=.ok false w:=by exact fun _=>by kernel_rfl):ed P Q ops M a0 w.drew K (m+1) (o::rest) env:=.gG T x ho hw hx hagg hc (eh _) hr
theorem ed.nc {x:Operand} {p:Addr} (hr:ed P Q ops M a0 w0 K m rest (eC (.pointer (some p))::env)) (ho:o.op=.nilCheck x:=by exact rfl) (hx:fu ops M a0 w0 env o x (eC (.pointer (some p))):=by first|exact Nq rfl|exact Pq rfl) (hw:Want ops M a0 w0 env o true:=by first|exact ee rfl|exact Pr):ed P Q ops M a0 w0 K (m+1) (o::rest) env:=.gF x hw hx (fun ρ w _ h1=>by unfold execOp;simp [ho,h1,go_sem]) hr
theorem oA {x:Operand} {F:VP} (h:fu ops M a0 w0 env o x F:=by first|exact Nq rfl|exact Pq rfl|exact eE _):fu ops M a0 w0 env o x F:=h
theorem wA {b:Bool} (h:Want ops M a0 w0 env o b:=by first|exact ee rfl|exact Pr|exact WQ):Want ops M a0 w0 env o b:=h
theorem qK {A B C:Prop} (f:B→C) (g:A→B) (a:A):C:=f (g a)
theorem Sa {R:Prop} {w:World} {B C:World→Prop} (f:∀ W,B W→C W) (g:R→∀ W,Ext w W→B W) (r:R) (W:World) (h:Ext w W):C W:=f W (g r W h)
theorem ed.n0 {r:List Oper} {env:List VP} (h:K r env):ed P Q ops M a0 w0 K 0 r env:=h
theorem ed.nd {n:Nat} {ls r:List Oper} {env:List VP} (x:∀ w,Ext w0 w→ew P Q ops r ls env.reverse a0 w) (h:decide (env.length=n)=true:=by exact rfl):ed P Q ops M a0 w0 (fun tail env=>decide (env.length=n)=true∧∀ w',Ext w0 w'→ew P Q ops tail ls env.reverse a0 w') 0 r env:=⟨h,x⟩
theorem ed.g {m:Nat} {r:List Oper} {env:List VP} {R:Prop} (k:R) (h:R→ed P Q ops M a0 w0 K m r env:=by (repeat first|apply qK (fun x=>ed.mv x)|apply qK (fun x=>ed.dt x)|apply qK (fun x=>ed.l2 x)|apply qK (fun x=>ed.l1 x)|apply qK (fun x=>ed.nc x)|apply qK (fun x=>ed.sk x)|apply qK (fun x=>ed.as x)|apply qK (fun x=>ed.pT x)|apply qK (fun x=>ed.pF x));(try(apply qK (fun x=>ed.nd x);(repeat apply Sa (fun W x=>ew.eq x));(try(apply Sa (fun W x=>ew.nil x);simp only [Act.put,List.setIfInBounds_toArray,List.set_cons_zero,List.set_cons_succ]))));exact id):ed P Q ops M a0 w0 K m r env:=h k
structure Fu (n:Nat) (A:Prop):Prop where
 x:A
theorem NR {A B C:Prop} {n:Nat} (f:B→C) (g:A→Fu n B) (a:A):Fu (n+1) C:=⟨f (g a).x⟩
theorem WR {A:Prop}:A→Fu 0 A:=.mk
theorem ed.h (n:Nat) {m:Nat} {r:List Oper} {env:List VP} {R:Prop} (k:R) (h:R→Fu n (ed P Q ops M a0 w0 K m r env):=by (repeat first|apply NR (fun x=>ed.mv x)|apply NR (fun x=>ed.dt x)|apply NR (fun x=>ed.l2 x)|apply NR (fun x=>ed.l1 x)|apply NR (fun x=>ed.nc x)|apply NR (fun x=>ed.sk x)|apply NR (fun x=>ed.as x)|apply NR (fun x=>ed.pT x)|apply NR (fun x=>ed.pF x));exact WR):ed P Q ops M a0 w0 K m r env:=(h k).x
theorem ew.e {tail os:List Oper} {Fs:List VP} {a:Act} {w:World} {R:Prop} (k:R) (h:R→ew P Q ops tail os Fs a w:=by (repeat apply qK (fun x=>ew.eq x));(try(apply qK (fun x=>ew.nil x);simp only [Act.put,List.setIfInBounds_toArray,List.set_cons_zero,List.set_cons_succ]));exact id):ew P Q ops tail os Fs a w:=h k
end
theorem vR {P:Program} {Q:Exit→Act→World→Prop} {id:Nat} {l:List Oper} {a0:Act} {w:World} (n:Nat) {R:Prop} (k:R) (h:R→ed P Q l.toArray n a0 w.drew (fun tail env=>decide (env.length=n)=true∧∀ w',Ext w.drew w'→ew P Q l.toArray tail (l.take n) env.reverse a0 w') n l []:=by (repeat first|apply qK (fun x=>ed.mv x)|apply qK (fun x=>ed.dt x)|apply qK (fun x=>ed.l2 x)|apply qK (fun x=>ed.l1 x)|apply qK (fun x=>ed.nc x)|apply qK (fun x=>ed.sk x)|apply qK (fun x=>ed.as x)|apply qK (fun x=>ed.pT x)|apply qK (fun x=>ed.pF x));(try(apply qK (fun x=>ed.nd x);(repeat apply Sa (fun W x=>ew.eq x));(try(apply Sa (fun W x=>ew.nil x);simp only [Act.put,List.setIfInBounds_toArray,List.set_cons_zero,List.set_cons_succ]))));exact id) (fl:List Nat:=[]) (hm:P.follows .mixedOrders=true:=by kernel_rfl) (hB:preB l.toArray n a0.tmps.size fl=true:=by kernel_rfl) (hQ:∀ c a (d:Tmp) v w,Q (.panic c) { a with tmps:=a.tmps.setIfInBounds d v } w→Q (.panic c) a w:=by exact fun _ _ _ _ _ h=>h):(Code.region id l.toArray true).wp P Q a0 w:=fK n fl hm hB hQ (h k)
theorem KU {P:Program} {Q:Exit→Act→World→Prop} {id:Nat} {l:List Oper} {a0:Act} {w:World} (n:Nat) {R:Prop} (k:R) (h:R→ed P Q l.toArray n a0 w (fun tail env=>decide (env.length=n)=true∧∀ w',Ext w w'→ew P Q l.toArray tail (l.take n) env.reverse a0 w') n l []:=by (repeat first|apply qK (fun x=>ed.mv x)|apply qK (fun x=>ed.dt x)|apply qK (fun x=>ed.l2 x)|apply qK (fun x=>ed.l1 x)|apply qK (fun x=>ed.nc x)|apply qK (fun x=>ed.sk x)|apply qK (fun x=>ed.as x)|apply qK (fun x=>ed.pT x)|apply qK (fun x=>ed.pF x));(try(apply qK (fun x=>ed.nd x);(repeat apply Sa (fun W x=>ew.eq x));(try(apply Sa (fun W x=>ew.nil x);simp only [Act.put,List.setIfInBounds_toArray,List.set_cons_zero,List.set_cons_succ]))));exact id) (hB:qJ l.toArray n a0.tmps.size=true:=by kernel_rfl):(Code.region id l.toArray false).wp P Q a0 w:=mC n hB (h k)
theorem vQ {P:Program} {Q:Exit→Act→World→Prop} {id:Nat} {l:List Oper} {a0:Act} {w:World} (n:Nat) (h:ed P Q l.toArray n a0 w.drew (fun tail env=>decide (env.length=n)=true∧∀ w',Ext w.drew w'→ew P Q l.toArray tail (l.take n) env.reverse a0 w') n l []) (fl:List Nat:=[]) (hm:P.follows .mixedOrders=true:=by kernel_rfl) (hB:preB l.toArray n a0.tmps.size fl=true:=by kernel_rfl) (hQ:∀ c a (d:Tmp) v w,Q (.panic c) { a with tmps:=a.tmps.setIfInBounds d v } w→Q (.panic c) a w:=by exact fun _ _ _ _ _ h=>h):(Code.region id l.toArray true).wp P Q a0 w:=fK n fl hm hB hQ h
theorem Qk {P:Program} {Q:Exit→Act→World→Prop} {id:Nat} {l:List Oper} {a0:Act} {w:World} (n:Nat) (h:ed P Q l.toArray n a0 w (fun tail env=>decide (env.length=n)=true∧∀ w',Ext w w'→ew P Q l.toArray tail (l.take n) env.reverse a0 w') n l []) (hB:qJ l.toArray n a0.tmps.size=true:=by kernel_rfl):(Code.region id l.toArray false).wp P Q a0 w:=mC n hB h
end Go.Proofs.YtofgfpffcegioaaGreat
