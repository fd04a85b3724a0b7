/- A part of the proof. -/
import Derived.Test.YtofgfpffcegioaaGreatZf01
import Derived.RangeFuncWrites
set_option maxRecDepth 100000
set_option maxHeartbeats 8000000
namespace Go.Proofs.YtofgfpffcegioaaGreat
open Go.RowKit
open _root_.Array renaming getElem?_eq_some_iff → aT
open Go renaming World → aU,Code → ba
open Go.Code renaming rangeFunc → a7
open Go.Ending renaming returned → aZ
open Go.Instr renaming endRound → a1
open Go.Obj renaming loop → a8
open Go.RowKit.Below renaming heap_alloc → a6
open Go.Target renaming leads → bb
open Go.World renaming size_alloc → aY
open Nat renaming le_refl → aX
open Option renaming some → aV,none → aW
def oD{H:Type}(F:Fence)(n:Nat)(P:Program)(g:Nat)(lb:AV)(E:H→AV)(Kp O:aU→aU→Prop)(T:List H→aU→Prop)(S Y Nx:List H→Prop)(w:aU):Prop:=
 ∀(l:Nat) (J V:List H→aU→Prop) (W:aU),Ext w W→(∀d s U,J d s→O s U→J d U)→
  (∀d x s,J d s→Nx (d++[x])→YieldAt F (n-1) P l (E x) s λe h=>
   Kp s h∧((e=.returned (.bool true)∧J (d++[x]) h)∨(e=.returned (.bool false)∧V (d++[x]) h)))→
  J [] W→CallsIn F n P g (#[.func (.yield l) #[] #[]]++lb) W λe h=>(∃v,e=.returned v)∧((∃I,S I∧T I h∧J I h)∨(∃d,Y d∧T d h∧V d h))
def BQ{d:Type}(B:Nat)(h:aU→aU→Prop)(I:List d→aU→Prop)(s:ba→List d→aU→Prop)(xs:List d)(W:aU):Exit→Act→aU→Prop
 |.normal,_,W'=>KeepsFrom B W W'∧h W W'∧I xs W'
 |.ret,_,W'=>KeepsFrom B W W'∧h W W'∧s .ret xs W'
 |.exit E,_,W'=>KeepsFrom B W W'∧h W W'∧s (.exit E) xs W'
 |_,_,_=>False
variable {F:Fence} {n:Nat} {P:Program}
theorem je{V:Type}{g:Operand}{ps:Array Tmp}{assign body:ba}{Q:Exit→Act→aU→Prop}{a:Act}{w:aU}
  (aw:F.round=aW)(h1:1≤n){gf:Nat}{lb:AV}(hg:a.eval g=.func (.func gf) #[] lb)(aJ:F.fn gf)(eg:∀args w,(callFunc gf args).run P w=.ok (.enter gf args) w)
  {H:V→AV}{Kp am:aU→aU→Prop}{T:List V→aU→Prop}{S Sp Nx:List V→Prop}(ao:oD F (n-1) P gf lb H Kp am T S Sp Nx w)
  (ae:∀{A B C:aU},Kp A B→Kp B C→Kp A C)(al:∀(W:aU) (l:Nat) (o':Obj),w.heap.size≤l→Kp W (W.putObj l o'))
  (aH:∀(W W':aU) (k:Nat),am W W'→w.heap.size≤k→k<W.heap.size→W'.heap[k]?=W.heap[k]?)
  (hT:∀d (W:aU) (l:Nat) (o':Obj),w.heap.size≤l→T d W→T d (W.putObj l o'))(ay:∀x,(H x).size=ps.size)
  (I:List V→aU→Prop)(Ix:ba→List V→aU→Prop)(hI:OwnFrom w.heap.size I)(au:∀c,OwnFrom w.heap.size (Ix c))(aI:∀d W W',I d W→am W W'→I d W')(h0:I [] w)(a₁:V→Act)
  (ab:∀(l:Nat) (x:V) (W:aU) (K:Act→aU→Prop),K (a₁ x) W→
   assign.wpIn (F.inRound l) (n-1-1) P (Exit.then K (λ_ _ _=>False)) { tmps:=(ps.zip (H x)).foldl (λt (p,v)=>t.setIfInBounds p v) a.tmps,defers:=[] } W)
  (aj:∀(l:Nat) (d:List V) (x:V) (W:aU),I d W→Nx (d++[x])→body.wpIn (F.inRound l) (n-1-1) P (BQ w.heap.size Kp I Ix (d++[x]) W) (a₁ x) W)
  (ai:∀(D:Nat) (xs:List V) (W:aU),w.heap.size≤D→S xs→T xs W→I xs W→W.heap[D]?=aV (.deferred (aV []))→Q .normal { a with defers:={ target:=.collected D,args:=#[] }::a.defers } W)
  (af:∀(D:Nat) (c:ba) (d:List V) (W:aU),w.heap.size≤D→Sp d→T d W→Ix c d W→W.heap[D]?=aV (.deferred (aV []))→c.wpIn F n P Q { a with defers:={ target:=.collected D,args:=#[] }::a.defers } W) :
  (a7 g ps assign body).wpIn F n P Q a w:=by
 refine wpIn_rangeFunc λfn aC=>?_;rw[aw];let s:LoopState→Option ba→Loop:=λst pe=>{ state:=st,pending:=pe,fn,tmps:=a.tmps,params:=ps,assign,body,defers:=w.heap.size }
 obtain⟨D,hD⟩:∃D,D=w.heap.size:=⟨_,rfl⟩
 have ap:∀st pe x,(H x).size=(s st pe).params.size:=λ_ _ x=>ay x;obtain⟨W1,ar⟩:∃W1,(w.alloc (.deferred (aV []))).alloc (.loop (s .ready aW))=W1:=⟨_,rfl⟩
 have aG:Ext w W1:=by rw[←ar];exact(ek _ _).tr (ek _ _)
 have aE:W1.heap[w.heap.size+1]?=aV (.loop (s .ready aW)):=by
  grind[World.alloc_heap_new,aY]
 have aF:W1.heap[w.heap.size]?=aV (.deferred (aV [])):=by
  grind[a6,trans,World.alloc_heap_new]
 refine⟨w.heap.size+1,[{ target:=.collected w.heap.size,args:=#[] }],W1,{ target:=.fn (.func gf) lb,args:=#[.func (.yield (w.heap.size+1)) #[] #[]] },W1,gf,
  #[.func (.yield (w.heap.size+1)) #[] #[]]++lb,W1,?_,?_,?_,?_,λ_=>h1,?_⟩
 ·grind[run_enterLoop_outer]
 ·simp only[resolve,hg];simp[go_sem]
 ·grind[bb]
 ·grind[invoke]
 refine(ao (w.heap.size+1)
  (λd W=>I d W∧W.heap[w.heap.size+1]?=aV (.loop (s .ready aW))∧W.heap[w.heap.size]?=aV (.deferred (aV [])))
  (λd W=>∃c,Ix c d W∧W.heap[w.heap.size+1]?=aV (.loop (s .done (aV c)))∧W.heap[w.heap.size]?=aV (.deferred (aV [])))
  W1 aG (λd A B h hO=>?_) ?_ ⟨by rw[←ar];exact hI.alloc _ (hI.alloc _ h0),aE,aF⟩).mono ?_
 ·grind
 ·rintro d x W ⟨hi,hl,hk⟩ aq;have az:w.heap.size+1<W.heap.size:=(aT.1 hl).1;refine⟨fn,_,assign,body,run_yield (P:=P) (args:=H x) hl (ap _ _ x),roundIn_of_wpIn aC (ab _ x W _ ⟨_,run_beginRound hl rfl,?_⟩)⟩;have aA:=World.putObj_heap_same (o:=a8 { s .ready aW with state:=.busy }) az;have aB:=(World.putObj_heap_other (w:=W) (o:=a8 { s .ready aW with state:=.busy }) (by omega:w.heap.size≠w.heap.size+1)).trans hk;have an:=al W (w.heap.size+1) (.loop { s .ready aW with state:=.busy }) zO;refine wpIn_mono (aj _ d x _ (hI.putObj _ hi zO hl rfl) aq) ?_;have av:∀(E:Option ba) (O:aU),KeepsFrom w.heap.size (W.putObj (w.heap.size+1) (.loop { s .ready aW with state:=.busy })) O→
    ∃r,(a1 (w.heap.size+1) E).run P O=.ok (.bool E.isNone) (O.putObj (w.heap.size+1) (.loop r))∧r=s (if E.isNone then .ready else .done) E∧
    O.heap[w.heap.size+1]?=aV (.loop { s .ready aW with state:=.busy })∧w.heap.size+1<O.heap.size∧O.heap[w.heap.size]?=aV (.deferred (aV [])):=λE O U=>by
   have J:=U.same _ _ zO aA rfl;exact⟨_,run_endRound (P:=P) E J,rfl,J,(aT.1 J).1,U.same _ _ (aX _) aB rfl⟩
  rintro e a3 O hp;have ad:∀(c:ba),KeepsFrom w.heap.size (W.putObj (w.heap.size+1) (.loop { s .ready aW with state:=.busy })) O∧Kp (W.putObj (w.heap.size+1) (.loop { s .ready aW with state:=.busy })) O∧Ix c (d++[x]) O→
    ∃v W4,(a1 (w.heap.size+1) (aV c)).run P O=.ok v W4∧(Kp W W4∧((aZ v=.returned (.bool true)∧I (d++[x]) W4∧W4.heap[w.heap.size+1]?=aV (.loop (s .ready aW))∧W4.heap[w.heap.size]?=aV (.deferred (aV [])))∨
     (aZ v=.returned (.bool false)∧∃c,Ix c (d++[x]) W4∧W4.heap[w.heap.size+1]?=aV (.loop (s .done (aV c)))∧W4.heap[w.heap.size]?=aV (.deferred (aV []))))):=λc ⟨U,aa,ah⟩=>by
   obtain⟨r,hr,rfl,J,Y,ag⟩:=av (aV c) O U;exact⟨_,_,hr,ae (ae an aa) (al _ _ _ zO),.inr ⟨rfl,c,(au _).putObj _ ah zO J rfl,World.putObj_heap_same Y,(World.putObj_heap_other zO).trans ag⟩⟩
  cases e with
  |normal=>
   obtain⟨U,aa,ah⟩:=hp;obtain⟨r,hr,rfl,J,Y,ag⟩:=av aW O U;exact⟨_,_,hr,ae (ae an aa) (al _ _ _ zO),.inl ⟨rfl,hI.putObj _ ah zO J rfl,World.putObj_heap_same Y,(World.putObj_heap_other zO).trans ag⟩⟩
  |ret=>exact ad .ret hp
  |exit id=>exact ad (.exit id) hp
  |goto t=>exact hp.elim
  |panic ch=>exact hp.elim
  |outgrown=>exact hp.elim
 ·rintro e W2 ⟨⟨v,rfl⟩,(⟨xs,hS,ak,hi,hl,hk⟩|⟨d,aD,ak,c,hi,hl,hk⟩)⟩
  ·exact⟨aW,_,run_endLoop (P:=P) hl zG,ai _ xs _ (aX _) hS (hT _ _ _ _ zO ak) (hI.putObj _ hi zO hl rfl) ((World.putObj_heap_other zO).trans hk)⟩
  ·exact⟨aV c,_,run_endLoop (P:=P) hl zG,af _ c d _ (aX _) aD (hT _ _ _ _ zO ak) ((au c).putObj _ hi zO hl rfl) ((World.putObj_heap_other zO).trans hk)⟩
def Two(N:Nat)(W W':aU):Prop:=W.heap.size≤W'.heap.size∧∀q,q=N∨q=N+1→W'.heap[q]?=W.heap[q]?
theorem Two.rf(N:Nat)(W:aU):Two N W W:=⟨aX _,λ_ _=>rfl⟩
theorem Two.tr{N:Nat}{A B C:aU}(h:Two N A B)(k:Two N B C):Two N A C:=⟨Nat.le_trans h.1 k.1,λq d=>(k.2 q d).trans (h.2 q d)⟩
theorem Two.ext{N:Nat}{W W':aU}(h:Ext W W')(s:N+1<W.heap.size):Two N W W':=⟨h.size,λq d=>h.block q zO⟩
def ve{E:Type}(F:Fence)(n:Nat)(P:Program)(g:Nat)(lb:AV)(s:E→AV)(A:Option E→aU→Prop)(M:E→aU→Prop)(Z:aU→Prop)(N:Nat)(w:aU):Prop:=
 ∀(R:aU→Prop) (W:aU),Ext w W→N+1<W.heap.size→(∀d H,R d→Two N d H→R H)→
  (∀x d,M x d→R d→YieldAt F (n-1) P (N+1) (s x) d λe h=>e=.returned (.bool true)∧A (aV x) h∧R h∧d.heap.size≤h.heap.size)→
  A aW W→R W→CallsIn F n P g (#[.func (.yield (N+1)) #[] #[]]++lb) W λe h=>(∃v,e=.returned v)∧Z h∧R h
def Ql(N:Nat)(A:aU→Prop)(W:aU):Exit→Act→aU→Prop
 |.normal,_,W'=>Two N W W'∧A W'
 |_,_,_=>False
variable {F:Fence} {n:Nat} {P:Program}
theorem nD{α:Type}{g:Operand}{ps:Array Tmp}{assign body:ba}{Q:Exit→Act→aU→Prop}{a:Act}{w:aU}(N:Nat)(hN:w.heap.size=N)
  (ak:F.round=aW)(h1:1≤n){gf:Nat}{lb:AV}(hg:a.eval g=.func (.func gf) #[] lb)(aF:F.fn gf)(eg:∀args w,(callFunc gf args).run P w=.ok (.enter gf args) w)
  {s:α→AV}{A:Option α→aU→Prop}{M:α→aU→Prop}{Z:aU→Prop}(ad:ve F (n-1) P gf lb s A M Z N w)
  (aE:∀W,A aW w→Ext w W→A aW W)(az:∀x W o,M x W→N+1<W.heap.size→M x (W.putObj (N+1) o))(aD:∀x W o,A (aV x) W→N+1<W.heap.size→A (aV x) (W.putObj (N+1) o))(av:∀W o,Z W→N+1<W.heap.size→Z (W.putObj (N+1) o))(al:∀x,(s x).size=ps.size)(h0:A aW w)(aA:∀x W E,M x W→Ext W E→M x E)
  (G:α→aU→Act→aU→Prop)(ah:∀x W a E,G x W a E→Ext W E)
  (H:∀(l:Nat) (x:α) (W:aU) (K:Act→aU→Prop),(∀a E,G x W a E→K a E)→
   assign.wpIn (F.inRound l) (n-1-1) P (Exit.then K (λ_ _ _=>False)) { tmps:=(ps.zip (s x)).foldl (λt (p,v)=>t.setIfInBounds p v) a.tmps,defers:=[] } W)
  (ab:∀(x:α) (W E:aU) (a':Act) (o:Obj),G x W a' E→N+1<W.heap.size→M x (E.putObj (N+1) o)→body.wpIn (F.inRound (N+1)) (n-1-1) P (Ql N (A (aV x)) (E.putObj (N+1) o)) a' (E.putObj (N+1) o))
  (aa:∀(W:aU),Z W→W.heap[N]?=aV (.deferred (aV []))→Q .normal { a with defers:={ target:=.collected N,args:=#[] }::a.defers } W) :
  (a7 g ps assign body).wpIn F n P Q a w:=by
 subst hN;refine wpIn_rangeFunc λfn au=>?_;rw[ak];let d:LoopState→Option ba→Loop:=λst pe=>{ state:=st,pending:=pe,fn,tmps:=a.tmps,params:=ps,assign,body,defers:=w.heap.size }
 have ae:∀st pe x,(s x).size=(d st pe).params.size:=λ_ _ x=>al x;obtain⟨I,aw⟩:∃I,(w.alloc (.deferred (aV []))).alloc (.loop (d .ready aW))=I:=⟨_,rfl⟩
 have aj:Ext w I:=by rw[←aw];exact(ek _ _).tr (ek _ _)
 have ay:w.heap.size+1<I.heap.size:=by grind[aY]
 have aB:I.heap[w.heap.size+1]?=aV (.loop (d .ready aW)):=by
  grind[World.alloc_heap_new,aY]
 have aC:I.heap[w.heap.size]?=aV (.deferred (aV [])):=by
  grind[a6,trans,World.alloc_heap_new]
 refine⟨w.heap.size+1,[{ target:=.collected w.heap.size,args:=#[] }],I,{ target:=.fn (.func gf) lb,args:=#[.func (.yield (w.heap.size+1)) #[] #[]] },I,gf,
  #[.func (.yield (w.heap.size+1)) #[] #[]]++lb,I,?_,?_,?_,?_,λ_=>h1,?_⟩
 ·grind[run_enterLoop_outer]
 ·simp only[resolve,hg];simp[go_sem]
 ·grind[bb]
 ·grind[invoke]
 refine(ad
  (λW=>W.heap[w.heap.size+1]?=aV (.loop (d .ready aW))∧W.heap[w.heap.size]?=aV (.deferred (aV [])))
  I aj ay (λV1 V2 h Y=>⟨(Y.2 _ (.inr rfl)).trans h.1,(Y.2 _ (.inl rfl)).trans h.2⟩) ?_ (aE _ h0 aj) ⟨aB,aC⟩).mono ?_
 ·rintro x W hi ⟨hl,Y⟩;have af:w.heap.size+1<W.heap.size:=(aT.1 hl).1;have ai:∀V,Ext W V→V.heap[w.heap.size+1]?=aV (.loop (d .ready aW)):=λV hV=>(hV.block _ af).trans hl;refine⟨fn,_,assign,body,run_yield (P:=P) (args:=s x) hl (ae _ _ x),roundIn_of_wpIn au (H _ x W _ λa' V hG=>⟨_,run_beginRound (ai V (ah _ _ _ _ hG)) rfl,?_⟩)⟩;have J:=ah _ _ _ _ hG;have am:=ai V J;have O:w.heap.size+1<V.heap.size:=(aT.1 am).1;have ao:=(J.block _ (aT.1 Y).1).trans Y;have an:=World.putObj_heap_same (o:=a8 { d .ready aW with state:=.busy }) O;have aq:=(World.putObj_heap_other (w:=V) (o:=a8 { d .ready aW with state:=.busy }) (by omega:w.heap.size≠w.heap.size+1)).trans ao;refine wpIn_mono (ab x W V a' (.loop { d .ready aW with state:=.busy }) hG af (az _ _ _ (aA _ _ _ hi J) O)) ?_;rintro e a3 W3 hp;cases e with
  |normal=>
   obtain⟨U,ar⟩:=hp;have ag:=(U.2 _ (.inr rfl)).trans an;have ap:=(U.2 _ (.inl rfl)).trans aq;have T:=(aT.1 ag).1;refine⟨_,_,run_endRound (P:=P) aW ag,rfl,aD _ _ _ ar T,⟨World.putObj_heap_same T,(World.putObj_heap_other zO).trans ap⟩,?_⟩;have h5:=U.1;have h6:=J.size;grind[World.putObj_size]
  |ret=>exact hp.elim
  |exit id=>exact hp.elim
  |goto t=>exact hp.elim
  |panic ch=>exact hp.elim
  |outgrown=>exact hp.elim
 ·rintro e W2 ⟨⟨v,rfl⟩,hz,hl,Y⟩;exact⟨aW,_,run_endLoop (P:=P) hl zG,aa _ (av _ _ hz (aT.1 hl).1) ((World.putObj_heap_other zO).trans Y)⟩
variable {F:Fence} {n:Nat} {P:Program}
theorem mD{α:Type}{g:Operand}{ps:Array Tmp}{assign body:ba}{Q:Exit→Act→aU→Prop}{a:Act}{w:aU}
  (aC:F.round=aW)(h1:1≤n){gf:Nat}{lb:AV}(hg:a.eval g=.func (.func gf) #[] lb)(aS:F.fn gf)(eg:∀args w,(callFunc gf args).run P w=.ok (.enter gf args) w)
  {J:α→AV}{Kp ap:aU→aU→Prop}{T:List α→aU→Prop}{S Sp Nx:List α→Prop}(ar:oD F (n-1) P gf lb J Kp ap T S Sp Nx w)
  (ae:∀{A B C:aU},Kp A B→Kp B C→Kp A C)(ao:∀(W:aU) (l:Nat) (o':Obj),w.heap.size≤l→Kp W (W.putObj l o'))
  (aQ:∀(W E:aU) (k:Nat),ap W E→w.heap.size≤k→k<W.heap.size→E.heap[k]?=W.heap[k]?)
  (hT:∀d (W:aU) (l:Nat) (o':Obj),w.heap.size≤l→T d W→T d (W.putObj l o'))(aD:∀x,(J x).size=ps.size)
  (I:List α→aU→Prop)(Ix:ba→List α→aU→Prop)(hI:OwnFrom w.heap.size I)(ay:∀c,OwnFrom w.heap.size (Ix c))(aR:∀d W E,I d W→ap W E→I d E)(h0:I [] w)(aO:∀d W E,I d W→Ext W E→I d E)(aM:∀W E,Ext W E→w.heap.size≤W.heap.size→Kp W E)(A:α→aU→Act→aU→Prop)(aA:∀x W a E,A x W a E→Ext W E)
  (ad:∀(l:Nat) (x:α) (W:aU) (K:Act→aU→Prop),(∀a E,A x W a E→K a E)→
   assign.wpIn (F.inRound l) (n-1-1) P (Exit.then K (λ_ _ _=>False)) { tmps:=(ps.zip (J x)).foldl (λt (p,v)=>t.setIfInBounds p v) a.tmps,defers:=[] } W)
  (am:∀(l:Nat) (d:List α) (x:α) (W E:aU) (a':Act) (o:Obj),A x W a' E→I d (E.putObj l o)→Nx (d++[x])→w.heap.size≤l→w.heap.size≤W.heap.size→(∃o':Obj,E.heap[l]?=aV o'∧o'.isCells=false)→body.wpIn (F.inRound l) (n-1-1) P (BQ w.heap.size Kp I Ix (d++[x]) (E.putObj l o)) a' (E.putObj l o))
  (al:∀(D:Nat) (xs:List α) (W:aU),w.heap.size≤D→S xs→T xs W→I xs W→W.heap[D]?=aV (.deferred (aV []))→Q .normal { a with defers:={ target:=.collected D,args:=#[] }::a.defers } W)
  (ah:∀(D:Nat) (c:ba) (d:List α) (W:aU),w.heap.size≤D→Sp d→T d W→Ix c d W→W.heap[D]?=aV (.deferred (aV []))→c.wpIn F n P Q { a with defers:={ target:=.collected D,args:=#[] }::a.defers } W) :
  (a7 g ps assign body).wpIn F n P Q a w:=by
 refine wpIn_rangeFunc λfn aI=>?_;rw[aC];let s:LoopState→Option ba→Loop:=λst pe=>{ state:=st,pending:=pe,fn,tmps:=a.tmps,params:=ps,assign,body,defers:=w.heap.size }
 obtain⟨D,hD⟩:∃D,D=w.heap.size:=⟨_,rfl⟩
 have au:∀st pe x,(J x).size=(s st pe).params.size:=λ_ _ x=>aD x;obtain⟨W1,aJ⟩:∃W1,(w.alloc (.deferred (aV []))).alloc (.loop (s .ready aW))=W1:=⟨_,rfl⟩
 have aP:Ext w W1:=by rw[←aJ];exact(ek _ _).tr (ek _ _)
 have aL:W1.heap[w.heap.size+1]?=aV (.loop (s .ready aW)):=by
  grind[World.alloc_heap_new,aY]
 have aN:W1.heap[w.heap.size]?=aV (.deferred (aV [])):=by
  grind[a6,trans,World.alloc_heap_new]
 refine⟨w.heap.size+1,[{ target:=.collected w.heap.size,args:=#[] }],W1,{ target:=.fn (.func gf) lb,args:=#[.func (.yield (w.heap.size+1)) #[] #[]] },W1,gf,
  #[.func (.yield (w.heap.size+1)) #[] #[]]++lb,W1,?_,?_,?_,?_,λ_=>h1,?_⟩
 ·grind[run_enterLoop_outer]
 ·simp only[resolve,hg];simp[go_sem]
 ·grind[bb]
 ·grind[invoke]
 refine(ar (w.heap.size+1)
  (λd W=>I d W∧W.heap[w.heap.size+1]?=aV (.loop (s .ready aW))∧W.heap[w.heap.size]?=aV (.deferred (aV [])))
  (λd W=>∃c,Ix c d W∧W.heap[w.heap.size+1]?=aV (.loop (s .done (aV c)))∧W.heap[w.heap.size]?=aV (.deferred (aV [])))
  W1 aP (λd A B h hO=>?_) ?_ ⟨by grind,aL,aN⟩).mono ?_
 ·grind
 ·rintro d x W ⟨hi,hl,hk⟩ aw;have aE:w.heap.size+1<W.heap.size:=(aT.1 hl).1;have az:∀V,Ext W V→V.heap[w.heap.size+1]?=aV (.loop (s .ready aW)):=λV hV=>(hV.block _ aE).trans hl;refine⟨fn,_,assign,body,run_yield (P:=P) (args:=J x) hl (au _ _ x),roundIn_of_wpIn aI (ad _ x W _ λa' V hA=>⟨_,run_beginRound (az V (aA _ _ _ _ hA)) rfl,?_⟩)⟩;have ag:=aA _ _ _ _ hA;have ai:=az V ag;have av:w.heap.size+1<V.heap.size:=(aT.1 ai).1;have aG:=(ag.block _ (aT.1 hk).1).trans hk;have aF:=World.putObj_heap_same (o:=a8 { s .ready aW with state:=.busy }) av;have aH:=(World.putObj_heap_other (w:=V) (o:=a8 { s .ready aW with state:=.busy }) (by omega:w.heap.size≠w.heap.size+1)).trans aG;have aq:=ae (aM W V ag zO) (ao V (w.heap.size+1) (.loop { s .ready aW with state:=.busy }) zO);refine wpIn_mono (am _ d x W V a' (.loop { s .ready aW with state:=.busy }) hA (hI.putObj _ (aO _ _ _ hi ag) zO ai rfl) aw zO zO ⟨_,ai,rfl⟩) ?_;have aB:∀(H:Option ba) (U:aU),KeepsFrom w.heap.size (V.putObj (w.heap.size+1) (.loop { s .ready aW with state:=.busy })) U→
    ∃r,(a1 (w.heap.size+1) H).run P U=.ok (.bool H.isNone) (U.putObj (w.heap.size+1) (.loop r))∧r=s (if H.isNone then .ready else .done) H∧
    U.heap[w.heap.size+1]?=aV (.loop { s .ready aW with state:=.busy })∧w.heap.size+1<U.heap.size∧U.heap[w.heap.size]?=aV (.deferred (aV [])):=λH U Y=>by
   have O:=Y.same _ _ zO aF rfl;exact⟨_,run_endRound (P:=P) H O,rfl,O,(aT.1 O).1,Y.same _ _ (aX _) aH rfl⟩
  rintro e a3 U hp;have af:∀(c:ba),KeepsFrom w.heap.size (V.putObj (w.heap.size+1) (.loop { s .ready aW with state:=.busy })) U∧Kp (V.putObj (w.heap.size+1) (.loop { s .ready aW with state:=.busy })) U∧Ix c (d++[x]) U→
    ∃v W4,(a1 (w.heap.size+1) (aV c)).run P U=.ok v W4∧(Kp W W4∧((aZ v=.returned (.bool true)∧I (d++[x]) W4∧W4.heap[w.heap.size+1]?=aV (.loop (s .ready aW))∧W4.heap[w.heap.size]?=aV (.deferred (aV [])))∨
     (aZ v=.returned (.bool false)∧∃c,Ix c (d++[x]) W4∧W4.heap[w.heap.size+1]?=aV (.loop (s .done (aV c)))∧W4.heap[w.heap.size]?=aV (.deferred (aV []))))):=λc ⟨Y,ab,ak⟩=>by
   obtain⟨r,hr,rfl,O,aa,aj⟩:=aB (aV c) U Y;exact⟨_,_,hr,ae (ae aq ab) (ao _ _ _ zO),.inr ⟨rfl,c,(ay _).putObj _ ak zO O rfl,World.putObj_heap_same aa,(World.putObj_heap_other zO).trans aj⟩⟩
  cases e with
  |normal=>
   obtain⟨Y,ab,ak⟩:=hp;obtain⟨r,hr,rfl,O,aa,aj⟩:=aB aW U Y;exact⟨_,_,hr,ae (ae aq ab) (ao _ _ _ zO),.inl ⟨rfl,hI.putObj _ ak zO O rfl,World.putObj_heap_same aa,(World.putObj_heap_other zO).trans aj⟩⟩
  |ret=>exact af .ret hp
  |exit id=>exact af (.exit id) hp
  |goto t=>exact hp.elim
  |panic ch=>exact hp.elim
  |outgrown=>exact hp.elim
 ·rintro e W2 ⟨⟨v,rfl⟩,(⟨xs,hS,an,hi,hl,hk⟩|⟨d,aK,an,c,hi,hl,hk⟩)⟩
  ·exact⟨aW,_,run_endLoop (P:=P) hl zG,al _ xs _ (aX _) hS (hT _ _ _ _ zO an) (hI.putObj _ hi zO hl rfl) ((World.putObj_heap_other zO).trans hk)⟩
  ·exact⟨aV c,_,run_endLoop (P:=P) hl zG,ah _ c d _ (aX _) aK (hT _ _ _ _ zO an) ((ay c).putObj _ hi zO hl rfl) ((World.putObj_heap_other zO).trans hk)⟩
end Go.Proofs.YtofgfpffcegioaaGreat
