/- A part of the proof. -/
import Derived.Test.YtofgfpffcegioaaGreatZf20
import Derived.StillTailTactics
set_option maxRecDepth 100000
set_option maxHeartbeats 8000000
namespace Go.Proofs.YtofgfpffcegioaaGreat
open Go.RowKit Go.Shelf Go.Sort iT Go.Proofs.Tryz
open _root_.Array renaming getElem?_eq_some_iff → bm
open Go renaming Value → bx,World → bD,TypeId → bI
open Go.Proofs.Tryz renaming underlying9 → bE,underlying246 → bH
open Go.RowKit.Below renaming trans → bF,heap_setCell → bK
open Go.Value renaming int → bC
open List renaming mem_singleton → bs,take_succ_eq_append_getElem → bA,take_length → bG
open Nat renaming le_trans → bz,le_refl → bL
open Option renaming some → bB,none → bJ
open Option.some renaming inj → bM
section
structure vH where
 up:List Int
 depth:List Int
 word:List Int
 byte:L8
 nodes:LL
def Ai(d:List (L8×Int))(t:vH)(b:L8):vH where
 up:=t.up++[if b=[]then 0 else(jx (kg t.nodes) b.dropLast).getD 0]
 depth:=t.depth++[(b.length:Int)]
 word:=t.word++[(jx d b).getD (-1)]
 byte:=t.byte++[b.getLastD 0]
 nodes:=t.nodes++[b]
def N4(h s d E:bx)(H gw:Nat):AV:=#[h,s,d,E,.map (bB H),.map (bB gw)]
def Apart(a b:bx):Prop:=∀k,a.ownBlock=bB k→b.ownBlock≠bB k
structure Making(w:bD)(base g gn gw:Nat)(words:List (L8×Int))(t:vH)(vu vd vw vb:bx):Prop where
 box:Box w g 248 (N4 vu vd vw vb gn gw)
 up:lP w base 3 vu t.up
 depth:lP w base 3 vd t.depth
 word:lP w base 3 vw t.word
 byte:OwnB w base 5 vb t.byte
 nodes:fQ w gn fY (bC .i64) (kg t.nodes)
 words:fQ w gw fY (bC .i64) words
 a1:Apart vu vd
 a2:Apart vu vw
 a3:Apart vd vw
 bg:base≤g
 bn:base≤gn
 nw:gn≠gw
theorem Making.ext{w E:bD}{base g T gw:Nat}{d:List (L8×Int)}{t:vH}{I J H O:bx}(h:Making w base g T gw d t I J H O)(s:Ext w E):Making E base g T gw d t I J H O:=
 ⟨h.box.ext s,fy h.up s,fy h.depth s,fy h.word s,fy h.byte s,h.nodes.ext s,h.words.ext s,h.a1,h.a2,h.a3,h.bg,h.bn,h.nw⟩
theorem eN{w:bD}{base g:Nat}{e T:bI}{size n:Nat}{v:bx}{xs:List bx}{cs:AV}(h:w.ownsRow base e size v n xs)(H:Box w g T cs)(s:T≠e):v.ownBlock≠bB g:=by
 intro d;rcases h.2 with⟨rfl,-⟩|⟨k,J,I,rfl,-,E,-⟩
 ·cases d
 ·cases d;rw[show w.heap[k]?=_ from H]at E;grind
theorem nQ{w:bD}{base s:Nat}{e O:bI}{size d n V:Nat}{v I:bx}{xs H:List bx}(h:w.ownsRow base e size v n xs)(h':w.ownsRow s O d I V H)(W:e≠O):Apart v I:=by
 intro k J E;rcases h.2 with⟨rfl,-⟩|⟨k1,ab,aa,rfl,-,hg,-⟩
 ·cases J
 ·rcases h'.2 with⟨rfl,-⟩|⟨k2,U,T,rfl,-,Y,-⟩
  ·cases E
  ·cases J;cases E;grind
theorem Apart.symm{a b:bx}(h:Apart a b):Apart b a:=λk s d=>h k d s
theorem vI{w E:bD}{base:Nat}{e:bI}{size n:Nat}{v:bx}{xs:List bx}{row:Option Nat}(h:w.ownsRow base e size v n xs)(J:w.grownBy E row)(I:∀k,row=bB k→v.ownBlock≠bB k):E.ownsRow base e size v n xs:=by
 refine⟨h.1,?_⟩;rcases h.2 with T|⟨g,s,d,rfl,O,H,r⟩
 ·grind
 ·exact .inr ⟨g,s,d,rfl,O,(J.block g (bm.1 H).1 (λe=>I g e.symm rfl)).trans H,r⟩
theorem kb{w E:bD}{base g i:Nat}{e:bI}{size n:Nat}{v u x:bx}{xs:List bx}{o:Obj}(h:w.ownsRow base e size v n xs)(I:(w.alloc o).grownBy E u.ownBlock)(J:Apart u v)(d:v.ownBlock≠bB g):(E.setCell ⟨g,i,bJ⟩ x).ownsRow base e size v n xs:=
 ri (vI (fy h (ek w o)) I (λk H s=>J k H s)) _ d _
theorem kq{w:bD}{base:Nat}{e:bI}{size n:Nat}{v d u:bx}{xs:List bx}{o:Obj}(h:w.ownsRow base e size v n xs)(I:Apart u v)(s:d.ownBlock=u.ownBlock∨d.ownBlock=bB (w.alloc o).heap.size):Apart d v:=by
 intro k E H;have:=KX h k H;rcases s with e|e
 ·exact I k (e▸E) H
 ·rw[e]at E;cases E;simp at this;omega
theorem fQ.far{s E:Type}{kv:s→bx}{ev:E→bx}{l:List (s×E)}{w:bD}{b:Nat}(h:fQ w b kv ev l){g:Nat}(d:b≠g)(i:Nat)(x:bx):fQ (w.setCell ⟨g,i,bJ⟩ x) b kv ev l:=h.same (bK w ⟨g,i,bJ⟩ x b d)
theorem fQ.lQ{s E:Type}{kv:s→bx}{ev:E→bx}{l:List (s×E)}{w:bD}{b g:Nat}{T:bI}{cs:AV}(h:fQ w b kv ev l)(I:Box w g T cs):b≠g:=by
 rintro rfl;obtain⟨_,J,d,H,_⟩:=h;rw[show w.heap[b]?=_ from I]at H;cases H
theorem kc{w d:bD}{g:Nat}{T:bI}{cs:AV}{o:Obj}{row:Option Nat}(h:Box w g T cs)(E:(w.alloc o).grownBy d row)(s:row≠bB g):Box d g T cs:=(E.block g (h.alloc o).lt (λe=>s e.symm)).trans (h.alloc o)
theorem oF{w h:bD}{base g i:Nat}{v x:bx}{o:Obj}(H:base≤w.heap.size)(E:(w.alloc o).grownBy h v.ownBlock)(s:∀k,v.ownBlock=bB k→base≤k)(d:base≤g):Below base w (h.setCell ⟨g,i,bJ⟩ x):=
 (Below.grown ((ek w o).mono H) E zT s).setCell (p:=⟨g,i,bJ⟩) d x
def fL(w h:bD):Prop:=∀(k:Nat) (d:AV) (m:Nat×Nat),w.heap[k]?=bB (Obj.cells d 9 m)→h.heap[k]?=bB (Obj.cells d 9 m)
theorem fL.tr{a b c:bD}(h:fL a b)(k:fL b c):fL a c:=λi d m s=>k i d m (h i d m s)
theorem fL.ext{w d:bD}(h:Ext w d):fL w d:=λk _ _ s=>(h.block k (bm.1 s).1).trans s
theorem fL.map{w s:bD}{b:Nat}(h:∃o:Obj,w.heap[b]?=bB o∧o.isCells=false)(H:w.grownBy s (bB b)):fL w s:=λk J m d=>(H.block k (bm.1 d).1 (λe=>by
 cases e;obtain⟨o,E,I⟩:=h;rw[d]at E;cases E;cases I)).trans d
theorem fL.push{w E:bD}{base g i:Nat}{e T:bI}{size n:Nat}{v x:bx}{xs:List bx}{cs:AV}{o:Obj}(O:Box w g T cs)(h:w.ownsRow base e size v n xs)(he:e≠9)(hT:T≠9)(J:(w.alloc o).grownBy E v.ownBlock):fL w (E.setCell ⟨g,i,bJ⟩ x):=λk V m I=>by
 have H:=(bm.1 I).1;have s:(w.alloc o).heap[k]?=bB (Obj.cells V 9 m):=((ek w o).block k H).trans I;have U:=(J.block k (bm.1 s).1 (λd=>by
  rcases h.2 with⟨rfl,-⟩|⟨r,Y,W,rfl,-,hr,-⟩
  ·cases d
  ·cases d;grind)).trans s
 refine(bK E ⟨g,i,bJ⟩ x k (λd=>?_)).trans U;have d:k=g:=d;subst d;rw[show w.heap[k]?=_ from O]at I;grind
section
variable {w w':bD} {base g gn gw:Nat} {words:List (List UInt8×Int)} {t:vH} {vu vd vw vb v':bx} {o:Obj}
theorem Making.Ld(d:Making w base g gn gw words t vu vd vw vb){b:L8}(H:fQ w' gn fY (bC .i64) (kg (t.nodes++[b])))(h:w.grownBy w' (bB gn)):Making w' base g gn gw words { t with nodes:=t.nodes++[b] } vu vd vw vb:=by
 have s:=λr (E:bB gn=bB r)=>(by cases E;exact d.nodes.nO:∃o:Obj,w.heap[r]?=bB o∧o.isCells=false)
 exact⟨(h.block g d.box.lt (λe=>d.nodes.lQ d.box (bM e.symm))).trans d.box,rW d.up h s,rW d.depth h s,rW d.word h s,rW d.byte h s,H,d.words.grown h (λe=>d.nw (bM e)),d.a1,d.a2,d.a3,d.bg,d.bn,d.nw⟩
theorem Making.Qu(d:Making w base g gn gw words t vu vd vw vb){z:Int}(H:w'.ownsRow base 3 1 v' (t.up.length+1) (t.up.map (.int .i64)++[iV z]))(h:(w.alloc o).grownBy w' vu.ownBlock)(s:v'.ownBlock=vu.ownBlock∨v'.ownBlock=bB (w.alloc o).heap.size) :
  Making (w'.setCell ⟨g,0,bJ⟩ v') base g gn gw words { t with up:=t.up++[z] } v' vd vw vb:=by
 have E:=kc d.box h (eN d.up d.box zD);have J:=d.nodes.lQ d.box;have I:=d.words.lQ d.box;refine⟨E.eL 0 v',?_,kb d.depth h d.a1 (eN d.depth d.box zD),kb d.word h d.a2 (eN d.word d.box zD),kb d.byte h (nQ d.up d.byte zD) (eN d.byte d.box zD),((d.nodes.ext (ek w o)).grown h (d.nodes.not_row d.up)).far J _ _,((d.words.ext (ek w o)).grown h (d.words.not_row d.up)).far I _ _,kq d.depth d.a1 s,kq d.word d.a2 s,d.a3,d.bg,d.bn,d.nw⟩;grind[ri,eN,lP]
theorem Making.ID(d:Making w base g gn gw words t vu vd vw vb){z:Int}(H:w'.ownsRow base 3 1 v' (t.depth.length+1) (t.depth.map (.int .i64)++[iV z]))(h:(w.alloc o).grownBy w' vd.ownBlock)(s:v'.ownBlock=vd.ownBlock∨v'.ownBlock=bB (w.alloc o).heap.size) :
  Making (w'.setCell ⟨g,1,bJ⟩ v') base g gn gw words { t with depth:=t.depth++[z] } vu v' vw vb:=by
 have E:=kc d.box h (eN d.depth d.box zD);have J:=d.nodes.lQ d.box;have I:=d.words.lQ d.box;refine⟨E.eL 1 v',kb d.up h d.a1.symm (eN d.up d.box zD),?_,kb d.word h d.a3 (eN d.word d.box zD),kb d.byte h (nQ d.depth d.byte zD) (eN d.byte d.box zD),((d.nodes.ext (ek w o)).grown h (d.nodes.not_row d.depth)).far J _ _,((d.words.ext (ek w o)).grown h (d.words.not_row d.depth)).far I _ _,(kq d.up d.a1.symm s).symm,d.a2,kq d.word d.a3 s,d.bg,d.bn,d.nw⟩;grind[ri,eN,lP]
theorem Making.Le(d:Making w base g gn gw words t vu vd vw vb){z:Int}(H:w'.ownsRow base 3 1 v' (t.word.length+1) (t.word.map (.int .i64)++[iV z]))(h:(w.alloc o).grownBy w' vw.ownBlock)(s:v'.ownBlock=vw.ownBlock∨v'.ownBlock=bB (w.alloc o).heap.size) :
  Making (w'.setCell ⟨g,2,bJ⟩ v') base g gn gw words { t with word:=t.word++[z] } vu vd v' vb:=by
 have E:=kc d.box h (eN d.word d.box zD);have J:=d.nodes.lQ d.box;have I:=d.words.lQ d.box;refine⟨E.eL 2 v',kb d.up h d.a2.symm (eN d.up d.box zD),kb d.depth h d.a3.symm (eN d.depth d.box zD),?_,kb d.byte h (nQ d.word d.byte zD) (eN d.byte d.box zD),((d.nodes.ext (ek w o)).grown h (d.nodes.not_row d.word)).far J _ _,((d.words.ext (ek w o)).grown h (d.words.not_row d.word)).far I _ _,d.a1,(kq d.up d.a2.symm s).symm,(kq d.depth d.a3.symm s).symm,d.bg,d.bn,d.nw⟩;grind[ri,eN,lP]
theorem Making.Lf(d:Making w base g gn gw words t vu vd vw vb){z:UInt8}(E:w'.ownsRow base 5 1 v' (t.byte.length+1) (t.byte.map ff++[ff z]))(h:(w.alloc o).grownBy w' vb.ownBlock) :
  Making (w'.setCell ⟨g,3,bJ⟩ v') base g gn gw words { t with byte:=t.byte++[z] } vu vd vw v':=by
 have s:=kc d.box h (eN d.byte d.box zD);have I:=d.nodes.lQ d.box;have H:=d.words.lQ d.box;refine⟨s.eL 3 v',kb d.up h (nQ d.byte d.up zD) (eN d.up d.box zD),kb d.depth h (nQ d.byte d.depth zD) (eN d.depth d.box zD),kb d.word h (nQ d.byte d.word zD) (eN d.word d.box zD),?_,((d.nodes.ext (ek w o)).grown h (d.nodes.not_row d.byte)).far I _ _,((d.words.ext (ek w o)).grown h (d.words.not_row d.byte)).far H _ _,d.a1,d.a2,d.a3,d.bg,d.bn,d.nw⟩;grind[ri,eN,OwnB]
end
theorem Tryz.oG:(prog.info? 3).map (λi=>(i.zero,i.size,i.bytes))=bB (bB (iV 0),1,8):=by rfl
theorem Tryz.Lg:(prog.info? 5).map (λi=>(i.zero,i.size,i.bytes))=bB (bB (.int .u8 0),1,1):=by rfl
theorem N5{l:List (L8×Int)}{k:L8}:((jx l k).map (bC .i64)).getD (iV 0)=iV ((jx l k).getD 0):=by simp_all
theorem IE{b:L8}:b.take (b.length-1)=b.dropLast:=by rw[List.dropLast_eq_take]
theorem last_at{b:L8}(h:b.length-1<b.length):b[b.length-1]=b.getLastD 0:=by
 grind
attribute [local irreducible] ew ed in
theorem add_any(w:bD)(base g gn gw:Nat)(E:List (List UInt8×Int))(t:vH)(b:List UInt8)(vu vd vw vb:bx)(hT:Making w base g gn gw E t vu vd vw vb)(hb:b∉t.nodes)(hn:t.nodes.length≤1000001)(hl:b.length≤1000000)(T:base≤w.heap.size)(hN:t.up.length=t.nodes.length∧t.depth.length=t.nodes.length∧t.word.length=t.nodes.length∧t.byte.length=t.nodes.length) :
  Calls prog 123 #[.pointer (bB ⟨g,0,bJ⟩),fY b] w λe w'=>e=.returned (.tuple #[])∧(Below base w w'∧fL w w')∧∃an ao am ap,Making w' base g gn gw E (Ai E t b) an ao am ap:=by
 obtain⟨i0,hi,au,ar,aq⟩:=info_parts Tryz.oG;obtain⟨j0,hj,bg,bf,be⟩:=info_parts Tryz.Lg;go_enter func123,ntmps123;have hE:Ext w w:=Ext.rf w;have aa:=hT.box;have hM:=hT.nodes;have HB:=hide hb;have HT:=hide hT;have HN:=hide hN;clear hb hT hN;by_cases av:b=[]
 case' pos=>
  obtain⟨ae,U⟩:∃z,z=(if b=[]then 0 else(jx (kg t.nodes) b.dropLast).getD 0):=⟨_,rfl⟩
  obtain⟨cv,ad⟩:∃z,z=b.getLastD 0:=⟨_,rfl⟩
  have e1:bC .i64 ae=.int .i64 0:=zG;have e2:bC .u8 (cv.toNat:Int)=.int .u8 0:=by simp_all
  have e3:fY b=.string ⟨#[]⟩:=by rw[av];rfl
  have HU:=hide U;have HC:=hide ad;have HX:Hid (Below base w w):=hide (Below.refl _ _);have sY:Hid (fL w w):=hide (fL.ext (Ext.rf w));rw[e3];have E1:=hide e1;have E2:=hide e2;have E3:=hide e3;clear U ad aa hM hE e1 e2 e3 av;go_upto_region 3 with(fail)
  rw[←E1.out,←E2.out,←E3.out];clear E1 E2 E3
 case' neg=>
  have aI:0<b.length:=zG;have ag:=last_at (b:=b) zO;have bh:b.isEmpty=false:=zG;obtain⟨ae,U⟩:∃z,z=(if b=[]then 0 else(jx (kg t.nodes) b.dropLast).getD 0):=⟨_,rfl⟩
  obtain⟨cv,ad⟩:∃z,z=b.getLastD 0:=⟨_,rfl⟩
  have e1:((jx (kg t.nodes) (b.take (b.length-1))).map (bC .i64)).getD (.int .i64 0)=.int .i64 ae:=by simp_all[IE]
  have e2:ff (b[b.length-1]'zO)=.int .u8 (cv.toNat:Int):=by rw[ag,ad];rfl
  have HU:=hide U;have HC:=hide ad;have E1:=hide e1;have E2:=hide e2;have aH:fY b=.string ⟨b.toArray⟩:=rfl;rw[aH];clear aH U ad e1 e2 ag;go_upto_region 2 with(fail)
  rw[←show fY b=.string ⟨b.toArray⟩from rfl];clear bh;refine vQ 16 ?_;refine ed.move _ rfl wA oA (.h 2 ?_);refine ed.gG 246 _ rfl wA oA (λ_=>by rfl) (aa.at_ 4 rfl) (eh _) ?_;refine ed.move _ rfl wA oA ?_;refine ed.move _ rfl wA oA ?_;refine ed.gF (r:=.int .i64 (b.length:Int)) (.tmp 15) wA oA (λρ w hE h1=>by simp[h1,fY,go_sem]) ?_;refine ed.kC _ _ _ _ rfl wA oA (eE _) zO ?_;rw[show(b.length:Int)-1=((b.length-1:Nat):Int) by omega];refine ed.Sz 9 _ _ .i64 (b.length-1) rfl bE wA oA oA zO ?_;refine ed.rT hM (eh _) (rh bE) 246 _ _ rfl bH mF wA oA oA ?_;refine ed.move _ rfl wA oA ?_;refine ed.move _ rfl wA oA ?_;refine ed.gF (r:=.int .i64 (b.length:Int)) (.tmp 21) wA oA (λρ w hE h1=>by simp[h1,fY,go_sem]) ?_;refine ed.kC _ _ _ _ rfl wA oA (eE _) zO ?_;rw[show(b.length:Int)-1=((b.length-1:Nat):Int) by omega];refine ed.SA 9 _ _ .i64 (b.length-1) rfl bE wA oA oA zO (.g ?_);intro W2 bq;have hE:=hE.tr ((eh _).tr bq);go_upto_region 3 with(fail)
  rw[E1.out,E2.out];have HX:Hid (Below base w W2):=hide (Below.mono hE T);have sY:Hid (fL w W2):=hide (fL.ext hE);have HT:=hide (HT.out.ext hE);clear E1 E2 hE hM aa aI av
 all_goals
  have ab:=HT.out.words.mE (rh bE) bH (mF _) b;have h5:=HT.out.box.at_ 5 rfl;obtain⟨wv,af⟩:∃z,z=(jx E b).getD (-1):=⟨_,rfl⟩
  have HW:=hide af;cases hw:jx E b
  case' none=>
   rw[hw]at ab af;have E4:=hide (show bC .i64 wv=.int .i64 (-1) by grind);simp only[Option.map_none,Option.getD_none,Option.isSome_none]at ab;clear hw af;go_upto_region 6 with(fail)
   rw[←E4.out];clear ab h5 E4
  case' some z=>
   rw[hw]at ab af;obtain rfl:wv=z:=af;simp only[Option.map_some,Option.getD_some,Option.isSome_some]at ab;clear hw;go_upto_region 6 with(fail)
   clear ab h5
  all_goals
  obtain⟨A0,c0,a7⟩:=eI HT.out.up;obtain⟨A1,c1,a6⟩:=eI HT.out.depth;obtain⟨A2,c2,a5⟩:=eI HT.out.word;obtain⟨A3,c3,a4⟩:=eI HT.out.byte;subst a7 a6 a5 a4;have aa:=HT.out.box;refine vQ 11 ?_;refine ed.move _ rfl wA oA (.h 2 ?_);refine ed.gG 246 _ rfl wA oA (λ_=>by rfl) (aa.at_ 4 rfl) (eh _) ?_;refine ed.move _ rfl wA oA ?_;refine ed.move _ rfl wA oA (.h 3 ?_);refine ed.gG 28 _ rfl wA oA (λ_=>by rfl) (aa.at_ 0 rfl) (eh _) ?_;refine ed.gF (r:=.int .i64 (t.up.length:Int)) (.tmp 45) wA oA (λρ w hE h1=>by simp[h1,go_sem]) (.g ?_);intro W6 aY;have hE:=((eh _).tr aY)
  have SC:=HT.out.ext hE;obtain⟨w7,a8,az,aj,a9,-⟩:=SC.nodes.update (rh bE) bH b (t.up.length:Int);have aL:upd (kg t.nodes) b (t.up.length:Int)=kg (t.nodes++[b]):=by rw[HN.out.1];exact vA HB.out
  rw[aL]at az;have Bt:=SC.Ld az aj;have aW:=(fL.tr sY.out (fL.ext hE)).tr (fL.map SC.nodes.nO aj);have ay:=bF HX.out (Below.mono hE (bz T HX.out.size));have aw:Below base w w7:=ay.grown aj (bz T ay.size) (λq hq=>by cases hq;exact SC.bn);have aG:base≤w7.heap.size:=bz T aw.size;clear aj a9 az aL aa hE aY SC ay HT HX sY;go_upto_region 7 with(fail)
  clear a8;have bd:=Bt.box.at_ 0 rfl;have bb:t.up.length≤1000001:=by have:=HN.out;omega
  have V:=hide aG;clear aG;go_upto_region 8 with(at_builtin;refine eJ rfl _ _ 28 rfl base 3 i0 (.int .i64 0) 1 8 underlying28 hi au ar aq rfl zO _ _ t.up.length 1 (t.up.map (.int .i64)) [.int .i64 ae] rfl (fy Bt.up (ek _ _)) rfl rfl (Src.new _ _ _ _) (λy hy=>by rw[bs]at hy;subst hy;rfl) zO (by have:=V.out;simp;omega) ?_;intro v8 x8 Y I al;obtain⟨B8,d8,bl⟩:=eI Y;subst bl;have VK:=hide (Bt.Qu Y I al);have Ud:=hide (oF (i:=0) (x:=.slice B8 (t.up.length+1) d8) V.out I (λq hq=>fk Bt.up q hq) Bt.bg);have Pv:=hide (fL.push (i:=0) (x:=.slice B8 (t.up.length+1) d8) Bt.box Bt.up zD zD I);have bo:=(kc Bt.box I (eN Bt.up Bt.box zD)).at_ 0 rfl;have bj:=(kc Bt.box I (eN Bt.up Bt.box zD)).frozen 0;clear Y I al bd)
  have Bu:=VK.out;have aS:=bF aw Ud.out;have aV:=fL.tr aW Pv.out;have aF:base≤_:=bz V.out Ud.out.size;clear bo bj VK Ud Pv aW V Bt aw;generalize x8.setCell ⟨g,0,bJ⟩ (.slice B8 (t.up.length+1) d8)=w8 at*;have bc:=Bu.box.at_ 3 rfl;have ba:t.byte.length≤1000001:=by have:=HN.out;omega
  have V:=hide aF;clear aF;go_upto_region 9 with(at_builtin;refine eJ rfl _ _ 43 rfl base 5 j0 (.int .u8 0) 1 1 underlying43 hj bg bf be rfl zO _ _ t.byte.length 1 (t.byte.map ff) [ff cv] rfl (fy Bu.byte (ek _ _)) rfl rfl (Src.new _ _ _ _) (λy hy=>by rw[bs]at hy;subst hy;rfl) zO (by have:=V.out;simp;omega) ?_;intro v9 x9 W H aQ;obtain⟨B9,d9,bk⟩:=eI W;subst bk;have VL:=hide (Bu.Lf W H);have Ue:=hide (oF (i:=3) (x:=.slice B9 (t.byte.length+1) d9) V.out H (λq hq=>fk Bu.byte q hq) Bu.bg);have SD:=hide (fL.push (i:=3) (x:=.slice B9 (t.byte.length+1) d9) Bu.box Bu.byte zD zD H);have bn:=(kc Bu.box H (eN Bu.byte Bu.box zD)).at_ 3 rfl;have bi:=(kc Bu.box H (eN Bu.byte Bu.box zD)).frozen 3;clear W H aQ bc)
  have Gw:=VL.out;have aR:=bF aS Ue.out;have aU:=fL.tr aV SD.out;have aE:base≤_:=bz V.out Ue.out.size;clear bn bi VL Ue SD aV V Bu aS;generalize x9.setCell ⟨g,3,bJ⟩ (.slice B9 (t.byte.length+1) d9)=w9 at*;rw[show fY b=.string ⟨b.toArray⟩from rfl];have aK:=Gw.box.at_ 1 rfl;have a1:t.depth.length≤1000001:=by have:=HN.out;omega
  have V:=hide aE;clear aE;go_upto_region 10 with(at_builtin;refine eJ rfl _ _ 28 rfl base 3 i0 (.int .i64 0) 1 8 underlying28 hi au ar aq rfl zO _ _ t.depth.length 1 (t.depth.map (.int .i64)) [.int .i64 (b.length:Int)] rfl (fy Gw.depth (ek _ _)) rfl rfl (Src.new _ _ _ _) (λy hy=>by rw[bs]at hy;subst hy;rfl) zO (by have:=V.out;simp;omega) ?_;intro bw a3 O s ai;obtain⟨aD,aB,aO⟩:=eI O;subst aO;have SE:=hide (Gw.ID O s ai);have Qv:=hide (oF (i:=1) (x:=.slice aD (t.depth.length+1) aB) V.out s (λq hq=>fk Gw.depth q hq) Gw.bg);have SF:=hide (fL.push (i:=1) (x:=.slice aD (t.depth.length+1) aB) Gw.box Gw.depth zD zD s);have aP:=(kc Gw.box s (eN Gw.depth Gw.box zD)).at_ 1 rfl;have aM:=(kc Gw.box s (eN Gw.depth Gw.box zD)).frozen 1;clear O s ai aK)
  have qx:=SE.out;have aT:=bF aR Qv.out;have aX:=fL.tr aU SF.out;have ak:base≤_:=bz V.out Qv.out.size;clear aP aM SE Qv SF aU V Gw aR;generalize a3.setCell ⟨g,1,bJ⟩ (.slice aD (t.depth.length+1) aB)=bu at*;have aJ:=qx.box.at_ 2 rfl;have aZ:t.word.length≤1000001:=by have:=HN.out;omega
  have V:=hide ak;clear ak;go_wp2_with(at_builtin;refine eJ rfl _ _ 28 rfl base 3 i0 (.int .i64 0) 1 8 underlying28 hi au ar aq rfl zO _ _ t.word.length 1 (t.word.map (.int .i64)) [.int .i64 wv] rfl (fy qx.word (ek _ _)) rfl rfl (Src.new _ _ _ _) (λy hy=>by rw[bs]at hy;subst hy;rfl) zO (by have:=V.out;simp;omega) ?_;intro bv a2 J d ah;obtain⟨aC,aA,aN⟩:=eI J;subst aN;have Uf:=hide (qx.Le J d ah);have Ug:=hide (oF (i:=2) (x:=.slice aC (t.word.length+1) aA) V.out d (λq hq=>fk qx.word q hq) qx.bg);have Uh:=hide (fL.push (i:=2) (x:=.slice aC (t.word.length+1) aA) qx.box qx.word zD zD d);have bt:=(kc qx.box d (eN qx.word qx.box zD)).at_ 2 rfl;have br:=(kc qx.box d (eN qx.word qx.box zD)).frozen 2;clear J d ah aJ)
  have hT:=Uf.out;have e:Ai E t b={ t with up:=t.up++[ae],depth:=t.depth++[(b.length:Int)],word:=t.word++[wv],byte:=t.byte++[cv],nodes:=t.nodes++[b] }:=by unfold Ai;rw[←HU.out,←HC.out,←HW.out]
  have bp:∃an ao am ap,Making (a2.setCell ⟨g,2,bJ⟩ (.slice aC (t.word.length+1) aA)) base g gn gw E (Ai E t b) an ao am ap:=by
   grind
  exact bodyPost_end (results_none results123 _ _ _) rfl ⟨rfl,⟨bF aT Ug.out,fL.tr aX Uh.out⟩,bp⟩
end
def kG(ws:LL):List (L8×Int):=ws.zipIdx.foldl (λl x=>upd l x.1 (x.2:Int)) []
theorem tR(ws:LL)(k:Nat)(h:k<ws.length):kG (ws.take (k+1))=upd (kG (ws.take k)) ws[k] (k:Int):=by
 grind[kG,bA,Nat.min_eq_left,Nat.le_of_lt]
def Gx:vH:=⟨[],[],[],[],[]⟩
def kr(ws:LL)(k:Nat):vH:=((ey ws).take k).foldl (Ai (kG ws)) Gx
def fF(ws:LL):vH:=(ey ws).foldl (Ai (kG ws)) Gx
theorem rr(ws:LL)(k:Nat)(h:k<(ey ws).length):kr ws (k+1)=Ai (kG ws) (kr ws k) (ey ws)[k]:=by
 grind[kr,bA]
theorem Ev{l:LL}(h:l.Nodup)(b:L8):(uq l b).Nodup:=by
 grind[uq,List.nodup_append,bs]
theorem vJ{l:LL}(h:l.Nodup)(w:L8):∀j,(lX l w j).Nodup
 |0=>h
 |j+1=>by rw[mh];exact Ev (vJ h w j) _
theorem si(ws:LL):∀k,k≤ws.length→(fI (ws.take k)).Nodup
 |0,_=>by grind[fI]
 |k+1,h=>by rw[lA ws k h];exact vJ (si ws k zO) _ _
theorem mj(ws:LL):(ey ws).Perm (fI ws):=List.mergeSort_perm _ _
theorem mG(ws:LL):(ey ws).Nodup:=by
 have:=si ws ws.length (bL _);grind[bG,mj]
theorem vK(ws:LL):1≤(ey ws).length∧(ey ws).length≤1+ws.flatten.length:=by
 have:=oE ws ws.length (bL _);rw[bG]at this;rw[(mj ws).length_eq];exact this
theorem oH(ws:LL):∀k,k≤(ey ws).length→(kr ws k).nodes=(ey ws).take k∧(kr ws k).up.length=k∧(kr ws k).depth.length=k∧(kr ws k).word.length=k∧(kr ws k).byte.length=k
 |0,_=>⟨rfl,rfl,rfl,rfl,rfl⟩
 |k+1,h=>by
  obtain⟨I,H,E,s,d⟩:=oH ws k zO;rw[rr ws k h];simp_all[Ai,List.length_append]
theorem Lh(l:LL)(b:L8):∀x∈uq l b,x∈l∨x=b:=by
 grind[uq,bs]
theorem vL{l:LL}{w:L8}{m:Nat}(s:∀x∈l,x.length≤m)(E:w.length≤m):∀j,∀x∈lX l w j,x.length≤m
 |0=>s
 |j+1=>by
  intro x d;rw[mh]at d;rcases Lh _ _ x d with h|rfl
  ·exact vL s E j x h
  ·rw[List.length_take];omega
theorem sj{ws:LL}{m:Nat}(h:∀w∈ws,w.length≤m):∀k,k≤ws.length→∀x∈fI (ws.take k),x.length≤m
 |0,_=>by grind[fI]
 |k+1,hk=>by rw[lA ws k hk];exact vL (sj h k zO) (h _ (List.getElem_mem hk)) _
theorem vM{ws:LL}{m:Nat}(h:∀w∈ws,w.length≤m):∀x∈ey ws,x.length≤m:=by
 intro x d;have:=sj h ws.length (bL _);grind[bG,mj]
theorem oI{ws:LL}:∀w∈ws,w.length≤ws.flatten.length:=by
 intro w d;obtain⟨s,t,rfl⟩:=List.append_of_mem d;grind
theorem Ew{ws:LL}{k:Nat}(h:k<(ey ws).length):(ey ws)[k]∉(ey ws).take k:=by
 grind[List.getElem_of_mem,List.length_take,absurd,List.pairwise_iff_getElem,mG]
def nu(t:vH):VP:=⟨λv w=>∃h s d E,v=.agg #[h,s,d,E]∧eQ t.up h w∧eQ t.depth s w∧eQ t.word d w∧eu t.byte E w,λ_ _ _ ⟨h,s,d,E,U,T,O,J,I⟩ H=>⟨h,s,d,E,U,(eQ t.up).wk _ _ _ T H,(eQ t.depth).wk _ _ _ O H,(eQ t.word).wk _ _ _ J H,(eu t.byte).wk _ _ _ I H⟩⟩
end Go.Proofs.YtofgfpffcegioaaGreat
