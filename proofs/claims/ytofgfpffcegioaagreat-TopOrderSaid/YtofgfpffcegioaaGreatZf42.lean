/- A part of the proof. -/
import Derived.Test.YtofgfpffcegioaaGreatZf41
set_option maxRecDepth 100000
set_option maxHeartbeats 8000000
namespace Go.Proofs.YtofgfpffcegioaaGreat
open Go.RowKit Go.Shelf Go.Sort iT jH fq Go.Proofs.Tryz
open Bool renaming false → bb,true → bf
open _root_.Go renaming World → ba,Value → bg,Calls → bc,bodyPost_ret → bm
open Go.IntKind renaming i64 → br
open Go.IntWalk renaming i64_in → bo
open Go.Operand renaming tmp → bp
open Go.Proofs.Tryz renaming prog → bj,underlying260 → bq,results341 → bt
open Go.Result renaming andThen_ok → bu
open Go.World.grownBy renaming refl → bh
open List renaming getD_eq_getElem?_getD → bk,getElem?_set_self → bw,getElem?_set_ne → bx
open Nat renaming le_refl → bd,lt_of_lt_of_le → bn
open Ne renaming symm → bl
open Option renaming none → a7,some → a8
structure PS where
 c:Cf
 M:Mc
 ans:List Bool
 broken:Bool
 w0:ba
 gm:Nat
 g:Nat
 jK:Nat
 jL:Nat
 jE:Nat
 gq:Nat
 sP:Nat
 kU:Nat
 mr:Nat
 sQ:Nat
 xe:Nat
 jT:Nat→Nat
 pn:Nat
 pr:Nat
 mem:Nat
 lq:Nat→Nat
abbrev eF(b:Nat):Value:=gP b
abbrev ja(f b:Nat):Value:=.func (.func f) #[gP b] #[]
abbrev mP:Value:=.func (.func 131) #[] #[]
def Bv(z:Int):Value:=.int .u8 z
def mW(x:bg×bg):Value:=.agg #[x.1,x.2]
abbrev Tab:=List (Int×(bg×bg))
def jq(b:Nat)(l:Tab)(w:ba)(t:ez):Prop:=t b=0∧fQ w b Bv mW l
theorem jq.keeps(i b:Nat)(l:Tab):fh i (jq b l):=λ_ _ _ _ ⟨s,d⟩ _ E=>⟨(E b d.lt (.inr s)).2.trans s,d.same (E b d.lt (.inr s)).1⟩
def pQ(b:Nat):Tab:=[(1,(ja 129 b,ja 130 b)),(2,(mP,ja 132 b)),(3,(ja 133 b,ja 134 b)),(4,(mP,ja 135 b))]
def pR(b:Nat):Tab:=[(1,(ja 137 b,ja 138 b)),(2,(mP,ja 139 b)),(3,(mP,ja 140 b))]
def qR(b:Nat):Tab:=[(1,(ja 143 b,ja 144 b)),(2,(ja 145 b,ja 146 b))]
def qS(b:Nat):Tab:=[(1,(ja 148 b,ja 149 b))]
def rdA(g b s:Nat)(r:Rd)(d:bg):AV:=#[eF g,.int .u8 (r.ph:Int),.int .u8 5,.map (a8 s),mP,ja 136 b,.bool r.holds,iV (r.buf:Int),iV (r.eZ:Int),iV (r.own:Int),iV (r.ahead:Int),d,.bool r.ended]
def uv(g b s:Nat)(r:Rd)(w:ba)(t:ez):Prop:=
 ∃d,eG 8 b 264 (rdA g b s r d) w t∧eO 8 5 1 d r.tail.length (r.tail.map ff) w t
def xO(g b E:Nat)(x:Wk)(s d:bg):AV:=#[eF g,.int .u8 (x.ph:Int),.int .u8 4,.map (a8 E),ja 141 b,ja 142 b,iV (x.pc.blk.num:Int),iV (x.pc.blk.start:Int),iV (x.pc.blk.eZ:Int),s,iV (x.pc.buf:Int),iV (x.node:Int),iV (x.done:Int),d]
def qB(i g b E:Nat)(x:Wk)(w:ba)(t:ez):Prop:=
 ∃s d,eG i b 268 (xO g b E x s d) w t∧Held (eu x.pc.blk.data) s w t∧eO i 50 2 d x.hits.length (fz x.hits) w t
def QW(g b s:Nat)(x:Mg)(d:bg):AV:=#[eF g,.int .u8 (x.ph:Int),.int .u8 3,.map (a8 s),mP,ja 147 b,d]
def xf(g b s:Nat)(x:Mg)(w:ba)(t:ez):Prop:=∃d,eG 9 b 270 (QW g b s x d) w t∧Held (eP x.hits) d w t
def S5(g b d em:Nat):AV:=#[eF g,.int .u8 (em:Int),.int .u8 2,.map (a8 d),ja 148 b,ja 150 b]
def xg(g b d em:Nat)(w:ba)(t:ez):Prop:=eG 10 b 272 (S5 g b d em) w t
def lT(D:PS)(n:Nat):Value:=
 if n=0 then .iface 179 (eF D.mr)else if n≤D.c.workers then .iface 181 (eF (D.jT (n-1)))
 else if n=D.c.workers+1 then .iface 183 (eF D.sQ)else .iface 185 (eF D.xe)
def xh(D:PS):VP:=jY ((List.range (D.c.workers+3)).map λn=>eC (lT D n))
def TX(D:PS)(p:Pl)(vs d:bg):AV:=
 #[eF D.gm,iV (D.c.workers:Int),iV (D.c.block:Int),iV (D.c.ring:Int),iV (D.c.queue:Int),iV (D.c.out:Int),iV (D.c.slice:Int),iV (D.c.kX:Int),iV ((D.M.long-1:Nat):Int),
  eF D.jK,eF D.jL,eF D.jE,eF D.gq,eF D.sP,eF D.kU,vs,iV (p.number:Int),iV (p.read:Int),d,.bool p.cancelled]
def xi(D:PS)(p:Pl)(w:ba)(t:ez):Prop:=
 ∃s d,eG 1 D.g 102 (TX D p s d) w t∧Held (xh D) s w t∧eO 1 50 2 d p.took.length (fz p.took) w t
theorem uv.keeps(g b d:Nat)(r:Rd):fh 8 (uv g b d r):=fh.ex λ_=>(eG.keeps _ _ _ _).and (eO.keeps _ _ _ _ _ _)
theorem qB.keeps(i g b d:Nat)(x:Wk):fh i (qB i g b d x):=fh.ex λ_=>fh.ex λ_=>(eG.keeps _ _ _ _).and ((Held.keeps (eX _) _ _).and (eO.keeps _ _ _ _ _ _))
theorem xf.keeps(g b d:Nat)(x:Mg):fh 9 (xf g b d x):=fh.ex λ_=>(eG.keeps _ _ _ _).and (Held.keeps (gg _) _ _)
theorem xg.keeps(g b d em:Nat):fh 10 (xg g b d em):=eG.keeps _ _ _ _
theorem OI(vs:List bg):Loc (jY (vs.map λv=>eC v)):=uD λF d x w s h=>by
 obtain⟨b,_,rfl⟩:=List.mem_map.1 d;exact h
theorem og(D:PS):Loc (xh D):=by
 have:=OI ((List.range (D.c.workers+3)).map (lT D));rw[List.map_map]at this;exact this
theorem xi.keeps(D:PS)(p:Pl):fh 1 (xi D p):=fh.ex λ_=>fh.ex λ_=>(eG.keeps _ _ _ _).and ((Held.keeps (og D) _ _).and (eO.keeps _ _ _ _ _ _))
structure ep(D:PS)(s:St)(w:ba)(t:ez):Prop where
 ext:Ext D.w0 w
 old:∀k,k<D.w0.heap.size→t k=0
 ki:iM D.M D.gm D.w0
 pl:xi D s.pl w t
 src:gD 2 D.jK D.broken s.src w t
 iG:gB 3 D.jL D.ans s.iG w t
 buf:ft 4 D.jE D.c.ring (D.c.block+(D.M.long-1)) s.buf w t
 q:iD 5 D.gq D.c.queue s.q w t
 rg:kh 6 D.sP D.c.ring s.rg w t
 out:im 7 D.kU D.c.out s.out w t
 rd:uv D.g D.mr D.pn s.rd w t
 mg:xf D.g D.sQ D.pr s.mg w t
 em:xg D.g D.xe D.mem s.em w t
 len:s.fm.length=D.c.workers
 fm:∀k,k<D.c.workers→qB (11+k) D.g (D.jT k) (D.lq k) (s.fm.getD k Wk.fresh) w t
 pn:jq D.pn (pQ D.mr) w t
 pr:jq D.pr (qR D.sQ) w t
 mem:jq D.mem (qS D.xe) w t
 lq:∀k,k<D.c.workers→jq (D.lq k) (pR (D.jT k)) w t
section
variable {D:PS} {s:St} {w w':ba} {t t':ez} {j:Nat}
structure Others(j:Nat)(D:PS)(s:St)(w:ba)(t:ez):Prop where
 ext:Ext D.w0 w
 old:∀k,k<D.w0.heap.size→t k=0
 ki:iM D.M D.gm D.w0
 pl:j≠1→xi D s.pl w t
 src:j≠2→gD 2 D.jK D.broken s.src w t
 iG:j≠3→gB 3 D.jL D.ans s.iG w t
 buf:j≠4→ft 4 D.jE D.c.ring (D.c.block+(D.M.long-1)) s.buf w t
 q:j≠5→iD 5 D.gq D.c.queue s.q w t
 rg:j≠6→kh 6 D.sP D.c.ring s.rg w t
 out:j≠7→im 7 D.kU D.c.out s.out w t
 rd:j≠8→uv D.g D.mr D.pn s.rd w t
 mg:j≠9→xf D.g D.sQ D.pr s.mg w t
 em:j≠10→xg D.g D.xe D.mem s.em w t
 len:s.fm.length=D.c.workers
 fm:∀k,k<D.c.workers→j≠11+k→qB (11+k) D.g (D.jT k) (D.lq k) (s.fm.getD k Wk.fresh) w t
 pn:jq D.pn (pQ D.mr) w t
 pr:jq D.pr (qR D.sQ) w t
 mem:jq D.mem (qS D.xe) w t
 lq:∀k,k<D.c.workers→jq (D.lq k) (pR (D.jT k)) w t
theorem ep.others(h:ep D s w t)(d:j≠0)(E:Turn j w t w' t'):Others j D s w' t' where
 ext:=(E.low h.old d h.ext).1
 old:=(E.low h.old d h.ext).2
 ki:=h.ki
 pl:=λe=>(xi.keeps _ _).turn (bl e) d h.pl E
 src:=λe=>(gD.keeps).turn (bl e) d h.src E
 iG:=λe=>(gB.keeps).turn (bl e) d h.iG E
 buf:=λe=>(ft.keeps).turn (bl e) d h.buf E
 q:=λe=>(mU.keeps (om.keeps 5)).turn (bl e) d h.q E
 rg:=λe=>(kh.keeps).turn (bl e) d h.rg E
 out:=λe=>(mU.keeps (oT.keeps 7)).turn (bl e) d h.out E
 rd:=λe=>(uv.keeps _ _ _ _).turn (bl e) d h.rd E
 mg:=λe=>(xf.keeps _ _ _ _).turn (bl e) d h.mg E
 em:=λe=>(xg.keeps _ _ _ _).turn (bl e) d h.em E
 len:=h.len
 fm:=λk H e=>(qB.keeps _ _ _ _ _).turn (bl e) d (h.fm k H) E
 pn:=(jq.keeps (j+1) _ _).turn zO d h.pn E
 pr:=(jq.keeps (j+1) _ _).turn zO d h.pr E
 mem:=(jq.keeps (j+1) _ _).turn zO d h.mem E
 lq:=λk H=>(jq.keeps (j+1) _ _).turn zO d (h.lq k H) E
theorem ep.PI(h:ep D s w t)(E:Turn 1 w t w' t'){x:Pl}(hx:xi D x w' t'):ep D { s with pl:=x } w' t':=by
 have o:=h.others zO E;exact⟨o.ext,o.old,o.ki,hx,o.src zO,o.iG zO,o.buf zO,o.q zO,o.rg zO,o.out zO,o.rd zO,o.mg zO,o.em zO,o.len,λk d=>o.fm k d zO,o.pn,o.pr,o.mem,o.lq⟩
theorem ep.QX(h:ep D s w t)(E:Turn 2 w t w' t'){x:fq.Src}(hx:gD 2 D.jK D.broken x w' t'):ep D { s with src:=x } w' t':=by
 have o:=h.others zO E;exact⟨o.ext,o.old,o.ki,o.pl zO,hx,o.iG zO,o.buf zO,o.q zO,o.rg zO,o.out zO,o.rd zO,o.mg zO,o.em zO,o.len,λk d=>o.fm k d zO,o.pn,o.pr,o.mem,o.lq⟩
theorem ep.QY(h:ep D s w t)(E:Turn 3 w t w' t'){x:Snk}(hx:gB 3 D.jL D.ans x w' t'):ep D { s with iG:=x } w' t':=by
 have o:=h.others zO E;exact⟨o.ext,o.old,o.ki,o.pl zO,o.src zO,hx,o.buf zO,o.q zO,o.rg zO,o.out zO,o.rd zO,o.mg zO,o.em zO,o.len,λk d=>o.fm k d zO,o.pn,o.pr,o.mem,o.lq⟩
theorem ep.oU(h:ep D s w t)(E:Turn 4 w t w' t'){x:Buf}(hx:ft 4 D.jE D.c.ring (D.c.block+(D.M.long-1)) x w' t'):ep D { s with buf:=x } w' t':=by
 have o:=h.others zO E;exact⟨o.ext,o.old,o.ki,o.pl zO,o.src zO,o.iG zO,hx,o.q zO,o.rg zO,o.out zO,o.rd zO,o.mg zO,o.em zO,o.len,λk d=>o.fm k d zO,o.pn,o.pr,o.mem,o.lq⟩
theorem ep.MK(h:ep D s w t)(E:Turn 5 w t w' t'){x:Ff Pc}(hx:iD 5 D.gq D.c.queue x w' t'):ep D { s with q:=x } w' t':=by
 have o:=h.others zO E;exact⟨o.ext,o.old,o.ki,o.pl zO,o.src zO,o.iG zO,o.buf zO,hx,o.rg zO,o.out zO,o.rd zO,o.mg zO,o.em zO,o.len,λk d=>o.fm k d zO,o.pn,o.pr,o.mem,o.lq⟩
theorem ep.Dh(h:ep D s w t)(E:Turn 6 w t w' t'){x:Rg}(hx:kh 6 D.sP D.c.ring x w' t'):ep D { s with rg:=x } w' t':=by
 have o:=h.others zO E;exact⟨o.ext,o.old,o.ki,o.pl zO,o.src zO,o.iG zO,o.buf zO,o.q zO,hx,o.out zO,o.rd zO,o.mg zO,o.em zO,o.len,λk d=>o.fm k d zO,o.pn,o.pr,o.mem,o.lq⟩
theorem ep.xj(h:ep D s w t)(E:Turn 7 w t w' t'){x:Ff (Int×Int)}(hx:im 7 D.kU D.c.out x w' t'):ep D { s with out:=x } w' t':=by
 have o:=h.others zO E;exact⟨o.ext,o.old,o.ki,o.pl zO,o.src zO,o.iG zO,o.buf zO,o.q zO,o.rg zO,hx,o.rd zO,o.mg zO,o.em zO,o.len,λk d=>o.fm k d zO,o.pn,o.pr,o.mem,o.lq⟩
theorem ep.PJ(h:ep D s w t)(E:Turn 8 w t w' t'){x:Rd}(hx:uv D.g D.mr D.pn x w' t'):ep D { s with rd:=x } w' t':=by
 have o:=h.others zO E;exact⟨o.ext,o.old,o.ki,o.pl zO,o.src zO,o.iG zO,o.buf zO,o.q zO,o.rg zO,o.out zO,hx,o.mg zO,o.em zO,o.len,λk d=>o.fm k d zO,o.pn,o.pr,o.mem,o.lq⟩
theorem ep.PK(h:ep D s w t)(E:Turn 9 w t w' t'){x:Mg}(hx:xf D.g D.sQ D.pr x w' t'):ep D { s with mg:=x } w' t':=by
 have o:=h.others zO E;exact⟨o.ext,o.old,o.ki,o.pl zO,o.src zO,o.iG zO,o.buf zO,o.q zO,o.rg zO,o.out zO,o.rd zO,hx,o.em zO,o.len,λk d=>o.fm k d zO,o.pn,o.pr,o.mem,o.lq⟩
theorem ep.S6(h:ep D s w t)(E:Turn 10 w t w' t'){x:Nat}(hx:xg D.g D.xe D.mem x w' t'):ep D { s with em:=x } w' t':=by
 have o:=h.others zO E;exact⟨o.ext,o.old,o.ki,o.pl zO,o.src zO,o.iG zO,o.buf zO,o.q zO,o.rg zO,o.out zO,o.rd zO,o.mg zO,hx,o.len,λk d=>o.fm k d zO,o.pn,o.pr,o.mem,o.lq⟩
theorem ep.PL(h:ep D s w t){i:Nat}(hi:i<D.c.workers)(E:Turn (11+i) w t w' t'){x:Wk}(hx:qB (11+i) D.g (D.jT i) (D.lq i) x w' t'):ep D { s with fm:=s.fm.set i x } w' t':=by
 have o:=h.others zO E;refine⟨o.ext,o.old,o.ki,o.pl zO,o.src zO,o.iG zO,o.buf zO,o.q zO,o.rg zO,o.out zO,o.rd zO,o.mg zO,o.em zO,by simpa using o.len,λk d=>?_,o.pn,o.pr,o.mem,o.lq⟩;by_cases e:k=i
 ·subst e;simp only[bk];rw[bw (by rw[o.len];exact d)];exact hx
 ·simp only[bk];rw[bx (bl e),←bk];exact o.fm k d zO
theorem ep.extend(h:ep D s w t)(d:Ext w w'):ep D s w' t:=by
 have o:=h.others (j:=1) zO (Turn.ext 1 t d);exact⟨o.ext,o.old,o.ki,(xi.keeps _ _).ext h.pl d,o.src zO,o.iG zO,o.buf zO,o.q zO,o.rg zO,o.out zO,o.rd zO,o.mg zO,o.em zO,o.len,λk E=>o.fm k E zO,o.pn,o.pr,o.mem,o.lq⟩
theorem ep.QZ(h:ep D s w t):iM D.M D.gm w:=h.ki.ext h.ext
end
section
section
attribute [local irreducible] ew ed
theorem Ext.row{w d:ba}{g:Nat}(h:Ext w d)(E:w.heap.size≤g)(cs:AV):Ext w (d.setRow g cs):=
 ⟨h.os,h.tape,h.output,by simpa using h.size,λk s=>(setRow_other d g k _ zO).trans (h.block k s)⟩
theorem Ext.fS{w d:ba}{g:Nat}(h:Ext w d)(E:w.heap.size≤g)(i:Nat)(u:bg):Ext w (d.setCell ⟨g,i,a7⟩ u):=
 ⟨h.os,h.tape,h.output,by simpa[World.setCell]using h.size,λk s=>(Below.heap_setCell d ⟨g,i,a7⟩ u k zG).trans (h.block k s)⟩
theorem Box.two{w:ba}{g:Nat}{T:TypeId}{d y0:bg}(h:Box w g T #[d,y0])(x y:bg):Box ((w.setCell ⟨g,0,a7⟩ x).setCell ⟨g,1,a7⟩ y) g T #[x,y]:=(h.eL 0 x).eL 1 y
section
variable {w:ba} {b:Nat}
theorem nA{p:Int}(h1:w.cell? ⟨b,1,a7⟩=a8 (.int .u8 p)):bc bj 338 #[gP b] w (eB w (eC (.int .u8 p))):=by
 go_enter func338,ntmps338;go_wp2;go_ret;exact eB.mk (Ext.rf _) rfl
theorem kV{p q:Int}(h1:w.cell? ⟨b,1,a7⟩=a8 (.int .u8 p))(H:w.cell? ⟨b,2,a7⟩=a8 (.int .u8 q)):bc bj 337 #[gP b] w (eB w (eC (.bool (decide (p=q))))):=by
 by_cases d:p=q
 ·rw[decide_eq_true d];go_enter func337,ntmps337;go_upto_region 1 with(fail)
  refine vQ 9 (.g ?_);refine ed.Qi _ _ _ _ rfl wA oA oA d (.g ?_);intro E s;go_wp2;go_ret;exact eB.mk ((eh w).tr s) rfl
 ·rw[decide_eq_false d];go_enter func337,ntmps337;go_upto_region 1 with(fail)
  refine vQ 9 (.g ?_);refine ed.zQ _ _ _ _ rfl wA oA oA d (.g ?_);intro E s;go_wp2;go_ret;exact eB.mk ((eh w).tr s) rfl
end
structure xk(w:ba)(b g mp:Nat)(p q:Int)(cn:Bool)(sc sd:bg)(tab:Tab):Prop where
 lb:b<w.heap.size
 c0:w.cell? ⟨b,0,a7⟩=a8 (gP g)
 c1:w.cell? ⟨b,1,a7⟩=a8 (.int .u8 p)
 c2:w.cell? ⟨b,2,a7⟩=a8 (.int .u8 q)
 c3:w.cell? ⟨b,3,a7⟩=a8 (.map (a8 mp))
 c4:w.cell? ⟨b,4,a7⟩=a8 sc
 c5:w.cell? ⟨b,5,a7⟩=a8 sd
 lg:g<w.heap.size
 cg:w.cell? ⟨g,19,a7⟩=a8 (.bool cn)
 mb:fQ w mp Bv mW tab
theorem xk.ext{w E:ba}{b g O:Nat}{p q:Int}{T:Bool}{J H:bg}{s:Tab}(h:xk w b g O p q T J H s)(d:Ext w E):xk E b g O p q T J H s:=
  ⟨bn h.lb d.size,(d.cell (p:=⟨b,0,a7⟩) h.lb).trans h.c0,(d.cell (p:=⟨b,1,a7⟩) h.lb).trans h.c1,(d.cell (p:=⟨b,2,a7⟩) h.lb).trans h.c2,(d.cell (p:=⟨b,3,a7⟩) h.lb).trans h.c3,(d.cell (p:=⟨b,4,a7⟩) h.lb).trans h.c4,(d.cell (p:=⟨b,5,a7⟩) h.lb).trans h.c5,
   bn h.lg d.size,(d.cell (p:=⟨g,19,a7⟩) h.lg).trans h.cg,h.mb.ext d⟩
def iN(p q:Int)(H:Bool)(E s:bg)(d:Tab):(bg×bg)×Bool:=
 if p=q then((.nilFunc,.nilFunc),bb)else if H then((E,s),bf)else((jx d p).getD (.nilFunc,.nilFunc),(jx d p).isSome)
theorem Tryz.Q0(w:ba):(zeroValue 260).run bj w=.ok (.agg #[.nilFunc,.nilFunc]) w:=by rfl
theorem Tryz.AM:(prog.info? 260).map (·.size)=a8 2:=by rfl
theorem pS:vm bj 5 Bv:=K2 (q:=.u8) underlying5
section
variable {w:ba} {b g mp:Nat} {p q:Int} {cn:Bool} {sc sd:bg} {tab:Tab}
def lI(v:bg):Prop:=∃f a c,v=.func f a c
theorem JT(tab:Tab)(p:Int):((jx tab p).map mW).getD (.agg #[.nilFunc,.nilFunc])=mW ((jx tab p).getD (.nilFunc,.nilFunc)):=by
 cases jx tab p<;>rfl
theorem rF(h:xk w b g mp p q cn sc sd tab)(am:lI sc)(al:lI sd)(ak:∀x∈tab,lI x.2.1∧lI x.2.2) :
  bc bj 341 #[gP b] w (eB w (eR [eC (mW (iN p q cn sc sd tab).1),eC (.bool (iN p q cn sc sd tab).2)])):=by
 have T:=ek w (.cells #[.nilFunc,.nilFunc] 260);have U:=Box.new w 260 #[.nilFunc,.nilFunc];have h1:=h.ext T;have hO:=hide (kV h1.c1 h1.c2);have H:=hide h;by_cases Y:p=q
 ·have en:=hide (show iN p q cn sc sd tab=((.nilFunc,.nilFunc),bb)from if_pos Y);rw[decide_eq_true Y]at hO;rw[en.out];clear h h1 Y;go_enter func341,ntmps341;go_wp2_with fail;refine hO.out.mono ?_;rintro _ w2 ⟨_,rfl,s,rfl⟩;have d:=U.ext s;have aj:=d.two .nilFunc .nilFunc;have hF:=hide (((T.tr s).fS (bd _) 0 .nilFunc).fS (bd _) 1 .nilFunc);have aE:=d.at_ 0 rfl;have aD:=d.at_ 1 rfl;have aC:=d.frozen 0;have aB:=d.frozen 1;clear T s hO U;go_wp2;refine bm (gI bt _ _ w.heap.size 260 _ _ rfl aj bq rfl Tryz.AM (x:=.bool bb) rfl) rfl ?_;exact eB.mk hF.out (eR.two rfl rfl)
 ·rw[decide_eq_false Y]at hO;cases cn with
  |true=>
   have en:=hide (show iN p q bf sc sd tab=((sc,sd),bf) by simp_all[iN]);rw[en.out];clear en;obtain⟨f1,a1,d1,rfl⟩:=am;obtain⟨f2,a2,d2,rfl⟩:=al;clear h h1 Y;go_enter func341,ntmps341;go_wp2_with fail;refine hO.out.mono ?_;rintro _ w2 ⟨_,rfl,s,rfl⟩;have d:=U.ext s;have aj:=d.two (.func f1 a1 d1) (.func f2 a2 d2);have hF:=hide (((T.tr s).fS (bd _) 0 (.func f1 a1 d1)).fS (bd _) 1 (.func f2 a2 d2));have aE:=d.at_ 0 rfl;have aD:=d.at_ 1 rfl;have aC:=d.frozen 0;have aB:=d.frozen 1;obtain⟨-,ao,-,-,-,aL,aK,-,an,-⟩:=H.out.ext (T.tr s);clear T s hO U H d;go_wp2;refine bm (gI bt _ _ w.heap.size 260 _ _ rfl aj bq rfl Tryz.AM (x:=.bool bf) rfl) rfl ?_;exact eB.mk hF.out (eR.two rfl rfl)
  |false=>
   have ag:=hide (JT tab p);have en:=hide (show iN p q bb sc sd tab=((jx tab p).getD (.nilFunc,.nilFunc),(jx tab p).isSome) by simp_all[iN]);rw[en.out];clear en;have aF:((jx tab p).getD (.nilFunc,.nilFunc)=(.nilFunc,.nilFunc)∧(jx tab p).isSome=bb)∨∃f1 a1 d1 f2 a2 d2,(jx tab p).getD (.nilFunc,.nilFunc)=(.func f1 a1 d1,.func f2 a2 d2)∧(jx tab p).isSome=true:=by
    cases hq:jx tab p with
    |none=>grind
    |some x=>
     unfold jx at hq;obtain⟨y,ar,aJ⟩:=Option.map_eq_some_iff.1 hq;obtain⟨⟨f1,a1,d1,e1⟩,⟨f2,a2,d2,e2⟩⟩:=ak y (List.mem_of_find?_eq_some ar);grind
   have aq:=ag.out;generalize aI:(jx tab p).getD (.nilFunc,.nilFunc)=xx at*;generalize ap:(jx tab p).isSome=yy at*;have af:∀(W:ba),fQ W mp Bv mW tab→(Instr.lookup 258 (.map (a8 mp)) (.int .u8 p) bf).run bj W=.ok (.tuple #[.agg #[xx.1,xx.2],.bool yy]) W:=λW hm=>by
    show(Instr.lookup 258 (.map (a8 mp)) (Bv p) bf).run bj W=_;rw[hm.mE pS underlying258 (Tryz.Q0 W) p,aq,ap];rfl
   clear ag aq aI ap ak am al;rcases aF with⟨rfl,rfl⟩|⟨f1,a1,d1,f2,a2,d2,rfl,rfl⟩
   ·clear h h1 Y;go_enter func341,ntmps341;go_wp2_with fail;refine hO.out.mono ?_;rintro _ w2 ⟨_,rfl,s,rfl⟩;have d:=U.ext s;have HF:=hide (T.tr s);obtain⟨-,ao,aG,-,aH,-,-,-,an,ab⟩:=H.out.ext (T.tr s);clear T s hO U H;go_upto_region 5 with(fail)
    refine fK 13 [11] zR zK (λ_ _ _ _ _ h=>h) (.g ?_);refine ed.iu (r:=.tuple #[.agg #[.nilFunc,.nilFunc],.bool bb]) ((bp 24)) ((bp 28)) wA oA oA (λρ w1 hE h1 h2=>by unfold execOp;simp only[h1,h2,af w1 (ab.ext ((eh _).tr hE)),Sem.run_bind,Sem.run_pure,bu]) (.g ?_);refine .rd 9 20 0 ?_;refine .rd 9 20 1 ?_;refine ed.alloc (z:=.agg #[.nilFunc,.nilFunc]) 260 rfl wA zR zR (.g ?_);intro W5 J;refine .any λah O=>?_;refine .e ?_;obtain⟨g5,rfl,hg,hb,-⟩:=O;refine eK rfl _ _ _ rfl rfl g5 _ rfl rfl _ _ hb zR rfl rfl ?_;intro V5 ae _ T;have J:=T _ J hg;clear T hb hg;have ad:=HF.out.tr ((eh w2).tr J);have E:=d.ext ((eh w2).tr J);have aa:=ae;clear J d HF af ab ae;go_upto_region 6 with(fail)
    have av:=aa.at_ 0 rfl;have au:=aa.at_ 1 rfl;have aA:=E.at_ 0 rfl;have az:=E.at_ 1 rfl;have ay:=E.frozen 0;have aw:=E.frozen 1;have ai:=E.two (.nilFunc) (.nilFunc);have hF:=hide ((ad.fS (bd _) 0 (.nilFunc)).fS (bd _) 1 (.nilFunc));clear ad E aa;go_wp2;refine bm (gI bt _ _ w.heap.size 260 _ _ rfl ai bq rfl Tryz.AM (x:=.bool bb) rfl) rfl ?_;exact eB.mk hF.out (eR.two rfl rfl)
   ·clear h h1 Y;go_enter func341,ntmps341;go_wp2_with fail;refine hO.out.mono ?_;rintro _ w2 ⟨_,rfl,s,rfl⟩;have d:=U.ext s;have HF:=hide (T.tr s);obtain⟨-,ao,aG,-,aH,-,-,-,an,ab⟩:=H.out.ext (T.tr s);clear T s hO U H;go_upto_region 5 with(fail)
    refine fK 13 [11] zR zK (λ_ _ _ _ _ h=>h) (.g ?_);refine ed.iu (r:=.tuple #[.agg #[.func f1 a1 d1,.func f2 a2 d2],.bool bf]) ((bp 24)) ((bp 28)) wA oA oA (λρ w1 hE h1 h2=>by unfold execOp;simp only[h1,h2,af w1 (ab.ext ((eh _).tr hE)),Sem.run_bind,Sem.run_pure,bu]) (.g ?_);refine .rd 9 20 0 ?_;refine .rd 9 20 1 ?_;refine ed.alloc (z:=.agg #[.nilFunc,.nilFunc]) 260 rfl wA zR zR (.g ?_);intro W5 J;refine .any λah O=>?_;refine .e ?_;obtain⟨g5,rfl,hg,hb,-⟩:=O;refine eK rfl _ _ _ rfl rfl g5 _ rfl rfl _ _ hb zR rfl rfl ?_;intro V5 ae _ T;have J:=T _ J hg;clear T hb hg;have ad:=HF.out.tr ((eh w2).tr J);have E:=d.ext ((eh w2).tr J);have aa:=ae;clear J d HF af ab ae;go_upto_region 6 with(fail)
    have av:=aa.at_ 0 rfl;have au:=aa.at_ 1 rfl;have aA:=E.at_ 0 rfl;have az:=E.at_ 1 rfl;have ay:=E.frozen 0;have aw:=E.frozen 1;have ai:=E.two (.func f1 a1 d1) (.func f2 a2 d2);have hF:=hide ((ad.fS (bd _) 0 (.func f1 a1 d1)).fS (bd _) 1 (.func f2 a2 d2));clear ad E aa;go_wp2;refine bm (gI bt _ _ w.heap.size 260 _ _ rfl ai bq rfl Tryz.AM (x:=.bool bf) rfl) rfl ?_;exact eB.mk hF.out (eR.two rfl rfl)
end
end
end
section
variable {w:ba} {b g mp:Nat} {p q:Int} {cn:Bool} {sc sd:bg} {tab:Tab}
theorem l9(h:xk w b g mp p q cn sc sd tab)(J:lI sc)(H:lI sd)(E:∀x∈tab,lI x.2.1∧lI x.2.2)(O:(iN p q cn sc sd tab).2=bb) :
  bc bj 339 #[gP b] w (eB w (eC (.bool bb))):=by
 have T:=hide (rF h J H E);have d:iN p q cn sc sd tab=((.nilFunc,.nilFunc),bb):=by
  unfold iN at O ⊢;split
  ·rfl
  ·rename_i h1;rw[if_neg h1]at O;cases cn
   ·simp_all
   grind
 rw[d]at T;simp only[mW]at T;clear h d O;go_enter func339,ntmps339;go_wp2_with fail;refine T.out.mono ?_;rintro _ U ⟨_,rfl,s,Y⟩;obtain⟨_,_,rfl,rfl,rfl⟩:=eR.inv2 Y;have hE:=hide (s.tr (ek U (.cells #[.nilFunc,.nilFunc] 260)));clear s;go_wp2;go_ret;exact eB.mk hE.out rfl
theorem fM(h:xk w b g mp p q cn sc sd tab)(T:lI sc)(O:lI sd)(J:∀x∈tab,lI x.2.1∧lI x.2.2)(f:Nat)(a:AV)(f2:Fn)(a2 c2:AV)(Y:iN p q cn sc sd tab=((.func (.func f) a #[],.func f2 a2 c2),bf))(eg:∀d w,(callFunc f d).run bj w=.ok (.enter f d) w)(r:Bool)
  (hf:∀W,Ext w W→bc bj f a W (eB W (eC (.bool r)))) :
  bc bj 339 #[gP b] w (eB w (eC (.bool r))):=by
 have H:=hide (rF h T O J);rw[Y]at H;simp only[mW]at H;clear h Y;go_enter func339,ntmps339;go_wp2_with fail;refine H.out.mono ?_;rintro _ w2 ⟨_,rfl,E,hv⟩;obtain⟨_,_,rfl,rfl,rfl⟩:=eR.inv2 hv;have U:=hide (E.tr (ek w2 (.cells #[.func (.func f) a #[],.func f2 a2 c2] 260)));have hc:=hide (hf _ U.out);clear E H;go_wp2_with fail;refine hc.out.mono ?_;rintro _ w3 ⟨_,rfl,s,rfl⟩;have s:=hide (U.out.tr s);clear hc U;go_wp2;go_ret;exact eB.mk s.out rfl
theorem fP(h:xk w b g mp p q cn sc sd tab)(T:lI sc)(O:lI sd)(J:∀x∈tab,lI x.2.1∧lI x.2.2)(f:Nat)(a:AV)(f2:Fn)(a2 c2:AV)(U:iN p q cn sc sd tab=((.func f2 a2 c2,.func (.func f) a #[]),bf))(eg:∀d w,(callFunc f d).run bj w=.ok (.enter f d) w)(R:ba→Prop)
  (hf:∀W,Ext w W→bc bj f a W λe H=>(∃v,e=.returned v)∧R H) :
  bc bj 340 #[gP b] w λe H=>(∃v,e=.returned v)∧R H:=by
 have E:=hide (rF h T O J);rw[U]at E;simp only[mW]at E;clear h U;go_enter func340,ntmps340;go_wp2_with fail;refine E.out.mono ?_;rintro _ w2 ⟨_,rfl,s,hv⟩;obtain⟨_,_,rfl,rfl,rfl⟩:=eR.inv2 hv;have hE:=hide (s.tr (ek w2 (.cells #[.func f2 a2 c2,.func (.func f) a #[]] 260)));have Y:=hide (hf _ hE.out);clear s E;go_wp2_with fail;refine Y.out.mono ?_;rintro _ w3 ⟨⟨_,rfl⟩,hR⟩;clear Y hE;go_wp2
 go_end0
 grind
end
structure Moves(w:ba)(t:ez)(w':ba)(t':ez):Prop where
 os:w'.os=w.os
 tape:w'.tape=w.tape
 output:w'.output=w.output
 size:w.heap.size≤w'.heap.size
 block:∀k,k<w.heap.size→(t k=0∨100≤t k)→w'.heap[k]?=w.heap[k]?∧t' k=t k
section
variable {w w' w'':ba} {t t' t'':ez} {j:Nat}
theorem Moves.rf(w:ba)(t:ez):Moves w t w t:=⟨rfl,rfl,rfl,bd _,λ_ _ _=>⟨rfl,rfl⟩⟩
theorem Moves.tr(h:Moves w t w' t')(k:Moves w' t' w'' t''):Moves w t w'' t'':=
 ⟨k.os.trans h.os,k.tape.trans h.tape,k.output.trans h.output,Nat.le_trans h.size k.size,λb d s=>by
  obtain⟨O,J⟩:=h.block b d s;obtain⟨H,E⟩:=k.block b (bn d h.size) zO;grind⟩
theorem Moves.turn(h:Turn j w t w' t')(E:j≠0)(H:j<100):Moves w t w' t':=⟨h.os,h.tape,h.output,h.size,λk d s=>h.block k d zO⟩
theorem Moves.ext(t:ez)(h:Ext w w'):Moves w t w' t:=⟨h.os,h.tape,h.output,h.size,λk d _=>⟨h.block k d,rfl⟩⟩
theorem Moves.and(h:Moves w t w' t')(k:Turn j w' t' w'' t'')(d:j≠0)(s:j<100):Moves w t w'' t'':=h.tr (Moves.turn k d s)
theorem Moves.set(h:Moves w t w' t'){g:Nat}(s:t' g=j)(d:j≠0)(E:j<100)(i:Nat)(u:bg):Moves w t (w'.setCell ⟨g,i,a7⟩ u) t':=h.and (Turn.set s i u) d E
end
def eV(D:PS)(s:St)(w:ba)(t:ez)(d:ba):Prop:=∃E,ep D s d E∧Moves w t d E
section
variable {D:PS} {s:St} {w w':ba} {t t':ez} {j:Nat}
theorem ep.Q1(h:ep D s w t):D.g<w.heap.size:=by obtain⟨H,E,d,-⟩:=h.pl;exact d.lt
theorem ep.p0(h:ep D s w t):w.cell? ⟨D.g,0,a7⟩=a8 (eF D.gm):=by obtain⟨H,E,d,-⟩:=h.pl;exact d.2.at_ 0 rfl
theorem ep.p2(h:ep D s w t):w.cell? ⟨D.g,2,a7⟩=a8 (iV (D.c.block:Int)):=by obtain⟨H,E,d,-⟩:=h.pl;exact d.2.at_ 2 rfl
theorem ep.p6(h:ep D s w t):w.cell? ⟨D.g,6,a7⟩=a8 (iV (D.c.slice:Int)):=by obtain⟨H,E,d,-⟩:=h.pl;exact d.2.at_ 6 rfl
theorem ep.p7(h:ep D s w t):w.cell? ⟨D.g,7,a7⟩=a8 (iV (D.c.kX:Int)):=by obtain⟨H,E,d,-⟩:=h.pl;exact d.2.at_ 7 rfl
theorem ep.p8(h:ep D s w t):w.cell? ⟨D.g,8,a7⟩=a8 (iV ((D.M.long-1:Nat):Int)):=by obtain⟨H,E,d,-⟩:=h.pl;exact d.2.at_ 8 rfl
theorem ep.p9(h:ep D s w t):w.cell? ⟨D.g,9,a7⟩=a8 (eF D.jK):=by obtain⟨H,E,d,-⟩:=h.pl;exact d.2.at_ 9 rfl
theorem ep.p10(h:ep D s w t):w.cell? ⟨D.g,10,a7⟩=a8 (eF D.jL):=by obtain⟨H,E,d,-⟩:=h.pl;exact d.2.at_ 10 rfl
theorem ep.p11(h:ep D s w t):w.cell? ⟨D.g,11,a7⟩=a8 (eF D.jE):=by obtain⟨H,E,d,-⟩:=h.pl;exact d.2.at_ 11 rfl
theorem ep.p12(h:ep D s w t):w.cell? ⟨D.g,12,a7⟩=a8 (eF D.gq):=by obtain⟨H,E,d,-⟩:=h.pl;exact d.2.at_ 12 rfl
theorem ep.p13(h:ep D s w t):w.cell? ⟨D.g,13,a7⟩=a8 (eF D.sP):=by obtain⟨H,E,d,-⟩:=h.pl;exact d.2.at_ 13 rfl
theorem ep.Nu(h:ep D s w t):w.cell? ⟨D.g,14,a7⟩=a8 (eF D.kU):=by obtain⟨H,E,d,-⟩:=h.pl;exact d.2.at_ 14 rfl
theorem ep.S7(h:ep D s w t):∃d,w.cell? ⟨D.g,15,a7⟩=a8 d∧Held (xh D) d w t:=by obtain⟨d,J,H,E,-⟩:=h.pl;exact⟨d,H.2.at_ 15 rfl,E⟩
theorem ep.p16(h:ep D s w t):w.cell? ⟨D.g,16,a7⟩=a8 (iV (s.pl.number:Int)):=by obtain⟨H,E,d,-⟩:=h.pl;exact d.2.at_ 16 rfl
theorem ep.TY(h:ep D s w t):w.cell? ⟨D.g,17,a7⟩=a8 (iV (s.pl.read:Int)):=by obtain⟨H,E,d,-⟩:=h.pl;exact d.2.at_ 17 rfl
theorem ep.PM(h:ep D s w t):w.cell? ⟨D.g,19,a7⟩=a8 (.bool s.pl.cancelled):=by obtain⟨H,E,d,-⟩:=h.pl;exact d.2.at_ 19 rfl
theorem ep.Uw(h:ep D s w t)(i:Nat):w.frozen? ⟨D.g,i,a7⟩=false:=by obtain⟨H,E,d,-⟩:=h.pl;exact d.2.frozen i
theorem ep.ML(h:ep D s w t):t D.g=1:=by obtain⟨H,E,d,-⟩:=h.pl;exact d.1
theorem ep.MM(h:ep D s w t)(k:Nat)(u:bg)(x:Pl)(hx:∀E d,(TX D s.pl E d).setIfInBounds k u=TX D x E d)(O:x.took=s.pl.took):ep D { s with pl:=x } (w.setCell ⟨D.g,k,a7⟩ u) t:=by
 have H:=Turn.set (w:=w) h.ML k u;refine h.PI H ?_;obtain⟨E,d,U,J,T⟩:=h.pl;refine⟨E,d,U.gU k u _ (hx E d),(Held.keeps (og D) 2 _).turn zO zO J H,?_⟩;rw[O];exact T.grown (row:=a8 D.g) (eM (bh _ _) k u) (λq Y e=>by
  grind[eH]) (λ_ _=>rfl)
theorem ep.S8(h:ep D s w t):D.mr<w.heap.size:=by obtain⟨E,d,-⟩:=h.rd;exact d.lt
theorem ep.oV(h:ep D s w t):t D.mr=8:=by obtain⟨E,d,-⟩:=h.rd;exact d.1
theorem ep.rc(h:ep D s w t)(i:Nat)(v:bg)(e:∀d,nth (rdA D.g D.mr D.pn s.rd d).toList i=a8 v):w.cell? ⟨D.mr,i,a7⟩=a8 v:=by obtain⟨d,E,-⟩:=h.rd;exact E.2.at_ i (e d)
theorem ep.DY(h:ep D s w t)(i:Nat):w.frozen? ⟨D.mr,i,a7⟩=false:=by obtain⟨E,d,-⟩:=h.rd;exact d.2.frozen i
theorem ep.G1(h:ep D s w t):∃d,w.cell? ⟨D.mr,11,a7⟩=a8 d∧eO 8 5 1 d s.rd.tail.length (s.rd.tail.map ff) w t:=by obtain⟨d,H,E⟩:=h.rd;exact⟨d,H.2.at_ 11 rfl,E⟩
theorem ep.lU(h:ep D s w t)(k:Nat)(u:bg)(x:Rd)(hx:∀d,(rdA D.g D.mr D.pn s.rd d).setIfInBounds k u=rdA D.g D.mr D.pn x d)(E:x.tail=s.rd.tail):ep D { s with rd:=x } (w.setCell ⟨D.mr,k,a7⟩ u) t:=by
 have O:=Turn.set (w:=w) h.oV k u;refine h.PJ O ?_;obtain⟨d,J,H⟩:=h.rd;refine⟨d,J.gU k u _ (hx d),?_⟩;rw[E];exact H.grown (row:=a8 D.mr) (eM (bh _ _) k u) (λq T e=>by
  grind[eH]) (λ_ _=>rfl)
theorem ep.tD(h:ep D s w t):t D.sQ=9:=by obtain⟨E,d,-⟩:=h.mg;exact d.1
theorem ep.mc(h:ep D s w t)(i:Nat)(v:bg)(e:∀d,nth (QW D.g D.sQ D.pr s.mg d).toList i=a8 v):w.cell? ⟨D.sQ,i,a7⟩=a8 v:=by obtain⟨d,E,-⟩:=h.mg;exact E.2.at_ i (e d)
theorem ep.PN(h:ep D s w t)(i:Nat):w.frozen? ⟨D.sQ,i,a7⟩=false:=by obtain⟨E,d,-⟩:=h.mg;exact d.2.frozen i
theorem ep.PO(h:ep D s w t):∃d,w.cell? ⟨D.sQ,6,a7⟩=a8 d∧Held (eP s.mg.hits) d w t:=by obtain⟨E,J,H⟩:=h.mg;exact⟨E,J.2.at_ 6 rfl,H⟩
theorem ep.G2(h:ep D s w t)(k:Nat)(u:bg)(x:Mg)(hx:∀d,(QW D.g D.sQ D.pr s.mg d).setIfInBounds k u=QW D.g D.sQ D.pr x d)(H:x.hits=s.mg.hits):ep D { s with mg:=x } (w.setCell ⟨D.sQ,k,a7⟩ u) t:=by
 have E:=Turn.set (w:=w) h.tD k u;refine h.PK E ?_;obtain⟨d,O,J⟩:=h.mg;refine⟨d,O.gU k u _ (hx d),?_⟩;rw[H];exact(Held.keeps (gg _) 2 _).turn zO zO J E
theorem ep.rG(h:ep D s w t)(u:bg)(l:Hits)(hu:Held (eP l) u w t):ep D { s with mg:=⟨s.mg.ph,l⟩ } (w.setCell ⟨D.sQ,6,a7⟩ u) t:=by
 have d:=Turn.set (w:=w) h.tD 6 u;refine h.PK d ?_;obtain⟨H,E,J⟩:=h.mg;exact⟨u,E.gU 6 u _ rfl,(Held.keeps (gg _) 2 _).turn zO zO hu d⟩
theorem ep.Q2(h:ep D s w t):t D.xe=10:=h.em.1
theorem ep.ec(h:ep D s w t)(i:Nat)(v:bg)(e:nth (S5 D.g D.xe D.mem s.em).toList i=a8 v):w.cell? ⟨D.xe,i,a7⟩=a8 v:=h.em.2.at_ i e
theorem ep.V9(h:ep D s w t)(i:Nat):w.frozen? ⟨D.xe,i,a7⟩=false:=h.em.2.frozen i
theorem ep.PQ(h:ep D s w t)(x:Nat):ep D { s with em:=x } (w.setCell ⟨D.xe,1,a7⟩ (.int .u8 (x:Int))) t:=
 h.S6 (Turn.set h.Q2 1 _) (h.em.gU 1 _ _ rfl)
section
variable {i:Nat} (hi:i<D.c.workers)
include hi
theorem ep.S9(h:ep D s w t):t (D.jT i)=11+i:=by obtain⟨H,E,d,-⟩:=h.fm i hi;exact d.1
theorem ep.Xp(h:ep D s w t)(k:Nat):w.frozen? ⟨D.jT i,k,a7⟩=false:=by obtain⟨H,E,d,-⟩:=h.fm i hi;exact d.2.frozen k
theorem ep.wc(h:ep D s w t){x:Wk}(hx:s.fm.getD i Wk.fresh=x)(k:Nat)(v:bg)(e:∀E d,nth (xO D.g (D.jT i) (D.lq i) x E d).toList k=a8 v):w.cell? ⟨D.jT i,k,a7⟩=a8 v:=by
 subst hx;obtain⟨E,d,H,-⟩:=h.fm i hi;exact H.2.at_ k (e E d)
theorem ep.Ta(h:ep D s w t){x:Wk}(hx:s.fm.getD i Wk.fresh=x)(k:Nat)(u:bg)(y:Wk)(J:∀E d,(xO D.g (D.jT i) (D.lq i) x E d).setIfInBounds k u=xO D.g (D.jT i) (D.lq i) y E d)(Y:y.pc.blk.data=x.pc.blk.data)(U:y.hits=x.hits) :
  ep D { s with fm:=s.fm.set i y } (w.setCell ⟨D.jT i,k,a7⟩ u) t:=by
 subst hx;have H:=Turn.set (w:=w) (h.S9 hi) k u;refine h.PL hi H ?_;obtain⟨E,d,hb,O,T⟩:=h.fm i hi;refine⟨E,d,hb.gU k u _ (J E d),?_,?_⟩
 ·rw[Y];exact(Held.keeps (eX _) 1 _).turn zO zO O H
 ·rw[U];exact T.grown (row:=a8 (D.jT i)) (eM (bh _ _) k u) (λq hq e=>by
   grind[eH]) (λ_ _=>rfl)
end
end
section
section
attribute [local irreducible] ew ed
section
variable {D:PS} {s:St} {w w':ba} {t t':ez}
theorem kW(w:ba):bc bj 131 #[] w (eB w (eC (.bool bf))):=by
 go_enter func131,ntmps131;go_wp2;go_ret;exact eB.mk (Ext.rf _) rfl
theorem xl(h:ep D s w t)(hn:s.pl.number≤1000000000)(hx:s.rg.next≤1000000000):bc bj 129 #[gP D.mr] w (eB w (eC (.bool (s.rg.admits s.pl.number)))):=by
 have T:∀W,Ext w W→bc bj 187 #[gP D.sP,iV (s.pl.number:Int)] W (eB W (eC (.bool (s.rg.admits s.pl.number)))):=λW E=>sM ((h.extend E).rg) _ zO zO;have r0:=h.rc 0 _ (λ_=>rfl);have J:=h.p13;have H:=h.p16;clear h;go_enter func129,ntmps129;go_upto_region 1 with(fail)
 refine vQ 17 (.g ?_);refine ed.call2 187 _ _ _ rfl (enters_of func187 zR rfl) wA oA oA (λ_ _ W O Y U=>by cases Y;cases U;exact T W ((eh _).tr O)) (.g ?_);intro W1 d;have E:=hide ((eh w).tr d);go_wp2;go_ret;exact eB.mk E.out rfl
theorem FD(h:ep D s w t):bc bj 133 #[gP D.mr] w (eB w (eC (.bool (decide (s.q.items.length<D.c.queue))))):=by
 have H:=hide (Fk h.q);have O:=h.rc 0 _ (λ_=>rfl);have E:=h.p12;clear h;generalize s.q.items.length=n at*;rw[show decide (n<D.c.queue)=decide (0<D.c.queue-n)from decide_eq_decide.2 zO];go_enter func133,ntmps133;go_wp2_with fail;refine H.out.mono ?_;rintro _ J ⟨_,rfl,d,rfl⟩;go_wp2;go_ret;exact eB.mk d rfl
theorem rH(h:ep D s w t)(O:s.q.closed=bb):bc bj 135 #[gP D.mr] w λe w'=>(∃v,e=.returned v)∧eV D s.iH w t w':=by
 have T:=hide (C5 zO h.q O);have r0:=h.rc 0 _ (λ_=>rfl);have Y:=h.p12;have H:=hide h;clear h O;go_enter func135,ntmps135;go_wp2_with fail;refine T.out.mono ?_;rintro _ w2 ⟨⟨_,rfl⟩,J,E⟩;have d:=H.out.MK E J;have r1:=d.rc 1 _ (λ_=>rfl);have f1:=d.DY 1;have U:=d.lU 1 (.int .u8 5) { s.rd with ph:=5 } (λ_=>rfl) rfl;have hF:=hide (show eV D s.iH w t _ from⟨t,U,(Moves.turn E zO zO).set d.oV zO zO _ _⟩);clear T H J E d U;go_wp2
 go_end0
 exact⟨⟨_,rfl⟩,hF.out⟩
theorem xm(h:ep D s w t)(Y:s.rd.buf<D.c.ring)(hu:s.buf.used.getD s.rd.buf bb=bf)(hl:s.buf.free.length<16):bc bj 191 #[gP D.mr] w λe w'=>(∃v,e=.returned v)∧eV D { s with buf:=s.buf.give s.rd.buf,rd:={ s.rd with holds:=bb } } w t w':=by
 have hA:=hide (λW (d:Ext w W)=>tC zO (h.extend d).buf s.rd.buf Y hu hl);have r0:=h.rc 0 _ (λ_=>rfl);have r7:=h.rc 7 _ (λ_=>rfl);have aa:=h.p11;have H:=hide h;clear h Y hu hl;go_enter func191,ntmps191;go_upto_region 0 with(fail)
 refine vQ 12 (.g ?_);intro W0 E;have d:=(eh w).tr E;have J:=hide (hA.out W0 d);have h1:=H.out.extend d;have hM:=Moves.ext t d;clear hA H d E;go_wp2_with fail;refine J.out.mono ?_;rintro _ w2 ⟨⟨_,rfl⟩,t2,U,T⟩;have O:=h1.oU T U;have r1:=O.rc 6 _ (λ_=>rfl);have f1:=O.DY 6;have h3:=O.lU 6 (.bool bb) { s.rd with holds:=bb } (λ_=>rfl) rfl;have hF:=hide (show eV D { s with buf:=s.buf.give s.rd.buf,rd:={ s.rd with holds:=bb } } w t _ from⟨t2,h3,(hM.and T zO zO).set O.oV zO zO _ _⟩);clear J U T O h3 h1 hM;go_wp2
 go_end0
 exact⟨⟨_,rfl⟩,hF.out⟩
end
end
end
section
section
variable {D:PS} {s:St} {w w':ba} {t t':ez}
attribute [local irreducible] ew ed in
theorem FE(h:ep D s w t)(l:List Nat)(n:Nat)(ag:s.buf.free=l++[n])(hn:n<D.c.ring)(ad:D.c.block+(D.M.long-1)≤1000)(ab:s.rd.tail.length≤D.c.block+(D.M.long-1)) :
  bc bj 130 #[gP D.mr] w λe w'=>(∃v,e=.returned v)∧eV D s.lL w t w':=by
 have hA:=hide (Jz zO h.buf l n ag hn);have af:s.buf.used.length=D.c.ring:=by
  obtain⟨gu,gd,vf,av,-,-,-,-,-,h1,-⟩:=h.buf;exact h1
 have aa:=hide (show(s.buf.used.set n bf).getD n bb=bf by grind);have T:=hide (show((s.buf.data.set n []).getD n []).length=0 by
  grind)
 have ae:=hide (show s.lL={ s with buf:=Buf.put ⟨l,s.buf.used.set n bf,s.buf.data.set n []⟩ n s.rd.tail,rd:={ s.rd with ph:=2,holds:=bf,buf:=n,eZ:=s.rd.tail.length,own:=0,ahead:=s.pl.read } } by
  unfold St.lL Buf.take;grind)
 rw[ae.out];have r0:=h.rc 0 _ (λ_=>rfl);have Y:=h.p11;have H:=hide h;have Hn:=hide (And.intro hn (And.intro ad ab));clear h ag ae af hn ad ab;go_enter func130,ntmps130;go_wp2_with fail;refine hA.out.mono ?_;rintro _ w2 ⟨rfl,hq,hT⟩;have h2:=H.out.oU hT hq;have hM:=Moves.turn hT zO zO;have f7:=h2.DY 7;have c7:=h2.rc 7 _ (λ_=>rfl);have h3:=h2.lU 7 (iV n) { s.rd with buf:=n } (λ_=>rfl) rfl;have hM:=hM.set h2.oV zO zO 7 (iV n);have f6:=h3.DY 6;have c6:=h3.rc 6 _ (λ_=>rfl);have h4:=hide (h3.lU 6 (.bool bf) { s.rd with holds:=bf,buf:=n } (λ_=>rfl) rfl);have hM:=hide (hM.set h3.oV zO zO 6 (.bool bf));clear hA hq hT h2 h3 H;go_upto_region 2 with(fail)
 generalize((w2.setCell ⟨D.mr,7,a7⟩ (iV n)).setCell ⟨D.mr,6,a7⟩ (.bool bf))=w3 at*;have J:=h4.out;clear r0 Y f7 c7 f6 c6;have Y:=J.p11;have r7:=J.rc 7 _ (λ_=>rfl);obtain⟨vt,E,hv⟩:=J.G1;clear J hv;refine vQ 12 (.g ?_);intro W2 ap;have U:=(eh w3).tr ap;have J:=h4.out.extend U;have an:=hM.out.tr (Moves.ext t U);obtain⟨ar,O,hv⟩:=J.G1;have e1:=(U.cell (p:=⟨D.mr,11,a7⟩) h4.out.S8).trans E;rw[e1]at O;cases O;have hA:=hide (C8 zO J.buf n Hn.out.1 aa.out s.rd.tail vt hv.bytes Hn.out.2.1 (by rw[T.out,Nat.zero_add];exact Hn.out.2.2));have H:=hide J;clear U ap h4 hM J hv e1 E r7 Y Hn aa T;go_wp2_with fail;refine hA.out.mono ?_;rintro _ w4 ⟨⟨_,rfl⟩,t4,hq,hT⟩;have h6:=H.out.oU hT hq;have am:=an.and hT zO zO;have H6:=hide h6;have HM:=hide am;have au:=h6.TY;obtain⟨ar,E,hv⟩:=h6.G1;obtain⟨A,c,rfl⟩:=hv.form;clear hA hq hT h6 am hv H an;go_upto_region 3 with(fail)
 refine fK 12 [1,2] zR zK (λ_ _ _ _ _ h=>h) (.g ?_);intro W3 ao;have U:=(eh w4).tr ao;have h7:=H6.out.extend U;have al:=HM.out.tr (Moves.ext t4 U);have f8:=h7.DY 8;have c8:=h7.rc 8 _ (λ_=>rfl);have h8:=h7.lU 8 (iV (s.rd.tail.length:Int)) { s.rd with holds:=bf,buf:=n,eZ:=s.rd.tail.length } (λ_=>rfl) rfl;have ak:=al.set h7.oV zO zO 8 (iV (s.rd.tail.length:Int));have f9:=h8.DY 9;have c9:=h8.rc 9 _ (λ_=>rfl);have h9:=h8.lU 9 (iV 0) { s.rd with holds:=bf,buf:=n,eZ:=s.rd.tail.length,own:=0 } (λ_=>rfl) rfl;have aj:=ak.set h8.oV zO zO 9 (iV 0);have aw:=h9.DY 10;have ay:=h9.rc 10 _ (λ_=>rfl);have d:=h9.lU 10 (iV (s.pl.read:Int)) { s.rd with holds:=bf,buf:=n,eZ:=s.rd.tail.length,own:=0,ahead:=s.pl.read } (λ_=>rfl) rfl;have ai:=aj.set h9.oV zO zO 10 (iV (s.pl.read:Int));have f1:=d.DY 1;have c1:=d.rc 1 _ (λ_=>rfl);have aq:=d.lU 1 (.int .u8 2) { s.rd with ph:=2,holds:=bf,buf:=n,eZ:=s.rd.tail.length,own:=0,ahead:=s.pl.read } (λ_=>rfl) rfl;have ah:=ai.set d.oV zO zO 1 (.int .u8 2);have hF:=hide (show eV D { s with buf:=Buf.put ⟨l,s.buf.used.set n bf,s.buf.data.set n []⟩ n s.rd.tail,rd:={ s.rd with ph:=2,holds:=bf,buf:=n,eZ:=s.rd.tail.length,own:=0,ahead:=s.pl.read } } w t _ from⟨t4,aq,ah⟩);clear h7 h8 h9 d aq al ak aj ai ah H6 HM U ao E au;go_wp2
 go_end0
 exact⟨⟨_,rfl⟩,hF.out⟩
theorem AO(h:ep D s w t)(Y:s.q.closed=bb)(hh:s.rd.holds=bf→s.rd.buf<D.c.ring∧s.buf.used.getD s.rd.buf bb=bf∧s.buf.free.length<16) :
  bc bj 136 #[gP D.mr] w λe w'=>(∃v,e=.returned v)∧eV D s.ix w t w':=by
 have r6:=h.rc 6 _ (λ_=>rfl);cases E:s.rd.holds with
 |false=>
  rw[E]at r6;have d:=hide (show s.ix=s.iH by grind[St.ix]);rw[d.out];have J:=hide (rH h Y);clear h Y hh E d;go_enter func136,ntmps136;go_wp2_with fail;refine J.out.mono ?_;rintro _ w2 ⟨⟨_,rfl⟩,hP⟩;have hP:=hide hP;clear J;go_wp2
  go_end0
  grind
 |true=>
  rw[E]at r6;have d:=hide (show s.ix=({ s with buf:=s.buf.give s.rd.buf,rd:={ s.rd with holds:=bb } }:St).iH by grind[St.ix]);rw[d.out];obtain⟨h1,U,T⟩:=hh E;have J:=hide (xm h h1 U T);have Ho:=hide Y;clear h Y hh E d h1 U T;go_enter func136,ntmps136;go_wp2_with fail;refine J.out.mono ?_;rintro _ w2 ⟨⟨_,rfl⟩,⟨t2,U,hM⟩⟩;have H:=hide (rH U Ho.out);have hM:=hide hM;clear J U;go_wp2_with fail;refine H.out.mono ?_;rintro _ w3 ⟨⟨_,rfl⟩,⟨t3,T,O⟩⟩;have hP:=hide (show eV D ({ s with buf:=s.buf.give s.rd.buf,rd:={ s.rd with holds:=bb } }:St).iH w t w3 from⟨t3,T,hM.out.tr O⟩);clear H hM T O;go_wp2
  go_end0
  exact⟨⟨_,rfl⟩,hP.out⟩
end
end
section
section
variable {P:Program} {Q:Exit→Act→ba→Prop} {ops:Array Oper} {M m:Nat} {a0:Act} {w0:ba} {K:List Oper→List VP→Prop} {o:Oper} {rest:List Oper} {env:List VP}
theorem ed.MN{A:Option Addr}{n c lo:Nat}(t e:TypeId)(x y:Operand)(k:IntKind)(J:o.op=.slice t x (a8 y) a7 a7)(hu:P.underlying t=a8 (.slice e))(d:(P.info? e).map (·.size)=a8 1)
  (hw:Want ops M a0 w0 env o bf)(hx:fu ops M a0 w0 env o x (eC (.slice A n c)))(Y:fu ops M a0 w0 env o y (eC (.int k (lo:Int))))(O:lo≤n)(E:n≤c)(hA:A=a7→c=0)
  (hr:ed P Q ops M a0 w0 K m rest (eC (.slice (if c=lo then A else A.map (·.add lo)) (n-lo) (c-lo))::env)):ed P Q ops M a0 w0 K (m+1) (o::rest) env:=
 .iu x y hw hx Y (λρ w _ U T=>by
  cases s:P.info? e with
  |none=>grind
  |some ie=>
   simp only[s,Option.map_some,Option.some.injEq]at d;unfold execOp;by_cases H:c=lo
   ·subst H;simp[J,U,T,Instr.sliceAt,Instr.slice,Instr.sliceBounds,Instr.sliceBound,asIntOf,run_underlying hu,sizeOf,typeInfo,s,O,E]
   ·simp only[if_neg H];cases A with
    |none=>grind
    |some q=>simp[J,U,T,Instr.sliceAt,Instr.slice,Instr.sliceBounds,Instr.sliceBound,asIntOf,run_underlying hu,sizeOf,typeInfo,s,d,O,H]) hr
theorem ed.MO{a b:Nat}(y:Operand){d:Array TypeId}(J:o.op=.call { callee:=.builtin .max,args:=#[.const (iV 0),y],argTypes:=d })(E:Want ops M a0 w0 env o bf)(s:fu ops M a0 w0 env o y (eC (iV ((a:Int)-(b:Int)))))
  (H:ed P Q ops M a0 w0 K m rest (eC (iV ((a-b:Nat):Int))::env)):ed P Q ops M a0 w0 K (m+1) (o::rest) env:=
 .iu (.const (iV 0)) y E (eE _) s (λY w _ T O=>by
  unfold execOp;by_cases hc:a≤b
  ·have e:((a-b:Nat):Int)=0:=zO;have U:¬(0<(a:Int)-(b:Int)):=zO;rw[e];simp[J,T,O,resolve,invoke,builtin,Builtin.max_,Builtin.max2,go_sem];try omega
  ·have e:((a-b:Nat):Int)=(a:Int)-(b:Int):=zO;simp_all[resolve,invoke,builtin,Builtin.max_,Builtin.max2]) H
end
section
variable {D:PS} {s:St} {w w' w1:ba} {t t' t1:ez}
theorem ep.MP(h:ep D s w t)(O:Turn 8 w t w1 t1){H d:bg}{xs:L8}(E:eG 8 D.mr 264 (rdA D.g D.mr D.pn s.rd H) w1 t1)(J:eO 8 5 1 d xs.length (xs.map ff) w1 t1) :
  ep D { s with rd:={ s.rd with tail:=xs } } (w1.setCell ⟨D.mr,11,a7⟩ d) t1:=by
 refine h.PJ (O.gU E.1 11 d) ⟨d,E.gU 11 d _ rfl,?_⟩;exact J.grown (row:=a8 D.mr) (eM (bh _ _) 11 d) (λq T e=>by
  grind[eH]) (λ_ _=>rfl)
theorem eO.Q3{i n c size:Nat}{e:TypeId}{A:Option Addr}{xs:List bg}(h:eO i e size (.slice A n c) n xs w t):n≤c∧(A=a7→c=0)∧c≤maxLen:=by
 obtain⟨h1,⟨E,rfl⟩|⟨g,d,J,H,E,O,T,h3,h4,Y,U⟩⟩:=h
 ·grind
 grind
attribute [local irreducible] ew ed in
theorem Di(h:ep D s w t)(hp:s.rd.ph=2)(hown:s.rd.own<D.c.block)(al:D.c.block≤256)(ab:D.M.long≤32)(b:List UInt8)(x':fq.Src)(hs:s.src.next (D.c.block-s.rd.own)=a8 (b,x'))(U:s.src.told≤1000000000)(hn:s.rd.buf<D.c.ring)(hu:s.buf.used.getD s.rd.buf bb=bf)
  (aj:(s.buf.data.getD s.rd.buf []).length+(D.c.block-s.rd.own)≤D.c.block+(D.M.long-1))(Y:s.pl.read≤1000000000)(ay:s.rd.tail.length≤1000) :
  bc bj 132 #[.pointer (a8 ⟨D.mr,0,a7⟩)] w λe w'=>(∃v,e=.returned v)∧eV D (s.gN D.c D.M) w t w':=by
 obtain⟨i0,a1,aW,aV,aU⟩:=info_parts Tryz.tB;have az:=hide (show s.gN D.c D.M={ s with src:=x',buf:=s.buf.put s.rd.buf b,pl:={ s.pl with read:=s.pl.read+b.length },rd:={ s.rd with own:=s.rd.own+b.length,tail:=(s.rd.tail++b).drop ((s.rd.tail++b).length-(D.M.long-1)),ph:=if s.rd.own+b.length=D.c.block then 3 else 2 } } by
  grind[St.gN])
 have hS:=hide (λW (d:Ext w W)=>FA zO (h.extend d).src (D.c.block-s.rd.own) zO zO b x' hs U);have aA:=hide (show(D.c.block:Int)-(s.rd.own:Int)=((D.c.block-s.rd.own:Nat):Int) by omega);have r0:=h.rc 0 _ (λ_=>rfl);have r9:=h.rc 9 _ (λ_=>rfl);have p9:=h.p9;have p2:=h.p2;have Hc:=hide (And.intro hown (And.intro al (And.intro ab (And.intro hn (And.intro hu (And.intro aj (And.intro Y (And.intro ay hp))))))));have aF:=hS.out _ (eh w);have hS:=hide aF;have h1:=hide (h.extend (eh w));have hM:=hide (Moves.ext t (eh w));clear h hown al ab hs U hn hu aj Y ay hp aF;have aX:br.wrap ((D.c.block:Int)-(s.rd.own:Int))=((D.c.block-s.rd.own:Nat):Int):=by
  rw[aA.out];exact bo _ (by obtain⟨q1,q2,-⟩:=Hc.out;omega)
 go_enter func132,ntmps132;go_upto_region 1 with(fail)
 go_region_held3 (λw'=>w'.cell? ⟨D.g,9,a7⟩=a8 (.pointer (a8 ⟨D.jK,0,a7⟩))∧w'.cell? ⟨D.g,2,a7⟩=a8 (.int .i64 (D.c.block:Int))∧w'.cell? ⟨D.mr,9,a7⟩=a8 (.int .i64 (s.rd.own:Int))) (first|simp_all|go_keep) ((go_at_call 190;refine hS.out.mono ?_;rintro _ w2 ⟨v,rfl,t2,hv,hq,hT,a2⟩;obtain⟨A,c,rfl,-⟩:=eu.form hv.1;have h2:=hide (h1.out.QX hT hq);have aL:=hide (hM.out.and hT zD zD);have p9:=h2.out.p9;have p2:=h2.out.p2;have r9:=h2.out.rc 9 _ (λ_=>rfl);clear hq hT))
 clear hS h1 hM aX aA;go_upto_region 5 with(fail)
 clear p9 p2 r9;have aT:=h2.out.p11;have r7:=h2.out.rc 7 _ (λ_=>rfl);refine fK 9 [] zR zK (λ_ _ _ _ _ h=>h) (.g ?_);intro W5 aN;have d:=(eh w2).tr aN;have h3:=h2.out.extend d;have aK:=aL.out.tr (Moves.ext t2 d);have am:=(Held.keeps (eX b) 1 _).ext hv d;have hB:=hide (by
  obtain⟨q1,q2,q3,q4,q5,q6,q7,q8,q9⟩:=Hc.out;exact C8 zO h3.buf s.rd.buf q4 q5 b _ am.1 zO (Nat.le_trans (Nat.add_le_add_left a2 _) q6))
 have H3:=hide h3;clear h2 aL hv d aN aT r7 h3;go_wp2_with fail;refine hB.out.mono ?_;rintro _ w4 ⟨⟨_,rfl⟩,t4,hq,hT⟩;have aw:=(Held.keeps (eX b) 1 _).turn zO zO am hT;have h4:=H3.out.oU hT hq;have aJ:=aK.and hT zO zO;have aZ:br.wrap ((s.rd.own:Int)+(b.length:Int))=(s.rd.own:Int)+(b.length:Int):=by
  obtain⟨q1,q2,q3,q4,q5,q6,q7,q8,q9⟩:=Hc.out;grind[bo]
 have aY:br.wrap ((s.pl.read:Int)+(b.length:Int))=(s.pl.read:Int)+(b.length:Int):=by
  obtain⟨q1,q2,q3,q4,q5,q6,q7,q8,q9⟩:=Hc.out;grind[bo]
 have r9:=h4.rc 9 _ (λ_=>rfl);have f9:=h4.DY 9;have h5:=h4.lU 9 (.int .i64 ((s.rd.own:Int)+(b.length:Int))) { s.rd with own:=s.rd.own+b.length } (λ_=>rfl) rfl;have aI:=aJ.set h4.oV zD zD 9 (.int .i64 ((s.rd.own:Int)+(b.length:Int)));have aS:=h5.TY;have a4:=h5.Uw 17;have h6:=hide (h5.MM 17 (.int .i64 ((s.pl.read:Int)+(b.length:Int))) { s.pl with read:=s.pl.read+b.length } (λ_ _=>rfl) rfl);have aH:=hide (aI.set h5.ML zD zD 17 (.int .i64 ((s.pl.read:Int)+(b.length:Int))));have av:=hide ((Held.keeps (eX b) 9 _).turn zD zD ((Held.keeps (eX b) 9 _).turn zD zD aw (Turn.set (w:=w4) h4.oV 9 (.int .i64 ((s.rd.own:Int)+(b.length:Int))))) (Turn.set (w:=w4.setCell ⟨D.mr,9,a7⟩ (.int .i64 ((s.rd.own:Int)+(b.length:Int)))) h5.ML 17 (.int .i64 ((s.pl.read:Int)+(b.length:Int)))));clear hB hq hT h4 aJ h5 aI aw am aK H3;go_upto_region 8 with(fail)
 generalize((w4.setCell ⟨D.mr,9,a7⟩ (.int .i64 ((s.rd.own:Int)+(b.length:Int)))).setCell ⟨D.g,17,a7⟩ (.int .i64 ((s.pl.read:Int)+(b.length:Int))))=w6 at*;clear r0 r9 f9 aS a4 aZ aY;obtain⟨vt,ah,af⟩:=h6.out.rd;obtain⟨A8,c8,rfl⟩:=af.form;have ae:=ah.2.at_ 11 rfl;have Hlen:=hide (show s.rd.tail.length≤1000∧b.length≤256 by
  obtain⟨q1,q2,q3,q4,q5,q6,q7,q8,q9⟩:=Hc.out;omega)
 go_wp2_with(at_builtin;apply fi rfl _ _ 43 rfl 8 t4 5 i0 (.int .u8 0) 1 1 underlying43 a1 aW aV aU rfl zO (.slice A8 s.rd.tail.length c8) (.slice A b.length c) s.rd.tail.length b.length (s.rd.tail.map ff) (b.map ff))
 case hx=>exact Src.bytes av.out.1
 case h1=>exact(λy hy=>rfl)
 case hlen=>have:=Hlen.out;omega
 case h=>
  intro v' w7 t7 hown ht O a3;have ao:Turn 8 w6 t4 w7 t7:=Turn.lG O (λk hk=>(af.at_ hk).1) ht;have ad:=ah.grown O (eH ah af zD) ht;have J:eO 8 5 1 v' (s.rd.tail++b).length ((s.rd.tail++b).map ff) w7 t7:=by
   grind
  obtain⟨A7,c7,rfl⟩:=J.form;have au:=ad.2.at_ 11 rfl;have aq:=ad.2.frozen 11;have h7:=hide (h6.out.MP ao ad J);have ap:=hide (aH.out.and (ao.gU ad.1 11 (.slice A7 (s.rd.tail++b).length c7)) zD zD);rw[List.length_append]at h7 ap;clear ae hown J ht O a3 ao ad af ah av h6 aH;go_upto_region 9 with(fail)
  generalize(w7.setCell ⟨D.mr,11,a7⟩ (.slice A7 (s.rd.tail.length+b.length) c7))=w8 at*;clear au aq;have p8:=h7.out.p8;obtain⟨a5,ae,aa⟩:=(show∃vt,w8.cell? ⟨D.mr,11,a7⟩=a8 vt∧eO 8 5 1 vt (s.rd.tail++b).length ((s.rd.tail++b).map ff) w8 t7 from h7.out.G1)
  obtain⟨L,hL⟩:∃L,(s.rd.tail++b).length=L:=⟨_,rfl⟩
  have HL:=hide hL;rw[hL]at aa;obtain⟨A9,c9,rfl⟩:=aa.form;obtain⟨aB,aP,-⟩:=aa.Q3;clear hL;have Hk:=hide (show L≤2000∧D.M.long-1≤40 by
   have:=Hlen.out;obtain⟨q1,q2,q3,q4,q5,q6,q7,q8,q9⟩:=Hc.out;have:=HL.out;grind)
  obtain⟨k,hk⟩:∃k,k=L-(D.M.long-1):=⟨_,rfl⟩
  obtain⟨AK,aO⟩:∃x,x=(if c9=k then A9 else A9.map (·.add k)):=⟨_,rfl⟩
  obtain⟨nk,an⟩:∃x,x=L-k:=⟨_,rfl⟩
  obtain⟨ck,aD⟩:∃x,x=c9-k:=⟨_,rfl⟩
  have aE:=hide (show eC (.slice (if c9=L-(D.M.long-1)then A9 else A9.map (·.add (L-(D.M.long-1)))) (L-(L-(D.M.long-1))) (c9-(L-(D.M.long-1))))=eC (.slice AK nk ck) by grind);have ak:=hide (λW (d:Ext w8 W)=>show eO 8 5 1 (.slice AK nk ck) ((s.rd.tail++b).drop k).length (((s.rd.tail++b).drop k).map ff) W t7 by
   have h0:=((eO.keeps _ _ _ _ _ _).ext aa d).cut (k:=k) zO;rw[Nat.mul_one,←aO,←an,←aD]at h0;rw[List.length_drop,HL.out,←an,List.map_drop];exact h0)
  have Wa:=hide hk;clear hk aO an aD;refine fK 17 [] zR zK (by intro _ _ _ _ _ h;exact h) (.g ?_);refine ed.kC _ _ _ _ rfl (ee rfl) (od 9 83 4 rfl) (od 13 87 0 rfl) (by have:=Hk.out;omega) ?_;refine ed.MO _ rfl (ee rfl) (od 14 88 0 rfl) ?_;refine ed.MN 43 5 _ _ .i64 rfl underlying43 zR (ee rfl) (od 4 78 11 rfl) (od 15 89 0 rfl) (Nat.sub_le _ _) aB aP ?_;refine ed.head aE.out (.g ?_);intro W9 aM;have d:=(eh w8).tr aM;have h8:=h7.out.extend d;have aG:=ap.out.tr (Moves.ext t7 d);obtain⟨a6,ag,-⟩:=h8.rd;have h9:=hide (h8.MP (Turn.rf 8 W9 t7) ag (ak.out W9 d));have ai:=hide (aG.set h8.oV zD zD 11 (.slice AK nk ck));have ae:=ag.2.at_ 11 rfl;have aq:=ag.2.frozen 11;clear d aM h8 aG ag h7 ap ak aE aa p8 aB aP;go_upto_region 10 with(fail)
  generalize(W9.setCell ⟨D.mr,11,a7⟩ (.slice AK nk ck))=ar at*;clear ae aq;have r9:=h9.out.rc 9 (.int .i64 ((s.rd.own+b.length:Nat):Int)) (λ_=>rfl);have p2:=h9.out.p2;have aC:=hide (show k=(s.rd.tail++b).length-(D.M.long-1) by rw[Wa.out,HL.out]);have Hq:=hide (show s.rd.ph=2 by
   obtain⟨q1,q2,q3,q4,q5,q6,q7,q8,q9⟩:=Hc.out;exact q9)
  clear HL Wa Hk Hc Hlen;by_cases e:s.rd.own+b.length=D.c.block
  ·have e':((s.rd.own+b.length:Nat):Int)=(D.c.block:Int):=by rw[e]
   refine fK 10 [] zR zK (λ_ _ _ _ _ h=>h) (.g ?_);refine ed.Qi _ _ _ _ rfl (ee rfl) (od 3 96 5 rfl) (od 8 101 0 rfl) e' (.g ?_);intro aR H;have d:=(eh ar).tr H;have T:=h9.out.extend d;have E:=ai.out.tr (Moves.ext t7 d);have r1:=T.rc 1 _ (λ_=>rfl);have f1:=T.DY 1;have aQ:=T.lU 1 (.int .u8 3) { s.rd with own:=s.rd.own+b.length,tail:=(s.rd.tail++b).drop k,ph:=3 } (λ_=>rfl) rfl;have hF:=hide (show eV D _ w t _ from⟨t7,aQ,E.set T.oV zD zD 1 (.int .u8 3)⟩);rw[aC.out]at hF;have hF:=hide (show eV D (s.gN D.c D.M) w t _ by rw[az.out,if_pos e];exact hF.out);clear T E aQ h9 ai d H r9 p2 e e';go_wp2
   go_end0
   exact⟨⟨_,rfl⟩,hF.out⟩
  ·have e':¬((s.rd.own+b.length:Nat):Int)=(D.c.block:Int):=zO;refine fK 10 [] zR zK (λ_ _ _ _ _ h=>h) (.g ?_);refine ed.zQ _ _ _ _ rfl (ee rfl) (od 3 96 5 rfl) (od 8 101 0 rfl) e' (.g ?_);intro aR H;have d:=(eh ar).tr H;have T:=h9.out.extend d;have E:=ai.out.tr (Moves.ext t7 d);have e2:=congrArg (λp=>({ s.rd with own:=s.rd.own+b.length,tail:=(s.rd.tail++b).drop k,ph:=p }:Rd)) Hq.out;have hF:=hide (show eV D { s with src:=x',buf:=s.buf.put s.rd.buf b,pl:={ s.pl with read:=s.pl.read+b.length },rd:={ s.rd with own:=s.rd.own+b.length,tail:=(s.rd.tail++b).drop k,ph:=2 } } w t aR from⟨t7,by grind,E⟩);rw[aC.out]at hF;have hF:=hide (show eV D (s.gN D.c D.M) w t _ by rw[az.out,if_neg e];exact hF.out);clear T E h9 ai d H r9 p2 e e' e2;go_wp2
   go_end0
   exact⟨⟨_,rfl⟩,hF.out⟩
end
end
section
variable {D:PS} {s:St} {w w' w1:ba} {t t' t1:ez}
theorem Dj(h:ep D s w t)(_:s.rd.ph=2)(hown:s.rd.own<D.c.block)(Y:D.c.block≤256)(hs:s.src.next (D.c.block-s.rd.own)=a7)(hn:s.rd.buf<D.c.ring)(hu:s.buf.used.getD s.rd.buf bb=bf)(hl:s.buf.free.length<16) :
  bc bj 132 #[.pointer (a8 ⟨D.mr,0,a7⟩)] w λe w'=>(∃v,e=.returned v)∧eV D (s.gN D.c D.M) w t w':=by
 have hr:s.src.reads=[]:=by
  grind[fq.Src.next]
 have h1:=hide (h.extend (eh w));have hS:=hide (Fz h1.out.src hr ((D.c.block-s.rd.own:Nat):Int));have hM:=hide (Moves.ext t (eh w));have r0:=h.rc 0 _ (λ_=>rfl);have r9:=h.rc 9 _ (λ_=>rfl);have p9:=h.p9;have p2:=h.p2;have aa:br.wrap ((D.c.block:Int)-(s.rd.own:Int))=((D.c.block-s.rd.own:Nat):Int):=by
  grind[bo]
 have U:=hide (show s.gN D.c D.M=if 0<s.rd.own then { s with rd:={ s.rd with ended:=bf,ph:=3 } }else { s with buf:=s.buf.give s.rd.buf,rd:={ s.rd with holds:=bb,ph:=4 } } by
  grind[St.gN])
 by_cases h0:0<s.rd.own
 ·have ab:(s.rd.own:Int)>0:=zO;have H:=hide (show s.gN D.c D.M={ s with rd:={ s.rd with ended:=bf,ph:=3 } } by rw[U.out,if_pos h0]);clear h hown Y hs hn hu hl hr h0 U;go_enter func132,ntmps132;go_upto_region 1 with(fail)
  go_region_held3 (λw'=>w'.cell? ⟨D.g,9,a7⟩=a8 (.pointer (a8 ⟨D.jK,0,a7⟩))∧w'.cell? ⟨D.g,2,a7⟩=a8 (.int .i64 (D.c.block:Int))∧w'.cell? ⟨D.mr,9,a7⟩=a8 (.int .i64 (s.rd.own:Int))) (first|simp_all|go_keep) ((go_at_call 190;refine hS.out.mono ?_;rintro _ w2 ⟨_,rfl,d,hv⟩;obtain⟨_,_,rfl,rfl,rfl⟩:=eR.inv2 hv;have E:=hide (h1.out.extend d);have O:=hide (hM.out.tr (Moves.ext t d));have p9:=E.out.p9;have p2:=E.out.p2;have r9:=E.out.rc 9 _ (λ_=>rfl);clear d))
  clear hS h1 hM aa p9 p2;have ad:=E.out.rc 12 _ (λ_=>rfl);have ae:=E.out.DY 12;have T:=E.out.lU 12 (.bool bf) { s.rd with ended:=bf } (λ_=>rfl) rfl;have J:=O.out.set E.out.oV zD zD 12 (.bool bf);have r1:=T.rc 1 _ (λ_=>rfl);have f1:=T.DY 1;have h4:=T.lU 1 (.int .u8 3) { s.rd with ended:=bf,ph:=3 } (λ_=>rfl) rfl;have hF:=hide (show eV D { s with rd:={ s.rd with ended:=bf,ph:=3 } } w t _ from⟨t,h4,J.set T.oV zD zD 1 (.int .u8 3)⟩);rw[←H.out]at hF;clear E O T J h4;go_wp2
  go_end0
  exact⟨⟨_,rfl⟩,hF.out⟩
 ·have ab:¬(s.rd.own:Int)>0:=zO;have H:=hide (show s.gN D.c D.M={ s with buf:=s.buf.give s.rd.buf,rd:={ s.rd with holds:=bb,ph:=4 } } by rw[U.out,if_neg h0]);have Hn:=hide (And.intro hn (And.intro hu hl));clear h hown Y hs hn hu hl hr h0 U;go_enter func132,ntmps132;go_upto_region 1 with(fail)
  go_region_held3 (λw'=>w'.cell? ⟨D.g,9,a7⟩=a8 (.pointer (a8 ⟨D.jK,0,a7⟩))∧w'.cell? ⟨D.g,2,a7⟩=a8 (.int .i64 (D.c.block:Int))∧w'.cell? ⟨D.mr,9,a7⟩=a8 (.int .i64 (s.rd.own:Int))) (first|simp_all|go_keep) ((go_at_call 190;refine hS.out.mono ?_;rintro _ w2 ⟨_,rfl,d,hv⟩;obtain⟨_,_,rfl,rfl,rfl⟩:=eR.inv2 hv;have E:=hide (h1.out.extend d);have O:=hide (hM.out.tr (Moves.ext t d));have p9:=E.out.p9;have p2:=E.out.p2;have r9:=E.out.rc 9 _ (λ_=>rfl);clear d))
  clear hS h1 hM aa p9 p2;have hB:=hide (xm E.out Hn.out.1 Hn.out.2.1 Hn.out.2.2);go_wp2_with fail;refine hB.out.mono ?_;rintro _ w3 ⟨⟨_,rfl⟩,t3,T,J⟩;have r1:=T.rc 1 _ (λ_=>rfl);have f1:=T.DY 1;have h4:=T.lU 1 (.int .u8 4) { s.rd with holds:=bb,ph:=4 } (λ_=>rfl) rfl;have hF:=hide (show eV D { s with buf:=s.buf.give s.rd.buf,rd:={ s.rd with holds:=bb,ph:=4 } } w t _ from⟨t3,h4,(O.out.tr J).set T.oV zD zD 1 (.int .u8 4)⟩);rw[←H.out]at hF;clear E O T J h4 hB;go_wp2
  go_end0
  exact⟨⟨_,rfl⟩,hF.out⟩
end
def kM(D:PS)(s:St)(i:Nat)(y:Wk)(w:ba)(t:ez):Prop:=ep D { s with fm:=s.fm.set i y } w t
section
variable {D:PS} {s:St} {w w' w1:ba} {t t' t1:ez} {i:Nat} {x:Wk}
theorem yb(l:List Wk)(i:Nat)(hi:i<l.length):l.set i (l.getD i Wk.fresh)=l:=by
 simp_all
theorem ep.Q4(h:ep D s w t)(hi:i<D.c.workers):kM D s i (s.fm.getD i Wk.fresh) w t:=by
 unfold kM;rw[yb _ _ (by rw[h.len];exact hi)];exact h
theorem kM.at_(h:kM D s i x w t)(hi:i<D.c.workers):({ s with fm:=s.fm.set i x }:St).fm.getD i Wk.fresh=x:=by
 have d:s.fm.length=D.c.workers:=by simpa using h.len
 grind
theorem kM.c(h:kM D s i x w t)(hi:i<D.c.workers)(k:Nat)(v:bg)(e:∀E d,nth (xO D.g (D.jT i) (D.lq i) x E d).toList k=a8 v):w.cell? ⟨D.jT i,k,a7⟩=a8 v:=ep.wc hi h (h.at_ hi) k v e
theorem kM.fr(h:kM D s i x w t)(hi:i<D.c.workers)(k:Nat):w.frozen? ⟨D.jT i,k,a7⟩=false:=ep.Xp hi h k
theorem kM.tag(h:kM D s i x w t)(hi:i<D.c.workers):t (D.jT i)=11+i:=ep.S9 hi h
theorem kM.row(h:kM D s i x w t)(hi:i<D.c.workers):qB (11+i) D.g (D.jT i) (D.lq i) x w t:=by
 have:=h.fm i hi;rw[h.at_ hi]at this;exact this
theorem kM.set(h:kM D s i x w t)(hi:i<D.c.workers)(k:Nat)(u:bg)(y:Wk)(H:∀E d,(xO D.g (D.jT i) (D.lq i) x E d).setIfInBounds k u=xO D.g (D.jT i) (D.lq i) y E d)(O:y.pc.blk.data=x.pc.blk.data)(J:y.hits=x.hits):kM D s i y (w.setCell ⟨D.jT i,k,a7⟩ u) t:=by
 have:=ep.Ta hi h (h.at_ hi) k u y H O J;grind[kM,List.set_set]
theorem kM.new(h:kM D s i x w t)(hi:i<D.c.workers){y:Wk}(E:Turn (11+i) w t w' t')(d:qB (11+i) D.g (D.jT i) (D.lq i) y w' t'):kM D s i y w' t':=by
 have:=ep.PL h hi E d;grind[kM,List.set_set]
theorem kM.data(h:kM D s i x w t)(hi:i<D.c.workers)(u:bg)(bs:L8)(hu:Held (eu bs) u w t):kM D s i { x with pc:=⟨{ x.pc.blk with data:=bs },x.pc.buf⟩ } (w.setCell ⟨D.jT i,9,a7⟩ u) t:=by
 have d:=Turn.set (w:=w) (h.tag hi) 9 u;refine h.new hi d ?_;obtain⟨O,E,J,T,H⟩:=h.row hi;refine⟨u,E,J.gU 9 u _ rfl,(Held.keeps (eX _) 1 _).turn zO zO hu d,?_⟩;exact H.grown (row:=a8 (D.jT i)) (eM (bh _ _) 9 u) (λq U e=>by
  grind[eH]) (λ_ _=>rfl)
theorem kM.Q5(h:kM D s i x w t)(hi:i<D.c.workers):kM D s i { x with hits:=[] } (w.setCell ⟨D.jT i,13,a7⟩ nS) t:=by
 have d:=Turn.set (w:=w) (h.tag hi) 13 nS;refine h.new hi d ?_;obtain⟨E,O,J,H,T⟩:=h.row hi;exact⟨E,nS,J.gU 13 _ _ rfl,(Held.keeps (eX _) 1 _).turn zO zO H d,eO.nil _ _ _ _ _⟩
theorem sR(h:ep D s w t)(hi:i<D.c.workers):bc bj 137 #[gP (D.jT i)] w (eB w (eC (.bool s.served))):=by
 have E:=hide (JB h.q);have Y:=hide (λW (U:Ext w W)=>sN (h.extend U).q);have c0:=(h.Q4 hi).c hi 0 _ (λ_ _=>rfl);have T:=h.p12;have H:=hide h;cases O:s.q.items with
 |nil=>
  have e:s.served=s.q.closed:=by grind[St.served]
  rw[e];rw[O]at E;clear h O e;go_enter func137,ntmps137;go_wp2_with fail;refine E.out.mono ?_;rintro _ w2 ⟨_,rfl,d,rfl⟩;have h2:=H.out.extend d;have c0:=(h2.Q4 hi).c hi 0 _ (λ_ _=>rfl);have T:=h2.p12;have hC:=hide (Y.out w2 d);clear E Y H h2;go_wp2_with fail;refine hC.out.mono ?_;rintro _ w3 ⟨_,rfl,J,rfl⟩;have U:=hide (d.tr J);clear hC d J;go_wp2;go_ret;exact eB.mk U.out rfl
 |cons y l=>
  have e:s.served=true:=by grind[St.served]
  rw[e];rw[O]at E;have aa:(((y::l).length:Nat):Int)>0:=zG;clear h O e Y H;generalize(y::l).length=n at*;go_enter func137,ntmps137;go_wp2_with fail;refine E.out.mono ?_;rintro _ w2 ⟨_,rfl,d,rfl⟩;clear E;go_wp2;go_ret;exact eB.mk d rfl
theorem sS(h:ep D s w t):bc bj 148 #[gP D.xe] w (eB w (eC (.bool (!s.out.items.isEmpty||s.out.closed)))):=by
 have E:=hide (zq h.out);have Y:=hide (λW (U:Ext w W)=>sO (h.extend U).out);have c0:=h.ec 0 _ rfl;have T:=h.Nu;have H:=hide h;cases O:s.out.items with
 |nil=>
  have e:(!([]:List (Int×Int)).isEmpty||s.out.closed)=s.out.closed:=rfl;rw[e];rw[O]at E;clear h O e;go_enter func148,ntmps148;go_wp2_with fail;refine E.out.mono ?_;rintro _ w2 ⟨_,rfl,d,rfl⟩;have h2:=H.out.extend d;have c0:=h2.ec 0 _ rfl;have T:=h2.Nu;have hC:=hide (Y.out w2 d);clear E Y H h2;go_wp2_with fail;refine hC.out.mono ?_;rintro _ w3 ⟨_,rfl,J,rfl⟩;have U:=hide (d.tr J);clear hC d J;go_wp2;go_ret;exact eB.mk U.out rfl
 |cons y l=>
  have e:(!(y::l).isEmpty||s.out.closed)=true:=rfl;rw[e];rw[O]at E;have aa:(((y::l).length:Nat):Int)>0:=zG;clear h O e Y H;generalize(y::l).length=n at*;go_enter func148,ntmps148;go_wp2_with fail;refine E.out.mono ?_;rintro _ w2 ⟨_,rfl,d,rfl⟩;clear E;go_wp2;go_ret;exact eB.mk d rfl
end
section
section
variable {D:PS} {s:St} {w w' w1:ba} {t t' t1:ez} {i:Nat} {x:Wk}
theorem kM.oU(h:kM D s i x w t)(d:Turn 4 w t w' t'){b:Buf}(hx:ft 4 D.jE D.c.ring (D.c.block+(D.M.long-1)) b w' t'):kM D { s with buf:=b } i x w' t':=ep.oU h d hx
theorem kM.MK(h:kM D s i x w t)(d:Turn 5 w t w' t'){q:Ff Pc}(hx:iD 5 D.gq D.c.queue q w' t'):kM D { s with q:=q } i x w' t':=ep.MK h d hx
theorem kM.Dh(h:kM D s i x w t)(d:Turn 6 w t w' t'){r:Rg}(hx:kh 6 D.sP D.c.ring r w' t'):kM D { s with rg:=r } i x w' t':=ep.Dh h d hx
theorem kM.c9(h:kM D s i x w t)(hi:i<D.c.workers):∃v,w.cell? ⟨D.jT i,9,a7⟩=a8 v∧Held (eu x.pc.blk.data) v w t:=by obtain⟨d,J,H,E,-⟩:=h.row hi;exact⟨d,H.2.at_ 9 rfl,E⟩
theorem kM.c13(h:kM D s i x w t)(hi:i<D.c.workers):∃v,w.cell? ⟨D.jT i,13,a7⟩=a8 v∧eO (11+i) 50 2 v x.hits.length (fz x.hits) w t:=by obtain⟨J,d,H,O,E⟩:=h.row hi;exact⟨d,H.2.at_ 13 rfl,E⟩
theorem xo(w:ba)(t:ez):Held (eu []) nS w t:=⟨td w,λk d=>by cases d⟩
attribute [local irreducible] ew ed in
theorem uf(h:kM D s i x w t)(hi:i<D.c.workers)(hw:D.c.workers≤8)(hn:x.pc.buf<D.c.ring)(hu:s.buf.used.getD x.pc.buf bb=bf)(hl:s.buf.free.length<16) :
  bc bj 200 #[gP (D.jT i)] w λe w'=>(∃v,e=.returned v)∧eV D (s.ij i x) w t w':=by
 have hA:=hide (λW (T:Ext w W)=>tC zO (ep.extend h T).buf x.pc.buf hn hu hl);have c0:=h.c hi 0 _ (λ_ _=>rfl);have ak:=h.c hi 10 _ (λ_ _=>rfl);have al:=ep.p11 h;have H:=hide h;have d:=hide hi;have iP:=hide (show 11+i≠0∧11+i<100 by omega);clear h hn hu hl hi hw;go_enter func200,ntmps200;go_upto_region 0 with(fail)
 refine vQ 13 (.g ?_);intro W0 ah;have T:=(eh w).tr ah;have ai:=hide (hA.out W0 T);have h1:kM D s i x W0 t:=ep.extend H.out T;have hM:=Moves.ext t T;clear hA H T ah c0 ak al;go_wp2_with fail;refine ai.out.mono ?_;rintro _ w2 ⟨⟨_,rfl⟩,t2,hq,hT⟩;have h2:=h1.oU hT hq;have ag:=hM.and hT zD zD;clear ai hq hT h1 hM;have c6:=h2.c d.out 6 _ (λ_ _=>rfl);have f6:=h2.fr d.out 6;have h3:=h2.set d.out 6 (iV 0) ({ x with pc:=⟨⟨0,x.pc.blk.start,x.pc.blk.eZ,x.pc.blk.data⟩,x.pc.buf⟩ }:Wk) (λ_ _=>rfl) rfl rfl;have af:=ag.set (h2.tag d.out) iP.out.1 iP.out.2 6 (iV 0);have c7:=h3.c d.out 7 _ (λ_ _=>rfl);have f7:=h3.fr d.out 7;have h4:=h3.set d.out 7 (iV 0) ({ x with pc:=⟨⟨0,0,x.pc.blk.eZ,x.pc.blk.data⟩,x.pc.buf⟩ }:Wk) (λ_ _=>rfl) rfl rfl;have ae:=af.set (h3.tag d.out) iP.out.1 iP.out.2 7 (iV 0);have c8:=h4.c d.out 8 _ (λ_ _=>rfl);have f8:=h4.fr d.out 8;have h5:=h4.set d.out 8 (iV 0) ({ x with pc:=⟨⟨0,0,0,x.pc.blk.data⟩,x.pc.buf⟩ }:Wk) (λ_ _=>rfl) rfl rfl;have ad:=ae.set (h4.tag d.out) iP.out.1 iP.out.2 8 (iV 0);obtain⟨v9,c9,-⟩:=h5.c9 d.out;have f9:=h5.fr d.out 9;have h6:kM D { s with buf:=s.buf.give x.pc.buf } i ({ x with pc:=⟨⟨0,0,0,[]⟩,x.pc.buf⟩ }:Wk) _ t2:=h5.data d.out nS [] (xo _ _);have ab:=ad.set (h5.tag d.out) iP.out.1 iP.out.2 9 nS;have ak:=h6.c d.out 10 _ (λ_ _=>rfl);have aq:=h6.fr d.out 10;have h7:=h6.set d.out 10 (iV 0) ({ x with pc:=zJ }:Wk) (λ_ _=>rfl) rfl rfl;have aa:=ab.set (h6.tag d.out) iP.out.1 iP.out.2 10 (iV 0);have av:=h7.c d.out 11 _ (λ_ _=>rfl);have ap:=h7.fr d.out 11;have h8:=h7.set d.out 11 (iV 0) ({ x with pc:=zJ,node:=0 }:Wk) (λ_ _=>rfl) rfl rfl;have Y:=aa.set (h7.tag d.out) iP.out.1 iP.out.2 11 (iV 0);have au:=h8.c d.out 12 _ (λ_ _=>rfl);have ao:=h8.fr d.out 12;have h9:=h8.set d.out 12 (iV 0) ({ x with pc:=zJ,node:=0,done:=0 }:Wk) (λ_ _=>rfl) rfl rfl;have U:=Y.set (h8.tag d.out) iP.out.1 iP.out.2 12 (iV 0);obtain⟨am,ar,-⟩:=h9.c13 d.out;have an:=h9.fr d.out 13;have E:kM D { s with buf:=s.buf.give x.pc.buf } i ({ x with pc:=zJ,node:=0,done:=0,hits:=[] }:Wk) _ t2:=h9.Q5 d.out;have O:=U.set (h9.tag d.out) iP.out.1 iP.out.2 13 nS;have c1:=E.c d.out 1 _ (λ_ _=>rfl);have f1:=E.fr d.out 1;have aj:=E.set d.out 1 (.int .u8 1) (Wk.fresh:Wk) (λ_ _=>rfl) rfl rfl;have J:=O.set (E.tag d.out) iP.out.1 iP.out.2 1 (.int .u8 1);have hF:=hide (show eV D (s.ij i x) w t _ from⟨t2,aj,J⟩);clear h2 ag h3 af h4 ae h5 ad h6 ab h7 aa h8 Y h9 U E O aj J;go_wp2
 go_end0
 exact⟨⟨_,rfl⟩,hF.out⟩
end
end
section
section
variable {D:PS} {s:St} {w w' w1:ba} {t t' t1:ez} {i j:Nat} {x:Wk}
theorem Others.turn(h:Others j D s w t)(d:j≠0)(E:Turn j w t w' t'):Others j D s w' t' where
 ext:=(E.low h.old d h.ext).1
 old:=(E.low h.old d h.ext).2
 ki:=h.ki
 pl:=λe=>(xi.keeps _ _).turn (bl e) d (h.pl e) E
 src:=λe=>(gD.keeps).turn (bl e) d (h.src e) E
 iG:=λe=>(gB.keeps).turn (bl e) d (h.iG e) E
 buf:=λe=>(ft.keeps).turn (bl e) d (h.buf e) E
 q:=λe=>(mU.keeps (om.keeps 5)).turn (bl e) d (h.q e) E
 rg:=λe=>(kh.keeps).turn (bl e) d (h.rg e) E
 out:=λe=>(mU.keeps (oT.keeps 7)).turn (bl e) d (h.out e) E
 rd:=λe=>(uv.keeps _ _ _ _).turn (bl e) d (h.rd e) E
 mg:=λe=>(xf.keeps _ _ _ _).turn (bl e) d (h.mg e) E
 em:=λe=>(xg.keeps _ _ _ _).turn (bl e) d (h.em e) E
 len:=h.len
 fm:=λk H e=>(qB.keeps _ _ _ _ _).turn (bl e) d (h.fm k H e) E
 pn:=(jq.keeps (j+1) _ _).turn zO d h.pn E
 pr:=(jq.keeps (j+1) _ _).turn zO d h.pr E
 mem:=(jq.keeps (j+1) _ _).turn zO d h.mem E
 lq:=λk H=>(jq.keeps (j+1) _ _).turn zO d (h.lq k H) E
theorem Others.oU(h:Others (11+i) D s w t)(d:Turn 4 w t w' t'){b:Buf}(hx:ft 4 D.jE D.c.ring (D.c.block+(D.M.long-1)) b w' t'):Others (11+i) D { s with buf:=b } w' t' where
 ext:=(d.low h.old zD h.ext).1
 old:=(d.low h.old zD h.ext).2
 ki:=h.ki
 pl:=λe=>(xi.keeps _ _).turn zD zD (h.pl e) d
 src:=λe=>(gD.keeps).turn zD zD (h.src e) d
 iG:=λe=>(gB.keeps).turn zD zD (h.iG e) d
 buf:=λ_=>hx
 q:=λe=>(mU.keeps (om.keeps 5)).turn zD zD (h.q e) d
 rg:=λe=>(kh.keeps).turn zD zD (h.rg e) d
 out:=λe=>(mU.keeps (oT.keeps 7)).turn zD zD (h.out e) d
 rd:=λe=>(uv.keeps _ _ _ _).turn zD zD (h.rd e) d
 mg:=λe=>(xf.keeps _ _ _ _).turn zD zD (h.mg e) d
 em:=λe=>(xg.keeps _ _ _ _).turn zD zD (h.em e) d
 len:=h.len
 fm:=λk E e=>(qB.keeps _ _ _ _ _).turn zO zD (h.fm k E e) d
 pn:=(jq.keeps 5 _ _).turn zD zD h.pn d
 pr:=(jq.keeps 5 _ _).turn zD zD h.pr d
 mem:=(jq.keeps 5 _ _).turn zD zD h.mem d
 lq:=λk E=>(jq.keeps 5 _ _).turn zD zD (h.lq k E) d
theorem Others.Dh(h:Others (11+i) D s w t)(d:Turn 6 w t w' t'){b:Rg}(hx:kh 6 D.sP D.c.ring b w' t'):Others (11+i) D { s with rg:=b } w' t' where
 ext:=(d.low h.old zD h.ext).1
 old:=(d.low h.old zD h.ext).2
 ki:=h.ki
 pl:=λe=>(xi.keeps _ _).turn zD zD (h.pl e) d
 src:=λe=>(gD.keeps).turn zD zD (h.src e) d
 iG:=λe=>(gB.keeps).turn zD zD (h.iG e) d
 buf:=λe=>(ft.keeps).turn zD zD (h.buf e) d
 q:=λe=>(mU.keeps (om.keeps 5)).turn zD zD (h.q e) d
 rg:=λ_=>hx
 out:=λe=>(mU.keeps (oT.keeps 7)).turn zD zD (h.out e) d
 rd:=λe=>(uv.keeps _ _ _ _).turn zD zD (h.rd e) d
 mg:=λe=>(xf.keeps _ _ _ _).turn zD zD (h.mg e) d
 em:=λe=>(xg.keeps _ _ _ _).turn zD zD (h.em e) d
 len:=h.len
 fm:=λk E e=>(qB.keeps _ _ _ _ _).turn zO zD (h.fm k E e) d
 pn:=(jq.keeps 5 _ _).turn zD zD h.pn d
 pr:=(jq.keeps 5 _ _).turn zD zD h.pr d
 mem:=(jq.keeps 5 _ _).turn zD zD h.mem d
 lq:=λk E=>(jq.keeps 5 _ _).turn zD zD (h.lq k E) d
theorem Others.full(o:Others (11+i) D s w t)(hi:i<D.c.workers){y:Wk}(hx:qB (11+i) D.g (D.jT i) (D.lq i) y w t):ep D { s with fm:=s.fm.set i y } w t:=by
 refine⟨o.ext,o.old,o.ki,o.pl zO,o.src zO,o.iG zO,o.buf zO,o.q zO,o.rg zO,o.out zO,o.rd zO,o.mg zO,o.em zO,by simpa using o.len,λk d=>?_,o.pn,o.pr,o.mem,o.lq⟩;by_cases e:k=i
 ·subst e;simp only[bk];rw[bw (by rw[o.len];exact d)];exact hx
 ·simp only[bk];rw[bx (bl e),←bk];exact o.fm k d zO
def Ux(D:PS)(s:St)(i:Nat)(x:Wk)(E d:bg)(w:ba)(t:ez):Prop:=Others (11+i) D s w t∧eG (11+i) (D.jT i) 268 (xO D.g (D.jT i) (D.lq i) x E d) w t
theorem kM.lv(h:kM D s i x w t)(hi:i<D.c.workers):∃E d,Ux D s i x E d w t:=by
 obtain⟨E,d,J,-,-⟩:=h.row hi;have o:=ep.others h (j:=11+i) zO (Turn.rf _ _ _);refine⟨E,d,⟨o.ext,o.old,o.ki,o.pl,o.src,o.iG,o.buf,o.q,o.rg,o.out,o.rd,o.mg,o.em,by simpa using o.len,λk H e=>?_,o.pn,o.pr,o.mem,o.lq⟩,J⟩;have:=o.fm k H e;grind
attribute [local irreducible] ew ed in
theorem AP{vd E:bg}(h:Ux D s i x vd E w t)(hi:i<D.c.workers)(hw:D.c.workers≤8)(hn:x.pc.buf<D.c.ring)(hu:s.buf.used.getD x.pc.buf bb=bf)(hl:s.buf.free.length<16) :
  bc bj 200 #[gP (D.jT i)] w λe w'=>(∃v,e=.returned v)∧eV D (s.ij i x) w t w':=by
 obtain⟨ho,Y⟩:=h;have hA:=hide (λW (U:Ext w W)=>tC zO (ft.keeps.ext (ho.buf zO) U) x.pc.buf hn hu hl);have c0:=Y.2.at_ 0 rfl;have ay:=Y.2.at_ 10 rfl;have az:w.cell? ⟨D.g,11,a7⟩=a8 (eF D.jE):=by obtain⟨vs,vt,Y,-⟩:=ho.pl zO;exact Y.2.at_ 11 rfl
 have Ho:=hide ho;have Hb:=hide Y;have Hi:=hide hi;have iP:=hide (show 11+i≠0∧11+i<100∧11+i≠4 by omega);clear Y ho hn hu hl hi hw;go_enter func200,ntmps200;go_upto_region 0 with(fail)
 refine vQ 13 (.g ?_);intro W0 au;have U:=(eh w).tr au;have av:=hide (hA.out W0 U);have aj:=hide (Ho.out.turn iP.out.1 (Turn.ext (11+i) t U));have h1:=hide ((eG.keeps _ _ _ _).ext Hb.out U);have hM:=hide (Moves.ext t U);clear hA Ho Hb U au c0 ay az;go_wp2_with fail;refine av.out.mono ?_;rintro _ w2 ⟨⟨_,rfl⟩,t2,hq,hT⟩;have ai:=aj.out.oU hT hq;have h2:=(eG.keeps _ _ _ _).turn iP.out.2.2 zD h1.out hT;have ar:=hM.out.and hT zD zD;clear av hq hT h1 hM aj;have c6:=h2.2.at_ 6 rfl;have f6:=h2.2.frozen 6;have h3:=h2.gU 6 (iV 0) (xO D.g (D.jT i) (D.lq i) ({ x with pc:=⟨⟨0,x.pc.blk.start,x.pc.blk.eZ,x.pc.blk.data⟩,x.pc.buf⟩ }:Wk) vd E) rfl;have ah:=ai.turn iP.out.1 (Turn.set h2.1 6 (iV 0));have aq:=ar.set h2.1 iP.out.1 iP.out.2.1 6 (iV 0);have c7:=h3.2.at_ 7 rfl;have f7:=h3.2.frozen 7;have h4:=h3.gU 7 (iV 0) (xO D.g (D.jT i) (D.lq i) ({ x with pc:=⟨⟨0,0,x.pc.blk.eZ,x.pc.blk.data⟩,x.pc.buf⟩ }:Wk) vd E) rfl;have ag:=ah.turn iP.out.1 (Turn.set h3.1 7 (iV 0));have ap:=aq.set h3.1 iP.out.1 iP.out.2.1 7 (iV 0);have c8:=h4.2.at_ 8 rfl;have f8:=h4.2.frozen 8;have h5:=h4.gU 8 (iV 0) (xO D.g (D.jT i) (D.lq i) ({ x with pc:=⟨⟨0,0,0,x.pc.blk.data⟩,x.pc.buf⟩ }:Wk) vd E) rfl;have af:=ag.turn iP.out.1 (Turn.set h4.1 8 (iV 0));have ao:=ap.set h4.1 iP.out.1 iP.out.2.1 8 (iV 0);have c9:=h5.2.at_ 9 rfl;have f9:=h5.2.frozen 9;have h6:=h5.gU 9 nS (xO D.g (D.jT i) (D.lq i) ({ x with pc:=⟨⟨0,0,0,[]⟩,x.pc.buf⟩ }:Wk) nS E) rfl;have ae:=af.turn iP.out.1 (Turn.set h5.1 9 nS);have an:=ao.set h5.1 iP.out.1 iP.out.2.1 9 nS;have ay:=h6.2.at_ 10 rfl;have aD:=h6.2.frozen 10;have h7:=h6.gU 10 (iV 0) (xO D.g (D.jT i) (D.lq i) ({ x with pc:=zJ }:Wk) nS E) rfl;have ad:=ae.turn iP.out.1 (Turn.set h6.1 10 (iV 0));have am:=an.set h6.1 iP.out.1 iP.out.2.1 10 (iV 0);have aG:=h7.2.at_ 11 rfl;have aC:=h7.2.frozen 11;have h8:=h7.gU 11 (iV 0) (xO D.g (D.jT i) (D.lq i) ({ x with pc:=zJ,node:=0 }:Wk) nS E) rfl;have ab:=ad.turn iP.out.1 (Turn.set h7.1 11 (iV 0));have al:=am.set h7.1 iP.out.1 iP.out.2.1 11 (iV 0);have aF:=h8.2.at_ 12 rfl;have aB:=h8.2.frozen 12;have h9:=h8.gU 12 (iV 0) (xO D.g (D.jT i) (D.lq i) ({ x with pc:=zJ,node:=0,done:=0 }:Wk) nS E) rfl;have aa:=ab.turn iP.out.1 (Turn.set h8.1 12 (iV 0));have ak:=al.set h8.1 iP.out.1 iP.out.2.1 12 (iV 0);have aE:=h9.2.at_ 13 rfl;have aA:=h9.2.frozen 13;have d:=h9.gU 13 nS (xO D.g (D.jT i) (D.lq i) ({ x with pc:=zJ,node:=0,done:=0,hits:=[] }:Wk) nS nS) rfl;have J:=aa.turn iP.out.1 (Turn.set h9.1 13 nS);have T:=ak.set h9.1 iP.out.1 iP.out.2.1 13 nS;have c1:=d.2.at_ 1 rfl;have f1:=d.2.frozen 1;have aw:=d.gU 1 (.int .u8 1) (xO D.g (D.jT i) (D.lq i) (Wk.fresh:Wk) nS nS) rfl;have H:=J.turn iP.out.1 (Turn.set d.1 1 (.int .u8 1));have O:=T.set d.1 iP.out.1 iP.out.2.1 1 (.int .u8 1);have hF:=hide (show eV D (s.ij i x) w t _ from⟨t2,H.full Hi.out (y:=Wk.fresh) ⟨nS,nS,aw,xo _ _,eO.nil _ _ _ _ _⟩,O⟩);clear h2 ar ai h3 aq ah h4 ap ag h5 ao af h6 an ae h7 am ad h8 al ab h9 ak aa d T J aw O H;go_wp2
 go_end0
 exact⟨⟨_,rfl⟩,hF.out⟩
end
end
section
section
variable {D:PS} {s:St} {w w' w1:ba} {t t' t1:ez} {i j:Nat} {x:Wk}
theorem eO.Tb{v:bg}{hs:Hits}(H:eO j 50 2 v hs.length (fz hs) w t):∃t1,Turn j w t w t1∧Held (eP hs) v w t1∧∀k,v.ownBlock≠a8 k→t1 k=t k:=by
 have E:=H.pairs;obtain⟨h1,⟨rfl,-⟩|⟨g,J,U,T,rfl,O,Y,-⟩⟩:=H
 ·exact⟨t,Turn.rf _ _ _,⟨E,λk d=>by cases d⟩,λ_ _=>rfl⟩
 ·exact⟨t.one g 0,Turn.give O 0 w,⟨E,λk d=>by cases d;grind[Array.getElem?_eq_some_iff,ez.pO]⟩,λk d=>ez.jn (λe=>d (by rw[e];rfl))⟩
attribute [local irreducible] ew ed in
theorem JU(h:kM D s i x w t)(hi:i<D.c.workers)(hw:D.c.workers≤8)(hn:x.pc.buf<D.c.ring)(hu:s.buf.used.getD x.pc.buf bb=bf)(hl:s.buf.free.length<16)(hnum:x.pc.blk.num≤1000000000)(ak:s.rg.next≤1000000000)(ha:s.rg.admits x.pc.blk.num=bf)(hf:s.rg.at_ x.pc.blk.num=a7) :
  bc bj 140 #[gP (D.jT i)] w λe w'=>(∃v,e=.returned v)∧eV D (s.nf i x) w t w':=by
 obtain⟨vd,vh,J,hv,hh⟩:=h.row hi;obtain⟨ao,an,ho,al⟩:=h.lv hi;clear al;obtain⟨t1,O,hH,d⟩:=hh.Tb;have ab:eG (11+i) (D.jT i) 268 (xO D.g (D.jT i) (D.lq i) x vd vh) w t1:=⟨(d _ (λe=>eH J hh zD e)).trans J.1,J.2⟩
 have H:=ho.turn zO O;have ah:=Moves.turn O zO zO;obtain⟨A,c,rfl⟩:=hh.form;have hP:=hide (λW (E:Ext w W)=>Jq zD ((kh.keeps).ext (H.rg zO) E) x.pc.blk.num zO zO ha hf x.hits _ ((Held.keeps (gg _) 1 _).ext hH E));have c0:=J.2.at_ 0 rfl;have c6:=J.2.at_ 6 rfl;have am:=J.2.at_ 13 rfl;have aj:=ep.p13 h;have HL:=hide (λW r tt (hq:Ux D { s with rg:=r } i x vd (.slice A x.hits.length c) W tt)=>AP hq hi hw hn hu hl);have Ho:=hide H;have Hb:=hide ab;have HM:=hide ah;have iP:=hide (show 11+i≠0∧11+i≠6 by omega);clear h J hv hh ho O hH d ab H ah hi hw hn hu hl hnum ak ha hf;go_enter func140,ntmps140;go_upto_region 0 with(fail)
 refine vQ 18 (.g ?_);intro W0 ai;have E:=(eh w).tr ai;have ad:=hide (hP.out W0 E);have U:=hide (Ho.out.turn iP.out.1 (Turn.ext (11+i) t1 E));have aa:=hide ((eG.keeps _ _ _ _).ext Hb.out E);have ag:=hide (HM.out.tr (Moves.ext t1 E));clear hP Ho Hb HM E ai c0 c6 am aj;go_wp2_with fail;refine ad.out.mono ?_;rintro _ w2 ⟨⟨_,rfl⟩,hq,hT⟩;have T:=U.out.Dh hT hq;have Y:=(eG.keeps _ _ _ _).turn iP.out.2 zD aa.out hT;have af:=hide (ag.out.and hT zD zD);have hL:=hide (HL.out w2 _ t1 ⟨T,Y⟩);clear ad hq hT U aa ag T Y HL;go_wp2_with fail;refine hL.out.mono ?_;rintro _ w3 ⟨⟨_,rfl⟩,t3,h3,ae⟩;have hF:=hide (show eV D (s.nf i x) w t w3 from⟨t3,h3,af.out.tr ae⟩);clear hL h3 af ae;go_wp2
 go_end0
 exact⟨⟨_,rfl⟩,hF.out⟩
end
end
section
variable {D:PS} {s:St} {w w':ba} {t t':ez}
theorem FF(h:ep D s w t):bc bj 145 #[gP D.sQ] w (eB w (eC (.bool (decide (s.out.items.length<D.c.out))))):=by
 have H:=hide (Fo h.out);have O:=h.mc 0 _ (λ_=>rfl);have E:=h.Nu;clear h;generalize s.out.items.length=n at*;rw[show decide (n<D.c.out)=decide (0<D.c.out-n)from decide_eq_decide.2 zO];go_enter func145,ntmps145;go_wp2_with fail;refine H.out.mono ?_;rintro _ J ⟨_,rfl,d,rfl⟩;go_wp2;go_ret;exact eB.mk d rfl
theorem xp(h:ep D s w t)(O:s.out.closed=bb):bc bj 202 #[gP D.sQ] w λe w'=>(∃v,e=.returned v)∧eV D s.lM w t w':=by
 have T:=hide (C6 zO h.out O);have r0:=h.mc 0 _ (λ_=>rfl);have Y:=h.Nu;have H:=hide h;clear h O;go_enter func202,ntmps202;go_wp2_with fail;refine T.out.mono ?_;rintro _ w2 ⟨⟨_,rfl⟩,J,E⟩;have d:=H.out.xj E J;have r1:=d.mc 1 _ (λ_=>rfl);have f1:=d.PN 1;have U:=d.G2 1 (.int .u8 3) { s.mg with ph:=3 } (λ_=>rfl) rfl;have hF:=hide (show eV D s.lM w t _ from⟨t,U,(Moves.turn E zO zO).set d.tD zO zO _ _⟩);clear T H J E d U;go_wp2
 go_end0
 exact⟨⟨_,rfl⟩,hF.out⟩
theorem qo(w:ba)(t:ez):Held (eP []) nS w t:=⟨(eO.nil 1 50 2 w t).pairs (hs:=[]),λk d=>by cases d⟩
theorem AQ(h:ep D s w t)(U:s.out.closed=bb)(hx:s.rg.next≤1000000000):bc bj 147 #[gP D.sQ] w λe w'=>(∃v,e=.returned v)∧eV D s.nK w t w':=by
 have hA:=hide (C4 zO h.rg zO);have r0:=h.mc 0 _ (λ_=>rfl);have aa:=h.p13;have H:=hide h;have Ho:=hide U;clear h U hx;go_enter func147,ntmps147;go_wp2_with fail;refine hA.out.mono ?_;rintro _ w2 ⟨⟨_,rfl⟩,T,O⟩;have J:=H.out.Dh O T;obtain⟨vh,r6,-⟩:=J.PO;have f6:=J.PN 6;have h3:=J.rG nS [] (qo _ _);have E:=hide ((Moves.turn O zD zD).set J.tD zD zD 6 nS);have Y:=hide (xp h3 Ho.out);clear hA H T O J h3;go_wp2_with fail;refine Y.out.mono ?_;rintro _ w3 ⟨⟨_,rfl⟩,t3,h4,d⟩;have hF:=hide (show eV D s.nK w t w3 from⟨t3,h4,E.out.tr d⟩);clear Y E h4 d;go_wp2
 go_end0
 exact⟨⟨_,rfl⟩,hF.out⟩
theorem AR(h:ep D s w t):bc bj 150 #[gP D.xe] w λe w'=>(∃v,e=.returned v)∧eV D s.jV w t w':=by
 have T:=hide (C7 zO h.out);have r0:=h.ec 0 _ rfl;have aa:=h.Nu;have H:=hide h;cases d:s.out.items with
 |nil=>
  rw[d]at T;have J:=hide (show s.jV={ s with out:=s.out.clear,em:=2 } by grind[St.jV]);clear h d;go_enter func150,ntmps150;go_wp2_with fail;refine T.out.mono ?_;rintro _ w2 ⟨rfl,d,O⟩;have E:=H.out.xj O d;have r1:=E.ec 1 _ rfl;have f1:=E.V9 1;have Y:=E.PQ 2;have U:=hide (show eV D { s with out:=s.out.clear,em:=2 } w t _ from⟨t,Y,(Moves.turn O zO zO).set E.Q2 zO zO _ _⟩);rw[←J.out]at U;clear T H d O E Y;go_wp2
  go_end0
  exact⟨⟨_,rfl⟩,U.out⟩
 |cons y l=>
  rw[d]at T;have J:=hide (show s.jV={ s with out:=s.out.clear,em:=s.em } by grind[St.jV]);have ab:¬(((y::l).length:Nat):Int)=0:=zG;clear h d;generalize(y::l).length=n at*;go_enter func150,ntmps150;go_wp2_with fail;refine T.out.mono ?_;rintro _ w2 ⟨rfl,d,O⟩;have E:=H.out.xj O d;have U:=hide (show eV D { s with out:=s.out.clear,em:=s.em } w t _ from⟨t,E,Moves.turn O zO zO⟩);rw[←J.out]at U;clear T H d O E;go_wp2
  go_end0
  exact⟨⟨_,rfl⟩,U.out⟩
end
section
variable {D:PS} {s:St} {w w':ba} {t t':ez} {i:Nat}
theorem FG(h:ep D s w t)(hi:i<D.c.workers):bc bj 141 #[gP (D.jT i)] w (eB w (eC (.bool (if(s.fm.getD i Wk.fresh).ph=1 then s.served else bf)))):=by
 have O:=(h.Q4 hi).c hi 1 _ (λ_ _=>rfl);by_cases d:(s.fm.getD i Wk.fresh).ph=1
 ·rw[if_pos d];rw[d]at O;have H:=hide (sR h hi);clear h d hi;go_enter func141,ntmps141;go_wp2_with fail;refine H.out.mono ?_;rintro _ T ⟨_,rfl,E,rfl⟩;clear H;go_wp2;go_ret;exact eB.mk E rfl
 ·rw[if_neg d];have J:¬(((s.fm.getD i Wk.fresh).ph:Nat):Int)=1:=zO;generalize(s.fm.getD i Wk.fresh).ph=p at*;clear h d hi;go_enter func141,ntmps141;go_wp2;go_ret;exact eB.mk (Ext.rf _) rfl
theorem FH(h:ep D s w t)(ho:s.out.closed=bb)(hx:s.rg.next≤1000000000):bc bj 144 #[gP D.sQ] w λe w'=>(∃v,e=.returned v)∧eV D s.kO w t w':=by
 have r0:=h.mc 0 _ (λ_=>rfl);have ah:=h.p13;have H:=hide h;have Ho:=hide ho;cases E:s.rg.at_ s.rg.next with
 |none=>
  have U:=hide (C1 h.rg zO E);have d:=hide (show s.kO=s.lM by grind[St.kO]);clear h ho hx E;go_enter func144,ntmps144;go_wp2_with fail;refine U.out.mono ?_;rintro _ w2 ⟨_,rfl,aa,O⟩;obtain⟨_,_,rfl,rfl,rfl⟩:=eR.inv2 O;have hS:=hide (xp (H.out.extend aa) Ho.out);have hM:=hide (Moves.ext t aa);clear U H aa;go_wp2_with fail;refine hS.out.mono ?_;rintro _ w3 ⟨⟨_,rfl⟩,t3,h4,ad⟩;have T:=hide (show eV D s.lM w t w3 from⟨t3,h4,hM.out.tr ad⟩);rw[←d.out]at T;clear hS hM h4 ad;go_wp2
  go_end0
  exact⟨⟨_,rfl⟩,T.out⟩
 |some J=>
  have U:=hide (C2 zD h.rg zO J E);cases J with
  |nil=>
   have d:=hide (show s.kO={ s with rg:=s.rg.take } by grind[St.kO]);clear h ho hx E;go_enter func144,ntmps144;go_wp2_with fail;refine U.out.mono ?_;rintro _ w2 ⟨v,rfl,O,E,Y⟩;obtain⟨A,c,rfl,-⟩:=O.1;have T:=hide (show eV D { s with rg:=s.rg.take } w t w2 from⟨t,H.out.Dh Y E,Moves.turn Y zD zD⟩);rw[←d.out]at T;clear U E Y O H;go_wp2
   go_end0
   exact⟨⟨_,rfl⟩,T.out⟩
  |cons y l=>
   have d:=hide (show s.kO={ s with rg:=s.rg.take,mg:=⟨2,y::l⟩ } by grind[St.kO]);have ag:(((y::l).length:Nat):Int)>0:=zG;obtain⟨J,ab⟩:∃J,J=y::l:=⟨_,rfl⟩
   rw[←ab]at U d ag;clear h ho hx E ab;go_enter func144,ntmps144;go_wp2_with fail;refine U.out.mono ?_;rintro _ w2 ⟨v,rfl,O,E,Y⟩;have af:=O.1;obtain⟨A,c,rfl,-⟩:=af;have h2:=H.out.Dh Y E;obtain⟨vh,r6,-⟩:=h2.PO;have f6:=h2.PN 6;have h3:=h2.rG _ J O;have ae:=(Moves.turn Y zD zD).set h2.tD zD zD 6 (.slice A J.length c);have r1:=h3.mc 1 _ (λ_=>rfl);have f1:=h3.PN 1;have h4:=h3.G2 1 (.int .u8 2) ⟨2,J⟩ (λ_=>rfl) rfl;have T:=hide (show eV D { s with rg:=s.rg.take,mg:=⟨2,J⟩ } w t _ from⟨t,h4,ae.set h3.tD zD zD 1 (.int .u8 2)⟩);rw[←d.out]at T;clear U E Y O H h2 h3 h4 ae;go_wp2
   go_end0
   exact⟨⟨_,rfl⟩,T.out⟩
end
section
variable {w:ba} {t:ez}
theorem eP.tail{y:Int×Int}{l:Hits}{b d n c:Nat}(h:eP (y::l) (.slice (a8 ⟨b,d,a7⟩) n c) w):n=l.length+1∧1≤c∧w.cell? ⟨b,d,a7⟩=a8 (iV y.1)∧w.cell? ⟨b,d+1,a7⟩=a8 (iV y.2)∧eP l (.slice (if c=1 then a8 ⟨b,d,a7⟩else a8 ⟨b,d+2,a7⟩) (n-1) (c-1)) w:=by
 obtain⟨A,c',e,J,Y,H⟩:=h;cases e;rw[List.length_cons]at J;obtain⟨b',O,e,E,s⟩:=H zS;cases e;have h0:=s 0 zS;refine⟨rfl,by omega,by grind,by grind,?_⟩;refine⟨_,c-1,rfl,by omega,by omega,λT=>?_⟩;rw[if_neg zO];refine⟨b,d+2,rfl,E,λj U=>?_⟩;have:=s (j+1) zG;grind
end
section
section
variable {D:PS} {s:St} {w w':ba} {t t':ez}
attribute [local irreducible] ew ed in
theorem Dk(h:ep D s w t)(y:Int×Int)(l:Hits)(hq:s.mg.hits=y::l)(ho:s.out.closed=bb)(hl:s.out.items.length<D.c.out)(hp:s.mg.ph=2):bc bj 146 #[gP D.sQ] w λe w'=>(∃v,e=.returned v)∧eV D s.ka w t w':=by
 have E:=hide (show s.ka={ s with out:=s.out.put y,mg:=⟨if l.isEmpty then 1 else 2,l⟩ } by grind[St.ka]);have hP:=hide (λW (hE:Ext w W) b c aC=>JI zD (h.extend hE).out ho hl y b c aC);have r0:=h.mc 0 _ (λ_=>rfl);have av:=h.Nu;obtain⟨vh,hb,hv⟩:=h.mg;rw[hq]at hv;obtain⟨A,c,rfl,az,ay,J⟩:=hv.1;obtain⟨b,T,rfl,af,-⟩:=J zS;obtain⟨-,aF,aB,aA,-⟩:=eP.tail hv.1;have al:∀j v,(#[iV y.1,iV y.2]:AV)[j]?=a8 v→w.cell? ⟨b,T+0*2+j,a7⟩=a8 v:=by
  grind
 have r6:=hb.2.at_ 6 rfl;have H:=hide h;have Hb:=hide hb;have Hv:=hide hv;have ak:0<(y::l).length:=by simp
 have Hp:=hide hp;clear h hq ho hl hb hv J hp aB aA az ay;go_enter func146,ntmps146;go_upto_region 0 with(fail)
 refine vQ 15 (.g ?_);refine ed.gT (i:=0) 2 38 50 _ _ rfl underlying38 zR ak wA oA (eE _) ?_;refine ed.loadAt 50 _ rfl wA oA underlying50 rfl zR af al (eh _) ?_;refine ed.OH #[iV y.1,iV y.2] (.agg #[iV 0,iV 0]) 38 50 (bp 15) rfl underlying38 zR zG zG (xc _ _) wA oA (.g ?_);intro W0 ar;refine .any λau ad=>?_;refine .e ?_;obtain⟨gn,rfl,-,am⟩:=ad;have hE:=(eh w).tr ar;have ao:=hide (hP.out W0 hE gn 1 am);have h1:=hide (H.out.extend hE);have an:=hide ((eG.keeps _ _ _ _).ext Hb.out hE);have aj:=hide ((Held.keeps (gg _) 1 _).ext Hv.out hE);have aq:=hide (Moves.ext t hE);clear hP H Hb Hv hE ar am r0 av r6 al af ak;go_wp2_with fail;refine ao.out.mono ?_;rintro _ w2 ⟨⟨_,rfl⟩,t2,hq,hT⟩;have h2:=h1.out.xj hT hq;have ai:=(eG.keeps _ _ _ _).turn zD zD an.out hT;have ab:=(Held.keeps (gg _) 1 _).turn zD zD aj.out hT;have ap:=aq.out.and hT zD zD;have r6:=ai.2.at_ 6 rfl;have f6:=ai.2.frozen 6;obtain⟨-,-,-,-,aa⟩:=eP.tail ab.1;have ae:(y::l).length=l.length+1:=List.length_cons;rw[ae]at aa r6;rw[Nat.add_sub_cancel]at aa;have ag:Held (eP l) (.slice (if c=1 then a8 ⟨b,T,a7⟩else a8 ⟨b,T+2,a7⟩) l.length (c-1)) w2 t2:=⟨aa,λk hk=>ab.2 k (by
  rw[←hk];split<;>rfl)⟩
 have aw:1≤l.length+1:=zO;obtain⟨m,hm⟩:∃m,l.length=m:=⟨_,rfl⟩
 have U:l.isEmpty=decide (m=0):=zG;have aE:m+1≤c:=by
  obtain⟨A',c',e,q1,-⟩:=ab.1;grind
 rw[hm]at r6 ag aw;rw[U]at E;have Hl:=hide (show m=0→l=[]from λe=>List.eq_nil_of_length_eq_zero (hm.trans e));have O:=hide (And.intro h2 (And.intro ap ag));clear h1 an aj aq ao hT hq h2 ai ab ap aa ag ae hm U;by_cases ah:c=1
 ·subst ah;obtain rfl:m=0:=zO;have hA:=O.out.2.2;rw[if_pos rfl]at hA;have J:=O.out.1.rG _ l hA;have d:=O.out.2.1.set O.out.1.tD zD zD 6 (.slice (a8 ⟨b,T,a7⟩) 0 0);have f8:=J.PN 6;have h4:=J.rG nS [] (qo _ _);have Y:=d.set J.tD zD zD 6 nS;have r1:=h4.mc 1 _ (λ_=>rfl);have f1:=h4.PN 1;have h5:=h4.G2 1 (.int .u8 1) ⟨1,[]⟩ (λ_=>rfl) rfl;have hF:=hide (show eV D { s with out:=s.out.put y,mg:=⟨1,[]⟩ } w t _ from⟨t2,h5,Y.set h4.tD zD zD 1 (.int .u8 1)⟩);have e0:s.ka={ s with out:=s.out.put y,mg:=⟨1,[]⟩ }:=by rw[E.out,Hl.out rfl];rfl
  rw[←e0]at hF;clear hA J d h4 Y h5 O e0 E Hl;go_wp2
  go_end0
  exact⟨⟨_,rfl⟩,hF.out⟩
 ·by_cases U:m=0
  ·subst U;have hA:=O.out.2.2;rw[if_neg ah]at hA;have J:=O.out.1.rG _ l hA;have d:=O.out.2.1.set O.out.1.tD zD zD 6 (.slice (a8 ⟨b,T+2,a7⟩) 0 (c-1));have f8:=J.PN 6;have h4:=J.rG nS [] (qo _ _);have Y:=d.set J.tD zD zD 6 nS;have r1:=h4.mc 1 _ (λ_=>rfl);have f1:=h4.PN 1;have h5:=h4.G2 1 (.int .u8 1) ⟨1,[]⟩ (λ_=>rfl) rfl;have hF:=hide (show eV D { s with out:=s.out.put y,mg:=⟨1,[]⟩ } w t _ from⟨t2,h5,Y.set h4.tD zD zD 1 (.int .u8 1)⟩);have e0:s.ka={ s with out:=s.out.put y,mg:=⟨1,[]⟩ }:=by rw[E.out,Hl.out rfl];rfl
   rw[←e0]at hF;clear hA J d h4 Y h5 O e0 E Hl;go_wp2
   go_end0
   exact⟨⟨_,rfl⟩,hF.out⟩
  ·have hA:=O.out.2.2;rw[if_neg ah]at hA;have aD:¬(m:Int)=0:=zO;have J:=O.out.1.rG _ l hA;have d:=O.out.2.1.set O.out.1.tD zD zD 6 (.slice (a8 ⟨b,T+2,a7⟩) m (c-1));have hF:=hide (show eV D { s with out:=s.out.put y,mg:=⟨s.mg.ph,l⟩ } w t _ from⟨t2,J,d⟩);have e0:s.ka={ s with out:=s.out.put y,mg:=⟨s.mg.ph,l⟩ }:=by rw[E.out,decide_eq_false U,Hp.out];rfl
   rw[←e0]at hF;clear hA J d O e0 E Hl;go_wp2
   go_end0
   exact⟨⟨_,rfl⟩,hF.out⟩
end
end
end Go.Proofs.YtofgfpffcegioaaGreat
