/- A part of the proof. -/
import Derived.Test.YtofgfpffcegioaaGreatZf46
set_option maxRecDepth 100000
set_option maxHeartbeats 8000000
namespace Go.Proofs.YtofgfpffcegioaaGreat
namespace fq
section
variable {c:Cf} {M:Mc} {S:List UInt8→List Nat} {text:List UInt8} {ans:List Bool} {s:St}
variable {r:Rn} {g:Go}
theorem aO(d:xR M S)(E:1≤r.cf.block)(h:0<r.cf.ring):dY r M S (r.run M r.most r.start):=
 dY.run d E r.most r.start ⟨Good.start d h _ _,λe=>by cases e⟩ λe=>by cases e
end
end fq
end Go.Proofs.YtofgfpffcegioaaGreat
namespace Go.Proofs.YtofgfpffcegioaaGreat
open Go.RowKit Go.Shelf Go.Sort iT jH fq Go.Proofs.Tryz
theorem bh{d E:Type}(G:d→List E)(B:Nat)(h:∀a,(G a).length≤B):∀l:List d,(l.flatMap G).length≤l.length*B
 |[]=>by simp
 |a::l=>by
  rw[List.flatMap_cons,List.length_append,List.length_cons,Nat.succ_mul];have:=h a;have:=bh G B h l;omega
theorem cM{f:Bool}{ws:LL}(E:Nat)(text:L8)(h:text.length≤1000):(BD E (QF f ws) text text.length).length≤1000000:=by
 unfold BD;have d:=bh (λe=>(QF f ws (text.take (e+1))).map λx:Nat=>(((E+(e+1):Nat):Int),(x:Int))) 1000 (λe=>by
  rw[List.length_map];unfold QF;have H:=CS (ws:=ws) ((text.take (e+1)).map (gv f));rw[List.length_map,List.length_take]at H;omega) (List.range text.length)
 rw[List.length_range]at d;refine Nat.le_trans d ?_;have:text.length*1000≤1000*1000:=Nat.mul_le_mul_right _ h;omega
section
variable {w:World}
theorem cr(o:Rp)(hs:Hits)(va U:Value)(w:World)(ha:eP hs va w)(hb:eP hs U w) :
  Calls prog 17 #[.agg (D0 o va),.agg (D0 o U)] w (eB w (eC (.bool true))):=by
 have J:=Box.new w 40 (D0 o va);have aa:=ek w (.cells (D0 o va) 40);have Y:=Box.new (w.alloc (.cells (D0 o va) 40)) 40 (D0 o U);have E:=aa.tr (ek (w.alloc (.cells (D0 o va) 40)) (.cells (D0 o U) 40));have J:=J.alloc (.cells (D0 o U) 40);rw[World.size_alloc]at Y;have hS:=hide (F4 hs hs va U _ (VP.st _ _ _ _ ha E) (VP.st _ _ _ _ hb E));rw[decide_eq_true rfl]at hS;have HX:=hide E;have a2:=J.at_ 2 rfl;have b2:=Y.at_ 2 rfl;have a0:=J.at_ 0 rfl;have b0:=Y.at_ 0 rfl;have a1:=J.at_ 1 rfl;have b1:=Y.at_ 1 rfl;have H1:=hide J;have H2:=hide Y;obtain⟨A,c,rfl,-⟩:=eP.form ha;obtain⟨B,d,rfl,-⟩:=eP.form hb;clear J Y aa E ha hb;unfold D0 at*;go_enter func17,ntmps17;go_wp2_with fail;refine hS.out.mono ?_;rintro _ w2 ⟨_,rfl,H,rfl⟩;have T:=H1.out.ext H;have O:=H2.out.ext H;have a3:=T.at_ 3 rfl;have b3:=O.at_ 3 rfl;have a4:=T.at_ 4 rfl;have b4:=O.at_ 4 rfl;have a5:=T.at_ 5 rfl;have b5:=O.at_ 5 rfl;have a6:=T.at_ 6 rfl;have b6:=O.at_ 6 rfl;have a7:=T.at_ 7 rfl;have b7:=O.at_ 7 rfl;have a8:=T.at_ 8 rfl;have b8:=O.at_ 8 rfl;have HF:=hide (HX.out.tr H);clear a2 b2 a0 b0 a1 b1 H1 H2 H hS HX T O;go_wp2;go_ret;exact eB.mk HF.out rfl
end
end Go.Proofs.YtofgfpffcegioaaGreat
namespace Go.Proofs.YtofgfpffcegioaaGreat
open Bool renaming true → al
open List renaming length_map → aa,map_cons → ab,map_nil → ad,getD_eq_getElem?_getD → ae,countP_eq_length_filter → af,isEmpty_map → ag,range → ah,map_append → ai,drop_succ_cons → aj
open Option renaming map → ak
namespace fq
def cU(f:Nat)(h:Int×Int):Int×Int:=(h.1+(f:Int),h.2)
def ca(f:Nat)(l:Hits):Hits:=l.map (cU f)
def BB.sh(f:Nat)(b:BB):BB:={ b with start:=b.start+f }
def Pc.sh(f:Nat)(p:Pc):Pc:={ p with blk:=p.blk.sh f }
def Wk.sh(f:Nat)(w:Wk):Wk:={ w with pc:=if w.ph=2∨w.ph=3 then w.pc.sh f else w.pc,hits:=ca f w.hits }
def St.sh(f:Nat)(s:St):St:=
 { s with
  pl:={ s.pl with took:=ca f s.pl.took }
  iG:={ s.iG with took:=ca f s.iG.took }
  q:=⟨s.q.items.map (Pc.sh f),s.q.closed⟩
  rg:=⟨s.rg.places.map (ak (ca f)),s.rg.next⟩
  out:=⟨s.out.items.map (cU f),s.out.closed⟩
  fm:=s.fm.map (Wk.sh f)
  mg:={ s.mg with hits:=ca f s.mg.hits } }
section
variable {c:Cf} {M:Mc} {ans:List Bool} {f:Nat} {s:St}
theorem cn(f:Nat)(a b:Hits):ca f (a++b)=ca f a++ca f b:=ai
theorem cz(f:Nat)(a:Hits):(ca f a).isEmpty=a.isEmpty:=by cases a<;>rfl
theorem cd(f:Nat):Wk.fresh.sh f=Wk.fresh:=rfl
theorem cy(f:Nat)(b:BB):∀(n k d:Nat) (h:Hits),scan M (b.sh f) n k d (ca f h)=((scan M b n k d h).1,(scan M b n k d h).2.1,ca f (scan M b n k d h).2.2)
 |0,_,_,_=>rfl
 |n+1,k,d,h=>by
  rw[gY,gY];have e:ni M (b.sh f) (M.step k ((b.sh f).data.getD d 0)) d=ca f (ni M b (M.step k (b.data.getD d 0)) d):=by
   unfold ni ca;show(if b.eZ<d+1 then _ else _)=_;split
   ·rw[List.map_map];apply List.map_congr_left;intro x _;show(((b.start+f:Nat):Int)-(b.eZ:Int)+((d+1:Nat):Int),(x:Int))=(((b.start:Int)-(b.eZ:Int)+((d+1:Nat):Int))+(f:Int),(x:Int))
    rw[Prod.mk.injEq];exact⟨by omega,rfl⟩
   ·rfl
  rw[e,←cn];show(if d<b.data.length then _ else _)=_;split
  ·exact cy f b n _ _ _
  ·rfl
theorem cR(r:Rg)(n:Nat):(⟨r.places.map (ak (ca f)),r.next⟩:Rg).at_ n=(r.at_ n).map (ca f):=by
 unfold Rg.at_;simp only[aa,ae,List.getElem?_map];cases r.places[n%r.places.length]?<;>rfl
theorem bs{d h:Type}(g:d→h)(l:List d)(i:Nat)(x:d):(l.set i x).map g=(l.map g).set i (g x):=List.map_set
theorem getD_map{h E:Type}(g:h→E)(l:List h)(i:Nat)(d:h):(l.map g).getD i (g d)=g (l.getD i d):=by
 simp only[ae,List.getElem?_map];cases l[i]?<;>rfl
theorem cA:(s.sh f).rdStep (c.at_ f) M=(s.rdStep (c.at_ 0) M).sh f:=by
 unfold St.rdStep;show(if s.pl.cancelled=al then _ else if s.rd.ph=1 then _ else if s.rd.ph=2 then _ else if s.rd.ph=3 then _ else _)=_;split
 ·unfold St.ix;show St.iH (if s.rd.holds=al then _ else _)=_;split<;>rfl
 ·split
  ·rfl
  ·split
   ·unfold St.gN;rw[show(s.sh f).src.next ((c.at_ f).block-(s.sh f).rd.own)=s.src.next (c.block-s.rd.own)from rfl,show s.src.next ((c.at_ 0).block-s.rd.own)=s.src.next (c.block-s.rd.own)from rfl];cases s.src.next (c.block-s.rd.own)with
    |some x=>rfl
    |none=>
     dsimp only;rw[show(s.sh f).rd.own=s.rd.own from rfl];by_cases h:0<s.rd.own
     ·rw[if_pos h,if_pos h];rfl
     ·rw[if_neg h,if_neg h];rfl
   ·split
    ·unfold St.lR St.sh;simp only[Ff.put,ai,ab,ad];congr 3;unfold Pc.sh BB.sh;simp only[Cf.at_];congr 3;omega
    ·rfl
theorem cb{i:Nat}{w d:Wk}(h:d.pc.buf=w.pc.buf):(s.sh f).ij i d=(s.ij i w).sh f:=by
 unfold St.ij St.sh;simp only[bs,cd,h]
theorem cG(w:Wk):(w.sh f).pc.buf=w.pc.buf:=by
 unfold Wk.sh;show(if _ then _ else _:Pc).buf=_;split<;>rfl
theorem cj{i:Nat}{w:Wk}(h:w.ph=1):(s.sh f).jN i (w.sh f)=(s.jN i w).sh f:=by
 have E:({ w with ph:=4 }:Wk).sh f={ w.sh f with ph:=4 }:=by unfold Wk.sh;simp[h]
 unfold St.jN;show(match s.q.items.map (Pc.sh f)with|[]=>_|x::_=>_)=_;cases d:s.q.items with
 |nil=>
  simp only[ad];unfold St.sh;simp only[bs,E,d,ad]
 |cons x l=>
  simp only[ab];have H:({ w with pc:=x,ph:=2 }:Wk).sh f={ w.sh f with pc:=x.sh f,ph:=2 }:=by unfold Wk.sh;simp
  unfold St.sh;simp only[bs,H,Ff.drop1,d,ab,aj,List.drop_zero]
theorem cB{i:Nat}{w:Wk}(U:1≤w.ph∧w.ph≤3):(s.sh f).kd (c.at_ f) M i (w.sh f)=(s.kd (c.at_ 0) M i w).sh f:=by
 unfold St.kd;show(if s.pl.cancelled=al then _ else if w.ph=1 then _ else if w.ph=2 then _ else _)=_;split
 ·unfold St.gQ;show(if w.ph=1 then _ else _)=_;split
  ·rename_i E;show(match s.q.items.map (Pc.sh f)with|[]=>_|x::_=>_)=_;have h:=cj (s:=s) (f:=f) (i:=i) E;unfold St.jN at h;change(match s.q.items.map (Pc.sh f)with|[]=>_|x::_=>_)=_ at h;cases O:s.q.items with
   |nil=>rw[O]at h;exact h
   |cons x l=>
    simp only[ab];have e:({ s.sh f with q:=(s.sh f).q.drop1 }:St)=({ s with q:=s.q.drop1 }:St).sh f:=by
     unfold St.sh Ff.drop1;simp only[List.map_drop]
    rw[e];exact cb rfl
  ·exact cb (cG w)
 ·split
  ·rename_i E;exact cj E
  ·rename_i E;split
   ·rename_i I;unfold St.jO;have d:(w.sh f).pc=w.pc.sh f:=by unfold Wk.sh;simp[I]
    have J:=cy (M:=M) f w.pc.blk c.slice w.node w.done [];have H:scan M (w.sh f).pc.blk (c.at_ f).slice (w.sh f).node (w.sh f).done []=((scan M w.pc.blk c.slice w.node w.done []).1,(scan M w.pc.blk c.slice w.node w.done []).2.1,ca f (scan M w.pc.blk c.slice w.node w.done []).2.2):=by rw[d];exact J
    have T:(w.sh f).pc.blk.data.length=w.pc.blk.data.length:=by rw[d];rfl
    dsimp only;rw[H,T,show(c.at_ 0).slice=c.slice from rfl];dsimp only;generalize scan M w.pc.blk c.slice w.node w.done []=o;unfold St.sh;simp only[bs];congr 2;unfold Wk.sh;have e:∀(a b:Nat),(if a=b then 3 else 2:Nat)=2∨(if a=b then 3 else 2:Nat)=3:=λa b=>by split<;>simp
    simp only[I,true_or,if_true,cn];rw[if_pos (e _ _)]
   ·rename_i I;unfold St.nf;have d:(w.sh f).pc=w.pc.sh f:=by unfold Wk.sh;simp[show w.ph=3 by omega]
    rw[d];have e:({ s.sh f with rg:=(s.sh f).rg.put (w.pc.sh f).blk.num (w.sh f).hits }:St)=({ s with rg:=s.rg.put w.pc.blk.num w.hits }:St).sh f:=by
     unfold St.sh Rg.put;simp only[aa,bs];rfl
    rw[e];exact cb (cG w)
theorem cC:(s.sh f).ke=(s.ke).sh f:=by
 unfold St.ke;show(if s.pl.cancelled=al then _ else if s.mg.ph=1 then _ else _)=_;split
 ·unfold St.nK St.lM St.sh Rg.clear Ff.shut;simp only[aa,List.map_replicate];rfl
 ·split
  ·unfold St.kO;show(match(⟨s.rg.places.map (ak (ca f)),s.rg.next⟩:Rg).at_ s.rg.next with|none=>_|some E=>_)=_;rw[cR];cases d:s.rg.at_ s.rg.next with
   |none=>rfl
   |some E=>
    simp only[Option.map_some,cz];unfold St.sh Rg.take;simp only[aa,bs,Option.map_none];split<;>rfl
  ·unfold St.ka;show(match ca f s.mg.hits with|[]=>_|h::l=>_)=_;cases d:s.mg.hits with
   |nil=>rfl
   |cons h l=>
    show _=St.sh f _;simp only[ca,ab];unfold St.sh Ff.put;simp only[ai,ab,ad,ca];cases l<;>rfl
theorem cD:(s.sh f).iI ans=(s.iI ans).sh f:=by
 unfold St.iI;show(if s.pl.cancelled=al then _ else _)=_;split
 ·unfold St.jV St.sh Ff.clear;simp only[ad,ag]
 ·unfold St.jr;show(match s.out.items.map (cU f)with|[]=>_|h::_=>_)=_;cases d:s.out.items with
  |nil=>
   simp only[ad];unfold St.sh;simp only[d,ad]
  |cons h l=>
   simp only[ab];unfold Snk.offer;rw[show(St.sh f s).iG.offers=s.iG.offers from rfl];cases E:Snk.says ans s.iG.offers with
   |true=>
    simp only[if_true];unfold St.sh Ff.drop1;simp only[d,ab,aj,List.drop_zero,cn];rfl
   |false=>rfl
theorem cg(f:Nat)(l:List Wk)(i:Nat):(l.map (Wk.sh f)).getD i Wk.fresh=(l.getD i Wk.fresh).sh f:=by
 have:=getD_map (Wk.sh f) l i Wk.fresh
 rwa [cd]at this
theorem cH(k:Nat):(s.sh f).ready (c.at_ f) k=s.ready (c.at_ 0) k:=by
 unfold St.ready;show(if k=0 then _ else if k≤c.workers then _ else if k=c.workers+1 then _ else if k=c.workers+2 then _ else _)=(if k=0 then _ else if k≤c.workers then _ else if k=c.workers+1 then _ else if k=c.workers+2 then _ else _)
 have d:∀n,(s.sh f).rg.admits n=s.rg.admits n:=λn=>by unfold Rg.admits St.sh;simp
 split
 ·unfold St.kY;rw[show(s.sh f).rg.admits (s.sh f).pl.number=s.rg.admits s.pl.number from d _];show(if s.rd.ph=5 then _ else if s.pl.cancelled=al then _ else if s.rd.ph=1 then _ else if s.rd.ph=3 then decide ((s.q.items.map (Pc.sh f)).length<c.queue)else _)=_;rw[aa];rfl
 ·split
  ·have e:(s.sh f).fm.getD (k-1) Wk.fresh=(s.fm.getD (k-1) Wk.fresh).sh f:=cg f s.fm (k-1);rw[e];unfold St.kZ St.served;show(if(s.fm.getD (k-1) Wk.fresh).ph=4 then _ else if(s.fm.getD (k-1) Wk.fresh).ph=1 then(!(s.q.items.map (Pc.sh f)).isEmpty||s.q.closed)else _)=_;rw[ag]
  ·split
   ·unfold St.lf St.merged;show(if s.mg.ph=3 then _ else if s.pl.cancelled=al then _ else if s.mg.ph=1 then(((⟨s.rg.places.map (ak (ca f)),s.rg.next⟩:Rg).at_ s.rg.next).isSome||_)else decide ((s.out.items.map (cU f)).length<c.out))=_;rw[cR,aa,Option.isSome_map];rfl
   ·split
    ·unfold St.ng;show(if s.em=2 then _ else !(s.out.items.map (cU f)).isEmpty||s.out.closed)=_;rw[ag]
    ·rfl
theorem ct:(s.sh f).enabled (c.at_ f)=s.enabled (c.at_ 0):=by
 unfold St.enabled;exact List.filter_congr λk _=>cH k
theorem cp:(s.sh f).over=s.over:=by
 unfold St.over;show(decide (s.rd.ph=5)&&(s.fm.map (Wk.sh f)).all (λw=>decide (w.ph=4))&&decide (s.mg.ph=3)&&decide (s.em=2))=_;rw[List.all_map];rfl
theorem cN(h:Room (c.at_ 0) s){k:Nat}(d:s.ready (c.at_ 0) k=al):(s.sh f).step (c.at_ f) M ans k=(s.step (c.at_ 0) M ans k).sh f:=by
 unfold St.step;unfold St.ready at d;show(if k=0 then _ else if k≤c.workers then _ else if k=c.workers+1 then _ else _)=St.sh f (if k=0 then _ else if k≤c.workers then _ else if k=c.workers+1 then _ else _);change(if k=0 then _ else if k≤c.workers then _ else if k=c.workers+1 then _ else if k=c.workers+2 then _ else _)=_ at d;split
 ·exact cA
 ·rename_i J;rw[if_neg J]at d;split
  ·rename_i I;rw[if_pos I]at d;have e:(s.sh f).fm.getD (k-1) Wk.fresh=(s.fm.getD (k-1) Wk.fresh).sh f:=cg f s.fm (k-1);rw[e];refine cB ?_;have H:k-1<s.fm.length:=by rw[h.p.qv];show k-1<c.workers;omega
   have E:s.fm.getD (k-1) Wk.fresh∈s.fm:=by rw[ae,List.getElem?_eq_getElem H];exact List.getElem_mem _
   have:=h.p.Br _ E;unfold St.kZ at d;split at d
   ·cases d
   ·omega
  ·split
   ·exact cC
   ·exact cD
theorem cE:(s.sh f).cancel=s.cancel.sh f:=by
 unfold St.cancel;rw[cp,show(s.sh f).pl.cancelled=s.pl.cancelled from rfl];split<;>rfl
def Go.sh(f:Nat)(g:Go):Go:={ g with s:=g.s.sh f }
variable {r:Rn} {g:Go}
theorem cO(H:Room (r.cf.at_ 0) g.s):(r.at_ f).turn M (g.sh f)=(((r.at_ 0).turn M g).1,((r.at_ 0).turn M g).2.sh f):=by
 have h:(r.at_ f).begun (g.sh f)=((r.at_ 0).begun g).sh f:=by
  unfold Rn.begun;show(if r.cancel=(g.turns.length:Int)then(g.s.sh f).cancel else g.s.sh f)=_;rw[cE];show _=St.sh f (if r.cancel=(g.turns.length:Int)then _ else _);split<;>rfl
 have E:Room (r.cf.at_ 0) ((r.at_ 0).begun g):=by
  unfold Rn.begun;split
  ·exact H.cancel
  ·exact H
 have O:((r.at_ f).begun (g.sh f)).enabled (r.at_ f).cf=((r.at_ 0).begun g).enabled (r.at_ 0).cf:=by rw[h];exact ct
 have T:∀l,(r.at_ f).choice (g.sh f) l=(r.at_ 0).choice g l:=λl=>rfl;unfold Rn.turn;dsimp only;rw[O,T];cases d:(r.at_ 0).choice g (((r.at_ 0).begun g).enabled (r.at_ 0).cf)with
 |none=>dsimp only;rw[h];rfl
 |some x=>
  obtain⟨n,p⟩:=x;dsimp only;have J:=(tG.1 (Ee d)).2;have I:((r.at_ f).begun (g.sh f)).step (r.at_ f).cf M (r.at_ f).answers n=(((r.at_ 0).begun g).step (r.at_ 0).cf M (r.at_ 0).answers n).sh f:=by rw[h];exact cN E J
  rw[I];rfl
theorem cF(E:Room (r.cf.at_ 0) g.s):Room (r.cf.at_ 0) ((r.at_ 0).turn M g).2.s:=by
 have d:Room (r.cf.at_ 0) ((r.at_ 0).begun g):=by
  unfold Rn.begun;split
  ·exact E.cancel
  ·exact E
 unfold Rn.turn;dsimp only;cases h:(r.at_ 0).choice g (((r.at_ 0).begun g).enabled (r.at_ 0).cf)with
 |none=>exact d
 |some x=>exact d.step (tG.1 (Ee h)).2
theorem cI:∀(n:Nat) (g:Go),Room (r.cf.at_ 0) g.s→(r.at_ f).run M n (g.sh f)=((r.at_ 0).run M n g).sh f
 |0,_,_=>rfl
 |n+1,g,hR=>by
  unfold Rn.run;rw[show(g.sh f).s.over=g.s.over from cp,cO hR];show(if g.s.over=al then _ else if g.turns.length<r.most then _ else _)=Go.sh f (if g.s.over=al then _ else if g.turns.length<r.most then _ else _);have d:=cF (M:=M) hR;split
  ·rfl
  ·split
   ·cases h:(r.at_ 0).turn M g with
    |mk b E=>
     rw[h]at d;cases b with
     |true=>exact cI n E d
     |false=>rfl
   ·rfl
theorem cJ:((r.at_ 0).start).sh f=(r.at_ f).start:=by
 unfold Rn.start Go.sh St.sh St.start;simp only[ad,List.map_replicate,Option.map_none,cd];rfl
theorem ck(d:0<r.cf.ring):(r.at_ f).report M={ (r.at_ 0).report M with hits:=ca f ((r.at_ 0).report M).hits }:=by
 have h:=cI (r:=r) (M:=M) (f:=f) r.most (r.at_ 0).start (Room.start (c:=r.cf.at_ 0) d r.reads);rw[cJ]at h;unfold Rn.report;rw[show(r.at_ f).most=r.most from rfl,h];dsimp only;rw[show(Go.sh f ((r.at_ 0).run M r.most (r.at_ 0).start)).s.over=_ from cp];show _=Rp.mk _ _ _ _ _ _ _ _ _;rw[show(r.at_ 0).most=r.most from rfl];simp only[Go.sh,St.sh,ca,aa];rfl
end
end fq
namespace fq
section
variable {r:Rn} {M:Mc} {S:List UInt8→List Nat}
def aM(ans:List Bool)(n:Nat):Nat:=((ah n).filter λi=>!Snk.says ans i).length
theorem aN(ans:List Bool)(n:Nat):aM ans n+((ah n).filter λi=>Snk.says ans i).length=n:=by
 unfold aM;have h:=List.length_eq_countP_add_countP (p:=λi=>Snk.says ans i) (l:=ah n);rw[List.length_range,af,af]at h;have e:(ah n).filter (λi=>!Snk.says ans i)=(ah n).filter (λa=>decide ¬(Snk.says ans a=al)):=by
  refine List.filter_congr λi _=>?_;cases Snk.says ans i<;>rfl
 rw[e];omega
structure aJ(r:Rn)(S:L8→List Nat)(o:Rp):Prop where
 pre:o.hits<+:BD r.cf.kX S r.reads.flatten r.reads.flatten.length
 kind:o.kind=1∨(o.kind=2∧o.at_=0∧r.broken=false∧o.hits=BD r.cf.kX S r.reads.flatten r.reads.flatten.length∧o.read=r.reads.flatten.length)∨
  (o.kind=3∧o.at_=0∧0≤r.cancel∧r.cancel<(o.turns:Int))∨
  (o.kind=4∧o.at_=r.reads.flatten.length∧r.broken=al∧o.hits=BD r.cf.kX S r.reads.flatten r.reads.flatten.length∧o.read=r.reads.flatten.length)
 run:o.kind=1→o.at_=0
 refused:aM r.answers (o.refused+o.hits.length)=o.refused
theorem bI(T:xR M S)(V:1≤r.cf.block)(U:0<r.cf.ring):aJ r S (r.report M):=by
 have h:=aO (r:=r) T V U;unfold Rn.report;generalize r.run M r.most r.start=g at h;have I:g.s.iG.took.length≤g.s.iG.offers:=by
  rw[h.good.says];exact Nat.le_trans (List.length_filter_le _ _) (by rw[List.length_range];exact Nat.le_refl _)
 refine⟨h.good.took,?_,?_,?_⟩
 ·cases d:g.s.over with
  |false=>left;simp[d]
  |true=>
   cases E:g.s.pl.cancelled with
   |true=>
    right;right;left;refine⟨by simp[d,E],by simp[d,E],(h.can E).1,?_⟩;rcases(h.can E).2 with h1|h1
    ·exact h1
    ·rw[d]at h1;cases h1
   |false=>
    obtain⟨h1,O⟩:=h.good.done T d E;cases H:r.broken with
    |false=>right;left;exact⟨by simp[d,E],by simp[d,E],rfl,h1,O⟩
    |true=>right;right;right;exact⟨by simp[d,E],by simp[d,E,O],rfl,h1,O⟩
 ·intro J;cases d:g.s.over with
  |false=>simp[d]
  |true=>
   cases E:g.s.pl.cancelled with
   |true=>simp[d,E]at J
   |false=>
    cases H:r.broken with
    |false=>simp[d,E,H]at J
    |true=>simp[d,E,H]at J
 ·show aM r.answers (g.s.iG.offers-g.s.iG.took.length+g.s.pl.took.length)=g.s.iG.offers-g.s.iG.took.length;rw[←h.good.same,Nat.sub_add_cancel I];have:=aN r.answers g.s.iG.offers;rw[←h.good.says]at this;omega
theorem cu(d:0<r.cf.ring)(f h:Nat):∃o:Rp,(r.at_ f).report M={ o with hits:=ca f o.hits }∧(r.at_ h).report M={ o with hits:=ca h o.hits }:=
 ⟨(r.at_ 0).report M,ck d,ck d⟩
end
end fq
end Go.Proofs.YtofgfpffcegioaaGreat
