/- A part of the proof. -/
import Derived.Test.YtofgfpffcegioaaGreatZf00
set_option maxRecDepth 100000
set_option maxHeartbeats 8000000
namespace Go.Proofs.YtofgfpffcegioaaGreat
open List renaming mem_append_right → ag,mem_of_getElem? → ah
open Nat renaming le_succ → ae,zero_le → af
namespace fq
structure DV(n:Nat)(s:St):Prop where
 num:s.pl.number≤n
 read:s.pl.read≤256*n
 told:s.src.told≤256*n
 offers:s.iG.offers≤n
 ahead:s.rd.ahead≤256*n
section
variable {c:Cf} {M:Mc} {S:List UInt8→List Nat} {text:List UInt8} {ans:List Bool} {s:St} {n:Nat}
theorem DV.mono(h:DV n s){m:Nat}(d:n≤m):DV m s:=by
 obtain⟨O,J,I,H,E⟩:=h;exact⟨by omega,by omega,by omega,by omega,by omega⟩
theorem KI{x d:Src}{n:Nat}{b:L8}(h:x.next n=some (b,d)):d.told=x.told+b.length:=by
 grind[Src.next]
theorem DV.gN(h:DV n s)(H:c.block≤256):DV (n+1) (s.gN c M):=by
 obtain⟨U,T,O,J,I⟩:=h;unfold St.gN;split
 ·rename_i b E d;have W:=(BF d).1;have V:=KI d;exact⟨by grind,by grind,by grind,by grind,by grind⟩
 ·split
  ·exact⟨by grind,by grind,by grind,by grind,by grind⟩
  ·exact⟨by grind,by grind,by grind,by grind,by grind⟩
theorem DV.of{t:St}(h:DV n s)(J:t.pl.number≤s.pl.number+1)(I:t.pl.read=s.pl.read)(H:t.src.told=s.src.told)(E:t.iG.offers≤s.iG.offers+1)(d:t.rd.ahead=s.rd.ahead∨t.rd.ahead=s.pl.read):DV (n+1) t:=by
 obtain⟨W,V,U,T,O⟩:=h;exact⟨by omega,by omega,by omega,by omega,by omega⟩
theorem DV.step(h:DV n s)(d:c.block≤256)(k:Nat):DV (n+1) (s.step c M ans k):=by
 unfold St.step;split
 ·unfold St.rdStep;split
  ·unfold St.ix St.iH;split
   ·exact h.of (ae _) rfl rfl (ae _) (.inl rfl)
   ·exact h.of (ae _) rfl rfl (ae _) (.inl rfl)
  ·split
   ·exact h.of (ae _) rfl rfl (ae _) (.inr rfl)
   ·split
    ·exact h.gN d
    ·split
     ·exact h.of (Nat.le_refl _) rfl rfl (ae _) (.inl rfl)
     ·exact h.of (ae _) rfl rfl (ae _) (.inl rfl)
 ·split
  ·unfold St.kd St.gQ St.jN St.jO St.nf St.ij
   repeat' split
   all_goals exact h.of (ae _) rfl rfl (ae _) (.inl rfl)
  ·split
   ·unfold St.ke St.nK St.lM St.kO St.ka St.lM
    repeat' split
    all_goals exact h.of (ae _) rfl rfl (ae _) (.inl rfl)
   ·unfold St.iI St.jV St.jr;split
    ·exact h.of (ae _) rfl rfl (ae _) (.inl rfl)
    ·split
     ·exact h.of (ae _) rfl rfl (ae _) (.inl rfl)
     ·dsimp only;split
      ·refine h.of (ae _) rfl rfl ?_ (.inl rfl);show(Snk.offer ans s.iG _).2.offers≤s.iG.offers+1;unfold Snk.offer;grind
      ·refine h.of (ae _) rfl rfl ?_ (.inl rfl);show(Snk.offer ans s.iG _).2.offers≤s.iG.offers+1;unfold Snk.offer;grind
theorem DV.cancel(h:DV n s):DV n s.cancel:=by
 unfold St.cancel;split
 ·exact h
 ·exact⟨h.num,h.read,h.told,h.offers,h.ahead⟩
theorem DV.start(c:Cf)(d:LL)(n:Nat):DV n (St.start c d):=⟨af _,af _,af _,af _,af _⟩
theorem Good.Gn(h:Good c M S text ans s):s.pl.took.length≤s.iG.offers:=by
 rw[←h.same,h.says];grind
theorem Room.Pj(h:Room c s){n:Nat}(E:n∈s.iq):n<c.ring∧s.buf.used.getD n false=true∧s.buf.free.length<c.ring:=by
 have d:=h.b.lt E;refine⟨d,by rw[h.b.used n d];grind,?_⟩;have:=h.b.len;grind
theorem Room.KJ(h:Room c s)(d:s.rd.holds=true):s.rd.buf<c.ring∧s.buf.used.getD s.rd.buf false=true∧s.buf.free.length<c.ring:=
 h.Pj (by simp_all[St.iq])
theorem Room.Pk(h:Room c s){x:Pc}(d:x∈s.jP):x.buf<c.ring∧s.buf.used.getD x.buf false=true∧s.buf.free.length<c.ring:=
 h.Pj (by grind[St.iq,ag])
theorem qW{i:Nat}{w:Wk}(hi:s.fm[i]?=some w)(d:w.ph=2∨w.ph=3):w.pc∈s.jP:=
 ag _ (List.mem_filterMap.2 ⟨w,ah hi,Wk.jX d⟩)
theorem Ig{x:Pc}{l:List Pc}(d:s.q.items=x::l):x∈s.jP:=List.mem_append_left _ zG
theorem Room.Pm(h:Room c s){x:Pc}(d:x∈s.jP):s.rg.next≤x.blk.num∧x.blk.num<s.pl.number:=h.n.num _ (List.mem_map.2 ⟨x,d,rfl⟩)
theorem Room.KL(h:Room c s)(H:s.rd.holds=false)(E:s.rg.admits s.pl.number=true):∃l n,s.buf.free=l++[n]∧n<c.ring:=by
 have d:=h.free H E;refine⟨s.buf.free.dropLast,s.buf.free.getLast d,(List.dropLast_concat_getLast d).symm,h.b.Gk (List.getLast_mem d)⟩
theorem Dat.KM(h:Dat c M text s):s.rd.tail.length≤M.long-1:=by
 rw[h.r.tail,List.length_drop,List.length_take];omega
theorem Dat.KN(h:Dat c M text s)(d:s.rd.ph=2∨s.rd.ph=3):(s.buf.data.getD s.rd.buf []).length≤s.rd.own+(M.long-1):=by
 obtain⟨J,I,H,E⟩:=h.r.uS d;grind
structure Gp(M:Mc)(kX len:Nat)(b:BB):Prop where
 start:b.start≤kX+len
 eZ:b.eZ+1≤M.long
 wst:b.eZ≤b.start
 own:b.eZ+1≤b.data.length
 Qd:b.data.length≤b.eZ+256
theorem Dat.can(h:Dat c M text s)(H:Room c s)(J:1≤M.long)(I:c.block≤256)(E:1≤c.block){x:Pc}(d:x∈s.jP):Gp M c.kX text.length x.blk:=by
 have U:=(H.Pm d).2;have T:=h.r.cnt zO;have O:x.blk.num*c.block≤(s.pl.number-1)*c.block:=Nat.mul_le_mul_right _ zO;rw[h.jP x d];have V:(x.blk.num+1)*c.block=x.blk.num*c.block+c.block:=Nat.succ_mul _ _;refine⟨?_,?_,?_,?_,?_⟩
 ·show c.kX+x.blk.num*c.block≤_;omega
 ·show min (M.long-1) (x.blk.num*c.block)+1≤_;omega
 ·show min (M.long-1) (x.blk.num*c.block)≤c.kX+x.blk.num*c.block;omega
 ·rw[Eb];show min (M.long-1) (x.blk.num*c.block)+1≤_;omega
 ·rw[Eb];show _≤min (M.long-1) (x.blk.num*c.block)+256;omega
theorem yw(hs:∀j b,j<M.states→M.step j b<M.states)(b:BB):∀(n k d:Nat) (hs:Hits),k<M.states→(scan M b n k d hs).1<M.states
 |0,k,d,h0,hk=>hk
 |n+1,k,d,h0,hk=>by
  rw[gY];split
  ·exact yw hs b n _ _ _ (hs _ _ hk)
  omega
theorem sZ{q:Nat}(b:BB)(hs:∀j b,j<M.states→M.step j b<M.states)(E:∀j,j<M.states→(M.words j).length≤q):∀(n k d:Nat) (h:Hits),k<M.states→(scan M b n k d h).2.2.length≤h.length+n*q
 |0,k,d,h,hk=>by show h.length≤_;omega
 |n+1,k,d,h,hk=>by
  rw[gY];split
  ·refine Nat.le_trans (sZ b hs E n _ _ _ (hs _ _ hk)) ?_;rw[List.length_append];have e:(ni M b (M.step k (b.data.getD d 0)) d).length≤q:=by
    unfold ni;grind
   grind
  grind
theorem Dat.T8(h:Dat c M text s)(d:1≤M.states)(hs:∀j b,j<M.states→M.step j b<M.states)(E:∀j,j<M.states→(M.words j).length≤64){i:Nat}{w:Wk}(hi:s.fm[i]?=some w)(H:w.ph=2) :
  w.node<M.states∧w.done≤w.pc.blk.data.length∧w.hits.length≤w.pc.blk.data.length*64:=by
 obtain⟨J,I,-⟩:=(h.w w (ah hi)).wk (.inl H);have T:=yw hs w.pc.blk w.done 0 0 [] d;have O:=sZ w.pc.blk hs E w.done 0 0 [] d;grind
end
end fq
namespace fq
def Eg(T last n:Nat):Nat:=if n<last then last-n else last+T-n
def Rounds(T:Nat):Int→List (List Nat×Nat)→Prop
 |_,[]=>True
 |last,(en,pk)::ts=>(∀n∈en,n<T)∧pk∈en∧pk=ji last en∧Rounds T (pk:Int) ts
def lastOf(last:Int)(d:List (List Nat×Nat)):Int:=d.foldl (λ_ t=>(t.2:Int)) last
theorem tJ(T:Nat):∀(E:List (List Nat×Nat)) (h:Int) (s:List Nat) (H:Nat),Rounds T h E→(∀n∈s,n<T)→H∈s→H=ji (lastOf h E) s→Rounds T h (E++[(s,H)])
 |[],_,_,_,_,h1,h2,h3=>⟨h1,h2,h3,trivial⟩
 |(_,p)::E,_,s,H,⟨a,b,c,d⟩,h1,h2,h3=>⟨a,b,c,tJ T E (p:Int) s H d h1 h2 h3⟩
def OkW(T:Nat)(last:Int)(W:List (Int×Nat)):Prop:=∀x∈W,∃n k:Nat,x.1=(n:Int)∧last=(k:Int)∧k<T∧n<T∧n≠k∧x.2≤Eg T k n
theorem Ih{T:Nat}{last:Int}{W:List (Int×Nat)}(h:OkW T last W)(n:Nat):jz W (n:Int)=0∨∃k:Nat,last=(k:Int)∧k<T∧n<T∧n≠k∧jz W (n:Int)≤Eg T k n:=by
 unfold jz;cases d:W.find? λx=>x.1==(n:Int)with
 |none=>grind
 |some x=>
  right;obtain⟨m,k,O,J,I,H,E,s⟩:=h x (List.mem_of_find?_eq_some d);have:=List.find?_some d;have:x.1=(n:Int):=zG;have e:m=n:=zO;grind
theorem KP{T:Nat}{last:Int}{W:List (Int×Nat)}(h:OkW T last W){I:List Nat}{d:Nat}(H:∀n∈I,n<T)(E:d∈I)(hr:d=ji last I):OkW T (d:Int) (gb W I d):=by
 intro x V;unfold gb at V;obtain⟨n,hn,rfl⟩:=List.mem_map.1 V;have O:=List.mem_filter.1 hn;have J:n≠d:=zG;have U:=H n O.1;have s:=H d E;refine⟨n,d,rfl,rfl,s,U,J,?_⟩;show jz W (n:Int)+1≤Eg T d n;have h1:1≤Eg T d n:=by grind[Eg]
 rcases Ih h n with h0|⟨k,hk,ad,ab,aa,Y⟩
 ·omega
 ·have hs:=(pz last (List.ne_nil_of_mem E)).2;rw[←hr]at hs;subst hk;unfold Eg at Y ⊢;grind
theorem BI(T:Nat)(H:0<T):∀(s:List (List Nat×Nat)) (d:Int) (W:List (Int×Nat)) (m:Nat),Rounds T d s→OkW T d W→m≤T-1→waits s W m≤T-1
 |[],_,_,m,_,_,hm=>hm
 |(Y,pk)::s,d,W,m,⟨h1,h2,h3,h4⟩,hW,hm=>by
  have h:=KP hW h1 h2 h3;unfold waits;refine BI T H s _ _ _ h4 h ?_;have:∀(l:List (Int×Nat)) (m:Nat),(∀x∈l,x.2≤T-1)→m≤T-1→l.foldl (λm x=>max m x.2) m≤T-1:=by
   intro l
   induction l with
   |nil=>grind
   |cons x l I=>
    grind
  refine this _ _ (λx E=>?_) hm;obtain⟨n,k,_,_,V,U,O,J⟩:=h x E;grind[Eg]
section
variable {M:Mc} {r:Rn}
structure Fair(r:Rn)(g:Go):Prop where
 rounds:Rounds (r.cf.workers+3) r.plan.last g.turns
 kind:g.plan.kind=3
 last:g.plan.last=lastOf r.plan.last g.turns
theorem Fair.turn{g:Go}(h:Fair r g)(E:r.picks=[]):Fair r (r.turn M g).2:=by
 unfold Rn.turn;dsimp only;split
 ·exact⟨h.rounds,h.kind,h.last⟩
 ·rename_i n p d;unfold Rn.choice at d;rw[E,if_neg zS]at d;unfold Pn.pick at d;split at d
  ·cases d
  ·rw[h.kind]at d;rw[if_neg zD,if_neg zD,if_pos rfl]at d;cases d;rename_i I;have s:(r.begun g).enabled r.cf≠[]:=zG;refine⟨tJ _ _ _ _ _ h.rounds (λn H=>(tG.1 H).1) (pz _ s).1 (by rw[←h.last]),rfl,?_⟩;grind[ji,lastOf]
theorem Fair.run(E:r.picks=[]):∀(f:Nat) (g:Go),Fair r g→Fair r (r.run M f g)
 |0,g,h=>h
 |f+1,g,h=>by
  unfold Rn.run;split
  ·exact h
  ·split
   ·have d:=h.turn (M:=M) E;split
    ·rename_i H s;rw[s]at d;exact Fair.run E f H d
    ·rename_i H s;rw[s]at d;exact d
   ·exact h
theorem Ii(s:r.picks=[])(E:r.plan.kind=3):window (r.run M r.most r.start).turns≤r.cf.workers+3:=by
 have h:=Fair.run (M:=M) s r.most r.start ⟨trivial,E,rfl⟩;have:=BI (r.cf.workers+3) zO _ _ [] 0 h.rounds (λx d=>by cases d) (af _);grind[window]
end
end fq
namespace fq
section
variable {r:Rn} {M:Mc} {S:List UInt8→List Nat}
theorem xS(d:r.picks=[])(h:r.plan.kind=3):1≤(r.report M).window∧(r.report M).window≤r.cf.workers+3:=
 ⟨Nat.succ_le_succ (af _),Ii d h⟩
end
end fq
end Go.Proofs.YtofgfpffcegioaaGreat
