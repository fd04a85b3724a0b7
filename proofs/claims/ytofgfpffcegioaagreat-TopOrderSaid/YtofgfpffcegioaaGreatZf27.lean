/- A part of the proof. -/
import Derived.Test.YtofgfpffcegioaaGreatZf24
import Derived.Test.YtofgfpffcegioaaGreatZf26
set_option maxRecDepth 100000
set_option maxHeartbeats 8000000
namespace Go.Proofs.YtofgfpffcegioaaGreat
open Go.RowKit Go.Shelf Go.Sort iT jH Go.Proofs.Tryz
open List renaming getElem?_eq_some_iff → aa,getElem?_eq_getElem → ab,idxOf_lt_length_iff → ad,findSome?_singleton → ae,suffix_rfl → af,length_pos_iff → ag,getElem_of_mem → ah
def gi(L:LL):L8→L8
 |[]=>[]
 |c::s=>if c::s∈L then c::s else gi L s
structure fV(L:LL):Prop where
 nodup:L.Nodup
 zero:L[0]?=some []
 pre:∀x∈L,∀y,y<+:x→y∈L
 less:∀i j (hi:i<L.length) (hj:j<L.length),L[i].length<L[j].length→i<j
def idx(L:LL)(s:L8):Nat:=L.idxOf s
section
variable {L:List (List UInt8)}
theorem fV.nil(h:fV L):[]∈L:=List.mem_of_getElem? h.zero
theorem fV.pos(h:fV L):0<L.length:=(aa.1 h.zero).1
theorem oN{s:L8}(h:s∈L):idx L s<L.length:=List.idxOf_lt_length_of_mem h
theorem GB{s:L8}(h:s∈L):L[idx L s]'(oN h)=s:=List.getElem_idxOf (oN h)
theorem j2{s:L8}(h:s∈L):L.getD (idx L s) []=s:=by
 grind[ab,oN,GB]
theorem GC{s:L8}(h:s∉L):idx L s=L.length:=List.idxOf_eq_length h
theorem getD_at{i:Nat}(h:i<L.length):L.getD i []=L[i]:=zG
theorem nU(h:L.Nodup){i j:Nat}(hi:i<L.length)(d:j<L.length)(e:L[i]=L[j]):i=j:=by
 grind[Nat.lt_trichotomy,absurd,List.pairwise_iff_getElem]
theorem EI(h:L.Nodup){i:Nat}(hi:i<L.length):idx L L[i]=i:=nU h (oN (List.getElem_mem hi)) hi (GB (List.getElem_mem hi))
theorem ny(h:fV L):idx L []=0:=by
 have:=EI h.nodup h.pos
 rwa [(aa.1 h.zero).2]at this
theorem mJ:∀s,gi L s<:+s
 |[]=>af
 |c::s=>by
  unfold gi;split
  ·exact af
  ·exact(mJ s).trans (List.suffix_cons c s)
theorem j3(h:[]∈L):∀s,gi L s∈L
 |[]=>h
 |c::s=>by
  unfold gi;split
  ·assumption
  ·exact j3 h s
theorem su:∀{s t:L8},t<:+s→t∈L→t<:+gi L s
 |[],t,h,_=>h
 |c::s,t,h,ht=>by
  unfold gi;split
  ·exact h
  ·rename_i d;rcases List.suffix_cons_iff.1 h with e|h
   ·subst e;exact absurd ht d
   ·exact su h ht
theorem LF{a b:L8}(h:a<:+b)(k:b<:+a):a=b:=h.eq_of_length_le k.length_le
theorem yS{s u:L8}(H:[]∈L)(E:u<:+s)(h:u∈L)(d:∀t,t<:+s→t∈L→t<:+u):gi L s=u:=LF (d _ (mJ s) (j3 H s)) (su E h)
theorem qe{s:L8}(d:[]∈L)(h:s∈L):gi L s=s:=yS d af h (λ_ h _=>h)
theorem Cs{t y:L8}{c:UInt8}(h:t<:+y++[c]):t=[]∨∃s,t=s++[c]∧s<:+y:=by
 rcases List.eq_nil_or_concat t with e|⟨s,d,e⟩
 ·grind
 ·right;rw[List.concat_eq_append]at e;subst e;obtain⟨u,E⟩:=h;grind[List.append_assoc,List.append_inj']
theorem Ct{a b:L8}(h:a<:+b)(c:UInt8):a++[c]<:+b++[c]:=by
 obtain⟨u,d⟩:=h;grind
theorem qf(h:fV L)(y:L8)(c:UInt8):gi L (gi L y++[c])=gi L (y++[c]):=by
 refine(yS h.nil ((mJ _).trans (Ct (mJ y) c)) (j3 h.nil _) λt E s=>?_).symm;refine su ?_ s;rcases Cs E with rfl|⟨H,rfl,d⟩
 ·grind
 ·exact Ct (su d (h.pre _ s _ (List.prefix_append _ _))) c
def fH(L:LL)(i:Nat):Nat:=idx L (gi L (L.getD i []).tail)
def wj(L:LL)(i:Nat)(c:UInt8):Nat:=idx L (gi L (L.getD i []++[c]))
theorem EJ(h:fV L):fH L 0=0:=by
 unfold fH;rw[getD_at h.pos,(aa.1 h.zero).2];exact ny h
theorem kT(h:fV L)(i:Nat):fH L i<L.length:=oN (j3 h.nil _)
theorem nV(h:fV L)(i:Nat):L.getD (fH L i) []=gi L (L.getD i []).tail:=j2 (j3 h.nil _)
theorem qg(h:fV L){i:Nat}(hi:i<L.length)(d:0<i):L[i]≠[]:=λe=>by
 have:=nU h.nodup hi h.pos (by rw[e,(aa.1 h.zero).2]);omega
theorem nW(h:fV L){i:Nat}(hi:i<L.length)(s:0<i):fH L i<i:=by
 have d:=qg h hi s;refine h.less _ _ (kT h i) hi ?_;grind[nV,getD_at,kT,mJ,List.length_tail,ag]
def rv(L:LL)(K:List ((Int×UInt8)×Int))(k:Nat):Prop:=∀x c,x<L.length→jx K ((x:Int),c)=if idx L (L.getD x []++[c])<k then some ((idx L (L.getD x []++[c]):Nat):Int)else none
theorem LG(h:fV L):rv L [] 1:=λx c E=>by
 rw[NV,if_neg];intro H;have s:idx L (L.getD x []++[c])=0:=zO;have d:L.getD x []++[c]∈L:=ad.1 (show L.idxOf _<_ by grind[idx]);have:=j2 d;rw[s,getD_at h.pos,(aa.1 h.zero).2]at this;simp at this
theorem IS(h:fV L){K:List ((Int×UInt8)×Int)}{k p:Nat}{b:UInt8}(U:rv L K k)(s:k<L.length)(I:p<L.length)(E:L[k]=L[p]++[b]):rv L (upd K ((p:Int),b) (k:Int)) (k+1):=λx c d=>by
 rw[NW,U x c d];by_cases e:(((x:Int),c):Int×UInt8)=((p:Int),b)
 ·rw[if_pos e];simp only[Prod.mk.injEq]at e;obtain⟨Y,rfl⟩:=e;obtain rfl:x=p:=zO;rw[getD_at d,←E,EI h.nodup s,if_pos zO]
 ·rw[if_neg e];have J:idx L (L.getD x []++[c])≠k:=λT=>by
   have O:L.getD x []++[c]∈L:=ad.1 (show L.idxOf _<_ by grind[idx]);have H:=j2 O;rw[T,getD_at s,E,getD_at d]at H;obtain⟨V,W⟩:=List.append_inj' H rfl;have:=nU h.nodup I d V;grind
  grind
theorem wu(_:fV L){K:List ((Int×UInt8)×Int)}(s:rv L K L.length){x:Nat}(d:x<L.length)(c:UInt8):jx K ((x:Int),c)=if L.getD x []++[c]∈L then some ((idx L (L.getD x []++[c]):Nat):Int)else none:=by
 rw[s x c d];by_cases E:L.getD x []++[c]∈L
 ·simp_all[oN]
 simp_all[GC]
theorem LH(h:fV L){K:List ((Int×UInt8)×Int)}(J:rv L K L.length){lk:List Nat}(c:UInt8):∀(f n:Nat),n≤f→n<L.length→(∀j,j≤n→lk.getD j 0=fH L j)→
  ((gO lk f n).findSome? λx:Nat=>jx K ((x:Int),c)).getD 0=((wj L n c:Nat):Int):=λf=>by
 induction f with
 |zero=>
  intro n O H E;obtain rfl:n=0:=zO;rw[pJ,ae,wu h J H];unfold wj;rw[getD_at h.pos,(aa.1 h.zero).2,List.nil_append];by_cases s:[c]∈L
  ·rw[if_pos s,qe h.nil s];rfl
  simp_all[gi,ny]
 |succ g U=>
  intro n O H E;rcases Nat.eq_zero_or_pos n with rfl|h0
  ·rw[pJ,ae,wu h J H];unfold wj;rw[getD_at h.pos,(aa.1 h.zero).2,List.nil_append];by_cases s:[c]∈L
   ·rw[if_pos s,qe h.nil s];rfl
   simp_all[gi,ny]
  ·obtain⟨T,Y,I⟩:=wh (lk:=lk) O h0;obtain rfl:T=g:=zO;rw[I,List.findSome?_cons,wu h J H];by_cases s:L.getD n []++[c]∈L
   ·rw[if_pos s];unfold wj;rw[qe h.nil s];rfl
   ·rw[if_neg s,E n (Nat.le_refl _)];have W:=nW h H h0;have:=U (fH L n) zO (kT h n) (λj hj=>E j zO);show((gO lk T (fH L n)).findSome? λx:Nat=>jx K ((x:Int),c)).getD 0=_;rw[this];refine congrArg (λz:Nat=>(z:Int)) ?_;unfold wj;rw[nV h n,qf h];have V:=qg h H h0;rw[getD_at H]at s ⊢;cases hx:L[n]with
    |nil=>rfl
    |cons d y=>
     simp_all[List.tail_cons,List.cons_append,gi]
theorem Oh(h:fV L){K:List ((Int×UInt8)×Int)}(E:rv L K L.length){lk:List Nat}(c:UInt8){n:Nat}(s:n<L.length)(d:∀j,j≤n→lk.getD j 0=fH L j):sr K lk n c=((wj L n c:Nat):Int):=LH h E c n n (Nat.le_refl _) s d
theorem LI(h:fV L){k p:Nat}{b:UInt8}(s:k<L.length)(d:p<L.length)(E:L[k]=L[p]++[b])(H:p≠0):fH L k=wj L (fH L p) b:=by
 unfold fH;unfold wj;rw[j2 (j3 h.nil _),qf h,getD_at s,getD_at d,E];grind[qg,absurd]
theorem IU(h:fV L){k:Nat}{b:UInt8}(d:k<L.length)(s:L[k]=L[0]'h.pos++[b]):fH L k=0:=by
 unfold fH;rw[getD_at d,s,(aa.1 h.zero).2];exact ny h
end
theorem ic(ws:LL):fV (ey ws) where
 nodup:=mG ws
 zero:=by
  have s:=vK ws;obtain⟨p,d,e⟩:=ah ((iK [] ws).2 (.inl rfl));rw[ab zO];congr 1;rcases Nat.eq_zero_or_pos ((ey ws)[0]'zO).length with h0|h0
  ·grind
  ·have:=qd (ws:=ws) (i:=0) (p:=p) zO d zG;omega
 pre x hx y hy:=by
  grind[iK]
 less i j hi hj h:=qd hj hi h
def lD(L ws:LL)(i:Nat):Nat:=idx L (gi ws (L.getD i []).tail)
def ju(ws:LL):L8→List Nat
 |[]=>[]
 |c::s=>if c::s∈ws then ws.idxOf (c::s)::ju ws s else ju ws s
section
variable {L ws:List (List UInt8)}
theorem sw(d:∀x∈ws,x∈L):∀s,gi ws s=if gi L s∈ws then gi L s else gi ws (gi L s).tail
 |[]=>by grind[gi]
 |c::s=>by
  by_cases h:c::s∈L
  ·simp_all[gi]
  ·have e:gi L (c::s)=gi L s:=by simp_all[gi]
   have H:gi ws (c::s)=gi ws s:=by conv=>lhs;unfold gi;rw[if_neg (λE=>h (d _ E))]
   rw[e,H];exact sw d s
theorem ry(d:∀x∈ws,x∈L)(E:[]∈L):∀s,gi ws s∈L
 |[]=>E
 |c::s=>by
  unfold gi;split
  ·rename_i h;exact d _ h
  ·exact ry d E s
theorem tj(h:fV L)(d:∀x∈ws,x∈L)(i:Nat):lD L ws i<L.length:=oN (ry d h.nil _)
theorem yT(h:fV L)(d:∀x∈ws,x∈L)(i:Nat):L.getD (lD L ws i) []=gi ws (L.getD i []).tail:=j2 (ry d h.nil _)
theorem EK(h:fV L):lD L ws 0=0:=by
 unfold lD;rw[getD_at h.pos,(aa.1 h.zero).2];exact ny h
theorem IV(h:fV L)(d:∀x∈ws,x∈L){i:Nat}(hi:L.getD (fH L i) []∈ws):lD L ws i=fH L i:=by
 rw[nV h]at hi;unfold lD fH;rw[sw d,if_pos hi]
theorem LJ(h:fV L)(d:∀x∈ws,x∈L){i:Nat}(hi:L.getD (fH L i) []∉ws):lD L ws i=lD L ws (fH L i):=by
 unfold lD;rw[nV h]at hi ⊢;rw[sw d,if_neg hi]
theorem wx(h:fV L)(d:∀x∈ws,x∈L){i:Nat}(hi:i<L.length)(E:0<i):lD L ws i<i:=by
 have s:=qg h hi E;refine h.less _ _ (tj h d i) hi ?_;grind[yT,getD_at,tj,mJ,List.length_tail,ag]
theorem qh:∀s,ju ws s=ju ws (gi ws s)
 |[]=>rfl
 |c::s=>by
  by_cases h:c::s∈ws
  ·simp_all[gi]
  ·conv=>rhs;unfold gi
   rw[if_neg h,←qh s];simp_all[ju]
theorem IW(h:fV L)(s:∀x∈ws,x∈L){i:Nat}(hi:i<L.length)(H:0<i):ju ws (L.getD i [])=(if L.getD i []∈ws then [ws.idxOf (L.getD i [])]else [])++ju ws (L.getD (lD L ws i) []):=by
 have E:=qg h hi H;rw[yT h s];rw[getD_at hi];cases I:L[i]with
 |nil=>grind
 |cons d y=>
  grind[List.tail_cons,qh,ju]
theorem yU(h:fV L):ju ws (L.getD 0 [])=[]:=by
 rw[getD_at h.pos,(aa.1 h.zero).2];rfl
def nextL(L ws:LL):List Nat:=(List.range L.length).map (lD L ws)
def pK(L ws:LL)(k:Nat):List Nat:=(List.range L.length).map λj=>if j<k then lD L ws j else 0
theorem jf(k:Nat):(pK L ws k).length=L.length:=by simp[pK]
theorem pL{k j:Nat}(h:j<L.length):(pK L ws k).getD j 0=if j<k then lD L ws j else 0:=by
 grind[pK,List.getElem?_range]
theorem IX(h:fV L):pK L ws 1=List.replicate L.length 0:=by
 apply List.ext_getElem
 ·rw[jf];simp
 ·intro i d s;rw[jf]at d;have:=pL (ws:=ws) (k:=1) d;grind[ab,jf,EK]
theorem IY{k:Nat}(_:k<L.length):(pK L ws k).set k (lD L ws k)=pK L ws (k+1):=by
 apply List.ext_getElem
 ·grind[List.length_set,jf]
 ·intro i H d;rw[jf]at d;have E:=pL (ws:=ws) (k:=k) d;have s:=pL (ws:=ws) (k:=k+1) d;grind
theorem yV:pK L ws L.length=nextL L ws:=by
 simp_all[pK,nextL,List.map_congr_left,List.mem_range]
theorem wy{j:Nat}(h:j<L.length):(nextL L ws).getD j 0=lD L ws j:=by
 rw[←yV,pL h,if_pos h]
theorem jg:(nextL L ws).length=L.length:=by simp[nextL]
end
theorem qi(ws:LL):∀x∈ws,x∈ey ws:=λx h=>(iK x ws).2 (.inr ⟨x,h,List.prefix_rfl⟩)
theorem GD{t:vH}{L ws:LL}(E:j1 t L ws)(hN:fV L){i:Nat}(hi:i<L.length):t.word[i]?=some (if L.getD i []∈ws then((ws.idxOf (L.getD i []):Nat):Int)else -1):=by
 have V:ws.Nodup:=(nR E.right).2;rw[getD_at hi];rcases E.wd.word i hi with h|⟨h0,k,x,H,h1,h2,h3⟩
 ·rw[h,if_neg];intro d;obtain⟨k,H,W⟩:=ah d;obtain⟨j,I,s⟩:=E.wd.all k H;rcases E.wd.word j I with h'|⟨_,U,x,Y,T,O,J⟩
  ·grind
  ·rw[T]at s;simp only[Option.some.injEq]at s;obtain rfl:U=k:=zO;rw[ab I]at O;rw[ab H]at J;have e:L[i]=L[j]:=zG;obtain rfl:=nU hN.nodup hi I e;grind
 grind
end Go.Proofs.YtofgfpffcegioaaGreat
