/- A part of the proof. -/
import Derived.Test.YtofgfpffcegioaaGreatZf31
import Derived.Test.YtofgfpffcegioaaGreatZf35
set_option maxRecDepth 100000
set_option maxHeartbeats 8000000
namespace Go.Proofs.YtofgfpffcegioaaGreat
open Go.RowKit Go.Shelf Go.Sort iT jH fq Go.Proofs.Tryz
open Go.Proofs.Tryz renaming underlying296 → bj
open Go.World.grownBy renaming refl → bd
open List renaming getElem?_eq_getElem → bg
open Nat renaming le_refl → bf
open Option renaming some → bh,none → bk
def iR(p:Pn)(l:List Nat):Pn×Nat×Bool:=match p.pick l with|some (n,q)=>(q,n,true)|none=>(p,0,false)
section
variable {w w':World} {g:Nat} {p:Pn}
theorem Jc(J:Box w g 353 (tY p))(l:List Nat)(v:Value)(h:eT l v w)(I:l.length≤1000000)(s:l≠[]→v.ownBlock≠bh g) :
  Calls prog 221 #[gP g,v] w λe w'=>e=.returned (.tuple #[iV ((iR p l).2.1:Int),.bool (iR p l).2.2])∧Box w' g 353 (tY (iR p l).1)∧w.grownBy w' (bh g):=by
 by_cases E:l=[]
 ·have e:iR p l=(p,0,false):=by grind[iR,Pn.pick]
  rw[e];refine(I8 l E v h).mono ?_;grind[bd]
 ·have W:l.isEmpty=false:=zG;by_cases V:p.kind=1
  ·have e:iR p l=({ p with last:=(minL l:Int) },minL l,true):=by simp_all[iR,Pn.pick]
   grind[I6]
  ·by_cases U:p.kind=2
   ·have e:iR p l=({ p with last:=(maxL l:Int) },maxL l,true):=by simp_all[iR,Pn.pick]
    grind[I7]
   ·by_cases T:p.kind=3
    ·have e:iR p l=({ p with last:=(ji p.last l:Int) },ji p.last l,true):=by simp_all[iR,Pn.pick]
     grind[CB]
    ·by_cases O:p.kind=4
     ·obtain⟨d,H⟩:∃d,d=(p.seed*1664525+1013904223)%4294967296:=⟨_,rfl⟩
      have e:iR p l=({ p with seed:=d,last:=((l.getD ((d/65536)%l.length) 0:Nat):Int) },l.getD ((d/65536)%l.length) 0,true):=by simp_all[iR,Pn.pick]
      grind[ES]
     ·have e:iR p l=(p,0,false):=by simp_all[iR,Pn.pick]
      rw[e];refine(CC J l E v h I V U T O).mono ?_;grind[bd]
theorem Jd(p:Pn)(l:List Nat)(v:Value)(w:World)(hv:eT l v w)(hn:l.length≤1000000):Calls prog 163 #[.agg (tY p),v] w (eB w (eR [eC (.agg (tY (iR p l).1)),eC (iV ((iR p l).2.1:Int)),eC (.bool (iR p l).2.2)])):=by
 have ag:=ek w (.cells (tY p) 31);have ae:=Box.new w 31 (tY p);obtain⟨d,h⟩:∃d,d=(w.alloc (.cells (tY p) 31)).alloc (.cells #[.int .u8 0,.int .u32 0,iV 0] 31):=⟨_,rfl⟩
 have H:Ext w d:=by rw[h];exact ag.tr (ek _ _)
 have s:Box d w.heap.size 31 (tY p):=by rw[h];exact ae.alloc _
 have aa:Box d (w.heap.size+1) 31 #[.int .u8 0,.int .u32 0,iV 0]:=by
  grind[Box.new,tY,World.size_alloc]
 have hP:=hide (λW g (hE:Ext d W) (hg:d.heap.size≤g) (hb:Box W g 353 (tY p))=>Jc hb l v (VP.st _ _ _ _ hv (H.tr hE)) hn (λhl e=>by
  obtain⟨A,c,rfl,-,-,hx⟩:=eT.form hv;have:=H.size;grind[List.length_pos_iff,Value.ownBlock]))
 obtain⟨A,c,rfl,-⟩:=eT.form hv;obtain⟨np,V⟩:∃np,np=iR p l:=⟨_,rfl⟩
 rw[←V]at hP ⊢;obtain⟨q,m,ok⟩:=np;clear ae ag hv V hn;generalize l.length=n at*;have U:tY p=#[.int .u8 (p.kind:Int),.int .u32 (p.seed:Int),iV p.last]:=rfl;have T:tY q=#[.int .u8 (q.kind:Int),.int .u32 (q.seed:Int),iV q.last]:=rfl;rw[U]at hP s h ⊢;rw[T]at hP ⊢;clear U T;generalize(p.kind:Int)=z0 at*;generalize(p.seed:Int)=z1 at*;generalize p.last=z2 at*;generalize(q.kind:Int)=y0 at*;generalize(q.seed:Int)=y1 at*;generalize q.last=y2 at*;go_enter func163,ntmps163;go_upto_region 1 with(fail)
 rw[←h];have ab:=Box.new d 353 #[.int .u8 0,.int .u32 0,iV 0];have af:=ek d (.cells #[.int .u8 0,.int .u32 0,iV 0] 353);have k0:=s.at_ 0 rfl;have k1:=s.at_ 1 rfl;have k2:=s.at_ 2 rfl;clear h;go_wp2_with(refine eK rfl _ _ _ rfl rfl d.heap.size #[.int .u8 z0,.int .u32 z1,iV z2] rfl rfl _ _ ab zR rfl rfl ?_)
 intro w2 ad _ hX;have O:=hX _ af (bf _);have ah:=hide (hP.out w2 d.heap.size O (bf _) ad);have HE2:=hide (And.intro O aa);clear hX af ab ad O hP k0 k1 k2 s aa;go_wp2_with fail;refine ah.out.mono ?_;rintro _ w3 ⟨rfl,E,Y⟩;have J:Ext d w3:=HE2.out.1.grown Y HE2.out.1.size (λk hk=>by grind);have I:=HE2.out.2.ext J;have k0:=E.at_ 0 rfl;have k1:=E.at_ 1 rfl;have k2:=E.at_ 2 rfl;have HF:=hide (H.tr J);clear ah HE2 Y E;go_wp2_with(refine eK rfl _ _ _ rfl rfl (w.heap.size+1) #[.int .u8 y0,.int .u32 y1,iV y2] rfl rfl _ _ I zK rfl rfl ?_)
 intro w4 ai _ hX;have aj:=hide (hX _ HF.out zO);clear hX HF J I k0 k1 k2 H;go_wp2;refine bodyPost_ret (j4 results163 _ _ (w.heap.size+1) 31 _ _ zR ai underlying31 rfl zR (x:=iV m) (y:=.bool ok) zR zR) rfl ?_;exact eB.mk aj.out (eR.three rfl rfl rfl)
end
def vN(n:Nat):Value:=iV n
def kI(z:Int):Value:=iV z
theorem QA:vm prog 3 kI:=K2 (q:=.i64) underlying3
theorem EW(W:List (Int×Nat))(n:Int):jz W n=(jx W n).getD 0:=by
 grind[jz,jx]
theorem Oo{l:List (Int×Nat)}{k:Int}{v:Nat}(h:∀x∈l,x.1≠k):upd l k v=l++[(k,v)]:=by
 grind[jx,Option.map_eq_none_iff,List.find?_eq_none,upd]
theorem Je(W:List (Int×Nat))(d:List Nat)(s:Nat){k:Nat}(h:k<d.length):gb W (d.take (k+1)) s=gb W (d.take k) s++if d.getD k 0=s then []else [((((d.getD k 0:Nat)):Int),jz W ((d.getD k 0:Nat):Int)+1)]:=by
 unfold gb;rw[List.take_succ_eq_append_getElem h,List.filter_append,List.map_append,List.getD_eq_getElem?_getD,bg h];grind
theorem EX(W:List (Int×Nat)){d:List Nat}(J:d.Nodup)(H:Nat){k:Nat}(h:k<d.length):∀x∈gb W (d.take k) H,x.1≠((d.getD k 0:Nat):Int):=by
 intro x E;unfold gb at E;obtain⟨n,s,rfl⟩:=List.mem_map.1 E;have I:=(List.mem_filter.1 s).1;grind[List.getElem_of_mem,List.length_take,bg,List.pairwise_iff_getElem]
def EY(h:List (List Nat×Nat)):VP:=⟨λv w=>∃A c,v=.slice A h.length c∧h.length≤c∧c≤maxLen∧(0<h.length→∃b d,A=bh ⟨b,d,bk⟩∧b<w.heap.size∧∀j,j<h.length→∃u,w.cell? ⟨b,d+j*2,bk⟩=bh u∧eT (h.getD j ([],0)).1 u w∧w.cell? ⟨b,d+j*2+1,bk⟩=bh (iV ((h.getD j ([],0)).2:Int))),
 λv w w' ⟨A,c,h1,Y,W,V⟩ s=>⟨A,c,h1,Y,W,λO=>by
  obtain⟨b,d,e,E,U⟩:=V O;refine⟨b,d,e,Nat.lt_of_lt_of_le E s.size,λj T=>?_⟩;obtain⟨u,J,I,H⟩:=U j T;exact⟨u,(s.cell E).trans J,(eT _).wk _ _ _ I s,(s.cell E).trans H⟩⟩⟩
theorem wG(h:List Nat)(d:Nat)(s:List (List Nat×Nat))(W:List (Int×Nat))(m:Nat):waits ((h,d)::s) W m=waits s (gb W h d) ((gb W h d).foldl (λm x=>max m x.2) m):=by rfl
theorem tZ{W:List (Int×Nat)}{k:Nat}(h:∀x∈W,x.2≤k)(E:List Nat)(s:Nat):∀x∈gb W E s,x.2≤k+1:=by
 intro x d;unfold gb at d;obtain⟨n,-,rfl⟩:=List.mem_map.1 d;show jz W _+1≤k+1;have:jz W ((n:Nat):Int)≤k:=by
  unfold jz;cases e:W.find? λx=>x.1==((n:Nat):Int)with
  |none=>grind
  |some y=>grind
 omega
theorem EZ{W:List (Int×Nat)}{k:Nat}(h:∀x∈W,x.2≤k)(n:Int):jz W n≤k:=by
 unfold jz;cases e:W.find? λx=>x.1==n with
 |none=>grind
 |some y=>grind
theorem Tryz.LY(w:World):(Instr.makeMap 296 bk).run prog w=.ok (.map (bh w.heap.size)) (w.alloc (.map #[] 0)):=by rfl
theorem wH(W:List (Int×Nat))(k:Int):((jx W k).map vN).getD (iV 0)=iV ((jz W k:Nat):Int):=by
 rw[EW];cases jx W k with
 |none=>rfl
 |some x=>rfl
theorem CJ{l:List (Int×Nat)}{k:Int}(v:Nat)(h:∀x∈l,x.1≠k):jz (l++[(k,v)]) k=v:=by
 grind[jz,List.find?_eq_none]
def SN:VP:=⟨λv _=>∃z:Int,v=iV z,λ_ _ _ h _=>h⟩
def SO(l:List (Int×Nat))(m:Nat):Nat:=l.foldl (λm x=>max m x.2) m
theorem E0(l:List (Int×Nat))(m:Nat)(k:Int)(v:Nat):SO (l++[(k,v)]) m=max (SO l m) v:=by grind[SO]
section
variable {w:World}
theorem Jf(U:List (List Nat×Nat))(v:Value)(w:World)(hv:EY U v w)(aQ:∀x∈U,x.1.Nodup):Calls prog 108 #[v] w (eB w (eR [eC (iV ((waits U [] 0:Nat):Int)),SN])):=by
 obtain⟨A,c,rfl,aZ,aY,hx⟩:=hv;unfold maxLen at aY;obtain⟨n,hn⟩:∃n,U.length=n:=⟨_,rfl⟩
 rw[hn]at aZ hx ⊢;have aF:=ek w (.map #[] 0);have aI:=fQ.made (kv:=kI) (ev:=vN) w;have ak:=Tryz.LY w;go_enter func108,ntmps108;go_upto_region 2 with(fail)
 have aL:=hide aF;have aN:=hide aI;clear aF aI ak;generalize w.alloc (.map #[] 0)=w1 at*;go_wp2_with fail
 go_loopw [2,3,4,6,7,9,13,21] (λs2 s3 s4 _ _ _ i _ wr=>∃(k mi b4:Nat) (z:Int) (I:List (Int×Nat)),k≤n∧i=iV k∧s2=iV mi∧s3=iV z∧s4=.map (bh b4)∧w.heap.size≤b4∧Hid (Ext w wr)∧Hid (fQ wr b4 kI vN I)∧Hid (waits U [] 0=waits (U.drop k) I mi)∧Hid (∀x∈I,x.2≤k)) (λ_ _ _ _ _ _ i _ _=>n-(intOf i).toNat)
 case atStart=>exact⟨0,0,w.heap.size,0,[],Nat.zero_le _,rfl,rfl,rfl,rfl,bf _,aL,aN,hide zR,hide (λx hx=>by cases hx)⟩
 case round=>
  clear aL aN;obtain⟨k,mi,b4,z,I,hk,rfl,rfl,rfl,rfl,bc,HX,HM,HW,HL⟩:=hrel;by_cases az:k<n
  ·have ay:(k:Int)<(n:Int):=zO;obtain⟨b,d,rfl,aC,V⟩:=hx zO;obtain⟨u,q1,q2,q3⟩:=V k az;have ba:k<U.length:=zO;have hd:U.drop k=U.getD k ([],0)::U.drop (k+1):=by
    simp_all
   have av:(U.getD k ([],0)).1.Nodup:=aQ _ zG;have hW:=HW.out;rw[hd]at hW;generalize U.getD k ([],0)=t at*;obtain⟨s,J⟩:=t;have hW:=hW.trans (wG s J (U.drop (k+1)) I mi);have q1:=(HX.out.cell (p:=⟨b,d+k*2,bk⟩) aC).trans q1;have q3:=(HX.out.cell (p:=⟨b,d+k*2+1,bk⟩) aC).trans q3;have q2:=VP.st (eT s) _ _ _ q2 HX.out;have HN:=hide av;have VS:=hide hW;clear hx V hd hW HW av;have aP:wr.cell? ⟨b,d+k*2,bk⟩=bh u:=q1;have aO:wr.cell? ⟨b,d+k*2+1,bk⟩=bh (iV J):=q3;clear q1 q3;obtain⟨A2,c2,rfl,aX,aW,hy⟩:=eT.form q2;unfold maxLen at aW;have W:=Box.new wr 137 #[nS,iV 0];have aE:=HX.out.tr (ek wr (.cells #[nS,iV 0] 137));go_wp2_with(refine eK rfl _ _ _ rfl rfl wr.heap.size #[.slice A2 s.length c2,iV J] rfl rfl _ _ W zR rfl rfl ?_)
   intro T am aS ai;have ao:Ext w T:=ai w aE HX.out.size;have an:Ext wr T:=ai wr (ek _ _) (bf _);have aq:=HM.out.ext an;have ak:=Tryz.LY T;have aH:=fQ.made (kv:=kI) (ev:=vN) T;have aD:=ao.tr (ek T (.map #[] 0));have Y:=am.ext (ek T (.map #[] 0));have E:=aq.ext (ek T (.map #[] 0));have a9:b4≠T.heap.size:=by have:=aq.lt;omega
   have aV:w.heap.size≤T.heap.size:=ao.size;have aU:=am.lt;have aa:0<s.length→∃b d,A2=bh ⟨b,d,bk⟩∧b<wr.heap.size∧∀j,j<s.length→(T.alloc (.map #[] 0)).cell? ⟨b,d+j,bk⟩=bh (iV (s.getD j 0:Int)):=λh=>by
    obtain⟨b,d,e,h1,h2⟩:=hy h;exact⟨b,d,e,h1,λj hj=>((an.tr (ek T (.map #[] 0))).cell (p:=⟨b,d+j,bk⟩) h1).trans (h2 j hj)⟩
   have c0:=Y.at_ 0 rfl;obtain⟨gx,ah⟩:∃gx,gx=wr.heap.size:=⟨_,rfl⟩
   rw[←ah]at Y c0 aU aa ⊢;obtain⟨m,hm⟩:∃m,s.length=m:=⟨_,rfl⟩
   rw[hm]at aX aa c0 Y ⊢;have N3:=hide aD;have aM:=hide aH;have Un:=hide E;have HB3:=hide Y;have Hy:=hide aa;clear aD aH E Y aa hy am aS ai ao an aq aE W aP aO q2 ah;go_upto_region 6 with(fail)
   clear ak;generalize T.alloc (.map #[] 0)=w3 at*;generalize T.heap.size=b7 at*;have HK:=hide VS.out;clear VS hW q1 q3 q2;go_wp2_with fail;clear c0
   go_loopw [2,3,9,21] (λs2 s3 _ i wq=>∃(j H:Nat) (zj:Int),j≤m∧i=iV j∧s2=iV H∧s3=iV zj∧Hid (H=SO (gb I (s.take j) J) mi)∧Hid (w3.grownBy wq (bh b7))∧Hid (fQ wq b7 kI vN (gb I (s.take j) J))) (λ_ _ _ i _=>m-(intOf i).toNat)
   case atStart=>exact⟨0,mi,z,Nat.zero_le _,rfl,rfl,rfl,hide zR,hide (bd _ _),aM⟩
   case round=>
    clear aM;obtain⟨j,H,zj,hj,rfl,rfl,rfl,HQ,HG,HM⟩:=hrel;by_cases ag:j<m
    ·have al:(j:Int)<(m:Int):=zO;obtain⟨b',af,rfl,a5,aB⟩:=Hy.out zO;have bb:wr.cell? ⟨b',af+j,bk⟩=bh (iV ((s.getD j 0:Nat):Int)):=HG.out.cell (aB j ag) (λe=>by have e:b'=b7:=Option.some.inj e;omega);have W:Box wr gx 137 #[.slice (bh ⟨b',af,bk⟩) m c2,iV J]:=(HG.out.block gx HB3.out.lt (λe=>by simp_all)).trans HB3.out;have c1:=W.at_ 1 rfl;have hs:=hide (Je I s J (k:=j) zO);have hf:=hide (EX I HN.out J (k:=j) zO);have au:=EZ HL.out ((s.getD j 0:Nat):Int);have aG:fQ wr b4 kI vN I:=Un.out.same (HG.out.block b4 Un.out.lt (λe=>by simp_all));have ab:=aG.rT QA bj (mF wr) ((s.getD j 0:Nat):Int);rw[wH]at ab;generalize a6:s.getD j 0=y at*;generalize a7:gb I (s.take j) J=L at*;generalize jz I (y:Int)=q at*;have a8:q<n:=zO;have ab:(Instr.lookup 296 (.map (bh b4)) (iV y) false).run prog wr=.ok (iV q) wr:=ab;clear aG W aB Hy;by_cases ar:y=J
     ·have e:=hs.out;rw[if_pos ar,List.append_nil]at e;rw[←e]at HQ HM;clear hs hf e ab au;go_wp2_with fail;exact⟨⟨j+1,H,zj,by omega,rfl,rfl,rfl,HQ,HG,HM⟩,show m-(j+1)<m-j by omega⟩
     ·have a4:¬(y:Int)=(J:Int):=zO;have e:=hs.out;rw[if_neg ar]at e;obtain⟨w4,aj,E,aA,-,-⟩:=HM.out.update QA bj (y:Int) (q+1);rw[Oo hf.out]at E;have aj:(Instr.mapUpdate 296 (.map (bh b7)) (iV y) (iV ((q:Int)+1))).run prog wr=.ok () w4:=aj;have O:=E.rT QA bj (mF w4) (y:Int);rw[wH,CJ _ hf.out]at O;have O:(Instr.lookup 296 (.map (bh b7)) (iV y) false).run prog w4=.ok (iV ((q:Int)+1)) w4:=O;rw[←e]at E;have ad:=hide E;have ae:=hide (HG.out.trans aA);have aw:SO (gb I (s.take (j+1)) J) mi=max H (q+1):=by rw[e,E0,HQ.out]
      have TU:=hide aw;clear hs hf e E aA HM HG HQ aw au;by_cases h1:H<q+1
      ·have aK:(q:Int)+1>(H:Int):=zO;go_wp2_with fail;exact⟨⟨j+1,q+1,(y:Int),by omega,rfl,rfl,rfl,hide (by rw[TU.out];omega),ae,ad⟩,show m-(j+1)<m-j by omega⟩
      ·have aK:¬(q:Int)+1>(H:Int):=zO;by_cases h2:q+1=H
       ·have aJ:(q:Int)+1=(H:Int):=zO;rw[aJ]at aj O aK;by_cases h3:(y:Int)<zj
        ·go_wp2_with fail;exact⟨⟨j+1,H,(y:Int),by omega,rfl,rfl,rfl,hide (by rw[TU.out];omega),ae,ad⟩,show m-(j+1)<m-j by omega⟩
        ·go_wp2_with fail;exact⟨⟨j+1,H,zj,by omega,rfl,rfl,rfl,hide (by rw[TU.out];omega),ae,ad⟩,show m-(j+1)<m-j by omega⟩
       ·have aJ:¬(q:Int)+1=(H:Int):=zO;go_wp2_with fail;exact⟨⟨j+1,H,zj,by omega,rfl,rfl,rfl,hide (by rw[TU.out];omega),ae,ad⟩,show m-(j+1)<m-j by omega⟩
    ·have al:¬(j:Int)<(m:Int):=zO;have aT:j=m:=zO;subst aT;have hq:=HQ.out;have ap:=HM.out;rw[List.take_of_length_le zO]at hq ap;have Xe:=hide hq;have a2:=hide ap;have a1:=hide (N3.out.grown HG.out N3.out.size (λk hk=>by simp_all));have a3:=hide (tZ HL.out s J);clear hq ap HQ HM HG HB3 Un N3 ag HX HL HN;go_wp2_with fail;exact⟨⟨k+1,H,b7,zj,gb I s J,by omega,rfl,rfl,rfl,rfl,aV,a1,a2,hide (by rw[Xe.out];exact HK.out),a3⟩,show n-(k+1)<n-k by omega⟩
  ·have ay:¬(k:Int)<(n:Int):=zO;have aR:k=n:=zO;subst aR;have e:=HW.out;rw[List.drop_eq_nil_of_le zO]at e;rw[show waits [] I mi=mi by rfl]at e;have HE:=hide e;clear HW az e;go_wp2_with fail
   go_ret2
   exact⟨_,rfl,HX.out,eR.two (show eC _ _ _ by rw[HE.out];rfl) ⟨z,rfl⟩⟩
theorem zd:∀(d:List (List Nat×Nat)) (W:List (Int×Nat)) (m k:Nat),m≤k→(∀x∈W,x.2≤k)→waits d W m≤k+d.length
 |[],W,m,k,h,_=>by grind[waits]
 |(en,pk)::d,W,m,k,h,hW=>by
  rw[wG];have s:=tZ hW en pk;have E:(gb W en pk).foldl (λm x=>max m x.2) m≤k+1:=by
   generalize gb W en pk=L at s;have:∀(L:List (Int×Nat)) (m:Nat),m≤k+1→(∀x∈L,x.2≤k+1)→L.foldl (λm x=>max m x.2) m≤k+1:=by
    intro L
    induction L with
    |nil=>grind
    |cons x L H=>grind
   grind
  have:=zd d _ _ (k+1) E s;grind
theorem CK(d:List (List Nat×Nat))(v:Value)(w:World)(H:EY d v w)(h:∀x∈d,x.1.Nodup)(hn:d.length≤2^62):Calls prog 65 #[v] w (eB w (eC (iV ((window d:Nat):Int)))):=by
 have U:=hide (Jf d v w H h);obtain⟨A,c,rfl,T,O,-⟩:=H;have s:=zd d [] 0 0 (bf _) (λx I=>by cases I);have Y:waits d [] 0≤2^62:=zO;have V:=hide (show((window d:Nat):Int)=((waits d [] 0:Nat):Int)+1 by rfl);generalize waits d [] 0=q at*;generalize window d=r at*;clear s;go_enter func65,ntmps65;go_wp2_with fail;refine U.out.mono ?_;rintro _ W ⟨u,rfl,E,J⟩;obtain⟨_,_,rfl,rfl,z,rfl⟩:=eR.inv2 J;go_wp2_with fail;go_ret;exact⟨_,rfl,E,by rw[V.out];rfl⟩
end
end Go.Proofs.YtofgfpffcegioaaGreat
namespace Go.Proofs.YtofgfpffcegioaaGreat
open Go.RowKit iT jH Go.Proofs.Tryz
open Bool renaming true → aj,and_eq_true → ak,true_and → au
open List renaming getElem?_eq_some_iff → al,idxOf_lt_length_iff → an,mem_of_find?_eq_some → ao
open List.cons renaming injEq → aq
open UInt8 renaming toNat_ofNat' → ah,toNat_lt → ai,ofNat → ar
theorem byte_toNat{k:Nat}(h:k<256):(ar k).toNat=k:=by simp_all
theorem ze(c:UInt8):¬(65≤(gy c).toNat∧(gy c).toNat≤90):=by
 grind[gy,ah]
theorem sC(d:Bool)(P:L8→Prop)(H:∀w,P (textF d w)):∀(E s:LL),(∀a∈s,P a)→∀a∈fp d s E,P a
 |[],s,h=>by grind[fp]
 |w::E,s,h=>by
  unfold fp;refine sC d P H E _ ?_;grind
theorem ua{ws:LL}(h:eS aj ws=aj):∀c∈ws.flatten,¬(65≤c.toNat∧c.toNat≤90):=by
 unfold eS at h;simp only[ak,decide_eq_true_eq]at h;intro c d;obtain⟨w,E,s⟩:=List.mem_flatten.1 d;rw[←h.2]at E;refine sC aj (λa=>∀c∈a,¬(65≤c.toNat∧c.toNat≤90)) (λv=>?_) ws [] (λa H=>by cases H) w E c s;intro c d;unfold textF folds at d;simp only[if_true]at d;grind[ze]
theorem LZ{f:Bool}{c:UInt8}(d:f=aj→¬(65≤c.toNat∧c.toNat≤90)){i:Nat}(hi:i<256):(i==c.toNat||(f&&fZ c.toNat&&i==c.toNat-32))=gM f [c] [ar i]:=by
 have s:=byte_toNat hi;have h:=ai c;rw[Bool.eq_iff_iff];cases f
 ·unfold gM;simp only[Bool.false_and,Bool.or_false,beq_iff_eq,Bool.false_eq_true,if_false,decide_eq_true_eq,aq,and_true];grind[UInt8.toNat_inj]
 ·have d:=d rfl;unfold gM folds fZ;simp only[au,Bool.or_eq_true,ak,beq_iff_eq,if_true,decide_eq_true_eq,List.map_cons,List.map_nil,aq,and_true];rw[show gy c=c by unfold gy;grind];unfold gy;rw[s];constructor
  ·rintro(e|⟨⟨H,E⟩,e⟩)
   ·simp_all
   ·rw[if_pos zO];grind[UInt8.toNat_inj,ah]
  ·intro e;have e:=congrArg UInt8.toNat e;grind[ah]
def Au(f:Bool)(i:Nat):Bool:=f&&fZ i
structure Uo(f:Bool)(h:Nat→Bool)(n:Nat):Prop where
 none:∀j,j<n→h j=false→(gj f h n).1 j=0
 some:∀j,j<n→h j=aj→1≤(gj f h n).1 j∧(gj f h n).1 j<(gj f h n).2
 twin:∀j,j<n→h j=aj→Au f j=aj→(gj f h n).1 j=(gj f h n).1 (j-32)
 rise:∀i j,i<j→j<n→h i=aj→h j=aj→Au f i=false→Au f j=false→(gj f h n).1 i<(gj f h n).1 j
 many:1≤(gj f h n).2
 full:∀k:Int,1≤k→k<(gj f h n).2→∃j,j<n∧h j=aj∧Au f j=false∧(gj f h n).1 j=k
theorem E5{f:Bool}{i:Nat}(h:Au f i=aj):97≤i∧i≤122:=by grind[Au,fZ]
theorem QB{f:Bool}{i:Nat}(h:Au f i=aj):Au f (i-32)=false:=by
 grind[E5,Au,fZ,decide,decide_eq_false]
theorem Az(f:Bool)(h:Nat→Bool)(hc:∀i,Au f i=aj→h i=aj→h (i-32)=aj):∀n,Uo f h n
 |0=>⟨λj s=>absurd s zO,λj s=>absurd s zO,λj s=>absurd s zO,λi j _ s=>absurd s zO,by simp[gj],λk H T=>by grind[gj]⟩
 |n+1=>by
  obtain⟨i1,i2,i3,i4,i5,i6⟩:=Az f h hc n;have J:=qk f h n;generalize ad:gj f h n=st at*;obtain⟨c,m⟩:=st;dsimp only at*;unfold zb at J;by_cases hh:h n=false
  ·rw[if_pos hh]at J;have ae:∀j,j<n+1→h j=aj→j<n:=λj s E=>by
    grind
   have h0:c n=0:=by
    have:∀k,(gj f h k).1 k=0→True:=λ_ _=>trivial;have aa:∀k j,k≤j→(gj f h k).1 j=0:=by
     intro k
     induction k with
     |zero=>grind[gj]
     |succ k ih=>
      intro j s;rw[qk];have:=ih j zO;unfold zb;split
      ·exact this
      ·split
       ·show(if j=k then _ else _)=_;omega
       ·show(if j=k then _ else _)=_;omega
    have:=aa n n (Nat.le_refl _);simp_all
   refine⟨λj s E=>?_,λj s E=>?_,λj s E I=>?_,λi j V s W E U I=>?_,?_,λk H T=>?_⟩
   ·rw[J];grind
   ·simp_all
   ·simp_all
   ·simp_all
   ·grind
   ·rw[J]at T ⊢;grind
  ·have hh:h n=true:=zG;rw[hh,if_neg zS]at J;by_cases hf:Au f n=aj
   ·have O:(f&&fZ n)=true:=hf;rw[if_pos O]at J;have af:=E5 hf;have ag:=hc n hf hh;have e0:(gj f h (n+1)).1 n=c (n-32):=zG;have Y:∀j,j<n→(gj f h (n+1)).1 j=c j:=λj s=>by grind
    have e2:(gj f h (n+1)).2=m:=by rw[J]
    have d:∀j,j<n+1→j<n∨j=n:=λj s=>by omega
    refine⟨λj s E=>?_,λj s E=>?_,λj s E I=>?_,λi j V s W E U I=>?_,by omega,λk H T=>?_⟩
    ·rcases d j s with H|rfl
     ·grind
     grind
    ·rcases d j s with H|rfl
     ·grind
     grind
    ·rcases d j s with H|rfl
     ·rw[Y j H,Y _ zO];grind
     grind
    ·rcases d j s with H|rfl
     ·grind
     grind
    ·rw[e2]at T;obtain⟨j,h3,h4,h5,h6⟩:=i6 k H T;grind
   ·have ab:Au f n=false:=zG;have O:(f&&fZ n)=false:=ab;rw[O,if_neg zS]at J;have e0:(gj f h (n+1)).1 n=m:=zG;have Y:∀j,j<n→(gj f h (n+1)).1 j=c j:=λj s=>by grind
    have e2:(gj f h (n+1)).2=m+1:=by rw[J]
    have d:∀j,j<n+1→j<n∨j=n:=λj s=>by omega
    refine⟨λj s E=>?_,λj s E=>?_,λj s E I=>?_,λi j V s W E U I=>?_,by omega,λk H T=>?_⟩
    ·rcases d j s with H|rfl
     ·grind
     grind
    ·rcases d j s with H|rfl
     ·grind
     omega
    ·rcases d j s with H|rfl
     ·rw[Y j H,Y _ zO];grind
     grind
    ·rcases d j s with H|rfl
     ·grind
     grind
    ·rw[e2]at T;by_cases hk:k=m
     ·grind
     ·obtain⟨j,h3,h4,h5,h6⟩:=i6 k H zO;grind
def qy(f:Bool)(i:Nat):Nat:=if Au f i=aj then i-32 else i
theorem uA(f:Bool)(i:Nat):Au f (qy f i)=false:=by
 grind[qy,QB]
theorem GK(f:Bool)(i:Nat):qy f i≤i:=by grind[qy]
section
variable {f:Bool} {h:Nat→Bool} (hc:∀ i,Au f i=aj→h i=aj→h (i-32)=aj)
include hc
theorem GL{i:Nat}(hi:h i=aj):h (qy f i)=true:=by
 grind[qy]
theorem GM{n i:Nat}(hi:i<n)(d:h i=aj):(gj f h n).1 (qy f i)=(gj f h n).1 i:=by
 unfold qy;split
 ·exact((Az f h hc n).twin i hi d (by assumption)).symm
 ·rfl
theorem QC{n i j:Nat}(hi:i<n)(E:j<n)(s:h i=aj)(d:h j=aj):(gj f h n).1 i=(gj f h n).1 j↔qy f i=qy f j:=by
 rw[←GM hc hi s,←GM hc E d];constructor
 ·intro e;have I:=GK f i;have H:=GK f j;rcases Nat.lt_trichotomy (qy f i) (qy f j)with hl|hl|hl
  ·have:=(Az f h hc n).rise _ _ hl zO (GL hc s) (GL hc d) (uA f i) (uA f j);omega
  ·exact hl
  ·have:=(Az f h hc n).rise _ _ hl zO (GL hc d) (GL hc s) (uA f j) (uA f i);omega
 grind
theorem L0{n i:Nat}(hi:i<n):(gj f h n).1 i=0↔h i=false:=by
 constructor
 ·intro e;cases d:h i
  ·rfl
  ·have:=((Az f h hc n).some i hi d).1;omega
 ·exact(Az f h hc n).none i hi
theorem Jg{n i:Nat}(hi:i<n):0≤(gj f h n).1 i∧(gj f h n).1 i<(gj f h n).2:=by
 cases d:h i
 ·rw[(Az f h hc n).none i hi d];have:=(Az f h hc n).many;omega
 ·have:=(Az f h hc n).some i hi d;omega
end
theorem tw{f:Bool}{bs:L8}{i:Nat}(hi:Au f i=aj)(s:hasB f bs i=aj):hasB f bs (i-32)=true:=by
 have d:=E5 hi;unfold Au at hi;simp only[ak]at hi;obtain⟨rfl,H⟩:=hi;unfold hasB at*;rw[List.any_eq_true]at*;obtain⟨c,E,h⟩:=s;simp only[au,Bool.or_eq_true,ak,beq_iff_eq]at h;refine⟨c,E,?_⟩;rcases h with h|⟨J,I⟩
 ·grind
 grind[fZ]
theorem L1(f:Bool){i j:Nat}(hi:i<256)(H:j<256):gM f [ar i] [ar j]=decide (qy f i=qy f j):=by
 have E:=byte_toNat hi;have s:=byte_toNat H;rw[Bool.eq_iff_iff,decide_eq_true_eq];cases f
 ·unfold gM qy Au;grind
 ·unfold gM folds qy Au fZ;simp only[au,if_true,decide_eq_true_eq,List.map_cons,List.map_nil,aq,and_true,ak];unfold gy;rw[E,s];constructor
  ·intro e;have e:=congrArg UInt8.toNat e;by_cases h:65≤i∧i≤90<;>by_cases d:65≤j∧j≤90
   ·rw[if_pos h,if_pos d,ah,ah]at e;grind
   ·rw[if_pos h,if_neg d,ah,s]at e;grind
   ·rw[if_neg h,if_pos d,E,ah]at e;grind
   grind
  grind
theorem L3{f:Bool}{ws:LL}(d:eS f ws=aj)(x:UInt8):hasB f ws.flatten x.toNat=ws.flatten.any λc=>gM f [c] [x]:=by
 grind[ua,hasB,LZ,ai,UInt8.ofNat_toNat]
def gv(f:Bool)(c:UInt8):UInt8:=if f then gy c else c
def fO(f:Bool)(ws:LL):Nat→Int:=(gj f (hasB f ws.flatten) 256).1
def qO(f:Bool)(ws:LL):Int:=(gj f (hasB f ws.flatten) 256).2
theorem rA(f:Bool)(x y:UInt8):gM f [x] [y]=decide (gv f x=gv f y):=by
 grind[gM,gv,folds]
section
variable {f:Bool} {ws:List (List UInt8)}
theorem lj(d:eS f ws=aj){b:UInt8}(h:b∈ws.flatten):gv f b=b:=by
 unfold gv;cases f
 ·rfl
 ·simp only[if_true];unfold gy;rw[if_neg (ua d b h)]
theorem ub(f:Bool)(c:UInt8):gv f (gv f c)=gv f c:=by
 unfold gv;cases f
 ·rfl
 ·simp only[if_true];have:=ze c;simp_all[gy,if_neg]
theorem AA(d:eS f ws=aj)(c:UInt8):hasB f ws.flatten c.toNat=aj↔gv f c∈ws.flatten:=by
 rw[L3 d,List.any_eq_true];constructor
 ·rintro⟨b,s,h⟩;rw[rA,decide_eq_true_eq,lj d s]at h;grind
 grind[rA,ub]
theorem sD(d:eS f ws=aj)(c:UInt8):fO f ws c.toNat=0↔gv f c∉ws.flatten:=by
 unfold fO;grind[L0,tw,ai,AA]
theorem wI(h:eS f ws=aj){c d:UInt8}(I:gv f c∈ws.flatten)(H:gv f d∈ws.flatten):fO f ws c.toNat=fO f ws d.toNat↔gv f c=gv f d:=by
 unfold fO;rw[QC (λi s E=>tw s E) (ai c) (ai d) ((AA h c).2 I) ((AA h d).2 H)];have e:=L1 f (ai c) (ai d);simp_all[UInt8.ofNat_toNat,rA,decide_eq_decide]
theorem oP(f:Bool)(ws:LL)(c:UInt8):0≤fO f ws c.toNat∧fO f ws c.toNat<qO f ws:=Jg (λ_ d h=>tw d h) (ai c)
theorem oQ(f:Bool)(ws:LL):1≤qO f ws∧qO f ws≤257:=by
 have h:=oP f ws 0;have d:=tu f (hasB f ws.flatten) 256;grind[qO]
def x6(f:Bool)(ws:LL)(k:Nat):Option UInt8:=ws.flatten.find? λb=>fO f ws b.toNat==(k:Int)
theorem L4(E:eS f ws=aj){c:UInt8}{k:Nat}(H:fO f ws c.toNat=(k:Int))(h:gv f c∈ws.flatten):x6 f ws k=some (gv f c):=by
 unfold x6;have I:=ub f c;have O:fO f ws (gv f c).toNat=(k:Int):=by grind[wI]
 cases d:ws.flatten.find? (λb=>fO f ws b.toNat==(k:Int))with
 |none=>
  grind
 |some b=>
  have J:=ao d;have s:=List.find?_some d;simp only[beq_iff_eq]at s;grind[lj,wI]
theorem L5(s:eS f ws=aj){k:Nat}{b:UInt8}(h:x6 f ws k=some b):b∈ws.flatten∧fO f ws b.toNat=(k:Int)∧gv f b=b:=by
 have E:=ao h;have d:=List.find?_some h;simp only[beq_iff_eq]at d;grind[lj]
end
def AB(L:LL)(f:Bool)(ws:LL)(j k:Nat):Nat:=match x6 f ws k with|some b=>wj L j b|none=>0
section
variable {f:Bool} {ws L:List (List UInt8)}
theorem GN(E:∀x,x∈L↔x=[]∨∃w∈ws,x<+:w){x:L8}{b:UInt8}(h:x++[b]∈L):b∈ws.flatten:=by
 rcases(E _).1 h with e|⟨w,d,s⟩
 ·simp at e
 ·exact List.mem_flatten.2 ⟨w,d,s.subset zS⟩
theorem L6{x u:L8}{c:UInt8}(h:u<:+x++[c])(d:u≠[]):∃t,u=t++[c]:=by
 grind[Cs,absurd]
theorem Oq(d:fV L)(H:∀x,x∈L↔x=[]∨∃w∈ws,x<+:w){c:UInt8}(E:c∉ws.flatten)(j:Nat):wj L j c=0:=by
 unfold wj;have s:=j3 d.nil (L.getD j []++[c]);have h:=mJ (L:=L) (L.getD j []++[c]);have:gi L (L.getD j []++[c])=[]:=by
  apply Classical.byContradiction;grind[L6,GN]
 grind[ny]
theorem QD(d:eS f ws=aj)(E:fV L)(H:∀x,x∈L↔x=[]∨∃w∈ws,x<+:w){c:UInt8}{k:Nat}(s:fO f ws c.toNat=(k:Int))(j:Nat):AB L f ws j k=wj L j (gv f c):=by
 unfold AB;by_cases h:gv f c∈ws.flatten
 ·rw[L4 d s h]
 grind[Oq,sD,x6,L5,absurd]
theorem Ot(d:fV L)(c:UInt8):wj L 0 c=if [c]∈L then idx L [c]else 0:=by
 unfold wj;rw[getD_at d.pos,(al.1 d.zero).2,List.nil_append];by_cases h:[c]∈L
 ·rw[if_pos h,qe d.nil h]
 simp_all[gi,ny]
theorem Ou(s:fV L){j:Nat}(E:j<L.length)(I:0<j)(c:UInt8):wj L j c=if L.getD j []++[c]∈L then idx L (L.getD j []++[c])else wj L (fH L j) c:=by
 by_cases h:L.getD j []++[c]∈L
 ·rw[if_pos h];unfold wj;rw[qe s.nil h]
 ·rw[if_neg h];unfold wj;rw[nV s j,qf s];have H:=qg s E I;rw[getD_at E]at h ⊢;cases J:L[j]with
  |nil=>rfl
  |cons d y=>
   simp_all[List.tail_cons,List.cons_append,gi]
def ur(L:LL)(f:Bool)(ws:LL)(j n k:Nat):Nat:=match x6 f ws k with
 |some b=>if idx L (L.getD j []++[b])<n then idx L (L.getD j []++[b])else if j=0 then 0 else AB L f ws (fH L j) k
 |none=>0
theorem CL(d:fV L){j:Nat}(k:Nat):ur L f ws j 1 k=if j=0 then 0 else AB L f ws (fH L j) k:=by
 unfold ur;cases H:x6 f ws k with
 |none=>grind[AB]
 |some b=>
  dsimp only;rw[if_neg];intro s;have E:idx L (L.getD j []++[b])=0:=zO;have h:L.getD j []++[b]∈L:=an.1 (show L.idxOf _<_ by have:=d.pos;grind[idx]);have:=j2 h;rw[E,getD_at d.pos,(al.1 d.zero).2]at this;simp at this
theorem L7(h:fV L){j:Nat}(s:j<L.length)(k:Nat):ur L f ws j L.length k=AB L f ws j k:=by
 unfold ur AB;cases E:x6 f ws k with
 |none=>rfl
 |some b=>
  dsimp only;by_cases d:L.getD j []++[b]∈L
  ·rw[if_pos (oN d)];unfold wj;rw[qe h.nil d]
  ·rw[if_neg (by grind[GC])];rcases Nat.eq_zero_or_pos j with rfl|h0
   ·rw[if_pos rfl,Ot h,if_neg];rw[getD_at h.pos,(al.1 h.zero).2]at d;exact d
   ·rw[if_neg zO,Ou h s h0,if_neg d]
theorem CM(h:eS f ws=aj)(W:fV L)(Y:∀x,x∈L↔x=[]∨∃w∈ws,x<+:w){j n k:Nat}{b:UInt8}(O:j<L.length)(J:n<L.length)(U:L[n]=L[j]++[b]):ur L f ws j (n+1) k=if(k:Int)=fO f ws b.toNat then n else ur L f ws j n k:=by
 have V:b∈ws.flatten:=GN Y (x:=L[j]) zG;have E:=lj h V;have T:idx L (L.getD j []++[b])=n:=by rw[getD_at O,←U];exact EI W.nodup J
 by_cases s:(k:Int)=fO f ws b.toNat
 ·rw[if_pos s];unfold ur;rw[L4 h s.symm zG,E];grind
 ·rw[if_neg s];unfold ur;cases H:x6 f ws k with
  |none=>rfl
  |some d=>
   obtain⟨h1,h2,h3⟩:=L5 h H;dsimp only;have I:idx L (L.getD j []++[d])≠n:=λe=>by
    grind[an,idx,j2,getD_at,List.append_inj']
   grind
theorem Jh(T:fV L){j n p k:Nat}{b:UInt8}(s:j<L.length)(I:n<L.length)(H:p<L.length)(O:L[n]=L[p]++[b])(h:p≠j):ur L f ws j (n+1) k=ur L f ws j n k:=by
 unfold ur;cases V:x6 f ws k with
 |none=>rfl
 |some d=>
  dsimp only;have h:idx L (L.getD j []++[d])≠n:=λe=>by
   have J:L.getD j []++[d]∈L:=an.1 (show L.idxOf _<_ by grind[idx]);have E:=j2 J;rw[e,getD_at I,O,getD_at s]at E;obtain⟨U,_⟩:=List.append_inj' E rfl;exact h (nU T.nodup H s U)
  grind
end
end Go.Proofs.YtofgfpffcegioaaGreat
namespace Go.Proofs.YtofgfpffcegioaaGreat
open Go.RowKit Go.Shelf Go.Sort iT jH Go.Proofs.Tryz
open Go.Act renaming put → aW
open List renaming setIfInBounds_toArray → aS,set_cons_zero → aT,set_cons_succ → aU
open Nat renaming mul_le_mul_right → aX
open Option renaming some → aV,none → aY
section
section
attribute [local irreducible] ew ed
attribute [local go_sem] Oper.semAt_some
section
variable {P:Program} {Q:Exit→Act→World→Prop} {ops:Array Oper} {M m:Nat} {a0:Act} {w0:World} {K:List Oper→List VP→Prop} {o:Oper} {rest:List Oper} {env:List VP}
theorem ed.SP{b d n c:Nat}(t e:TypeId)(x y z:Operand)(k H:IntKind)(lo hi:Nat)(W:o.op=.slice t x (aV y) (aV z) aY)(U:P.underlying t=aV (.slice e))(h:(P.info? e).map (·.size)=aV 1)
  (T:Want ops M a0 w0 env o true)(O:fu ops M a0 w0 env o x (eC (.slice (aV ⟨b,d,aY⟩) n c)))(J:fu ops M a0 w0 env o y (eC (.int k (lo:Int))))(I:fu ops M a0 w0 env o z (eC (.int H (hi:Int))))(hl:lo≤hi)(hh:hi≤c)(Y:lo<c)
  (V:ed P Q ops M a0 w0 K m rest (eC (.slice (aV ⟨b,d+lo,aY⟩) (hi-lo) (c-lo))::env)):ed P Q ops M a0 w0 K (m+1) (o::rest) env:=
 .T9 x y z T O J I (λρ w _ h1 h2 h3=>by
  cases s:P.info? e with
  |none=>grind
  |some ie=>
   simp only[s,Option.map_some,Option.some.injEq]at h;have E:¬c=lo:=zO;unfold execOp;simp[W,h1,h2,h3,Instr.sliceAt,Instr.slice,Instr.sliceBounds,Instr.sliceBound,asIntOf,run_underlying U,sizeOf,typeInfo,s,h,hl,hh,E,addr_add]) V
theorem ed.zf{b d n i:Nat}{k:IntKind}(t e:TypeId)(x y:Operand)(T:o.op=.indexAddr t x y)(I:P.underlying t=aV (.array n e))(hs:(P.info? e).map (·.size)=aV 1)(hi:i<n)(_:2≤n)
  (H:Want ops M a0 w0 env o true)(E:fu ops M a0 w0 env o x (eC (.pointer (aV ⟨b,d,aY⟩))))(s:fu ops M a0 w0 env o y (eC (.int k (i:Int))))
  (J:ed P Q ops M a0 w0 K m rest (eC (.pointer (aV ⟨b,d+i,aY⟩))::env)):ed P Q ops M a0 w0 K (m+1) (o::rest) env:=
 .iu x y H E s (λW w _ V U=>by
  cases O:P.info? e with
  |none=>grind
  |some h=>
   have hs:h.size=1:=zG;unfold execOp;simp[T,V,U,Instr.indexAt,asIntOf,run_underlying I,sizeOf,typeInfo,O,hs,hi,addr_add,go_sem]) J
end
def dA(cl:Nat→Int)(m:Nat)(vr H E s h d:Value):AV:=arr 263 λi=>
 if i<256 then iV (cl i)else if i=256 then iV m else if i=257 then vr else if i=258 then H else if i=259 then E else if i=260 then s else if i=261 then h else d
section
variable {cl:Nat→Int} {m:Nat} {vr u0 u1 u2 u3 vl:Value}
theorem QE{i:Nat}(h:i<256):(dA cl m vr u0 u1 u2 u3 vl)[i]?=aV (iV (cl i)):=by unfold dA;rw[fw zO,if_pos h]
theorem GO:(dA cl m vr u0 u1 u2 u3 vl)[256]?=aV (iV m):=by grind[dA,fw]
theorem L9:(dA cl m vr u0 u1 u2 u3 vl)[257]?=aV vr:=by grind[dA,fw]
theorem SQ:(dA cl m vr u0 u1 u2 u3 vl)[258]?=aV u0:=by grind[dA,fw]
theorem Ov:(dA cl m vr u0 u1 u2 u3 vl)[261]?=aV u3:=by grind[dA,fw]
theorem Ma:(dA cl m vr u0 u1 u2 u3 vl)[262]?=aV vl:=by grind[dA,fw]
end
def fA(n:Nat)(F:Nat→Nat):AV:=arr n λi=>iV (F i:Int)
theorem wJ{n:Nat}{F:Nat→Nat}{i:Nat}(h:i<n):(fA n F)[i]?=aV (iV (F i:Int)):=fw h
theorem Mb(n:Nat)(F:Nat→Nat)(i x:Nat):(fA n F).setIfInBounds i (iV x)=fA n (λj=>if j=i then x else F j):=by
 unfold fA;rw[nq];grind
theorem GP(n:Nat)(F:Nat→Nat):(fA n F).size=n:=iJ _ _
theorem sE{j n m:Nat}(d:j<n)(h:1≤m):j*m<n*m∧(j+1)*m≤n*m:=⟨Nat.mul_lt_mul_of_pos_right d h,aX m d⟩
theorem CN(g gr n m j:Nat)(cl:Nat→Int)(U T O J I:Value)(w:World)(E:Box w g 244 (dA cl m (.slice (aV ⟨gr,0,aY⟩) (n*m) (n*m)) U T O J I))(hj:j<n)(s:1≤m)(Y:m≤257)(W:n≤400) :
  Calls prog 178 #[gP g,iV j] w (eB w (eC (.slice (aV ⟨gr,j*m,aY⟩) m (n*m-j*m)))):=by
 obtain⟨h,d⟩:=sE hj s;have V:n*m≤102800:=Nat.le_trans (aX m W) zO;have hd:=(E.cell 256).trans GO;have hr:=(E.cell 257).trans L9;have e1:((j:Int)*(m:Int))=((j*m:Nat):Int):=by rfl
 have e2:(((j:Int)+1)*(m:Int))=(((j+1)*m:Nat):Int):=by rfl
 have e3:(j+1)*m-j*m=m:=zG;have e4:0+j*m=j*m:=Nat.zero_add _;clear E;go_enter func178,ntmps178;go_upto_region 1 with(fail)
 refine vQ 21 (.g ?_);refine ed.tN _ _ _ _ rfl wA oA oA zO ?_;refine ed.kD e1 (.g ?_);refine ed.ko _ _ _ _ rfl wA oA (eE _) zO (.g ?_);refine ed.tN _ _ _ _ rfl wA oA oA zO ?_;refine ed.kD e2 ?_;refine ed.SP 28 3 _ _ _ .i64 .i64 (j*m) ((j+1)*m) rfl underlying28 zR wA oA oA oA zO d h (.g ?_);rw[e3,e4];intro W1 H;go_wp2;go_ret;exact eB.mk ((eh _).tr H) rfl
theorem CO(g:Nat)(nd:Nat)(w:World):Calls prog 179 #[gP g,iV nd] w λe d=>e=.returned (.func (.func 236) #[] #[gP w.heap.size,gP (w.heap.size+1)])∧d=(w.alloc (.cells #[gP g] 324)).alloc (.cells #[iV nd] 3):=by
 go_enter func179,ntmps179;go_wp2;go_ret;simp_all
def ob(up:List Int)(nd n:Nat):List Nat:=(List.range n).filter λk=>decide (0<k)&&decide (up.getD k (-1)=(nd:Int))
theorem tx(up:List Int)(nd n:Nat):ob up nd (n+1)=ob up nd n++(if 0<n∧up.getD n (-1)=(nd:Int)then [n]else []):=by
 unfold ob;rw[List.range_succ,List.filter_append];grind
theorem Md(up:List Int)(nd:Nat){n m:Nat}(h:n≤m):ob up nd n<+:ob up nd m:=by
 obtain⟨d,rfl⟩:∃d,m=n+d:=⟨m-n,by omega⟩
 clear h
 induction d with
 |zero=>grind
 |succ d s=>grind[Nat.add_assoc,tx,List.prefix_append]
theorem Me(n:Nat)(hn:1≤n)(l bx lx g N m:Nat)(cl:Nat→Int)(vr u0 u1 u2 u3 vl:Value)(up:List Int)(lF:L8)(nd:Nat)(wB:World)(ah:wB.heap.size=N)(J Jx:List Nat→World→Prop)
  (hJ:∀s W1 W2,J s W1→Ext W1 W2→J s W2)
  (hY:∀s (x:Nat) W,J s W→s++[x]<+:ob up nd up.length→YieldAt Fence.wide (n-1) prog l #[iV (cl (lF.getD x 0).toNat),iV x] W λe W'=>
   fc N [lx,bx,g] W W'∧((e=.returned (.bool true)∧J (s++[x]) W')∨(e=.returned (.bool false)∧Jx (s++[x]) W')))
  (hU:eQ up u0 wB)(az:eu lF u3 wB)(am:lF.length=up.length)(aj:1≤up.length)
  (W:World)(hE:Ext wB W)(ak:Box W lx 324 #[gP g])(au:Box W bx 3 #[iV nd])(hg:Box W g 244 (dA cl m vr u0 u1 u2 u3 vl))(h0:J [] W) :
  CallsIn Fence.wide n prog 236 #[.func (.yield l) #[] #[],gP lx,gP bx] W λe W'=>(∃v,e=.returned v)∧
   ((∃xs,xs=ob up nd up.length∧True∧J xs W')∨(∃s,s<+:ob up nd up.length∧True∧Jx s W')):=by
 have aL:prog.follows .mixedOrders=true:=by rfl
 obtain⟨A0,c0,rfl,aH,aG,ag⟩:=eQ.form hU;obtain⟨q0,o0,rfl,aC,ao⟩:=ag zO;obtain⟨A3,c3,rfl,aq,aF,af⟩:=eu.form az;obtain⟨q3,o3,rfl,aB,ap⟩:=af zO;unfold maxLen at aG aF;rw[am]at hg aq;have VT:=hide (λj (hj:j<up.length)=>show wB.cell? ⟨q0,o0+j,aY⟩=aV (iV (up.getD j (-1))) by
  grind)
 have VU:=hide (λj (hj:j<up.length)=>show wB.cell? ⟨q3,o3+j,aY⟩=aV (.int .u8 ((lF.getD j 0).toNat:Int)) by
  grind)
 have Xf:=hide ah;have Y:=hide hE;clear ao ap hU az ag af ah hE;obtain⟨V,aD⟩:∃V,up.length=V:=⟨_,rfl⟩
 rw[aD]at VT VU hg aH aq aj hY ⊢;refine callsIn_of_wp func236 rfl trivial ?_ rfl;simp only[ntmps236,List.size_toArray,List.length_cons,List.length_nil,Nat.reduceAdd,Nat.reduceSub,Array.replicate_succ,Array.replicate_zero,List.push_toArray,List.append_toArray,List.nil_append,List.cons_append];gi_wp2
 gi_loopw [4] (λv wr=>∃(x:Nat),1≤x∧x≤V∧v=iV x∧Hid (J (ob up nd x) wr)∧Hid (Ext wB wr)∧Box wr lx 324 #[gP g]∧Box wr bx 3 #[iV nd]∧Hid (Box wr g 244 (dA cl m vr (.slice (aV ⟨q0,o0,aY⟩) V c0) u1 u2 (.slice (aV ⟨q3,o3,aY⟩) V c3) vl)))
  (λv _=>V-(intOf v).toNat)
 case atStart=>exact⟨1,Nat.le_refl _,aj,rfl,h0,Y,ak,au,hg⟩
 case round=>
  clear ak Y au hg;obtain⟨x,aP,aO,rfl,HJ,Y,I,H,HG⟩:=hrel;have hd:=I.at_ 0 rfl;have ai:=(HG.out.cell 258).trans SQ;by_cases al:x<V
  ·have aM:(x:Int)<(V:Int):=zO;have ar:=(HG.out.cell 261).trans Ov;have aa:=(Y.out.cell (p:=⟨q0,o0+x,aY⟩) aC).trans (VT.out x al);have ab:=(Y.out.cell (p:=⟨q3,o3+x,aY⟩) aB).trans (VU.out x al);have an:=H.at_ 0 rfl;have GQ:=hide (tx up nd x);have aJ:=Classical.em (up.getD x (-1)=(nd:Int));rcases aJ with he|he
   ·obtain⟨y,ae⟩:∃y:UInt8,lF.getD x 0=y:=⟨_,rfl⟩
    rw[ae]at ab;have av:y.toNat<256:=UInt8.toNat_lt y;have aE:wr.cell? ⟨g,0+y.toNat,aY⟩=aV (iV (cl y.toNat)):=by rw[Nat.zero_add,HG.out.cell];exact QE av
    have E:=GQ.out;rw[if_pos ⟨by omega,he⟩]at E;have O:ob up nd x++[x]<+:ob up nd V:=by grind[Md]
    have lB:=hide O;have SR:=hide E;clear E GQ;rw[he]at aa;have HY:=hide (λW (aI:J (ob up nd x) W)=>by have aw:=hY _ x W aI O;rw[ae]at aw;exact aw);clear O;generalize up.getD x (-1)=z at*;generalize y.toNat=b at*
    gi_upto_region 3 with(fail)
    refine ml fe zR 27 zR zK (.g ?_);refine ed.fD (i:=x) 28 3 _ _ rfl underlying28 zR zO wA oA oA (.g ?_);refine ed.Qi _ _ _ _ rfl wA oA oA rfl (.g ?_);refine ed.fD (i:=x) 43 5 _ _ rfl underlying43 zR zO wA oA oA (.g ?_);refine ed.zf 148 3 _ _ rfl underlying148 zR av zD wA oA oA (.g ?_);refine .n0 ⟨rfl,λW3 U=>?_⟩;iterate 9 refine iC.eq ?_
    simp only[aW,aS,aT,aU];iterate 10 refine iC.eq ?_
    simp only[aW,aS,aT,aU];iterate 7 refine iC.eq ?_
    simp only[aW,aS,aT,aU];refine iC.eq ?_;refine iC.nil ?_;simp only[aW,aS,aT,aU];have d:=(eh wr).tr U;have ss:=hide (hJ _ _ _ HJ.out d);have I:=I.ext d;have H:=H.ext d;have Aq:=hide (HG.out.ext d);have mS:=hide (Y.out.tr d);obtain⟨fn,aK,aA,aN,hy,hR⟩:=HY.out W3 ss.out;clear HJ Y HG HY aa ab aE hd an ai ar U d;gi_wp2;refine hR.mono ?_;rintro e W4 ⟨T,(⟨rfl,ad⟩|⟨rfl,ay⟩)⟩
    ·have I:=fc.box T I zS;have H:=fc.box T H zS;have aQ:=hide (fc.box T Aq.out zS);have aR:Hid (Ext wB W4):=Below.trans mS.out (by rw[Xf.out];exact T.1);rw[←SR.out]at ad;have uc:=hide ad;clear T ad hy hR;gi_wp2
     go_roundw
     case rel=>grind
     case measure=>grind[intOf]
    ·have uc:=hide ay;gi_wp2;exact bodyPost_ret (results_none results236 _ _ _) rfl ⟨⟨_,rfl⟩,.inr ⟨_,lB.out,trivial,uc.out⟩⟩
   ·have E:=GQ.out;rw[if_neg (λh=>he h.2),List.append_nil]at E;rw[←E]at HJ;clear E GQ;generalize up.getD x (-1)=z at*
    gi_upto_region 3 with(fail)
    refine ml fe zR 27 zR zK (.g ?_);refine ed.fD (i:=x) 28 3 _ _ rfl underlying28 zR zO wA oA oA (.g ?_);refine ed.zQ _ _ _ _ rfl wA oA oA he (.g ?_);refine .n0 ⟨rfl,λW3 U=>?_⟩;iterate 9 refine iC.eq ?_
    simp only[aW,aS,aT,aU];iterate 10 refine iC.eq ?_
    simp only[aW,aS,aT,aU];iterate 7 refine iC.eq ?_
    simp only[aW,aS,aT,aU];refine iC.eq ?_;refine iC.nil ?_;simp only[aW,aS,aT,aU];have d:=(eh wr).tr U;have ss:=hide (hJ _ _ _ HJ.out d);have I:=I.ext d;have H:=H.ext d;have Aq:=hide (HG.out.ext d);have mS:=hide (Y.out.tr d);clear HJ Y HG aa ab hd an ai ar U d;gi_wp2;refine⟨λ_ h=>(by cases h),?_⟩;gi_wp2
    go_roundw
    case rel=>grind
    case measure=>grind[intOf]
  ·obtain rfl:x=V:=zO;gi_wp2
   go_end0
   exact⟨⟨_,rfl⟩,.inl ⟨_,rfl,trivial,HJ.out⟩⟩
end
end
end Go.Proofs.YtofgfpffcegioaaGreat
namespace Go.Proofs.YtofgfpffcegioaaGreat
open Go.RowKit Go.Shelf Go.Sort iT jH fq Go.Proofs.Tryz
open Bool renaming false → ad
open List renaming length_cons → aa,foldl_cons → ab
def l6(f:Bool)(ws:LL):Mc:=⟨λi c=>wj (ey ws) i (gv f c),λi=>ju ws ((ey ws).getD i []),fG ws,(ey ws).length⟩
def QF(f:Bool)(ws:LL)(t:L8):List Nat:=ju ws (t.map (gv f))
section
variable {f:Bool} {ws:List (List UInt8)}
theorem GR(f:Bool)(ws:LL):∀(t u:L8),t.foldl (l6 f ws).step (idx (ey ws) (gi (ey ws) (u.map (gv f))))=idx (ey ws) (gi (ey ws) ((u++t).map (gv f)))
 |[],u=>by grind
 |c::t,u=>by
  have d:=ic ws;have h:(l6 f ws).step (idx (ey ws) (gi (ey ws) (u.map (gv f)))) c=idx (ey ws) (gi (ey ws) ((u++[c]).map (gv f))):=by
   show wj (ey ws) _ (gv f c)=_;unfold wj;rw[j2 (j3 d.nil _),qf d,List.map_append];rfl
  rw[ab,h,GR f ws t (u++[c]),List.append_assoc];rfl
theorem E6{L:LL}(h:∀x∈ws,x∈L)(s:L8):ju ws (gi L s)=ju ws s:=by
 have H:gi ws (gi L s)=gi ws s:=by
  rw[sw h s];cases E:gi L s with
  |nil=>simp[gi]
  |cons d y=>
   rfl
 grind[qh,gi]
theorem CP:∀(ws:LL) (n:Nat),n≤ws.foldl (λn w=>max n w.length) n∧∀w∈ws,w.length≤ws.foldl (λn w=>max n w.length) n
 |[],n=>⟨Nat.le_refl _,λw hw=>by simp at hw⟩
 |x::l,n=>by
  obtain⟨h,d⟩:=CP l (max n x.length);refine⟨by rw[ab];omega,λw hw=>?_⟩;rw[ab];rcases List.mem_cons.1 hw with rfl|hw
  ·omega
  ·exact d w hw
theorem CQ:∀(ws:LL) (n:Nat),ws.foldl (λn w=>max n w.length) n=n∨∃w∈ws,ws.foldl (λn w=>max n w.length) n=w.length
 |[],n=>.inl rfl
 |x::l,n=>by
  rw[ab];rcases CQ l (max n x.length)with h|⟨w,d,h⟩
  ·rcases Nat.le_total n x.length with hh|hh
   ·exact .inr ⟨x,List.mem_cons_self,by omega⟩
   ·exact .inl zO
  ·exact .inr ⟨w,List.mem_cons_of_mem _ d,h⟩
theorem CR{w:L8}(h:w∈ws):w.length≤fG ws:=(CP ws 0).2 w h
theorem zg:∀(k:Nat) (s:L8),(∀w∈ws,w.length+k≤s.length)→ju ws (s.drop k)=ju ws s
 |0,s,_=>by rfl
 |k+1,[],_=>by rfl
 |k+1,c::s,h=>by
  rw[List.drop_succ_cons];have E:c::s∉ws:=λH=>by grind
  conv=>rhs;unfold ju
  rw[if_neg E];exact zg k s λw d=>by have:=h w d;rw[aa]at this;omega
theorem CS:∀s:L8,(ju ws s).length≤s.length
 |[]=>Nat.le_refl _
 |c::s=>by
  have:=CS s;unfold ju;split
  ·rw[aa,aa];omega
  ·rw[aa];omega
structure QG(ws:LL):Prop where
 some:1≤ws.length
 many:ws.length≤64
 len:∀w∈ws,1≤w.length∧w.length≤32
 flat:ws.flatten.length≤600
 nodup:ws.Nodup
theorem uB(h:eS f ws=true):QG ws:=by
 have s:=nR h;obtain⟨T,O,E,J,I,H⟩:=nJ (lW h);exact⟨by omega,by omega,λw d=>⟨List.length_pos_iff.2 (E w d),by grind⟩,by omega,s.2⟩
theorem wK(h:eS f ws=true):1≤fG ws∧fG ws≤32:=by
 have d:=uB h;obtain⟨w,s⟩:=List.exists_mem_of_length_pos (by have:=d.some;omega:0<ws.length);have I:=CR s;have H:=d.len w s;refine⟨by omega,?_⟩;rcases CQ ws 0 with e|⟨x,E,e⟩
 ·grind[fG]
 ·have:=d.len x E;grind[fG]
theorem zh(h:eS f ws=true):xR (l6 f ws) (QF f ws) where
 words t:=by
  have d:=ic ws;have s:=GR f ws t [];have H:idx (ey ws) (gi (ey ws) (([]:L8).map (gv f)))=0:=ny d;rw[H,List.nil_append]at s;rw[s];show ju ws ((ey ws).getD (idx (ey ws) (gi (ey ws) _)) [])=ju ws _;rw[j2 (j3 d.nil _),E6 (qi ws)]
 last t:=by
  unfold QF;rw[List.map_drop];rcases Nat.le_total t.length (fG ws)with hh|hh
  ·simp_all[l6,fG,List.drop_zero]
  ·exact(zg _ _ λw E=>by
    have:=CR E;show w.length+(t.length-fG ws)≤_;grind).symm
 pos:=(wK h).1
theorem Ji(j:Nat)(b:UInt8):(l6 f ws).step j b<(l6 f ws).states:=oN (j3 (ic ws).nil _)
theorem wM(h:eS f ws=true)(j:Nat):((l6 f ws).words j).length≤64:=by
 have E:=uB h;refine Nat.le_trans (CS _) ?_;rcases Nat.lt_or_ge j (ey ws).length with hj|hj
 ·rw[getD_at hj];rcases(iK _ ws).1 (List.getElem_mem hj)with e|⟨w,d,s⟩
  ·grind
  ·have:=s.length_le;have:=E.len w d;omega
 grind
theorem CT(h:eS f ws=true):1≤(l6 f ws).states∧(l6 f ws).states≤400:=⟨(ic ws).pos,ru h⟩
end
def il:LL:=[[104,101],[115,104,101],[104,101,114]]
def TV:LL:=[[],[104],[115],[104,101],[115,104],[104,101,114],[115,104,101]]
def VW:Mc:=⟨λi c=>wj TV i (gv ad c),λi=>ju il (TV.getD i []),fG il,TV.length⟩
def Xg:Cf:=⟨2,3,2,1,1,2,0⟩
def Sd:Rn:=⟨Xg,ad,[[117,115,104,101,114,115]],[],[],⟨3,0,-1⟩,-1,300⟩
def xN:Hits:=[(4,1),(4,0),(5,2)]
theorem wO:eS ad il=true:=by rfl
theorem Ow:iF ad il=(ad,il,0):=by rfl
theorem Ox:ey il=TV:=by
 refine List.Perm.eq_of_pairwise (le:=λx y=>ltOf iW y x=ad) (λa b _ _ h d=>yH a b d h) (tV il) ?_ ((mj il).trans ?_)
 ·decide+kernel
 ·decide+kernel
theorem SS:l6 ad il=VW:=by simp[l6,VW,Ox]
theorem QH:(Sd.report (l6 ad il)).hits=xN∧(Sd.report (l6 ad il)).turns=30:=by
 rw[SS];decide+kernel
end Go.Proofs.YtofgfpffcegioaaGreat
