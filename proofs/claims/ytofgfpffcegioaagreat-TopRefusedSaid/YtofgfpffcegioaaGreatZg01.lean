/- A part of the proof. -/
import Derived.Test.YtofgfpffcegioaaGreatZg00
import Derived.Test.YtofgfpffcegioaaGreatZf48
set_option maxRecDepth 100000
set_option maxHeartbeats 8000000
namespace Go.Proofs.YtofgfpffcegioaaGreat
open Go.RowKit Go.Shelf Go.Sort iT jH fq Go.Proofs.Tryz
open Nat renaming le_trans → aU
theorem aL(ans:List Bool)(n:Nat):aM ans (n+1)=aM ans n+(if Snk.says ans n then 0 else 1):=by
 unfold aM;rw[List.range_succ,List.filter_append,List.length_append];cases h:Snk.says ans n<;>simp[h]
theorem aF(r:Rn)(M:Mc)(H:r.cf.block≤256):∀(f:Nat) (g:fq.Go),DV g.turns.length g.s→DV (r.run M f g).turns.length (r.run M f g).s
 |0,g,h=>h
 |f+1,g,h=>by
  have d:DV (r.turn M g).2.turns.length (r.turn M g).2.s:=by
   have J:DV g.turns.length (r.begun g):=by
    unfold Rn.begun;split
    ·exact h.cancel
    ·exact h
   unfold Rn.turn;dsimp only;split
   ·exact J
   ·show DV (g.turns++[_]).length (St.step _ _ _ _ _);rw[List.length_append];exact J.step H _
  unfold Rn.run;split
  ·exact h
  ·split
   ·split
    ·rename_i O E;rw[E]at d;exact aF r M H f O d
    ·rename_i O E;rw[E]at d;exact d
   ·exact h
theorem aC{r:Rn}{M:Mc}{S:L8→List Nat}(s:xR M S)(H:1≤r.cf.block)(d:r.cf.block≤256)(E:0<r.cf.ring):(r.report M).refused+(r.report M).hits.length≤r.most:=by
 have h:=aO (r:=r) s H E;have O:=aF r M d r.most r.start (DV.start _ _ _);have h3:=zE r M r.most r.start;have Y:r.start.turns.length=0:=rfl;unfold Rn.report;generalize r.run M r.most r.start=g at*;have U:=O.offers;have T:g.s.iG.took.length≤g.s.iG.offers:=by
  rw[h.good.says];exact aU (List.length_filter_le _ _) (by rw[List.length_range];exact Nat.le_refl _)
 have J:=h.good.same;show g.s.iG.offers-g.s.iG.took.length+g.s.pl.took.length≤_;rw[←J];omega
section
variable {w:World}
theorem topRefused_any(f:Bool)(ws:LL)(u:Value)(r:qC)(rs:LL)(d:List Bool)(s:List Int)(vr va vp:Value)(w:World)(hS:jj f ws u w)(hr:eD rs vr w)(ha:iZ d va w)(hp:eQ s vp w)(au:0≤r.seed)(aa:0≤r.kind) :
  Calls prog 5 #[u,.agg (xG r vr va vp)] w (eB w (eC (.bool true))):=by
 have U:=hS;obtain⟨sl,rfl,hP⟩:=hS;obtain⟨A0,c0,rfl,-⟩:=eD.form (id hP);obtain⟨A1,c1,rfl,-⟩:=eD.form (id hr);obtain⟨A2,c2,rfl,-⟩:=iZ.form (id ha);obtain⟨A3,c3,rfl,-⟩:=eQ.form (id hp);have af:=(Box.new w 24 #[.bool f,.slice A0 ws.length c0]).alloc (.cells (xG r (.slice A1 rs.length c1) (.slice A2 d.length c2) (.slice A3 s.length c3)) 33);have ad:=Box.new (w.alloc (.cells #[.bool f,.slice A0 ws.length c0] 24)) 33 (xG r (.slice A1 rs.length c1) (.slice A2 d.length c2) (.slice A3 s.length c3));rw[World.size_alloc]at ad;have HE:=hide ((ek w (.cells #[.bool f,.slice A0 ws.length c0] 24)).tr (ek (w.alloc (.cells #[.bool f,.slice A0 ws.length c0] 24)) (.cells (xG r (.slice A1 rs.length c1) (.slice A2 d.length c2) (.slice A3 s.length c3)) 33)));have HB2:=hide af;have HB3:=hide ad;have HS:=hide (λW (E:Ext w W)=>Kg f ws _ r rs d s (.slice A1 rs.length c1) (.slice A2 d.length c2) (.slice A3 s.length c3) W (VP.st _ _ _ _ U E) (VP.st _ _ _ _ hr E) (VP.st _ _ _ _ ha E) (VP.st _ _ _ _ hp E));have HSc:=hide (λW (E:Ext w W) (hz:RS f ws r rs d.length s.length=true)=>by
  have H:=Nl hz;obtain⟨o1,o2,o3⟩:=Pd rs d s H.run aa;have h:=Kh f ws _ (tE r rs d s) (.slice A1 rs.length c1) (.slice A2 d.length c2) (.slice A3 s.length c3) W (VP.st _ _ _ _ U E) H.right o1 o3 o2 (VP.st _ _ _ _ hr E) (VP.st _ _ _ _ ha E) (VP.st _ _ _ _ hp E) (aU H.n zD) (aU H.flat zD) (λb hb=>aU (H.each b hb) zD) (aU H.an zD) (aU H.np zD);rw[←Pb rs d s H.run au aa]at h;exact h)
 have HW:=hide (λ(hz:RS f ws r rs d.length s.length=true)=>by
  have H:=Nl hz;obtain⟨o1,o2,o3⟩:=Pd rs d s H.run aa;have h:=bI (r:=tE r rs d s) (zh H.right) o1.b1 o1.r1;have h2:=aC (r:=tE r rs d s) (zh H.right) o1.b1 o1.b2 o1.r1;exact(show aM d (((tE r rs d s).report (l6 f ws)).refused+((tE r rs d s).report (l6 f ws)).hits.length)=((tE r rs d s).report (l6 f ws)).refused∧((tE r rs d s).report (l6 f ws)).refused+((tE r rs d s).report (l6 f ws)).hits.length≤100000∧wN ws ((tE r rs d s).report (l6 f ws)).hits=true from⟨h.refused,aU h2 o3,aI H.right h.pre⟩))
 have aQ:=hide (λn W (E:Ext w W) (hn:n≤1000000000)=>aG (w:=W) d (.slice A2 d.length c2) n (VP.st _ _ _ _ ha E) hn);have aR:=hide (λhs v W (E:Ext w W) (hv:eP hs v W) (hl:hs.length≤100000000)=>Sj f ws hs _ v W (VP.st _ _ _ _ U E) hv hl);clear ad af U hP hr ha hp;generalize RS f ws r rs d.length s.length=z at*;generalize(tE r rs d s).report (l6 f ws)=o at*;generalize rs.length=n1 at*;generalize d.length=n2 at*;generalize s.length=n3 at*;generalize ws.length=n0 at*;unfold xG at*;go_enter func5,ntmps5;go_wp2_with fail;refine(HS.out _ HE.out).mono ?_;rintro _ w3 ⟨_,rfl,Y,rfl⟩;have mS:=hide (HE.out.tr Y);have DK:=hide (HB2.out.ext Y);have mX:=hide (HB3.out.ext Y);clear HS HE HB2 HB3 Y;cases z;case false=>
  have HL:=hide (dU w3);go_wp2_with fail;refine HL.out.mono ?_;rintro _ w4 ⟨_,rfl,J,rfl⟩;have GJ:=hide (mS.out.tr J);clear HL mS DK mX J HSc HW aQ aR;go_wp2;go_ret;exact eB.mk GJ.out rfl
 have q0:=DK.out.at_ 0 rfl;have q1:=DK.out.at_ 1 rfl;have WM:=hide (HSc.out w3 mS.out rfl);clear HSc;have HW2:=hide (HW.out rfl);clear HW;have k0:=mX.out.at_ 0 rfl;have k1:=mX.out.at_ 1 rfl;have k2:=mX.out.at_ 2 rfl;have k3:=mX.out.at_ 3 rfl;have k4:=mX.out.at_ 4 rfl;have k5:=mX.out.at_ 5 rfl;have k6:=mX.out.at_ 6 rfl;have k7:=mX.out.at_ 7 rfl;have k8:=mX.out.at_ 8 rfl;have k9:=mX.out.at_ 9 rfl;have ar:=mX.out.at_ 10 rfl;have aq:=mX.out.at_ 11 rfl;have ap:=mX.out.at_ 12 rfl;have ao:=mX.out.at_ 13 rfl;have am:=mX.out.at_ 14 rfl;have al:=mX.out.at_ 15 rfl;go_wp2_with fail;refine WM.out.mono ?_;rintro _ w4 ⟨_,rfl,J,vh,rfl,ho⟩;obtain⟨Ah,ch,rfl⟩:=eI ho;have T:=J.tr (ek w4 (.cells (D0 o (.slice Ah o.hits.length ch)) 40));have aj:=Box.new w4 40 (D0 o (.slice Ah o.hits.length ch));have aS:Hid (eP o.hits (.slice Ah o.hits.length ch) (w4.alloc (.cells (D0 o (.slice Ah o.hits.length ch)) 40))):=hide (VP.st _ _ _ _ (mT.pairs ho) (ek _ _));have Sk:=hide (mS.out.tr T);have RT:=hide aj;have cS:=hide (DK.out.ext T);have p5:=hide (mX.out.ext T);have HL:=hide (λW=>dU W);have az:=hide mX.out.lt;have av:=hide J.size;clear WM mS DK mX J T q0 q1 k0 k1 k2 k3 k4 k5 k6 k7 k8 k9 ar aq ap ao am al;have c2:=RT.out.at_ 2 rfl;have c4:=RT.out.at_ 4 rfl;obtain⟨x1,x2,x3⟩:=HW2.out;obtain⟨N,hN⟩:∃N,N=o.refused+o.hits.length:=⟨_,rfl⟩
 rw[←hN]at x1 x2;have ay:IntKind.i64.wrap ((o.refused:Int)+(o.hits.length:Int))=(N:Int):=by
  rw[hN,Int.natCast_add];exact IntWalk.i64_in _ zO
 have HRj:=hide (λW v (E:Ext w W) (hv:eP o.hits v W)=>aR.out o.hits v W E hv zO);rw[x3]at HRj;have X1:=hide x1;clear HW2 ho aj aR x1 x3 hN;unfold D0 at*;go_wp2_with fail
 go_loopw [8,9] (λno i wr=>∃k m:Nat,k≤N∧m≤k∧no=iV m∧i=iV k∧Hid (m=aM d k)∧Hid (Ext (w4.alloc (.cells (D0 o (.slice Ah o.hits.length ch)) 40)) wr)) (λ_ i _=>N-(intOf i).toNat)
 case atStart=>exact⟨0,0,by omega,by omega,rfl,rfl,hide rfl,hide (Ext.rf _)⟩
 case round=>
  obtain⟨k,m,H,hm,rfl,rfl,HM,HR⟩:=hrel;by_cases aw:k<N
  ·have k9:=(p5.out.ext HR.out).at_ 9 rfl;have aT:=hide (aQ.out k wr (Sk.out.tr HR.out) zO);have Nr:=hide (aL d k);rw[←HM.out]at Nr;generalize Snk.says d k=y at*;go_wp2_with fail;refine aT.out.mono ?_;rintro _ w6 ⟨_,rfl,ai,rfl⟩;have ak:=hide (HR.out.tr ai);clear aT HM ai k9 aQ HRj aS RT cS p5 HL X1;cases y
   ·go_wp2;exact⟨⟨k+1,m+1,by omega,by omega,by go_num,by go_num,hide Nr.out.symm,ak⟩,by simp only[intOf];omega⟩
   ·go_wp2;exact⟨⟨k+1,m,by omega,by omega,rfl,by go_num,hide Nr.out.symm,ak⟩,by simp only[intOf];omega⟩
  ·obtain rfl:k=N:=zO;obtain rfl:m=o.refused:=HM.out.trans X1.out;have ae:=Sk.out.tr HR.out;have JP:=hide ae;have HRk:=hide (HRj.out wr _ ae (VP.st _ _ _ _ aS.out HR.out));have ab:=RT.out.ext HR.out;have O:=cS.out.ext HR.out;have c2:=ab.at_ 2 rfl;have c4:=ab.at_ 4 rfl;have q0:=O.at_ 0 rfl;have q1:=O.at_ 1 rfl;clear ab O ae aQ HRj aS RT cS p5 X1 HM HR Sk;go_wp2_with fail;refine HRk.out.mono ?_;rintro _ w8 ⟨_,rfl,ah,rfl⟩;have VR:=hide (JP.out.tr ah);clear HRk ah JP c2 c4 q0 q1;go_wp2_with fail;refine(HL.out _).mono ?_;rintro _ w9 ⟨_,rfl,ag,rfl⟩;have Xa:=hide (VR.out.tr ag);clear VR ag HL;go_wp2;go_ret;exact eB.mk Xa.out rfl
end
end Go.Proofs.YtofgfpffcegioaaGreat
