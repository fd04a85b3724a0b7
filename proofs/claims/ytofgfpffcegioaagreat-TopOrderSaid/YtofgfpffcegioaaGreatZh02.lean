/- A part of the proof. -/
import Derived.Test.YtofgfpffcegioaaGreatZh01
set_option maxRecDepth 100000
set_option maxHeartbeats 8000000
namespace Go.Proofs.YtofgfpffcegioaaGreat
open Go.RowKit Go.Shelf Go.Sort iT jH fq Go.Proofs.Tryz
open Nat renaming le_trans → a1
section
variable {P:Program} {Q:Exit→Act→World→Prop} {ops:Array Oper} {M m:Nat} {a0:Act} {w0:World} {K:List Oper→List VP→Prop} {o:Oper} {rest:List Oper} {env:List VP}
theorem ed.bO{A:Option Addr}{n c:Nat}(t e:TypeId)(x y:Operand)(k:IntKind)(hi:Nat)(ho:o.op=.slice t x none (some y) none)(hu:P.underlying t=some (.slice e))(s:(P.info? e).isSome=true)
  (U:Want ops M a0 w0 env o true)(hx:fu ops M a0 w0 env o x (eC (.slice A n c)))(T:fu ops M a0 w0 env o y (eC (.int k (hi:Int))))(hh:hi≤n)(hc:n≤c)
  (Y:ed P Q ops M a0 w0 K m rest (eC (.slice A hi c)::env)):ed P Q ops M a0 w0 K (m+1) (o::rest) env:=
 .val U (λa w H O J=>by
  have hA:a.eval x=.slice A n c:=hx a w H O J;have hY:a.eval y=.int k (hi:Int):=T a w H O J;have E:A.map (·.add 0)=A:=by
   cases A with
   |none=>rfl
   |some a=>simp[Addr.add]
  cases d:P.info? e with
  |none=>simp[d]at s
  |some ie=>
   refine⟨_,?_,rfl⟩;unfold execOp;simp[ho,hA,hY,Instr.sliceAt,Instr.slice,Instr.sliceBounds,Instr.sliceBound,asIntOf,run_underlying hu,sizeOf,typeInfo,d,show hi≤c by omega];exact λ_=>E) Y
end
theorem bq{d:List (Int×Int)}{A:Option Addr}{n c k:Nat}{w:World}(h:eP d (.slice A n c) w)(Y:k≤d.length):eP (d.take k) (.slice A k c) w:=by
 obtain⟨A',c',e,h1,T,E⟩:=eP.form h;cases e;have H:(d.take k).length=k:=by rw[List.length_take];omega
 refine(show eP (d.take k) (.slice A k c) w from⟨A,c,by rw[H],by omega,T,λU=>?_⟩);obtain⟨b,s,rfl,O,J⟩:=E zO;refine⟨b,s,rfl,O,λj hj=>?_⟩;rw[List.getElem_take];exact J j zO
section
variable {w:World}
theorem topOrder_any(f:Bool)(ws:LL)(u:Value)(r:qC)(rs:LL)(U:List Bool)(J:List Int)(vr va vp:Value)(w:World)(hS:jj f ws u w)(hr:eD rs vr w)(ha:iZ U va w)(hp:eQ J vp w)(aE:0≤r.seed)(ak:0≤r.kind) :
  Calls prog 3 #[u,.agg (xG r vr va vp)] w (eB w (eC (.bool true))):=by
 have af:=hS;obtain⟨sl,rfl,hP⟩:=hS;obtain⟨A0,c0,rfl,-⟩:=eD.form (id hP);have au:=(Box.new w 24 #[.bool f,.slice A0 ws.length c0]).alloc (.cells (xG r vr va vp) 33);have ao:=Box.new (w.alloc (.cells #[.bool f,.slice A0 ws.length c0] 24)) 33 (xG r vr va vp);rw[World.size_alloc]at ao;have HE:=hide ((ek w (.cells #[.bool f,.slice A0 ws.length c0] 24)).tr (ek (w.alloc (.cells #[.bool f,.slice A0 ws.length c0] 24)) (.cells (xG r vr va vp) 33)));have HB2:=hide au;have HB3:=hide ao;have HS:=hide (λW (d:Ext w W)=>Kg f ws _ r rs U J vr va vp W (VP.st _ _ _ _ af d) (VP.st _ _ _ _ hr d) (VP.st _ _ _ _ ha d) (VP.st _ _ _ _ hp d));have HSc:=hide (λW (d:Ext w W) (hz:RS f ws r rs U.length J.length=true)=>by
  have H:=Nl hz;obtain⟨o1,o2,o3⟩:=Pd rs U J H.run ak;have h:=Kh f ws _ (tE r rs U J) vr va vp W (VP.st _ _ _ _ af d) H.right o1 o3 o2 (VP.st _ _ _ _ hr d) (VP.st _ _ _ _ ha d) (VP.st _ _ _ _ hp d) (a1 H.n zD) (a1 H.flat zD) (λb hb=>a1 (H.each b hb) zD) (a1 H.an zD) (a1 H.np zD);rw[←Pb rs U J H.run aE ak]at h;exact h)
 have HW:=hide (λ(hz:RS f ws r rs U.length J.length=true)=>by
  have H:=Nl hz;obtain⟨o1,o2,o3⟩:=Pd rs U J H.run ak;have h:=bI (r:=tE r rs U J) (zh H.right) o1.b1 o1.r1;have h5:=xM (qt H.run).1;have am:r.cf.kX=((r.cf.kX.toNat:Nat):Int):=(Int.toNat_of_nonneg zO).symm;exact(show(λo:Rp=>∃(fr:Nat) (E:Hits),r.cf.kX=(fr:Int)∧fr≤4611686018427387904∧eS f ws=true∧rs.flatten.length≤100∧E=BD fr (QF f ws) rs.flatten rs.flatten.length∧o.hits<+:E∧
   (o.kind=1∨(o.kind=2∧o.at_=0∧r.broken=false∧o.hits=E∧o.read=rs.flatten.length)∨
   (o.kind=3∧o.at_=0∧0≤r.cancel∧r.cancel<(o.turns:Int))∨
   (o.kind=4∧o.at_=rs.flatten.length∧r.broken=true∧o.hits=E∧o.read=rs.flatten.length))) ((tE r rs U J).report (l6 f ws))from⟨r.cf.kX.toNat,_,am,by omega,H.right,H.flat,rfl,h.pre,h.kind⟩))
 have HJ:=hide (λW (d:Ext w W) (hl:rs.flatten.length≤100)=>bC rs vr W (VP.st _ _ _ _ hr d) zO);have bW:=hide (λ(fr:Nat) (Y:L8) (v:Value) W (d:Ext w W) (aF:eS f ws=true) (hv:eu Y v W) (ht:Y.length≤1000) (am:fr≤4611686018427387904)=>bH f ws fr Y _ v W aF (VP.st _ _ _ _ af d) hv ht am);obtain⟨A1,c1,rfl,-⟩:=eD.form hr;obtain⟨A2,c2,rfl,-⟩:=iZ.form ha;obtain⟨A3,c3,rfl,-⟩:=eQ.form hp;clear ao au af hP hr ha hp;generalize RS f ws r rs U.length J.length=z at*;generalize(tE r rs U J).report (l6 f ws)=o at*;generalize rs.length=n1 at*;generalize U.length=n2 at*;generalize J.length=n3 at*;generalize ws.length=n0 at*;unfold xG at*;go_enter func3,ntmps3;go_wp2_with fail;refine(HS.out _ HE.out).mono ?_;rintro _ w3 ⟨_,rfl,ag,rfl⟩;have mS:=hide (HE.out.tr ag);have DK:=hide (HB2.out.ext ag);have mX:=hide (HB3.out.ext ag);clear HS HE HB2 HB3 ag;cases z;case false=>
  have HL:=hide (dU w3);go_wp2_with fail;refine HL.out.mono ?_;rintro _ w4 ⟨_,rfl,T,rfl⟩;have GJ:=hide (mS.out.tr T);clear HL mS DK mX T HSc HW HJ bW;go_wp2;go_ret;exact eB.mk GJ.out rfl
 have q0:=DK.out.at_ 0 rfl;have q1:=DK.out.at_ 1 rfl;have WM:=hide (HSc.out w3 mS.out rfl);clear HSc;have HW2:=hide (HW.out rfl);clear HW;have k0:=mX.out.at_ 0 rfl;have k1:=mX.out.at_ 1 rfl;have k2:=mX.out.at_ 2 rfl;have k3:=mX.out.at_ 3 rfl;have k4:=mX.out.at_ 4 rfl;have k5:=mX.out.at_ 5 rfl;have k6:=mX.out.at_ 6 rfl;have k7:=mX.out.at_ 7 rfl;have k8:=mX.out.at_ 8 rfl;have k9:=mX.out.at_ 9 rfl;have aD:=mX.out.at_ 10 rfl;have aC:=mX.out.at_ 11 rfl;have aB:=mX.out.at_ 12 rfl;have aA:=mX.out.at_ 13 rfl;have ap:=mX.out.at_ 14 rfl;have az:=mX.out.at_ 15 rfl;go_wp2_with fail;refine WM.out.mono ?_;rintro _ w4 ⟨_,rfl,T,vh,rfl,ho⟩;obtain⟨Ah,ch,rfl⟩:=eI ho;have ae:=T.tr (ek w4 (.cells (D0 o (.slice Ah o.hits.length ch)) 40));have aw:=Box.new w4 40 (D0 o (.slice Ah o.hits.length ch));have aS:Hid (eP o.hits (.slice Ah o.hits.length ch) (w4.alloc (.cells (D0 o (.slice Ah o.hits.length ch)) 40))):=hide (VP.st _ _ _ _ (mT.pairs ho) (ek _ _));have Sk:=hide (mS.out.tr ae);have RT:=hide aw;have cS:=hide (DK.out.ext ae);have p5:=hide (mX.out.ext ae);have HL:=hide (λW=>dU W);have aL:=hide mX.out.lt;have aI:=hide T.size;clear WM mS DK mX T ae q0 q1 k0 k1 k2 k3 k4 k5 k6 k7 k8 k9 aD aC aB aA ap az;obtain⟨fr,E,y1,y2,y3,y4,y5,y6,y7⟩:=HW2.out;generalize rs.flatten=tx at*;have bY:=hide y5;clear y5;have HJ2:=hide (HJ.out _ Sk.out y4);have q8:=p5.out.at_ 8 rfl;clear HW2 HJ ho aw;have HY:=hide y7;have HP:=hide y6;clear y6 y7;unfold D0 at*;go_wp2_with fail;refine HJ2.out.mono ?_;rintro _ w6 ⟨_,rfl,O,ai⟩;obtain⟨Aj,cj,rfl⟩:=ai.form;have JP:=hide (Sk.out.tr O);have bP:=hide (cS.out.ext O);have bQ:=hide (p5.out.ext O);have bZ:=hide (RT.out.ext O);have UB:=hide (VP.st _ _ _ _ aS.out O);have bX:=hide (bW.out fr _ _ w6 JP.out y3 ai.bytes zO y2);rw[←bY.out]at bX;have q0:=bP.out.at_ 0 rfl;have q1:=bP.out.at_ 1 rfl;have q6:=bQ.out.at_ 6 rfl;rw[y1]at q6;clear HJ2 q8 Sk cS p5 RT aS O ai bW;go_wp2_with fail;refine bX.out.mono ?_;rintro _ w7 ⟨_,rfl,s,ah⟩;obtain⟨Ao,co,rfl,ar,aG,-⟩:=eP.form (id ah);have RZ:=hide (JP.out.tr s);have bT:=hide (bQ.out.ext s);have OY:=hide (bZ.out.ext s);have b0:=hide (VP.st _ _ _ _ UB.out s);have b2:=hide ah;have aj:=HP.out.length_le;have aq:decide (o.hits=E.take o.hits.length)=true:=decide_eq_true (List.prefix_iff_eq_take.1 HP.out);have HT:=hide aq;have aH:=OY.out;have c2:=OY.out.at_ 2 rfl;clear q0 q1 q6 JP bP bQ bZ UB s ah bX HP aq;go_upto_region 7 with(fail)
 refine vQ 17 ?_;refine .rn 6 ?_;refine ed.BN _ _ rfl wA oA rfl ?_;refine .rm 1 34 0 ?_;refine ed.move _ rfl (tO 2 35 0) oA ?_;refine ed.move _ rfl (tO 2 35 1) oA ?_;refine ed.gF (Operand.tmp 37) (tO 2 35 2) oA (λρ w d h1=>by simp[h1,go_sem];rfl) ?_;refine ed.Ei _ _ _ _ rfl (tO 2 35 3) oA oA zO ?_;refine ed.Gq _ _ _ rfl wA oA oA ?_;refine .rm 7 40 0 ?_;refine ed.gF (Operand.tmp 5) (tO 8 41 0) oA (λρ w d h1=>by simp[execOp,h1,go_sem];rfl) ?_;refine ed.gG 38 _ rfl (tO 8 41 1) oA (λ_=>by kernel_rfl) c2 (eh _) ?_;refine ed.move _ rfl (tO 8 41 2) oA ?_;refine ed.move _ rfl (tO 8 41 3) oA ?_;refine ed.bO 38 50 _ _ .i64 o.hits.length rfl underlying38 zK (tO 8 41 4) oA oA aj ar ?_;refine ed.call2 14 _ _ _ rfl (enters_of func14 zK rfl) (tO 8 41 5) oA oA (λu v W hX hu hv=>by cases hu;cases hv;have h:=F4 o.hits (E.take o.hits.length) _ _ W (VP.st _ _ _ _ b0.out ((eh _).tr hX)) (bq (VP.st _ _ _ _ b2.out ((eh _).tr hX)) aj);rw[HT.out]at h;exact h) ?_;refine ed.BN _ _ rfl (tO 8 41 6) oA rfl ?_;refine ed.Gq _ _ _ rfl wA oA oA ?_;refine⟨rfl,λW7 s=>?_⟩;iterate 13 refine ew.eq ?_
 refine ew.any λay ad=>?_;iterate 3 refine ew.eq ?_
 refine ew.nil ?_;simp only[Act.put,List.setIfInBounds_toArray,List.set_cons_zero,List.set_cons_succ];clear ad;have d:=((eh _).tr s)
 have VR:=hide (RZ.out.tr d);have aa:=OY.out.ext d;have ab:=bT.out.ext d;have d0:=aa.at_ 0 rfl;have d1:=aa.at_ 1 rfl;have d3:=aa.at_ 3 rfl;have d6:=aa.at_ 6 rfl;have k7:=ab.at_ 7 rfl;have ap:=ab.at_ 14 rfl;have hY:=HY.out;clear RZ OY bT b0 b2 HT aH c2 d HY aa ab s ar aG y1 y2 y3 y4 bY;have hd (i:Int) (h:(o.kind:Int)=i):W7.cell? ⟨w4.heap.size,0,none⟩=some (.int .u8 i):=by rw[←h];exact d0
 rcases hY with e|⟨e,ea,eb,al,er⟩|⟨e,ea,aK,aJ⟩|⟨e,ea,eb,al,er⟩;replace d0:=hd 1 zO;rotate_left;replace d0:=hd 2 zO;rotate_left;replace d0:=hd 3 zO;rotate_left;replace d0:=hd 4 zO;rw[ea]at d1;all_goals first|(rw[er]at d6;rw[eb]at k7;rw[show o.hits.length=E.length by rw[al]];clear eb al er)|skip
 all_goals
  first|clear ea|skip
  clear hd e aj;go_wp2_with fail;refine(HL.out _).mono ?_;rintro _ w9 ⟨_,rfl,av,rfl⟩;have Xa:=hide (VR.out.tr av);clear VR av HL;go_wp2;go_ret;exact eB.mk Xa.out rfl
end
end Go.Proofs.YtofgfpffcegioaaGreat
