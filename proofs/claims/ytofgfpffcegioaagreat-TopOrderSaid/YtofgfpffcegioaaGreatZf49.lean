/- A part of the proof. -/
import Derived.Test.YtofgfpffcegioaaGreatZf32
import Derived.Test.YtofgfpffcegioaaGreatZf46
import Derived.Deep.Grids
set_option maxRecDepth 100000
set_option maxHeartbeats 8000000
namespace Go.Proofs.YtofgfpffcegioaaGreat
open Go.ChangeShapes Go.WideShapes Go.ChangeAt Go.RowKit Go.Joins fq Go.Proofs.Tryz
open Bool renaming true → aV
open Go.DataW renaming trod → aP,trod_int → aQ,trod_struct → aU
open Go.Proofs.Tryz renaming underlying3 → aR,prog → aW
open Go.Value renaming cells → aT
open List renaming getElem?_eq_getElem → aO
open Option renaming some → aS
theorem yl{H:Type}{enc:TypeId×Value→H}{P:Program}{w:World}{base:Nat}{U:Bool}{t e:TypeId}{Y:Nat}{cs:List Value}{x:DataW H×List MemPlace}(ht:P.underlying t=aS (.slice e))(he:P.underlying e=aS .bool)(hc:P.cellsOf e=1)
  (h:aP enc P w base (λ_=>aV) U Y t cs=aS x):∃bs v,cs=[v]∧iZ bs v w:=by
 rcases Go.Deep.open_bools ht he hc h with⟨rfl,_⟩|⟨⟨b,O,E⟩,s,ab,B,rfl,_,hl,hm,_,d⟩
 ·exact⟨[],_,rfl,none,0,rfl,Nat.le_refl _,by decide,λh=>by simp at h⟩
 ·have T:((List.range s).map B).length=s:=by simp
  refine⟨(List.range s).map B,_,rfl,aS ⟨b,O,E⟩,ab,by grind,by grind,hm,λhp=>?_⟩;rw[List.length_map,T]at hp;have h0:=d 0 zO;have J:E=none:=by simpa[Addr.add]using World.cell?_spot h0
  subst J;refine⟨b,O,rfl,World.block_lt_of_cell? w _ h0,λj F hj=>?_⟩;rw[List.getElem?_map]at hj;obtain⟨y,hy,rfl⟩:=Option.map_eq_some_iff.1 hj;have aa:j<s:=zG;have h1:=d j zO;rw[addr_add]at h1;refine⟨_,h1,?_⟩;rw[List.getElem?_map,List.getElem?_range aa]at hy;cases hy;rfl
theorem DU{α:Type}{cs:Array α}(h:cs.size=16):∃c0 c1 c2 c3 c4 c5 c6 Y U T O J H E s d,cs=#[c0,c1,c2,c3,c4,c5,c6,Y,U,T,O,J,H,E,s,d]:=by
 obtain⟨l⟩:=cs
 match l,h with
 |[c0,c1,c2,c3,c4,c5,c6,Y,U,T,O,J,H,E,s,d],_=>grind
theorem zH{k:IntKind}{n:Int}(h:(Lit.int k n).wf=aV)(d:k=.u8∨k=.u32):0≤n:=by
 rcases d with rfl|rfl
 ·simp only[Lit.wf,Bool.and_eq_true,decide_eq_true_eq]at h;have e:IntKind.u8.min=0:=by decide
  omega
 ·simp only[Lit.wf,Bool.and_eq_true,decide_eq_true_eq]at h;have e:IntKind.u32.min=0:=by decide
  omega
theorem Nn{H:Type}{enc:TypeId×Value→H}{w:World}{base:Nat}{s:Bool}{r:Reach}{b0:Nat}{v:Value}{d:DataW H}{p:List MemPlace}
  (hv:Value.okWide aW w r b0 33 v)(h:DataW.Trod enc aW w base (λ_=>aV) s 33 v d p) :
  ∃(R:qC) (rs:LL) (an:List Bool) (ps:List Int) (vr va vp:Value),v=.agg (xG R vr va vp)∧eD rs vr w∧iZ an va w∧eQ ps vp w∧0≤R.seed∧0≤R.kind:=by
 have e1:prog.cellsOf 3=1:=by rfl
 have e7:prog.cellsOf 26=7:=by rfl
 have e3:prog.cellsOf 31=3:=by rfl
 have e8:prog.cellsOf 5=1:=by rfl
 have aN:prog.cellsOf 29=1:=by rfl
 have eb:prog.cellsOf 4=1:=by rfl
 have er:prog.cellsOf 22=1:=by rfl
 have ea:prog.cellsOf 27=1:=by rfl
 have ei:prog.cellsOf 28=1:=by rfl
 obtain⟨cs,rfl,aE⟩:=okWide_struct underlying33 hv;obtain⟨c0,c1,c2,c3,c4,c5,c6,c7,c8,c9,af,ab,aa,Y,ae,ad,rfl⟩:=DU (aE.trans zR);obtain⟨aG,hf⟩:=h;obtain⟨O,n,-,-,-,aF,E⟩:=aU underlying33 hf;obtain⟨y0,aA⟩:∃y,O[0]?=aS y:=⟨_,aO zG⟩
 have g0:aP enc aW w base (λ_=>aV) s n 26 [c0,c1,c2,c3,c4,c5,c6]=aS y0:=by have h:=(E 0 _ rfl).trans aA;grind[aT]
 obtain⟨T,m,-,-,-,aM,J⟩:=aU underlying26 g0;obtain⟨z0,ap⟩:∃y,T[0]?=aS y:=⟨_,aO zG⟩
 have k0:aP enc aW w base (λ_=>aV) s m 3 [c0]=aS z0:=by have h:=(J 0 _ rfl).trans ap;grind
 obtain⟨n0,q0,-,-⟩:=aQ aR k0;obtain rfl:c0=iV n0:=zG;obtain⟨z1,ao⟩:∃y,T[1]?=aS y:=⟨_,aO zG⟩
 have k1:aP enc aW w base (λ_=>aV) s m 3 [c1]=aS z1:=by have h:=(J 1 _ rfl).trans ao;grind
 obtain⟨n1,q1,-,-⟩:=aQ aR k1;obtain rfl:c1=iV n1:=zG;obtain⟨z2,am⟩:∃y,T[2]?=aS y:=⟨_,aO zG⟩
 have k2:aP enc aW w base (λ_=>aV) s m 3 [c2]=aS z2:=by have h:=(J 2 _ rfl).trans am;grind
 obtain⟨n2,q2,-,-⟩:=aQ aR k2;obtain rfl:c2=iV n2:=zG;obtain⟨z3,al⟩:∃y,T[3]?=aS y:=⟨_,aO zG⟩
 have k3:aP enc aW w base (λ_=>aV) s m 3 [c3]=aS z3:=by have h:=(J 3 _ rfl).trans al;grind
 obtain⟨n3,q3,-,-⟩:=aQ aR k3;obtain rfl:c3=iV n3:=zG;obtain⟨z4,ak⟩:∃y,T[4]?=aS y:=⟨_,aO zG⟩
 have k4:aP enc aW w base (λ_=>aV) s m 3 [c4]=aS z4:=by have h:=(J 4 _ rfl).trans ak;grind
 obtain⟨n4,q4,-,-⟩:=aQ aR k4;obtain rfl:c4=iV n4:=zG;obtain⟨z5,aj⟩:∃y,T[5]?=aS y:=⟨_,aO zG⟩
 have k5:aP enc aW w base (λ_=>aV) s m 3 [c5]=aS z5:=by have h:=(J 5 _ rfl).trans aj;simp_all
 obtain⟨n5,q5,-,-⟩:=aQ aR k5;obtain rfl:c5=iV n5:=zG;obtain⟨z6,ai⟩:∃y,T[6]?=aS y:=⟨_,aO zG⟩
 have k6:aP enc aW w base (λ_=>aV) s m 3 [c6]=aS z6:=by have h:=(J 6 _ rfl).trans ai;simp_all
 obtain⟨n6,q6,-,-⟩:=aQ aR k6;obtain rfl:c6=iV n6:=zG;obtain⟨y1,az⟩:∃y,O[1]?=aS y:=⟨_,aO zG⟩
 have g1:aP enc aW w base (λ_=>aV) s n 4 [c7]=aS y1:=by have h:=(E 1 _ rfl).trans az;simp_all[aT]
 obtain⟨br,q7,-⟩:=DataW.trod_bool underlying4 g1;obtain rfl:c7=.bool br:=zG;obtain⟨y2,ay⟩:∃y,O[2]?=aS y:=⟨_,aO zG⟩
 have g2:aP enc aW w base (λ_=>aV) s n 22 [c8]=aS y2:=by have h:=(E 2 _ rfl).trans ay;simp_all[aT]
 obtain⟨rs,vr,q8,hr⟩:=qM underlying22 zR underlying43 underlying5 zR g2;obtain rfl:c8=vr:=zG;obtain⟨y3,aw⟩:∃y,O[3]?=aS y:=⟨_,aO zG⟩
 have g3:aP enc aW w base (λ_=>aV) s n 27 [c9]=aS y3:=by have h:=(E 3 _ rfl).trans aw;simp_all[aT]
 obtain⟨an,va,q9,ha⟩:=yl underlying27 underlying4 zR g3;obtain rfl:c9=va:=zG;obtain⟨y4,av⟩:∃y,O[4]?=aS y:=⟨_,aO zG⟩
 have g4:aP enc aW w base (λ_=>aV) s n 28 [af]=aS y4:=by have h:=(E 4 _ rfl).trans av;simp_all[aT]
 obtain⟨ps,vp,aK,hp⟩:=zZ underlying28 aR zR g4;obtain rfl:af=vp:=zG;obtain⟨y5,au⟩:∃y,O[5]?=aS y:=⟨_,aO zG⟩
 have g5:aP enc aW w base (λ_=>aV) s n 31 [ab,aa,Y]=aS y5:=by have h:=(E 5 _ rfl).trans au;simp_all[aT]
 obtain⟨us,m2,-,-,-,aL,U⟩:=aU underlying31 g5;obtain⟨u0,aD⟩:∃y,us[0]?=aS y:=⟨_,aO zG⟩
 have l0:aP enc aW w base (λ_=>aV) s m2 5 [ab]=aS u0:=by have h:=(U 0 _ rfl).trans aD;simp_all
 obtain⟨kn,p0,-,ah⟩:=aQ underlying5 l0;obtain rfl:ab=.int .u8 kn:=zG;obtain⟨u1,aC⟩:∃y,us[1]?=aS y:=⟨_,aO zG⟩
 have l1:aP enc aW w base (λ_=>aV) s m2 29 [aa]=aS u1:=by have h:=(U 1 _ rfl).trans aC;simp_all
 obtain⟨sd,p1,-,ag⟩:=aQ underlying29 l1;obtain rfl:aa=.int .u32 sd:=zG;obtain⟨u2,aB⟩:∃y,us[2]?=aS y:=⟨_,aO zG⟩
 have l2:aP enc aW w base (λ_=>aV) s m2 3 [Y]=aS u2:=by have h:=(U 2 _ rfl).trans aB;simp_all
 obtain⟨la,p2,-,aH⟩:=aQ aR l2;obtain rfl:Y=iV la:=zG;obtain⟨y6,ar⟩:∃y,O[6]?=aS y:=⟨_,aO zG⟩
 have g6:aP enc aW w base (λ_=>aV) s n 3 [ae]=aS y6:=by have h:=(E 6 _ rfl).trans ar;simp_all[aT]
 obtain⟨ca,aJ,-,-⟩:=aQ aR g6;obtain rfl:ae=iV ca:=zG;obtain⟨y7,aq⟩:∃y,O[7]?=aS y:=⟨_,aO (by simp_all)⟩
 have g7:aP enc aW w base (λ_=>aV) s n 3 [ad]=aS y7:=by have h:=(E 7 _ rfl).trans aq;simp_all[aT]
 obtain⟨mo,aI,-,-⟩:=aQ aR g7;obtain rfl:ad=iV mo:=zG;exact⟨⟨⟨n0,n1,n2,n3,n4,n5,n6⟩,br,kn,sd,la,ca,mo⟩,rs,an,ps,_,_,_,rfl,hr,ha,hp,zH ag (.inr rfl),zH ah (.inl rfl)⟩
end Go.Proofs.YtofgfpffcegioaaGreat
