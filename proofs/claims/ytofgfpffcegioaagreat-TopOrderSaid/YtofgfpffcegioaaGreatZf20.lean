/- A part of the proof. -/
import Derived.Test.YtofgfpffcegioaaGreatZf09
import Derived.Test.YtofgfpffcegioaaGreatZf19
import Derived.Sort.OwnSorted
set_option maxRecDepth 100000
set_option maxHeartbeats 8000000
namespace Go.Proofs.YtofgfpffcegioaaGreat
open Go.RowKit Go.Shelf Go.Sort iT Go.Proofs.Tryz
open Go.Proofs.Tryz renaming underlying9 → a7,underlying246 → a8
open Go.RowKit.Below renaming grown → ba
open Go.Value renaming int → a6
theorem Tryz.SB:(prog.info? 9).map (λi=>(i.zero,i.size,i.bytes))=some (some (fY []),1,16):=by rfl
theorem mF(w:World):(zeroValue 3).run prog w=.ok (iV 0) w:=by rfl
theorem Cc(h d size:Nat)(w:World):CmpLays1 prog 182 #[] fY iW h d size w:=λm E H _ x y=>by
 refine(Em x y _).mono ?_;rintro e s ⟨rfl,rfl⟩;refine⟨rfl,0,#[.cells #[iV (pj x.length y.length),iV (Lib.compareBytes x y)] 3],?_⟩;rfl
theorem Ag(ws:LL)(v:Value)(w:World)(hP:eD ws v w)(aX:ws.flatten.length≤1000000)(hn:ws.length≤1000000):Calls prog 122 #[v] w (eY w λv w'=>rX w' w.heap.size 9 v (ey ws)):=by
 obtain⟨A,c,rfl,a1,aR,hx⟩:=eD.form hP;unfold maxLen at aR;obtain⟨i0,hi,aP,aO,aN⟩:=info_parts Tryz.SB;have aL:=λw:World=>show(Instr.makeMap 246 none).run prog w=.ok (.map (some w.heap.size)) (w.alloc (.map #[] 0))from rfl;clear hP;go_enter func122,ntmps122;obtain⟨J,U,hM,av,ad,-⟩:=(fQ.made (kv:=fY) (ev:=a6 .i64) w).update (rh a7) a8 ([]:L8) (0:Int);have U:(Instr.mapUpdate 246 (.map (some w.heap.size)) (.string ⟨#[]⟩) (iV 0)).run prog (w.alloc (.map #[] 0))=.ok () J:=U;rw[World.size_alloc]at ad;have ai:Below w.heap.size w J:=ba (ek w (.map #[] 0)) av zS (λk hk=>by grind);have VI:=hide ad;clear ad av;go_upto_region 2 with(fail)
 go_upto_region 3 with(fail)
 clear aL U;have hO:rX (J.alloc (.cells #[fY []] 9)) w.heap.size 9 (.slice (some ⟨J.heap.size,0,none⟩) 1 1) (fI (ws.take 0)):=
  ⟨rfl,.inr ⟨J.heap.size,1,#[fY []],rfl,by rw[VI.out];omega,heap_alloc_new J _,Nat.le_refl _,by decide,rfl,rfl⟩⟩
 have ah:Ext J (J.alloc (.cells #[fY []] 9)):=ek _ _;have aD:fQ (J.alloc (.cells #[fY []] 9)) w.heap.size fY (a6 .i64) (kg (fI (ws.take 0))):=hM.ext ah;have hX:Below w.heap.size w (J.alloc (.cells #[fY []] 9)):=ai.trans (ah.mono ai.size);have O:=hide hO;have T:=hide aD;have I:=hide hX;clear hO aD hX ah hM ai VI;change Code.wp _ _ _ _ (J.alloc (.cells #[fY []] 9));generalize J.alloc (.cells #[fY []] 9)=w2 at*;generalize J.heap.size=g1 at*;go_wp2_with fail
 go_loopw [4,16] (λl i wr=>∃k:Nat,k≤ws.length∧i=iV k∧Hid (Below w.heap.size w wr)∧Hid (rX wr w.heap.size 9 l (fI (ws.take k)))∧Hid (fQ wr w.heap.size fY (a6 .i64) (kg (fI (ws.take k))))) (λ_ i _=>ws.length-(intOf i).toNat)
 case atStart=>grind
 case round=>
  clear I O T;obtain⟨k,hk,rfl,I,O,T⟩:=hrel;by_cases ar:k<ws.length
  ·obtain⟨b,aG,rfl,aS,W⟩:=hx zO;obtain⟨z,hz,ao⟩:=W k ar;have aH:=(I.out.cell (p:=⟨b,aG+k,none⟩) aS).trans hz;obtain⟨A2,c2,rfl,aZ,aQ,hy⟩:=eu.form ao;have an:=ao;unfold maxLen at aQ;have DW:=hide (lA ws k ar);have ab:=oE ws k hk;have Y:(ws.take k).flatten.length+ws[k].length≤ws.flatten.length:=by
    have h1:(ws.take (k+1)).flatten.length≤ws.flatten.length:=by
     have h2:=congrArg (λl=>l.flatten.length) (List.take_append_drop (k+1) ws);grind
    grind[List.take_succ_eq_append_getElem,List.flatten_append,List.length_append]
   generalize aI:ws[k]=d at*;have Hb1:=hide ab;have Hb2:=hide Y;have aE:Hid (rX wr w.heap.size 9 u4 (lX (fI (ws.take k)) d 0)):=O.out;have aF:Hid (fQ wr w.heap.size fY (a6 .i64) (kg (lX (fI (ws.take k)) d 0))):=T.out;clear W hx hz aI O T ab Y;generalize fI (ws.take k)=ra at*;go_wp2_with fail
   go_loopw [4,22] (λl i wq=>∃j:Nat,j≤d.length∧i=iV j∧Hid (Below w.heap.size w wq)∧Hid (rX wq w.heap.size 9 l (lX ra d j))∧Hid (fQ wq w.heap.size fY (a6 .i64) (kg (lX ra d j)))) (λ_ i _=>d.length-(intOf i).toNat)
   case atStart=>exact⟨0,by omega,rfl,I,aE,aF⟩
   case round=>
    clear I aE aF aH;obtain⟨j,hj,rfl,I,O,T⟩:=hrel;by_cases aW:j<d.length
    ·obtain⟨b2,am,rfl,Y,-⟩:=hy zO;have ap:eu (d.take (j+1)) (.slice (some ⟨b2,am,none⟩) (j+1) c2) wr:=by
      obtain⟨A',n',c',e',aY,-,-,aw⟩:=eu.cut (VP.st _ _ _ _ an (I.out));cases e';have h:=aw 0 (j+1) zO zO;simp_all[List.drop_zero,addr_add]
     have aU:=nE underlying43 underlying5 a7 ap;have Qt:=hide (mh ra d j);have a2:=vz ra d j;generalize d.take (j+1)=nb at*;clear ap;have aa:=T.out.mE (rh a7) a8 (mF wr) nb;rw[rY]at aa;generalize((jx (kg (lX ra d j)) nb).map (a6 .i64)).getD (iV 0)=zv at*;unfold fY at aa;obtain⟨B1,c1,aM⟩:=eI O.out;subst aM;have az:=Hb1.out;have a3:=Hb2.out;unfold uq at Qt;by_cases H:nb∈lX ra d j
     ·rw[decide_eq_true H]at aa;rw[if_pos H]at Qt;clear H;go_wp2_with fail;exact⟨⟨j+1,by omega,by go_num,I,by rw[Qt.out];exact O,by rw[Qt.out];exact T⟩,by simp[intOf];omega⟩
     ·rw[decide_eq_false H]at aa;rw[if_neg H]at Qt;have au:=vA H;obtain⟨w3,U,ak,ae,aJ,-⟩:=T.out.update (rh a7) a8 nb ((lX ra d j).length:Int);rw[au]at ak;have aC:=rW O.out ae (λr hr=>by cases hr;exact T.out.nO);have aB:Below w.heap.size w w3:=ba I.out ae I.out.size (λk hk=>by grind);have aA:Ext w3 (w3.alloc (.cells #[fY nb] 9)):=ek _ _;unfold fY at U;have Sb:=hide aC;have VJ:=hide ak;have N3:=hide aB;generalize aK:lX ra d j=s at*;clear H au ae aJ I O T aC ak aB aK;go_wp2_with(at_builtin;refine eJ rfl _ _ 249 rfl w.heap.size 9 i0 (fY []) 1 16 underlying249 hi aP aO aN rfl zO _ _ s.length 1 (s.map fY) [fY nb] rfl (fy Sb.out aA) rfl rfl (Src.new _ _ _ _) (λy hy=>by rw[List.mem_singleton]at hy;subst hy;rfl) zO (by simp;have:=N3.out.size;omega) ?_;intro v' w' aV V a4)
      have ag:Below w.heap.size w w':=jB N3.out V (λq hq=>fk Sb.out q hq);have aT:fQ w' w.heap.size fY (a6 .i64) (kg (s++[nb])):=(VJ.out.ext aA).grown V (VJ.out.not_row Sb.out);have aj:rX w' w.heap.size 9 v' (s++[nb]):=by
       simp_all[rX,List.length_append,List.map_append]
      exact⟨⟨j+1,by omega,by go_num,ag,by rw[Qt.out];exact aj,by rw[Qt.out];exact aT⟩,by simp[intOf];omega⟩
    ·obtain rfl:j=d.length:=zO;rw[←DW.out]at O T;go_wp2_with fail;exact⟨⟨k+1,by omega,by go_num,I,O,T⟩,by simp[intOf];omega⟩
  ·obtain rfl:k=ws.length:=zO;rw[List.take_length]at O T;have az:=oE ws ws.length (Nat.le_refl _);rw[List.take_length]at az;have hO:=O.out;have ay:ey ws=(fI ws).mergeSort λx y=>!(ltOf iW) y x:=rfl;have DX:=hide ay;clear ay;generalize fI ws=s at*;rcases hO.2 with⟨rfl,h0⟩|⟨g,al,a5,rfl,af,hb,h1,h2,h3,h4⟩
   ·omega
   have hH:Holds fY wr g 0 s.toArray:=holds_of_block hb (by rw[Nat.mul_one]at h4;exact h4);have aq:s.toArray.size<4611686018427387904:=zG;have E:=Tryz.slices_SortFunc_total fY (λ_=>rfl) iW zW 182 #[] g 0 al s.toArray wr (enters_of func182 zR rfl) (Cc _ _ _ _) hH (Array.getElem?_eq_some_iff.1 hb).1 aq yH;simp only[List.size_toArray]at E;have HS:=hide E;clear E aq hH hO;go_wp2_with fail;refine HS.out.mono ?_;rintro e w' ⟨rfl,n,os,rfl⟩;have hl:(s.mergeSort λx y=>!(ltOf iW) y x).length=s.length:=by simp
   have hg:=grownBy_sorted (w:=wr) (g:=g) (n:=n) (os:=os) (s.mergeSort λx y=>!(ltOf iW) y x).toArray;have ho:=ownsRow_sorted (n:=n) (os:=os) hl af hb h1 h2 h3;generalize(s.mergeSort λx y=>!(ltOf iW) y x)=ts at*;change wr.grownBy (sortWorld fY wr g 0 n ts.toArray os) (some g)at hg;change(sortWorld fY wr g 0 n ts.toArray os).ownsRow w.heap.size 9 1 (.slice (some ⟨g,0,none⟩) s.length al) s.length (ts.map fY)at ho;generalize sortWorld fY wr g 0 n ts.toArray os=w5 at*;have aj:rX w5 w.heap.size 9 (.slice (some ⟨g,0,none⟩) s.length al) ts:=by simp_all[rX]
   have ag:Ext w w5:=ba I.out hg I.out.size (λq hq=>by simp_all);clear HS hl hg ho h1 h2 h3 h4 hb;go_wp2_with fail;go_ret;exact eY.mk ag (by rw[DX.out];exact aj)
end Go.Proofs.YtofgfpffcegioaaGreat
