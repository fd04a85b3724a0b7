/- A part of the proof. -/
import Derived.Test.YtofgfpffcegioaaGreatZf14
import Derived.Laws.EntriesVeiled
set_option maxRecDepth 100000
set_option maxHeartbeats 8000000
namespace Go.Proofs.YtofgfpffcegioaaGreat
open Go.RowKit Go.Shelf iT Go.Proofs.Tryz
open Bool renaming false → aI
open Go renaming callsIn_wide → aJ
open Go.Value renaming bool → aK
open Nat renaming le_refl → aH
section
attribute [local go_sem] Oper.semAt_some
def nG(d:Bool)(l:List (UInt8×UInt8)):Bool:=l.all λp=>R8 d p.1 p.2
theorem yI(d:Bool):∀(E s:L8),E.length=s.length→gM d E s=nG d (E.zip s)
 |[],[],_=>Hj d
 |[],y::s,h=>by simp at h
 |x::E,[],h=>by simp at h
 |x::E,y::s,h=>by
  rw[D5,yI d E s (by simpa using h)];rfl
theorem z7{d:Bool}{pre l:List (UInt8×UInt8)}(h:pre<+:l)(s:nG d pre=aI):nG d l=false:=by
 obtain⟨t,rfl⟩:=h;unfold nG at s ⊢;grind
theorem En(d:Bool)(l:List (UInt8×UInt8))(p:UInt8×UInt8):nG d (l++[p])=(nG d l&&R8 d p.1 p.2):=by
 simp[nG]
theorem z8{d:Type}(g:Nat)(t:TypeId)(f:d→AV):Own (λ(s:d) W=>Box W g t (f s)):=by
 intro s W T H h J I;exact(J.block g h.lt (λe=>by
  obtain⟨o,E,O⟩:=I g e.symm;rw[show W.heap[g]?=_ from h]at E;cases E;cases O)).trans h
theorem Eo(h:Bool)(xs s:L8)(u v:Value)(w:World)(H:eu xs u w)(E:eu s v w)(I:xs.length≠s.length):Calls prog 219 #[.bool h,u,v] w (eB w (eC (.bool aI))):=by
 obtain⟨A,c,rfl,U,T,-⟩:=eu.form H;obtain⟨B,d,rfl,O,J,-⟩:=eu.form E;have e:((xs.length:Int)==(s.length:Int))=false:=zG;go_enter func219,ntmps219;go_wp2;have V:=(Box.new w 4 #[.bool aI]).at_ 0 rfl;exact bodyPost_ret (v:=.bool aI) (by simp[results,results219,go_sem,V]) rfl (eB.mk (ek _ _) rfl)
theorem Iv(h:Bool)(xs I:L8)(u v:Value)(w:World)(hx:eu xs u w)(hy:eu I v w)(hl:xs.length=I.length):Calls prog 219 #[.bool h,u,v] w (eB w (eC (.bool (nG h (xs.zip I))))):=by
 obtain⟨A,c,rfl,aw,av,-⟩:=eu.form hx;obtain⟨B,d,rfl,aF,aE,-⟩:=eu.form hy;have en:((xs.length:Int) !=(I.length:Int))=false:=zG;refine(aJ (n:=9)).1 ?_;have h1:1≤9:=zO;refine callsIn_of_wp_marks func219 rfl trivial ?_ rfl;simp only[ntmps219,List.size_toArray,List.length_cons,List.length_nil,Nat.reduceAdd,Nat.reduceSub,Array.replicate_succ,Array.replicate_zero,List.push_toArray,List.append_toArray,List.nil_append,List.cons_append];gi_wp2_with (first
  |(refine⟨trivial,?_⟩;gi_at_call 263;refine(aJ.2 (Qp h _)).mono ?_;rintro e O ⟨u,rfl,af,rfl⟩;obtain⟨U,ar⟩:=af.rules;unfold VG)
  |(refine⟨trivial,?_⟩;gi_at_call 264;refine(aJ.2 (Iu _ _ _ _ _ _ _)).mono ?_;rintro e w2 ⟨rfl,rfl⟩))
 clear U ar;have ay:=(Box.new w 4 #[.bool aI]).ext af;have ah:Ext w O:=(ek _ _).tr af;have aj:=af.size;simp only[World.size_alloc]at aj;obtain⟨fv,am⟩:∃fv,fv=Value.func (.func (Sy h)) #[.agg #[]] #[]:=⟨_,rfl⟩
 rw[←am];obtain⟨W0,ab⟩:∃W0,((O.alloc (.cells #[fv] 395)).alloc (.cells #[.slice A I.length c] 43)).alloc (.cells #[.slice B I.length d] 43)=W0:=⟨_,rfl⟩
 have aD:W0.heap.size=O.heap.size+3:=by rw[←ab];simp
 have ae:Ext O W0:=by rw[←ab];exact((ek _ _).tr (ek _ _)).tr (ek _ _)
 have az:Box W0 O.heap.size 395 #[fv]:=by rw[←ab];exact((Box.new _ _ _).alloc _).alloc _
 have aB:Box W0 (O.heap.size+1) 43 #[.slice A I.length c]:=by
  rw[←ab];have:=(Box.new (O.alloc (.cells #[fv] 395)) 43 #[.slice A I.length c]).alloc (.cells #[.slice B I.length d] 43);simp_all
 have aA:Box W0 (O.heap.size+1+1) 43 #[.slice B I.length d]:=by
  grind[Box.new,World.size_alloc]
 rw[ab];have ai:=VP.st _ _ _ _ hx (ah.tr ae);have ap:=VP.st _ _ _ _ hy (ah.tr ae);rw[hl]at ai;have an:=ay.ext ae;refine wpIn_rangeFunc_ownF (F:=Fence.wide) rfl h1 (gf:=295) (lb:=#[gP (O.heap.size+1),gP (O.heap.size+1+1)]) rfl trivial (enters_of func295 zR rfl)
  (pairs_stops Fence.wide 8 trivial rfl zO (O.heap.size+1) (O.heap.size+1+1) xs I hl _ _ W0 ai ap (aB.at_ 0 rfl) (aA.at_ 0 rfl)) belowK_t (belowK_b (aH _)) (Below.refl _ _) (λ_=>rfl)
  (λT W=>((Box W O.heap.size 395 #[fv]∧Box W w.heap.size 4 #[.bool aI]∧W0.heap.size≤W.heap.size)∧nG h T=true)∧Below w.heap.size w W)
  (λc T W=>(Box W w.heap.size 4 #[.bool aI]∧c=.ret∧nG h T=aI)∧Below w.heap.size w W)
  (OwnFrom.and (Own.from (λs X Y ad hs hg hr=>⟨⟨z8 _ _ (λ_=>#[fv]) s X Y ad hs.1.1 hg hr,z8 _ _ (λ_=>#[.bool aI]) s X Y ad hs.1.2.1 hg hr,Nat.le_trans hs.1.2.2 hg.size⟩,hs.2⟩) _) (ownFrom_below (aH _) zO))
  (λc=>OwnFrom.and (Own.from (λs X Y ad hs hg hr=>⟨z8 _ _ (λ_=>#[.bool aI]) s X Y ad hs.1 hg hr,hs.2⟩) _) (ownFrom_below (aH _) zO))
  ⟨⟨⟨az,an,aH _⟩,rfl⟩,ah.tr ae⟩
  (λp=>{ tmps:=#[.bool h,.slice A I.length c,.slice B I.length d,undef,undef,undef,gP w.heap.size,gP O.heap.size,.int .u8 (p.1.toNat:Int),.int .u8 (p.2.toNat:Int),
   .slice A I.length c,iV I.length,.slice B I.length d,iV I.length,.bool aI,.bool h,fv,.slice A I.length c,.slice B I.length d,
   .func (.func 295) #[] #[gP (O.heap.size+1),gP (O.heap.size+1+1)],.int .u8 (p.1.toNat:Int),.int .u8 (p.2.toNat:Int),undef,undef,undef,undef,undef],defers:=[] }) ?assign ?body ?done ?stop
 case assign=>
  intro l x W K hK;gi_wp2;grind
 case body=>
  rintro l T x W ⟨⟨⟨V,E,ag⟩,aa⟩,hB⟩ _;have aw:=V.at_ 0 rfl;subst am;have aC:=Ek h;gi_wp2;refine⟨trivial,(CallsIn.inRound l (aJ.2 (NU h x.1 x.2 W))).mono ?_⟩;rintro e w2 ⟨v,rfl,H,rfl⟩;have hg:W.grownBy w2 none:=⟨H.os,H.tape,H.output,H.size,λk hk _=>H.block k hk⟩
  have al:=KeepsOthers.of_grownBy hg (λj o e _=>by cases e);have V:=V.ext H;have E:=E.ext H;have hB:=hB.trans (H.mono hB.size);have J:=En h T x;rw[aa,Bool.true_and]at J;have au:=E.frozen 0;cases hq:R8 h x.1 x.2
  ·rw[hq]at J;have av:=E.at_ 0 rfl;gi_wp2;exact⟨al.trans (KeepsOthers.setCell _ _ _),⟨E.eL 0 (.bool aI),rfl,J⟩,hB.setCell (p:=⟨w.heap.size,0,none⟩) (aH _) _⟩
  ·rw[hq]at J;gi_wp2;exact⟨al,H.mono ag,⟨⟨V,E,Nat.le_trans ag H.size⟩,J⟩,hB⟩
 case done=>
  rintro D zs W hD rfl ⟨⟨⟨V,E,ag⟩,aa⟩,hB⟩ hK;have aG:=E.at_ 0 rfl;have au:=E.frozen 0;gi_wp2;have ao:=(KeepsOthers.setCell W ⟨w.heap.size,0,none⟩ (.bool true)).same D _ hK rfl;refine⟨by simp,.inl ⟨_,_,rfl,run_takeDeferred ao,?_⟩⟩;have aq:w.heap.size≠D:=zO;have U:∀o:Obj,((W.setCell ⟨w.heap.size,0,none⟩ (.bool true)).putObj D o).cell? ⟨w.heap.size,0,none⟩=some (aK true):=λo=>Box.at_ ((World.putObj_heap_other zO).trans (E.eL 0 (.bool true))) 0 rfl;refine⟨.bool true,by simp[results,results219,go_sem,U],?_⟩;exact eB.mk ((hB.setCell (p:=⟨w.heap.size,0,none⟩) (aH _) _).trans (belowK_b (w:=w) (aH _) _ D _ _ zO ao rfl rfl)) (congrArg aK aa.symm)
 case stop=>
  rintro D c T W hD ak ⟨⟨E,rfl,aa⟩,hB⟩ hK;gi_wp2;refine⟨by simp,.inl ⟨_,_,rfl,run_takeDeferred hK,?_⟩⟩;have aq:w.heap.size≠D:=zO;have U:∀o:Obj,(W.putObj D o).cell? ⟨w.heap.size,0,none⟩=some (aK aI):=λo=>Box.at_ ((World.putObj_heap_other zO).trans E) 0 rfl;refine⟨.bool aI,by simp[results,results219,go_sem,U],?_⟩;exact eB.mk (hB.trans (belowK_b (w:=w) (aH _) _ D _ _ zO hK rfl rfl)) (congrArg aK (z7 ak aa).symm)
theorem K8(d:Bool)(xs h:L8)(u v:Value)(w:World)(H:eu xs u w)(E:eu h v w):Calls prog 219 #[.bool d,u,v] w (eB w (eC (.bool (gM d xs h)))):=by
 by_cases s:xs.length=h.length
 ·rw[yI d xs h s];exact Iv d xs h u v w H E s
 ·rw[show gM d xs h=aI by
   grind[gM,absurd,zI]]
  exact Eo d xs h u v w H E s
end
end Go.Proofs.YtofgfpffcegioaaGreat
