/- TopBreaks: whatever comes in, the law returns true; all that came in reads behind the call as it did ahead of it. Conditions: none. -/
import Derived.Test.YtofgfpffcegioaaGreatZn01
import Derived.Test.YtofgfpffcegioaaGreatZf49
set_option maxRecDepth 100000
set_option maxHeartbeats 8000000
namespace Go.Proofs.YtofgfpffcegioaaGreat
open Go.ChangeShapes Go.WideShapes Go.ChangeAt Go.RowKit Go.Proofs.Tryz
open Go.ChangeShapes renaming trodAll_cons → a1
open Go.Proofs.Tryz renaming checked → a6
theorem topBreaks_lifted(os:Os)(J:os.Started)(H:Type)(enc:TypeId×Value→H) :
  ReturnsInHanded {} a6 os 8 .any (Rows.topBreaksSpec.pre6 enc prog f8 Rows.topBreaksRow.domain false) (Rows.topBreaksSpec.post enc prog f8 false true false false):=by
 refine returnsInHanded_of_change (C:=a6) Is J zK func8
  (ChangeSpec.witness6 (enc:=enc) (C:=a6) false ⟨#[],#[.agg #[.bool false,nS],.agg #[iV 0,iV 0,iV 0,iV 0,iV 0,iV 0,iV 0,.bool false,nS,nS,nS,.int .u8 0,.int .u32 0,iV 0,iV 0,iV 0],iV 0,nS],[]⟩ 8 zK zK zK zK) ?_
 intro W aa E ds gs ab O hW _ _;have d:∀(j:Nat) t v,f8.params[j]?=some t→E[j]?=some v→Value.okWide prog W .any aa t v:=O;have Y:=hW;obtain⟨p,q,aq,hV,rfl,aC,aA⟩:=hW;have hA:DataW.TrodAll enc prog W 0 (λ_=>true) true f8.params.toList E.toList ds p:=aq;obtain⟨rfl,rfl⟩:=trodVars_none hV;rw[Tryz.params8]at hA d;have ar:=hA;obtain⟨v0,az,d0,aG,p0,q0,an,rfl,rfl,h0,r0⟩:=a1 hA;obtain⟨v1,ay,d1,aF,p1,q1,rfl,rfl,rfl,h1,r1⟩:=a1 r0;obtain⟨v2,aw,d2,aE,p2,q2,rfl,rfl,rfl,h2,r2⟩:=a1 r1;obtain⟨v3,av,d3,aD,p3,q3,rfl,rfl,rfl,h3,r3⟩:=a1 r2;obtain⟨rfl,rfl,rfl⟩:=trodAll_nil r3;obtain rfl:E=#[v0,v1,v2,v3]:=by cases E;simp_all
 obtain⟨f0,ad,ap⟩:=LV (d 0 24 v0 rfl rfl) h0;obtain⟨R1,ah,au,ai,ae,ag,af,rfl,ak,ao,al,T,U⟩:=Nn (d 1 33 v1 rfl rfl) h1;obtain⟨n2,rfl,rfl,rfl,aB⟩:=open_int underlying3 (d 2 3 v2 rfl rfl) h2;obtain⟨aj,am⟩:=b8 underlying28 underlying3 zK (d 3 28 v3 rfl rfl) h3;refine(topBreaks_any f0 ad v0 R1 ah au ai ae ag af n2 aj v3 W ap ak ao al T U am).mono ?_;rintro e W' ⟨v,rfl,hE,rfl⟩;have hl:∀x∈(p0++(p1++([]++(p3++[]))):List MemPlace),x.block<W.heap.size:=λx hx=>Y.lt x (List.mem_append_left _ hx);exact⟨_,rfl,_,_,_,[],_,[],Y,trodAll_mk1 (shut_bool underlying4 _),xZ K7 hE _ zK _ _ _ ar hl,rfl,Below.frame hE _,λh=>by cases h⟩
theorem topBreaks_facts:joinedFacts prog 8 f8 Rows.topBreaksSpec Rows.topBreaksRow=true:=by
 simp only[joinedFacts,Bool.and_eq_true];refine⟨⟨⟨⟨⟨⟨⟨⟨⟨⟨⟨⟨⟨⟨⟨⟨⟨⟨⟨⟨⟨⟨⟨⟨⟨⟨⟨⟨⟨⟨⟨?_,?_⟩,?_⟩,?_⟩,?_⟩,?_⟩,?_⟩,?_⟩,?_⟩,?_⟩,?_⟩,?_⟩,?_⟩,?_⟩,?_⟩,?_⟩,?_⟩,?_⟩,?_⟩,?_⟩,?_⟩,?_⟩,?_⟩,?_⟩,?_⟩,?_⟩,?_⟩,?_⟩,?_⟩,?_⟩,?_⟩,?_⟩;all_goals(as_aux_lemma=>kernel_rfl)
theorem topBreaks_holds:Rows.TopBreaksSaid:=
 OpenClaim.holds_of_wide 8 f8 rfl rfl rfl rfl rfl rfl rfl ⟨rfl,rfl,rfl,rfl,rfl⟩ rfl rfl rfl rfl rfl zK func8 topBreaks_facts
  (of_decide_eq_true zK) (by unfold Func.isWrapper;first|(rw[if_pos (by decide+kernel)];kernel_rfl)|(rw[if_neg (by decide+kernel)];exact⟨rfl,rfl⟩))
  (λJ d H E _=>topBreaks_lifted J d H E)
#print axioms topBreaks_holds
end Go.Proofs.YtofgfpffcegioaaGreat
