/- TopFrom: whatever comes in, the law returns true; all that came in reads behind the call as it did ahead of it. Conditions: none. -/
import Derived.Test.YtofgfpffcegioaaGreatZi01
import Derived.Test.YtofgfpffcegioaaGreatZf49
set_option maxRecDepth 100000
set_option maxHeartbeats 8000000
namespace Go.Proofs.YtofgfpffcegioaaGreat
open Go.ChangeShapes Go.WideShapes Go.ChangeAt Go.RowKit Go.Proofs.Tryz
open Go.Proofs.Tryz renaming checked → a1
theorem topFrom_lifted(os:Os)(J:os.Started)(H:Type)(enc:TypeId×Value→H) :
  ReturnsInHanded {} a1 os 6 .any (Rows.topFromSpec.pre6 enc prog f6 Rows.topFromRow.domain false) (Rows.topFromSpec.post enc prog f6 false true false false):=by
 refine returnsInHanded_of_change (C:=a1) Is J zK func6
  (ChangeSpec.witness6 (enc:=enc) (C:=a1) false ⟨#[],#[.agg #[.bool false,nS],.agg #[iV 0,iV 0,iV 0,iV 0,iV 0,iV 0,iV 0,.bool false,nS,nS,nS,.int .u8 0,.int .u32 0,iV 0,iV 0,iV 0],iV 0],[]⟩ 8 zK zK zK zK) ?_
 intro W aa E ds gs ab O hW _ _;have d:∀(j:Nat) t v,f6.params[j]?=some t→E[j]?=some v→Value.okWide prog W .any aa t v:=O;have Y:=hW;obtain⟨p,q,ao,hV,rfl,az,aw⟩:=hW;have hA:DataW.TrodAll enc prog W 0 (λ_=>true) true f6.params.toList E.toList ds p:=ao;obtain⟨rfl,rfl⟩:=trodVars_none hV;rw[Tryz.params6]at hA d;have ap:=hA;obtain⟨v0,av,d0,aC,p0,q0,al,rfl,rfl,h0,r0⟩:=trodAll_cons hA;obtain⟨v1,au,d1,aB,p1,q1,rfl,rfl,rfl,h1,r1⟩:=trodAll_cons r0;obtain⟨v2,ar,d2,aA,p2,q2,rfl,rfl,rfl,h2,r2⟩:=trodAll_cons r1;obtain⟨rfl,rfl,rfl⟩:=trodAll_nil r2;obtain rfl:E=#[v0,v1,v2]:=by cases E;simp_all
 obtain⟨f0,ad,an⟩:=LV (d 0 24 v0 rfl rfl) h0;obtain⟨R1,ah,aq,ai,ae,ag,af,rfl,aj,am,ak,T,U⟩:=Nn (d 1 33 v1 rfl rfl) h1;obtain⟨n2,rfl,rfl,rfl,ay⟩:=open_int underlying3 (d 2 3 v2 rfl rfl) h2;refine(topFrom_any f0 ad v0 R1 ah aq ai ae ag af n2 W an aj am ak T U).mono ?_;rintro e W' ⟨v,rfl,hE,rfl⟩;have hl:∀x∈(p0++(p1++([]++[])):List MemPlace),x.block<W.heap.size:=λx hx=>Y.lt x (List.mem_append_left _ hx);exact⟨_,rfl,_,_,_,[],_,[],Y,trodAll_mk1 (shut_bool underlying4 _),xZ K7 hE _ zK _ _ _ ap hl,rfl,Below.frame hE _,λh=>by cases h⟩
theorem topFrom_facts:joinedFacts prog 6 f6 Rows.topFromSpec Rows.topFromRow=true:=by
 simp only[joinedFacts,Bool.and_eq_true];refine⟨⟨⟨⟨⟨⟨⟨⟨⟨⟨⟨⟨⟨⟨⟨⟨⟨⟨⟨⟨⟨⟨⟨⟨⟨⟨⟨⟨⟨⟨⟨?_,?_⟩,?_⟩,?_⟩,?_⟩,?_⟩,?_⟩,?_⟩,?_⟩,?_⟩,?_⟩,?_⟩,?_⟩,?_⟩,?_⟩,?_⟩,?_⟩,?_⟩,?_⟩,?_⟩,?_⟩,?_⟩,?_⟩,?_⟩,?_⟩,?_⟩,?_⟩,?_⟩,?_⟩,?_⟩,?_⟩,?_⟩;all_goals(as_aux_lemma=>kernel_rfl)
theorem topFrom_holds:Rows.TopFromSaid:=
 OpenClaim.holds_of_wide 6 f6 rfl rfl rfl rfl rfl rfl rfl ⟨rfl,rfl,rfl,rfl,rfl⟩ rfl rfl rfl rfl rfl zK func6 topFrom_facts
  (of_decide_eq_true zK) (by unfold Func.isWrapper;first|(rw[if_pos (by decide+kernel)];kernel_rfl)|(rw[if_neg (by decide+kernel)];exact⟨rfl,rfl⟩))
  (λJ d H E _=>topFrom_lifted J d H E)
#print axioms topFrom_holds
end Go.Proofs.YtofgfpffcegioaaGreat
