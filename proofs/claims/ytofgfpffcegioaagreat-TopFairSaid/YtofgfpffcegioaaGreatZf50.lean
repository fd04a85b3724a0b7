/- TopFair: whatever comes in, the law returns true; all that came in reads behind the call as it did ahead of it. Conditions: none. -/
import Derived.Test.YtofgfpffcegioaaGreatZf48
import Derived.Test.YtofgfpffcegioaaGreatZf49
set_option maxRecDepth 100000
set_option maxHeartbeats 8000000
namespace Go.Proofs.YtofgfpffcegioaaGreat
open Go.ChangeShapes Go.WideShapes Go.ChangeAt Go.RowKit Go.Proofs.Tryz
open Go.Proofs.Tryz renaming checked → az
theorem topFair_lifted(os:Os)(d:os.Started)(H:Type)(enc:TypeId×Value→H) :
  ReturnsInHanded {} az os 4 .any (Rows.topFairSpec.pre6 enc prog f4 Rows.topFairRow.domain false) (Rows.topFairSpec.post enc prog f4 false true false false):=by
 refine returnsInHanded_of_change (C:=az) Is d zK func4
  (ChangeSpec.witness6 (enc:=enc) (C:=az) false ⟨#[],#[.agg #[.bool false,nS],.agg #[iV 0,iV 0,iV 0,iV 0,iV 0,iV 0,iV 0,.bool false,nS,nS,nS,.int .u8 0,.int .u32 0,iV 0,iV 0,iV 0]],[]⟩ 8 zK zR zK zR) ?_
 intro W U E ds gs Y J hW _ _;have s:∀(j:Nat) t v,f4.params[j]?=some t→E[j]?=some v→Value.okWide prog W .any U t v:=J;have T:=hW;obtain⟨p,q,am,hV,rfl,av,au⟩:=hW;have hA:DataW.TrodAll enc prog W 0 (λ_=>true) true f4.params.toList E.toList ds p:=am;obtain⟨rfl,rfl⟩:=trodVars_none hV;rw[Tryz.params4]at hA s;have an:=hA;obtain⟨v0,ar,d0,ay,p0,q0,aj,rfl,rfl,h0,r0⟩:=trodAll_cons hA;obtain⟨v1,aq,d1,aw,p1,q1,rfl,rfl,rfl,h1,r1⟩:=trodAll_cons r0;obtain⟨rfl,rfl,rfl⟩:=trodAll_nil r1;obtain rfl:E=#[v0,v1]:=zG;obtain⟨f0,aa,al⟩:=LV (s 0 24 v0 rfl rfl) h0;obtain⟨R1,af,ao,ag,ab,ae,ad,rfl,ah,ak,ai,O,ap⟩:=Nn (s 1 33 v1 rfl rfl) h1;refine(topFair_any f0 aa v0 R1 af ao ag ab ae ad W al ah ak ai O).mono ?_;rintro e W' ⟨v,rfl,hE,rfl⟩;have hl:∀x∈(p0++(p1++[]):List MemPlace),x.block<W.heap.size:=λx hx=>T.lt x (List.mem_append_left _ hx);exact⟨_,rfl,_,_,_,[],_,[],T,trodAll_mk1 (shut_bool underlying4 _),xZ K7 hE _ zK _ _ _ an hl,rfl,Below.frame hE _,λh=>by cases h⟩
theorem topFair_facts:joinedFacts prog 4 f4 Rows.topFairSpec Rows.topFairRow=true:=by
 simp only[joinedFacts,Bool.and_eq_true];refine⟨⟨⟨⟨⟨⟨⟨⟨⟨⟨⟨⟨⟨⟨⟨⟨⟨⟨⟨⟨⟨⟨⟨⟨⟨⟨⟨⟨⟨⟨⟨?_,?_⟩,?_⟩,?_⟩,?_⟩,?_⟩,?_⟩,?_⟩,?_⟩,?_⟩,?_⟩,?_⟩,?_⟩,?_⟩,?_⟩,?_⟩,?_⟩,?_⟩,?_⟩,?_⟩,?_⟩,?_⟩,?_⟩,?_⟩,?_⟩,?_⟩,?_⟩,?_⟩,?_⟩,?_⟩,?_⟩,?_⟩;all_goals(as_aux_lemma=>kernel_rfl)
theorem topFair_holds:Rows.TopFairSaid:=
 OpenClaim.holds_of_wide 4 f4 rfl rfl rfl rfl rfl rfl rfl ⟨rfl,rfl,rfl,rfl,rfl⟩ rfl rfl rfl rfl rfl zK func4 topFair_facts
  (of_decide_eq_true zR) (by unfold Func.isWrapper;first|(rw[if_pos (by decide+kernel)];kernel_rfl)|(rw[if_neg (by decide+kernel)];exact⟨rfl,rfl⟩))
  (λE d H s _=>topFair_lifted E d H s)
#print axioms topFair_holds
end Go.Proofs.YtofgfpffcegioaaGreat
