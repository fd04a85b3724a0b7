/- TopRoom: whatever comes in, the law returns true; all that came in reads behind the call as it did ahead of it. Conditions: none. -/
import Derived.Test.YtofgfpffcegioaaGreatZk01
import Derived.Test.YtofgfpffcegioaaGreatZf49
set_option maxRecDepth 100000
set_option maxHeartbeats 8000000
namespace Go.Proofs.YtofgfpffcegioaaGreat
open Go.ChangeShapes Go.WideShapes Go.ChangeAt Go.RowKit Go.Proofs.Tryz
open Go.ChangeShapes renaming trodAll_cons → a1
open Go.Proofs.Tryz renaming checked → a6
theorem topRoom_lifted(os:Os)(E:os.Started)(H:Type)(enc:TypeId×Value→H) :
  ReturnsInHanded {} a6 os 7 .any (Rows.topRoomSpec.pre6 enc prog f7 Rows.topRoomRow.domain false) (Rows.topRoomSpec.post enc prog f7 false true false false):=by
 refine returnsInHanded_of_change (C:=a6) Is E zK func7
  (ChangeSpec.witness6 (enc:=enc) (C:=a6) false ⟨#[],#[.agg #[.bool false,nS],.agg #[iV 0,iV 0,iV 0,iV 0,iV 0,iV 0,iV 0,.bool false,nS,nS,nS,.int .u8 0,.int .u32 0,iV 0,iV 0,iV 0],nS,iV 0],[]⟩ 8 zK zK zK zK) ?_
 intro W Y s ds gs aa J hW _ _;have d:∀(j:Nat) t v,f7.params[j]?=some t→s[j]?=some v→Value.okWide prog W .any Y t v:=J;have U:=hW;obtain⟨p,q,ap,hV,rfl,aB,az⟩:=hW;have hA:DataW.TrodAll enc prog W 0 (λ_=>true) true f7.params.toList s.toList ds p:=ap;obtain⟨rfl,rfl⟩:=trodVars_none hV;rw[Tryz.params7]at hA d;have aq:=hA;obtain⟨v0,ay,d0,aF,p0,q0,am,rfl,rfl,h0,r0⟩:=a1 hA;obtain⟨v1,aw,d1,aE,p1,q1,rfl,rfl,rfl,h1,r1⟩:=a1 r0;obtain⟨v2,av,d2,aD,p2,q2,rfl,rfl,rfl,h2,r2⟩:=a1 r1;obtain⟨v3,au,d3,aC,p3,q3,rfl,rfl,rfl,h3,r3⟩:=a1 r2;obtain⟨rfl,rfl,rfl⟩:=trodAll_nil r3;obtain rfl:s=#[v0,v1,v2,v3]:=by cases s;simp_all
 obtain⟨f0,ab,ao⟩:=LV (d 0 24 v0 rfl rfl) h0;obtain⟨R1,ag,ar,ah,ad,af,ae,rfl,aj,an,ak,O,T⟩:=Nn (d 1 33 v1 rfl rfl) h1;obtain⟨ai,al⟩:=b8 underlying28 underlying3 zK (d 2 28 v2 rfl rfl) h2;obtain⟨n3,rfl,rfl,rfl,aA⟩:=open_int underlying3 (d 3 3 v3 rfl rfl) h3;refine(topRoom_any f0 ab v0 R1 ag ar ah ad af ae ai v2 n3 W ao aj an ak O T al).mono ?_;rintro e W' ⟨v,rfl,hE,rfl⟩;have hl:∀x∈(p0++(p1++(p2++([]++[]))):List MemPlace),x.block<W.heap.size:=λx hx=>U.lt x (List.mem_append_left _ hx);exact⟨_,rfl,_,_,_,[],_,[],U,trodAll_mk1 (shut_bool underlying4 _),xZ K7 hE _ zK _ _ _ aq hl,rfl,Below.frame hE _,λh=>by cases h⟩
theorem topRoom_facts:joinedFacts prog 7 f7 Rows.topRoomSpec Rows.topRoomRow=true:=by
 simp only[joinedFacts,Bool.and_eq_true];refine⟨⟨⟨⟨⟨⟨⟨⟨⟨⟨⟨⟨⟨⟨⟨⟨⟨⟨⟨⟨⟨⟨⟨⟨⟨⟨⟨⟨⟨⟨⟨?_,?_⟩,?_⟩,?_⟩,?_⟩,?_⟩,?_⟩,?_⟩,?_⟩,?_⟩,?_⟩,?_⟩,?_⟩,?_⟩,?_⟩,?_⟩,?_⟩,?_⟩,?_⟩,?_⟩,?_⟩,?_⟩,?_⟩,?_⟩,?_⟩,?_⟩,?_⟩,?_⟩,?_⟩,?_⟩,?_⟩,?_⟩;all_goals(as_aux_lemma=>kernel_rfl)
theorem topRoom_holds:Rows.TopRoomSaid:=
 OpenClaim.holds_of_wide 7 f7 rfl rfl rfl rfl rfl rfl rfl ⟨rfl,rfl,rfl,rfl,rfl⟩ rfl rfl rfl rfl rfl zK func7 topRoom_facts
  (of_decide_eq_true zK) (by unfold Func.isWrapper;first|(rw[if_pos (by decide+kernel)];kernel_rfl)|(rw[if_neg (by decide+kernel)];exact⟨rfl,rfl⟩))
  (λE d H s _=>topRoom_lifted E d H s)
#print axioms topRoom_holds
end Go.Proofs.YtofgfpffcegioaaGreat
