/- TopRefused: whatever comes in, the law returns true; all that came in reads behind the call as it did ahead of it. Conditions: none. -/
import Derived.Test.YtofgfpffcegioaaGreatZg01
import Derived.Test.YtofgfpffcegioaaGreatZf49
set_option maxRecDepth 100000
set_option maxHeartbeats 8000000
namespace Go.Proofs.YtofgfpffcegioaaGreat
open Go.ChangeShapes Go.WideShapes Go.ChangeAt Go.RowKit Go.Proofs.Tryz
open Go.Proofs.Tryz renaming checked → az
theorem topRefused_lifted(os:Os)(s:os.Started)(H:Type)(enc:TypeId×Value→H) :
  ReturnsInHanded {} az os 5 .any (Rows.topRefusedSpec.pre6 enc prog f5 Rows.topRefusedRow.domain false) (Rows.topRefusedSpec.post enc prog f5 false true false false):=by
 refine returnsInHanded_of_change (C:=az) Is s zK func5
  (ChangeSpec.witness6 (enc:=enc) (C:=az) false ⟨#[],#[.agg #[.bool false,nS],.agg #[iV 0,iV 0,iV 0,iV 0,iV 0,iV 0,iV 0,.bool false,nS,nS,nS,.int .u8 0,.int .u32 0,iV 0,iV 0,iV 0]],[]⟩ 8 zK zK zK zK) ?_
 intro W Y d ds gs aa J hW _ _;have E:∀(j:Nat) t v,f5.params[j]?=some t→d[j]?=some v→Value.okWide prog W .any Y t v:=J;have U:=hW;obtain⟨p,q,an,hV,rfl,av,au⟩:=hW;have hA:DataW.TrodAll enc prog W 0 (λ_=>true) true f5.params.toList d.toList ds p:=an;obtain⟨rfl,rfl⟩:=trodVars_none hV;rw[Tryz.params5]at hA E;have ao:=hA;obtain⟨v0,ar,d0,ay,p0,q0,ak,rfl,rfl,h0,r0⟩:=trodAll_cons hA;obtain⟨v1,aq,d1,aw,p1,q1,rfl,rfl,rfl,h1,r1⟩:=trodAll_cons r0;obtain⟨rfl,rfl,rfl⟩:=trodAll_nil r1;obtain rfl:d=#[v0,v1]:=by cases d;simp_all
 obtain⟨f0,ab,am⟩:=LV (E 0 24 v0 rfl rfl) h0;obtain⟨R1,ag,ap,ah,ad,af,ae,rfl,ai,al,aj,O,T⟩:=Nn (E 1 33 v1 rfl rfl) h1;refine(topRefused_any f0 ab v0 R1 ag ap ah ad af ae W am ai al aj O T).mono ?_;rintro e W' ⟨v,rfl,hE,rfl⟩;have hl:∀x∈(p0++(p1++[]):List MemPlace),x.block<W.heap.size:=λx hx=>U.lt x (List.mem_append_left _ hx);exact⟨_,rfl,_,_,_,[],_,[],U,trodAll_mk1 (shut_bool underlying4 _),xZ K7 hE _ zK _ _ _ ao hl,rfl,Below.frame hE _,λh=>by cases h⟩
theorem topRefused_facts:joinedFacts prog 5 f5 Rows.topRefusedSpec Rows.topRefusedRow=true:=by
 simp only[joinedFacts,Bool.and_eq_true];refine⟨⟨⟨⟨⟨⟨⟨⟨⟨⟨⟨⟨⟨⟨⟨⟨⟨⟨⟨⟨⟨⟨⟨⟨⟨⟨⟨⟨⟨⟨⟨?_,?_⟩,?_⟩,?_⟩,?_⟩,?_⟩,?_⟩,?_⟩,?_⟩,?_⟩,?_⟩,?_⟩,?_⟩,?_⟩,?_⟩,?_⟩,?_⟩,?_⟩,?_⟩,?_⟩,?_⟩,?_⟩,?_⟩,?_⟩,?_⟩,?_⟩,?_⟩,?_⟩,?_⟩,?_⟩,?_⟩,?_⟩;all_goals(as_aux_lemma=>kernel_rfl)
theorem topRefused_holds:Rows.TopRefusedSaid:=
 OpenClaim.holds_of_wide 5 f5 rfl rfl rfl rfl rfl rfl rfl ⟨rfl,rfl,rfl,rfl,rfl⟩ rfl rfl rfl rfl rfl zK func5 topRefused_facts
  (of_decide_eq_true zK) (by unfold Func.isWrapper;first|(rw[if_pos (by decide+kernel)];kernel_rfl)|(rw[if_neg (by decide+kernel)];exact⟨rfl,rfl⟩))
  (λE d H s _=>topRefused_lifted E d H s)
#print axioms topRefused_holds
end Go.Proofs.YtofgfpffcegioaaGreat
