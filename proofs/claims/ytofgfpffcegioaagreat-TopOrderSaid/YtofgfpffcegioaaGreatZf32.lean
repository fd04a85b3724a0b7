/- A part of the proof. -/
import Derived.Test.YtofgfpffcegioaaGreatZf04
import Derived.Test.YtofgfpffcegioaaGreatZf13
set_option maxRecDepth 100000
set_option maxHeartbeats 8000000
namespace Go.Proofs.YtofgfpffcegioaaGreat
open Go.ChangeShapes Go.WideShapes Go.ChangeAt Go.RowKit Go.Joins Go.Proofs.Tryz
theorem LV{H:Type}{enc:TypeId×Value→H}{w:World}{base:Nat}{s:Nat→Bool}{E:Bool}{r:Reach}{b0:Nat}{v:Value}{d:DataW H}{p:List MemPlace}
  (U:Value.okWide prog w r b0 24 v)(h:DataW.Trod enc prog w base s E 24 v d p):∃f O,jj f O v w:=by
 obtain⟨v0,v1,y0,y1,n,rfl,_,_,Y,W⟩:=open_agg2 underlying24 zR zR U h;obtain⟨a,J,_,_⟩:=DataW.trod_bool underlying4 Y;obtain⟨T,u,I,V⟩:=qM underlying22 zR underlying43 underlying5 zR W;simp only[List.cons.injEq,and_true]at J I;subst J;subst I;exact⟨a,T,_,rfl,V⟩
end Go.Proofs.YtofgfpffcegioaaGreat
