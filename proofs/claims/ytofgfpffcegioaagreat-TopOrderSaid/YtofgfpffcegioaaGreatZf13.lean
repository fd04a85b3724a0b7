/- A part of the proof. -/
import Derived.Test.YtofgfpffcegioaaGreatZf03
import Derived.Lib.SmallJoins
import Derived.Test.YtofgfpffcegioaaGreatRows
set_option maxRecDepth 100000
set_option maxHeartbeats 8000000
namespace Go.Proofs.YtofgfpffcegioaaGreat
open Go.RowKit Go.ChangeShapes Go.WideShapes Go.ChangeAt Go.Deep
open Classical renaming choose → aj
open Go.DataW renaming trod → ak
open Go.World renaming cell?_spot → ag
open Option renaming some → ai
open UInt8 renaming ofNat → ah
section
variable {H:Type} {enc:TypeId×Value→H} {P:Program} {w:World} {base:Nat} {spare:Nat→Bool} {held:Bool}
theorem byte_of_wf{z:Int}(h:(Lit.int .u8 z).wf=true):(Value.int .u8 z)=ff (ah z.toNat):=by
 have s:0≤z∧z<256:=by
  have d:(0:Int)≤z∧z≤255:=by
   simp only[Lit.wf,Bool.and_eq_true,decide_eq_true_eq]at h;exact h
  omega
 grind[ff,UInt8.toNat_ofNat']
theorem lt_of_cell{a:Addr}{v:Value}(h:w.cell? a=ai v):a.block<w.heap.size:=World.block_lt_of_cell? w _ h
theorem xY{t e:TypeId}{O:Nat}{cs:List Value}{x:DataW H×List MemPlace}(ht:P.underlying t=ai (.slice e))(he:P.underlying e=ai (.int .u8))(hc:P.cellsOf e=1)
  (h:ak enc P w base spare held O t cs=ai x):∃bs v,cs=[v]∧eu bs v w:=by
 rcases open_ints ht he hc h with⟨rfl,_⟩|⟨⟨b,J,E⟩,d,U,T,rfl,_,hl,hm,hz,_,s,Y⟩
 ·grind[td]
 ·have aa:d≤T.length:=zG;have V:((T.take d).map λz=>ah z.toNat).length=d:=zG;refine⟨(T.take d).map λz=>ah z.toNat,_,rfl,?_⟩;have:=eu.of (bs:=(T.take d).map λz=>ah z.toNat) (A:=ai ⟨b,J,E⟩) (c:=U) (w:=w) zO hm (λhp=>by
   have W:=s 0 zO;have I:E=none:=by simpa[Addr.add]using ag W
   subst I;refine⟨b,J,rfl,lt_of_cell W,λj hj=>?_⟩;have h1:=s j zO;grind[addr_add,List.getElem?_eq_getElem,List.getElem_mem,byte_of_wf,ff])
  grind
theorem qM{t e U:TypeId}{T:Nat}{cs:List Value}{x:DataW H×List MemPlace}(ht:P.underlying t=ai (.slice e))(hc:P.cellsOf e=1)(he:P.underlying e=ai (.slice U))(ae:P.underlying U=ai (.int .u8))(af:P.cellsOf U=1)
  (h:ak enc P w base spare held T t cs=ai x):∃ps v,cs=[v]∧eD ps v w:=by
 rcases open_slice1 ht hc h with⟨rfl,_⟩|⟨⟨b,J,s⟩,d,W,m,n,V,D,Pl,rfl,_,hl,hm,aa,_,hx⟩
 ·exact⟨[],_,rfl,none,0,rfl,Nat.le_refl _,by decide,λh=>by simp at h⟩
 ·have ab:d≤m:=zG;have O:∀i,∃bs:L8,i<d→eu bs (V i) w:=λi=>by
   by_cases hi:i<d
   ·grind[xY]
   ·exact⟨[],λh=>absurd h hi⟩
  refine⟨(List.range d).map λi=>aj (O i),_,rfl,?_⟩;have E:(((List.range d).map λi=>aj (O i)).map eu).length=d:=by simp
  refine⟨ai ⟨b,J,s⟩,W,by rw[E],by omega,hm,λhp=>?_⟩;rw[E]at hp;have Y:=(hx 0 zO).1;have I:s=none:=by simpa[Addr.add]using ag Y
  subst I;refine⟨b,J,rfl,lt_of_cell Y,λj F hj=>?_⟩;have ad:j<d:=zG;grind[addr_add,List.getElem?_range,Option.some.injEq,Classical.choose_spec]
theorem zZ{t e:TypeId}{T:Nat}{cs:List Value}{x:DataW H×List MemPlace}(ht:P.underlying t=ai (.slice e))(he:P.underlying e=ai (.int .i64))(hc:P.cellsOf e=1)
  (h:ak enc P w base spare held T t cs=ai x):∃ns v,cs=[v]∧eQ ns v w:=by
 rcases open_ints ht he hc h with⟨rfl,_⟩|⟨⟨b,J,E⟩,d,W,U,rfl,_,hl,hm,hz,_,s,aa⟩
 ·exact⟨[],_,rfl,none,0,rfl,Nat.le_refl _,by decide,λh=>by simp at h⟩
 ·have ab:d≤U.length:=zG;have O:(U.take d).length=d:=zG;refine⟨U.take d,_,rfl,ai ⟨b,J,E⟩,W,by grind,by grind,hm,λhp=>?_⟩;rw[List.length_map,O]at hp;have h0:=s 0 zO;have I:E=none:=by simpa[Addr.add]using ag h0
  subst I;refine⟨b,J,rfl,lt_of_cell h0,λj F Y=>?_⟩;rw[List.getElem?_map]at Y;obtain⟨y,hy,rfl⟩:=Option.map_eq_some_iff.1 Y;have V:j<d:=zG;have h1:=s j zO;rw[addr_add]at h1;refine⟨_,h1,?_⟩;rw[List.getElem?_take,if_pos V]at hy;show _=_;grind
theorem xZ(U:laidOutB P=true){W W':World}(V:Below W.heap.size W W'):∀(d:List TypeId),(d.all λt=>P.readableRec t&&decide (t<P.types.size))=true→∀(E:List Value) (I:List (DataW H)) (s:List MemPlace),
  DataW.TrodAll enc P W 0 (λ_=>true) true d E I s→(∀x∈s,x.block<W.heap.size)→DataW.TrodAll enc P W' 0 (λb=>decide (b<W.heap.size)) true d E I s:=by
 intro d
 induction d with
 |nil=>
  intro _ E I s h _;obtain⟨rfl,rfl,rfl⟩:=trodAll_nil h;rfl
 |cons t d T=>
  intro J E I s h O;simp only[List.all_cons,Bool.and_eq_true,decide_eq_true_eq]at J;grind[trodAll_cons,trodAll_cons_mk,Below.trod,List.mem_append_left,List.mem_append_right]
end
end Go.Proofs.YtofgfpffcegioaaGreat
namespace Go.Proofs.YtofgfpffcegioaaGreat
open Go.RowKit Go.Proofs.Tryz
theorem Is:ownKnob prog.godebug=none:=by rfl
theorem K7:laidOutB prog=true:=by kernel_rfl
end Go.Proofs.YtofgfpffcegioaaGreat
