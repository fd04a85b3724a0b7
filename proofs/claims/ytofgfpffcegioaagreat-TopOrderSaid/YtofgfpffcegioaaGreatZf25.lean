/- A part of the proof. -/
import Derived.Test.YtofgfpffcegioaaGreatZf09
import Derived.Laws.Cover2
set_option maxRecDepth 100000
set_option maxHeartbeats 8000000
namespace Go.Proofs.YtofgfpffcegioaaGreat
open Go.RowKit Go.Shelf Go.ChangeMaps Go.Proofs.Tryz
open Go.Instr renaming checkKey → aa
open Go.Result renaming andThen_ok → ab
def lS(k:Int×UInt8):Value:=.agg #[iV k.1,.int .u8 (k.2.toNat:Int)]
theorem LA(a b:Int×UInt8)(w:World):(Op.equal 365 (lS a) (lS b)).run prog w=.ok (decide (a=b)) w:=by
 have H:prog.underlying 365=some (.struct (prog.fieldsOf 365)):=by rfl
 have E:prog.stoodInHeld 365=false:=by simp
 have I:decide (a=b)=(decide (a.1=b.1)&&decide (a.2=b.2)):=by
  grind
 rw[I];unfold lS;show(Op.equalIn 10000 _ _ _).run _ _=_;rw[show(10000:Nat)=9999+1 from rfl,run_equalIn_agg w 9999 365 _ _ H E];simp only[Program.fieldsOf,underlying365]
 go_simp
 by_cases s:a.1=b.1
 ·rw[if_pos s,decide_eq_true s,Bool.true_and];by_cases d:a.2=b.2
  ·grind
  ·rw[if_neg (λh=>d (UInt8.toNat_inj.1 zO)),decide_eq_false d]
 grind
theorem qN(e:Bool)(n:Nat)(q:TypeId)(k:IntKind)(z:Int)(w:World)(d:prog.underlying q=some (.int k)):(aa e (n+1) q (.int k z)).run prog w=.ok () w:=by
 simp_all[aa,run_underlying]
theorem wg(e:Bool)(n:Nat)(k:Int×UInt8)(w:World):(aa e (n+1+1) 365 (lS k)).run prog w=.ok () w:=by
 rfl
theorem tW{s:Type}(ev:s→Value)(k:Int×UInt8)(w:World):∀(d:List MapEntry) (l:List ((Int×UInt8)×s)) (i:Nat),d.map (λe=>(e.key,e.val))=l.map (λx=>(lS x.1,ev x.2))→(Instr.findAsking 365 (lS k) d i).run prog w=.ok ((lz k l i).map λx=>(x.1,ev x.2)) w
 |[],[],i,_=>by rfl
 |[],x::l,i,h=>by simp at h
 |e::d,[],i,h=>by simp at h
 |e::d,x::l,i,h=>by
  simp only[List.map_cons,List.cons.injEq,Prod.mk.injEq]at h;obtain⟨⟨I,H⟩,E⟩:=h;have J:=tW ev k w d l (i+1) E;unfold Instr.findAsking lz;rw[I,H];simp only[Sem.run_bind,LA,ab];by_cases O:k=x.1
  ·simp_all
  grind
theorem An:vm prog 365 lS where
 find β ev k w d l h:=by
  have s:prog.underlying 365=some (.struct (prog.fieldsOf 365)):=by rfl
  have E:=tW ev k w d l 0 h;unfold Instr.findKey;simp only[Sem.run_bind,run_underlying s,ab];cases d with
  |nil=>
   simp_all[Instr.findNow,lz]
  |cons e d=>grind[Instr.findNow,Instr.sameNow]
 check e w k:=wg e 9998 k w
 stays k:=by simp[lS,Instr.sameBits]
end Go.Proofs.YtofgfpffcegioaaGreat
