/- A part of the proof. -/
import Derived.Test.YtofgfpffcegioaaGreatZf00
import Derived.Test.YtofgfpffcegioaaGreatZf04
import Derived.Laws.Cover2
import Derived.RangeFuncBox
set_option maxRecDepth 100000
set_option maxHeartbeats 8000000
namespace Go.Proofs.YtofgfpffcegioaaGreat
open Go.RowKit Go.Shelf jH Go.ChangeMaps Go.Proofs.Tryz
open Go renaming run_underlying → ad,World → af
open Go.Instr renaming checkKey → ab
open Go.Proofs.Tryz renaming prog → ah
open Go.Result renaming andThen_ok → aa
open Go.Sem renaming run_bind → ae
open Option renaming some → ag
def kp(k:Nat×UInt8):Value:=.agg #[iV (k.1:Int),.int .u8 (k.2.toNat:Int)]
theorem N1(a b:Nat×UInt8)(w:af):(Op.equal 394 (kp a) (kp b)).run ah w=.ok (a==b) w:=by
 have E:prog.underlying 394=ag (.struct (prog.fieldsOf 394)):=by rfl
 have s:prog.stoodInHeld 394=false:=by simp
 have I:(a==b)=(a.1==b.1&&a.2==b.2):=rfl;rw[I];unfold kp;show(Op.equalIn 10000 _ _ _).run _ _=_;rw[show(10000:Nat)=9999+1 from rfl,run_equalIn_agg w 9999 394 _ _ E s];simp only[Program.fieldsOf,underlying394]
 go_simp
 by_cases H:a.1=b.1
 ·rw[if_pos zO,show(a.1==b.1)=true from beq_iff_eq.2 H,Bool.true_and];by_cases d:a.2=b.2
  ·grind
  ·rw[if_neg (λh=>d (UInt8.toNat_inj.1 zO)),show(a.2==b.2)=false from beq_eq_false_iff_ne.2 d]
 grind
theorem rZ(e:Bool)(n:Nat)(q:TypeId)(k:IntKind)(z:Int)(w:af)(d:prog.underlying q=ag (.int k)):(ab e (n+1) q (.int k z)).run ah w=.ok () w:=by
 simp_all[ab,ad]
theorem xW(e:Bool)(n:Nat)(k:Nat×UInt8)(w:af):(ab e (n+1+1) 394 (kp k)).run ah w=.ok () w:=by
 rfl
theorem run_checkKey(e:Bool)(k:Nat×UInt8)(w:af):(ab e 10000 394 (kp k)).run ah w=.ok () w:=xW e 9998 k w
def pG(w:af)(b:Nat)(l:Tab):Prop:=∃h d,w.heap[b]?=ag (.map h d)∧h.toList.map (λe=>(e.key,e.val))=l.map λx=>(kp x.1,iV (x.2:Int))
def pH(k:Nat×UInt8):Tab→Nat→Option (Nat×Value)
 |[],_=>none
 |x::l,i=>if k=x.1 then ag (i,iV (x.2:Int))else pH k l (i+1)
theorem zY(k:Nat×UInt8):∀(l:Tab) (i:Nat),(pH k l i).map (·.2)=(lu l k).map λ(j:Nat)=>iV j
 |[],i=>rfl
 |x::l,i=>by
  have d:=zY k l (i+1);unfold lu at*;unfold pH;grind
theorem vC(k:Nat×UInt8)(w:af):∀(d:List MapEntry) (l:Tab) (i:Nat),d.map (λe=>(e.key,e.val))=l.map (λx=>(kp x.1,iV (x.2:Int)))→(Instr.findAsking 394 (kp k) d i).run ah w=.ok (pH k l i) w
 |[],[],i,_=>by rfl
 |[],x::l,i,h=>by simp at h
 |e::d,[],i,h=>by simp at h
 |e::d,x::l,i,h=>by
  simp only[List.map_cons,List.cons.injEq,Prod.mk.injEq]at h;obtain⟨⟨H,E⟩,s⟩:=h;have I:=vC k w d l (i+1) s;unfold Instr.findAsking pH;rw[H,E];simp only[ae,N1,aa];by_cases J:k=x.1
  ·simp_all
  grind
theorem run_findKey(k:Nat×UInt8)(w:af)(d:List MapEntry)(l:Tab)(h:d.map (λe=>(e.key,e.val))=l.map (λx=>(kp x.1,iV (x.2:Int)))):(Instr.findKey 394 (kp k) d).run ah w=.ok (pH k l 0) w:=by
 have s:prog.underlying 394=ag (.struct (prog.fieldsOf 394)):=by rfl
 have E:=vC k w d l 0 h;unfold Instr.findKey;simp only[ae,ad s,aa];cases d with
 |nil=>
  simp_all[Instr.findNow,pH]
 |cons e d=>grind[Instr.findNow,Instr.sameNow]
theorem Tryz.K6:(prog.info? 3).map (λi=>(i.zero,i.size,i.bytes))=ag (ag (iV 0),1,8):=by rfl
theorem pG.lookup{w:af}{b:Nat}{l:Tab}(h:pG w b l)(k:Nat×UInt8):(Instr.lookup 389 (.map (ag b)) (kp k) true).run ah w=.ok (match lu l k with|some j=>.tuple #[iV j,.bool true]|none=>.tuple #[iV 0,.bool false]) w:=by
 obtain⟨H,d,W,V⟩:=h;have J:prog.underlying 389=ag (.map 394 3):=underlying389;have U:=run_findKey k w H.toList l V;have s:=zY k l 0;have T:(getObj b).run ah w=.ok (.map H d) w:=by simp[getObj,Sem.run,W]
 have I:(zeroValue 3).run ah w=.ok (iV 0) w:=by
  rfl
 unfold Instr.lookup;simp only[ae,ad J,T,aa,run_checkKey,Sem.run_pure];rw[U];simp only[aa];cases E:pH k l 0 with
 |none=>
  rw[E]at s;cases O:lu l k with
  |none=>simp[I]
  |some j=>grind
 |some p=>
  rw[E]at s;cases O:lu l k with
  |none=>grind
  |some j=>
   simp_all
theorem pG.made(w:af):pG (w.alloc (.map #[] 0)) w.heap.size []:=⟨#[],0,(MapKept.heap_alloc w _).1,rfl⟩
theorem pG.lt{w:af}{b:Nat}{l:Tab}(h:pG w b l):b<w.heap.size:=by obtain⟨E,d,s,_⟩:=h;grind
theorem pG.same{w s:af}{b:Nat}{l:Tab}(h:pG w b l)(E:s.heap[b]?=w.heap[b]?):pG s b l:=by obtain⟨J,d,H,I⟩:=h;exact⟨J,d,E.trans H,I⟩
theorem pG.push{w:af}{b:Nat}{l:Tab}(h:pG w b l)(k:Nat×UInt8)(j:Nat)(T:lu l k=none):∃s,(Instr.mapUpdate 389 (.map (ag b)) (kp k) (iV j)).run ah w=.ok () s∧pG s b (l++[(k,j)])∧w.grownBy s (ag b)∧s.heap.size=w.heap.size∧∃o,s.heap[b]?=ag o∧o.isCells=false:=by
 obtain⟨H,d,E,U⟩:=h;have V:prog.underlying 389=ag (.map 394 3):=underlying389;have J:=run_findKey k w H.toList l U;have O:=zY k l 0;rw[T]at O;have I:pH k l 0=none:=by simp_all
 rw[I]at J;have Y:(getObj b).run ah w=.ok (.map H d) w:=by simp[getObj,Sem.run,E]
 have W:(setObj b (.map (H.push { key:=kp k,val:=iV j,born:=d }) (d+1))).run ah w=.ok () (setBlock w b (.map (H.push { key:=kp k,val:=iV j,born:=d }) (d+1))):=by simp[setObj,Sem.run,E,setBlock]
 refine⟨setBlock w b (.map (H.push { key:=kp k,val:=iV j,born:=d }) (d+1)),?_,⟨_,_,heap_setBlock_same E _,?_⟩,⟨rfl,rfl,rfl,by simp[setBlock],λi _ I=>heap_setBlock_other E _ (λe=>I (by rw[e]))⟩,by simp[setBlock],_,heap_setBlock_same E _,rfl⟩
 ·simp_all[Instr.mapUpdate,ae,ad,aa,run_checkKey]
 grind
end Go.Proofs.YtofgfpffcegioaaGreat
