/- A part of the proof. -/
import Derived.Test.YtofgfpffcegioaaGreatZf06
import Derived.RangeFuncNested
import Derived.RangeFuncBound
import Derived.Shelf.RegionOpen
import Derived.OwnWalkIn
import Derived.LoopNIn
import Derived.LoopIn
set_option maxRecDepth 100000
set_option maxHeartbeats 8000000
namespace Go.Proofs.YtofgfpffcegioaaGreat
open Go.RowKit Go.Shelf iT Go.Proofs.Tryz
open Go.RowKit.Below renaming trans → aC
open Go.World renaming block_lt_of_cell? → aB
section
attribute [local go_sem] Oper.semAt_some
theorem It(F:Fence)(n:Nat)(hF:F.fn 295)(af:F.round=none)(hn:1≤n)(l Ba Bb:Nat)(xs H:L8)(ar:xs.length=H.length)(va vb:Value)(h:World)(hA:eu xs va h)(hB:eu H vb h)(J Jx:List (UInt8×UInt8)→World→Prop)
  (hY:∀s (p:UInt8×UInt8) W,J s W→s.length<(xs.zip H).length→YieldAt F (n-1) prog l #[.int .u8 (p.1.toNat:Int),.int .u8 (p.2.toNat:Int)] W λe O=>
   (e=.returned (.bool true)∧J (s++[p]) O∧Below h.heap.size W O)∨(e=.returned (.bool false)∧Jx (s++[p]) O))
  (W:World)(hW:Ext h W)(aA:W.cell? ⟨Ba,0,none⟩=some va)(az:∀O,Below h.heap.size W O→O.cell? ⟨Bb,0,none⟩=some vb)(h0:J [] W) :
  CallsIn F n prog 295 #[.func (.yield l) #[] #[],gP Ba,gP Bb] W λe O=>(∃v,e=.returned v)∧
   ((∃zs,zs=xs.zip H∧J zs O)∨(∃s,s<+:xs.zip H∧Jx s O)):=by
 obtain⟨A,c,rfl,ay,ak,hx⟩:=eu.form hA;obtain⟨B,d,rfl,aw,aj,hy⟩:=eu.form hB;clear hA hB;unfold maxLen at ak aj;refine callsIn_of_wp func295 rfl hF ?_ af;simp only[ntmps295,List.size_toArray,List.length_cons,List.length_nil,Nat.reduceAdd,Nat.reduceSub,Array.replicate_succ,Array.replicate_zero,List.push_toArray,List.append_toArray,List.nil_append,List.cons_append];gi_wp2
 gi_loopw [8] (λi wr=>∃k:Nat,k≤xs.length∧i=iV k∧J ((xs.zip H).take k) wr∧Below h.heap.size W wr)
  (λi _=>xs.length-(intOf i).toNat)
 case atStart=>exact⟨0,Nat.zero_le _,rfl,by grind,Below.refl _ _⟩
 case round=>
  obtain⟨k,hk,rfl,ab,U⟩:=hrel;by_cases ah:k<xs.length
  ·obtain⟨b,ae,rfl,hb,I⟩:=hx zO;obtain⟨b2,V,rfl,al,E⟩:=hy zO;have au:=((aC hW U).cell (p:=⟨b,ae+k,none⟩) hb).trans (I k ah);have aq:=((aC hW U).cell (p:=⟨b2,V+k,none⟩) al).trans (E k zO);have ag:k<(xs.zip H).length:=zG;have Y:(xs.zip H).take (k+1)=(xs.zip H).take k++[(xs[k],H[k]'zO)]:=by
    rw[List.take_succ_eq_append_getElem ag,List.getElem_zip]
   have T:=List.take_prefix (k+1) (xs.zip H);obtain⟨fn,an,ad,ao,ap,hR⟩:=hY _ (xs[k],H[k]'zO) wr ab zG;have av:(k:Int)<(H.length:Int):=zO;have Kt:=hide Y;have lB:=hide T;clear Y T I E hx hy ab;gi_wp2;refine hR.mono ?_;rintro e W3 (⟨rfl,am,ai⟩|⟨rfl,aa⟩)
   ·gi_wp2
    go_roundw
    case rel=>exact⟨k+1,by omega,by go_num,by rw[Kt.out];exact am,U.trans ai⟩
    case measure=>grind[intOf]
   ·gi_wp2;refine bodyPost_ret (results_none rfl _ _ _) rfl ?_;refine⟨⟨_,rfl⟩,.inr ⟨_,?_,aa⟩⟩;have h1:=lB.out
    rwa [Kt.out]at h1
  ·obtain rfl:k=xs.length:=zO;gi_wp2
   go_end0
   grind
theorem Iu(A B:Option Addr)(n m c d:Nat)(w:World):Calls prog 264 #[.slice A n c,.slice B m d] w λe h=>e=.returned (.func (.func 295) #[] #[gP w.heap.size,gP (w.heap.size+1)])∧h=(w.alloc (.cells #[.slice A n c] 43)).alloc (.cells #[.slice B m d] 43):=by
 go_enter func264,ntmps264;go_wp2;go_ret;simp_all
theorem pairs_stops(F:Fence)(n:Nat)(hF:F.fn 295)(U:F.round=none)(hn:1≤n)(Ba H:Nat)(xs h:L8)(T:xs.length=h.length)(va I:Value)(d:World)(hA:eu xs va d)(hB:eu h I d)(E:d.cell? ⟨Ba,0,none⟩=some va)(s:d.cell? ⟨H,0,none⟩=some I) :
  SeqStopsK F n prog 295 #[gP Ba,gP H] (λp:UInt8×UInt8=>#[Value.int .u8 (p.1.toNat:Int),Value.int .u8 (p.2.toNat:Int)]) (Below d.heap.size) (λzs=>zs=xs.zip h) (λO=>O<+:xs.zip h) (xs.zip h).length d:=λl J Jx W Y _ _ hY h0=>
 It F n hF U hn l Ba H xs h T va I d hA hB J Jx hY W Y ((Y.cell (aB d _ E)).trans E) (λ_ V=>((aC Y V).cell (p:=⟨H,0,none⟩) (aB d _ s)).trans s) h0
end
end Go.Proofs.YtofgfpffcegioaaGreat
