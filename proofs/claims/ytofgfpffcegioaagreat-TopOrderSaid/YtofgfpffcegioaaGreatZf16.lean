/- A part of the proof. -/
import Derived.Test.YtofgfpffcegioaaGreatZf04
import Derived.RangeFuncNested
import Derived.RangeFuncBound
import Derived.Shelf.RegionOpen
import Derived.OwnWalkIn
import Derived.LoopNIn
import Derived.LoopIn
set_option maxRecDepth 100000
set_option maxHeartbeats 8000000
namespace Go.Proofs.YtofgfpffcegioaaGreat
open Go.RowKit Go.Shelf
open Go renaming World → ad
open List renaming take_succ_eq_append_getElem → aa,flatten_append → ab
theorem vO{s:Type}(d:List (List s))(k:Nat)(h:k<d.length):(d.take (k+1)).flatten=(d.take k).flatten++d[k]:=by
 grind[aa,ab]
theorem Ex{d:Type}(l:List d)(k:Nat)(h:k<l.length):l.take (k+1)=l.take k++[l[k]]:=aa h
theorem Aj{s:Type}(d:List (List s))(k j:Nat)(h:k<d.length):(d.take k).flatten++d[k].take j<+:d.flatten:=by
 have e:d.flatten=(d.take k).flatten++(d[k]++(d.drop (k+1)).flatten):=by
  grind[List.take_append_drop,ab,List.drop_eq_getElem_cons,List.flatten_cons]
 grind[List.prefix_append_right_inj,List.take_prefix,trans,List.prefix_append]
def ia(K:Nat→Prop)(W W':ad):Prop:=W.heap.size≤W'.heap.size∧∀k,K k→W'.heap[k]?=W.heap[k]?
theorem ia.rf(K:Nat→Prop)(W:ad):ia K W W:=⟨Nat.le_refl _,λ_ _=>rfl⟩
theorem ia.t{K:Nat→Prop}{A B C:ad}(h:ia K A B)(k:ia K B C):ia K A C:=⟨Nat.le_trans h.1 k.1,λj d=>(k.2 j d).trans (h.2 j d)⟩
theorem ia.cell{K:Nat→Prop}{A B:ad}(h:ia K A B){b:Nat}(d:K b)(o:Nat):B.cell? ⟨b,o,none⟩=A.cell? ⟨b,o,none⟩:=by unfold World.cell?;rw[h.2 b d]
theorem ia.vP{K:Nat→Prop}{A B:ad}(h:Ext A B)(s:∀k,K k→k<A.heap.size):ia K A B:=⟨h.size,λk d=>h.block k (s k d)⟩
def kH(K:Nat→Prop)(d:LL)(v:Value)(w:ad):Prop:=∃A c,v=.slice A d.length c∧d.length≤c∧c≤maxLen∧
 (0<d.length→∃b s,A=some ⟨b,s,none⟩∧K b∧∀j (J:j<d.length),∃I E,w.cell? ⟨b,s+j,none⟩=some (.slice I d[j].length E)∧d[j].length≤E∧E≤maxLen∧
  (0<d[j].length→∃H h,I=some ⟨H,h,none⟩∧K H∧∀i (O:i<d[j].length),w.cell? ⟨H,h+i,none⟩=some (.int .u8 (d[j][i].toNat:Int))))
theorem Cd{K:Nat→Prop}{O:LL}{v:Value}{w J:ad}(h:kH K O v w)(T:ia K w J):kH K O v J:=by
 obtain⟨A,c,h1,h2,h3,h4⟩:=h;refine⟨A,c,h1,h2,h3,λW=>?_⟩;obtain⟨b,H,rfl,U,d⟩:=h4 W;refine⟨b,H,rfl,U,λj Y=>?_⟩;obtain⟨A2,c2,h5,h6,h7,h8⟩:=d j Y;refine⟨A2,c2,(T.cell U _).trans h5,h6,h7,λV=>?_⟩;obtain⟨b2,s,rfl,E,I⟩:=h8 V;exact⟨b2,s,rfl,E,λi hi=>(T.cell E _).trans (I i hi)⟩
theorem Ey{K:Nat→Prop}{s:LL}{v:Value}{w d:ad}(h:kH K s v w)(H:Ext w d)(E:∀k,K k→k<w.heap.size):kH K s v d:=Cd h (ia.vP H E)
theorem kH.of{K:Nat→Prop}{d:LL}{v:Value}{w:ad}(h:eD d v w)(J:∀k,k<w.heap.size→K k):kH K d v w:=by
 obtain⟨A,c,H,E,s,O⟩:=eD.form h;refine⟨A,c,H,E,s,λI=>?_⟩;grind[eu.form]
theorem N6{K:Nat→Prop}{w:ad}(E:∀k,K k→k<w.heap.size)(W:ad)(l:Nat)(o d:Obj)(h:w.heap.size≤l)(_:W.heap[l]?=some o)(_:o.isCells=false)(_:o.isWalk=false):ia K W (W.putObj l d):=
 ⟨by simp,λk s=>World.putObj_heap_other zG⟩
end Go.Proofs.YtofgfpffcegioaaGreat
