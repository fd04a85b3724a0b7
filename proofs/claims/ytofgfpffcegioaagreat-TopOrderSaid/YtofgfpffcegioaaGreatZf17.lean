/- A part of the proof. -/
import Derived.Test.YtofgfpffcegioaaGreatZf03
import Derived.WalkSpells
import Derived.WalkLawsBesides
import Derived.Test.YtofgfpffcegioaaGreatProg
set_option maxRecDepth 100000
set_option maxHeartbeats 8000000
namespace Go.Proofs.YtofgfpffcegioaaGreat
open Go.RowKit Go.Proofs.Tryz
open Go.Value renaming bool → af
def lC(l:LL):Nat:=(l.map λb=>min b.length 4000).sum
theorem Iw(l:LL)(k:Nat)(h:k<l.length):lC (l.take (k+1))=lC (l.take k)+min l[k].length 4000:=by
 grind[lC,List.take_succ_eq_append_getElem]
def rj(d:LL):Bool:=decide (80<d.length)||decide (3000<lC d)
def Ep(d:LL):VP:=eC (.bool (rj d))
theorem Iy(l:LL)(k:Nat):lC (l.take k)≤lC l:=by
 grind[lC,List.take_append_drop]
theorem tf(d:LL)(k n:Nat)(E:k≤d.length)(s:n=lC (d.take k))(h:¬(k<d.length∧k≤80∧n≤3000)):rj d=(decide (80<d.length)||decide (3000<n)):=by
 grind[rj,Iy,lC,List.take_length]
theorem int_eq'{k:IntKind}{a b:Int}(h:a=b):Value.int k a=.int k b:=by rw[h]
theorem Iz(h:LL)(v:Value)(w:World)(V:eD h v w):Calls prog 57 #[v] w (eB w (Ep h)):=by
 obtain⟨A,c,rfl,ad,O,U⟩:=eD.form V;clear V;unfold maxLen at O;go_enter func57,ntmps57;go_wp2
 go_loopw [3,4] (λn i wr=>∃k m:Nat,k≤h.length∧k≤81∧m≤7000∧i=iV k∧n=iV m∧Hid (m=lC (h.take k))∧wr=w)
  (λ_ i _=>h.length-(intOf i).toNat)
 case atStart=>exact⟨0,0,by omega,by omega,by omega,rfl,rfl,rfl,rfl⟩
 case round=>
  obtain⟨k,m,hk,aa,hm,rfl,rfl,I,rfl⟩:=hrel;by_cases d:k<h.length∧k≤80∧m≤3000
  ·obtain⟨T,h2,h3⟩:=d;obtain⟨b,W,rfl,hb,s⟩:=U zO;obtain⟨x,Y,E⟩:=s k T;obtain⟨A2,c2,rfl,ab,J,_⟩:=eu.form E;unfold maxLen at J;have Hs:=hide (Iw h k T);clear s U E;generalize h[k]=bs at*;go_wp2;refine⟨⟨k+1,m+min bs.length 4000,by omega,by omega,by omega,by go_num,?_,?_,?_⟩,by grind[intOf]⟩
   ·grind
   ·show _=_;rw[Hs.out,←I.out]
   simp
  ·have H:=hide d;by_cases T:k<h.length
   ·by_cases h2:k≤80
    ·have h3:3000<m:=zO;clear d;go_wp2;all_goals
      go_ret;refine⟨_,rfl,Ext.rf _,?_⟩;show _=af _;rw[tf h _ m zO I.out H.out];simp_all
    ·clear d;go_wp2;all_goals
      go_ret;refine⟨_,rfl,Ext.rf _,?_⟩;show _=af _;rw[tf h _ m zO I.out H.out];refine congrArg af ?_;grind
   ·have ae:¬(k:Int)<(h.length:Int):=zO;obtain rfl:k=h.length:=zO;clear d;go_wp2;all_goals
     go_ret;refine⟨_,rfl,Ext.rf _,?_⟩;show _=af _;rw[tf h _ m zO I.out H.out];refine congrArg af ?_;grind
end Go.Proofs.YtofgfpffcegioaaGreat
