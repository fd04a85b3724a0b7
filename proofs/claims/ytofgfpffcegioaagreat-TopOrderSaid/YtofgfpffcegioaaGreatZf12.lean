/- A part of the proof. -/
import Derived.Test.YtofgfpffcegioaaGreatZf03
import Derived.OrdersIn
import Derived.RangeFuncCalls
import Derived.Sort.CutIn
set_option maxRecDepth 100000
set_option maxHeartbeats 8000000
namespace Go.Proofs.YtofgfpffcegioaaGreat
open Go.RowKit
open Bool renaming true → ab
open Go renaming World → aa,LetsOut → ad
open Go.Code renaming region → ae
structure pa(F:Fence):Prop where
 fn:∀f,F.fn f
 depth:F.depth=none
 calls:∀{n:Nat} {P:Program} {f:FuncId} {args:AV} {w:aa} {R:Ending→aa→Prop},Calls P f args w R→CallsIn F n P f args w R
 rows:∀{n:Nat} {P:Program} {row:String} {args:AV} {w:aa} {R:Value→aa→Prop},Rows P row args w R→RowsIn F n P row args w R
theorem fe:pa Fence.wide:=⟨λ_=>trivial,rfl,λh=>callsIn_wide.2 h,λh c E _=>let⟨v,d,r,s⟩:=h c E;⟨v,d,r,stepsIn_wide.2 s⟩⟩
theorem gJ(l:Nat):pa (Fence.wide.inRound l):=⟨λ_=>trivial,rfl,λh=>CallsIn.inRound l (callsIn_wide.2 h),λh c E _=>let⟨v,d,r,s⟩:=h c E;⟨v,d,r,stepsIn_wide.2 s⟩⟩
section
variable {F:Fence} {n:Nat} {P:Program} {ops:Array Oper} {Q:Exit→Act→aa→Prop}
def lY(l:List Oper):Bool:=l.all λo=>match o.op with|.defer _=>false|_=>ab
theorem sf{l:List Oper}(h:lY l=ab){o:Oper}(d:o∈l):∀c,o.op≠.defer c:=by
 intro c e;have:=List.all_eq_true.1 h o d;grind
theorem Gu(H:pa F){o:Oper}(V:∀c,o.op≠.defer c){a:Act}{w:aa}{K O:Act→aa→Prop}(E:∀a w,K a w→O a w)(h:o.wp P a w K Q):o.wpIn F n P a w O Q:=by
 refine⟨λf _=>H.fn f,?_⟩;rw[Oper.semAt_eq _ _ _ V];unfold Oper.wp at h;have J:F.depth.isSome=ab→1≤n:=by rw[H.depth];grind
 cases I:(execOp a.eval o).run P w with
 |ok x T=>
  rw[I]at h;cases x with
  |value v=>exact E _ _ h
  |skip=>exact E _ _ h
  |defer d=>exact E _ _ h
  |enter f s=>
   refine⟨J,H.calls (Calls.mono h ?_)⟩;grind
  |row row s=>exact⟨J,H.rows (Rows.mono h λ_ _ U=>E _ _ U)⟩
  |_=>exact h.elim
 |halt x T=>
  rw[I]at h;cases x with
  |panic v=>exact h
  |_=>exact h.elim
theorem Gv(E:pa F)(O:¬ad Q){l:List Oper}(J:lY l=ab){i:Nat}{a:Act}{w:aa}{K H:Act→aa→Prop}(s:∀a w,K a w→H a w)(h:wpOp P l.toArray Q i K a w):wpOpIn F n P l.toArray Q i H a w:=by
 unfold wpOp at h;unfold wpOpIn;cases I:l.toArray[i]? with
 |none=>grind
 |some o=>
  rw[I]at h;simp only at h ⊢;split
  ·rename_i d;rw[if_pos d]at h;rcases h with h|⟨_,h⟩
   ·exact Gu E (sf J zG) s h
   ·exact absurd h O
  ·rename_i d;rw[if_neg d]at h;exact⟨λf _=>E.fn f,s _ _ h⟩
theorem sg(I:pa F)(H:¬ad Q){l:List Oper}(E:lY l=ab){s:Region.Mode}:∀(fuel:Nat) (d:Array Bool) (a:Act) (w:aa),wpAny P s l.toArray Q fuel d a w→wpAnyIn F n P s l.toArray Q fuel d a w
 |0,_,_,_,h=>h
 |fuel+1,_,_,_,h=>⟨h.1,λi J=>Gv I H E (λa w=>sg I H E fuel _ a w) (h.2 i J)⟩
theorem B3(H:pa F)(E:¬ad Q){l:List Oper}(s:lY l=ab):∀(d:List Nat) (a:Act) (w:aa),wpOps P l.toArray Q d a w→wpOpsIn F n P l.toArray Q d a w
 |[],_,_,h=>h
 |i::d,a,w,h=>by
  rw[wpOps_cons]at h;rw[wpOpsIn_cons];exact Gv H E s (λa w=>B3 H E s d a w) h
theorem sh{J:Nat}{l:List Oper}{a0:Act}{w:aa}(W:pa F)(V:¬ad Q)(T:lY l=ab)(m:Nat)(fl:List Nat)(O:P.follows .mixedOrders=ab)(I:preB l.toArray m a0.tmps.size fl=ab)(U:∀c a (d:Tmp) v w,Q (.panic c) { a with tmps:=a.tmps.setIfInBounds d v } w→Q (.panic c) a w)
  (h:ed P Q l.toArray m a0 w.drew (λs E=>decide (E.length=m)=ab∧∀H,Ext w.drew H→ew P Q l.toArray s (l.take m) E.reverse a0 H) m l []):(ae J l.toArray ab).wpIn F n P Q a0 w:=
 wpIn_region_any O (sg W V T _ _ _ _ (tL m fl I U (me m (ux I) _ _ _ h)))
theorem fR{I:Nat}{l:List Oper}{a0:Act}{w:aa}(U:pa F)(T:¬ad Q)(O:lY l=ab)(m:Nat)(J:P.follows .mixedOrders=ab)(H:preB l.toArray m a0.tmps.size []=ab)
  (h:ed P Q l.toArray m a0 w.drew (λd s=>decide (s.length=m)=ab∧∀E,Ext w.drew E→ew P Q l.toArray d (l.take m) s.reverse a0 E) m l []):(ae I l.toArray ab).wpIn F n P Q a0 w:=
 wpIn_region_any J (sg U T O _ _ _ _ (rR m [] H (λh=>absurd rfl h) (me m (ux H) _ _ _ h)))
theorem qc{I:Nat}{l:List Oper}{a0:Act}{w:aa}(T:pa F)(O:¬ad Q)(J:lY l=ab)(m:Nat)(H:qJ l.toArray m a0.tmps.size=ab)
  (h:ed P Q l.toArray m a0 w (λd s=>decide (s.length=m)=ab∧∀E,Ext w E→ew P Q l.toArray d (l.take m) s.reverse a0 E) m l []):(ae I l.toArray false).wpIn F n P Q a0 w:=
 wpIn_region (B3 T O J _ _ _ (tM m H (me m (BM H) _ _ _ h)))
end
end Go.Proofs.YtofgfpffcegioaaGreat
