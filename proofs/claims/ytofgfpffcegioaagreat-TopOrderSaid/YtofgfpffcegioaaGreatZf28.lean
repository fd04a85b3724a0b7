/- A part of the proof. -/
import Derived.Test.YtofgfpffcegioaaGreatZf11
import Derived.Test.YtofgfpffcegioaaGreatZf26
set_option maxRecDepth 100000
set_option maxHeartbeats 8000000
namespace Go.Proofs.YtofgfpffcegioaaGreat
open Go.RowKit Go.Shelf Go.Proofs.Tryz
open Go renaming Operand → aa,Value → ab,TypeId → af
open Go.Result renaming andThen_ok → ad
open Option renaming some → ae
def GG{h s:Type}(B:Nat)(kv:h→ab)(ev:s→ab):VP:=⟨λv w=>∃b,v=.map (ae b)∧B≤b∧fQ w b kv ev [],λ_ _ _ ⟨b,I,H,d⟩ E=>⟨b,I,H,d.same (E.same d.lt)⟩⟩
def VM(B:Nat)(e:af)(n:Nat)(cs:AV):VP:=⟨λv w=>∃g,v=.slice (ae ⟨g,0,none⟩) n n∧B≤g∧Box w g e cs,λ_ _ _ ⟨g,E,s,d⟩ h=>⟨g,E,s,(h.same d.lt).trans d⟩⟩
def VN(B:Nat)(e:af)(cs:AV):VP:=⟨λv w=>∃g,v=gP g∧B≤g∧Box w g e cs,λ_ _ _ ⟨g,E,s,d⟩ h=>⟨g,E,s,(h.same d.lt).trans d⟩⟩
section
variable {P:Program} {Q:Exit→Act→World→Prop} {ops:Array Oper} {M m:Nat} {a0:Act} {w0:World} {K:List Oper→List VP→Prop} {o:Oper} {rest:List Oper} {env:List VP}
def ku(ops:Array Oper)(M:Nat)(a0:Act)(w0:World)(env:List VP)(o:Oper)(xs:List aa)(vs:List ab):Prop:=
 ∀a w,Ext w0 w→Ctx ops M a0 a→Qf ops (kl env) o a w→xs.map a.eval=vs
theorem ku.nil:ku ops M a0 w0 env o [] []:=λ_ _ _ _ _=>rfl
theorem ku.cons{x:aa}{v:ab}{xs:List aa}{vs:List ab}(h:fu ops M a0 w0 env o x (eC v))(k:ku ops M a0 w0 env o xs vs):ku ops M a0 w0 env o (x::xs) (v::vs):=λa w d E s=>by
 have H:a.eval x=v:=h a w d E s;rw[List.map_cons,k a w d E s,H]
theorem ed.LK{r:ab}(xs:List aa)(vs:List ab)(H:Want ops M a0 w0 env o true)(E:ku ops M a0 w0 env o xs vs)
  (h:∀(d:aa→ab) w,Ext w0 w→xs.map d=vs→(execOp d o).run P w=.ok (.value r) w)
  (I:ed P Q ops M a0 w0 K m rest (eC r::env)):ed P Q ops M a0 w0 K (m+1) (o::rest) env:=
 .val H (λa w s O J=>⟨r,h a.eval w s (E a w s O J),rfl⟩) I
theorem ed.loadAt{g s:Nat}{cs:AV}{w:World}(t:af)(x:aa)(V:o.op=.load t x)(O:Want ops M a0 w0 env o true)(J:fu ops M a0 w0 env o x (eC (.pointer (ae ⟨g,s,none⟩))))
  {d:TypeDesc}(T:P.underlying t=ae d)(Y:(match d with|.struct _|.array _ _=>true|_=>false)=true)(hi:(P.info? t).map (·.size)=ae cs.size)(W:g<w.heap.size)(hc:∀j v,cs[j]?=ae v→w.cell? ⟨g,s+j,none⟩=ae v)(hE:Ext w w0)
  (U:ed P Q ops M a0 w0 K m rest (eC (.agg cs)::env)):ed P Q ops M a0 w0 K (m+1) (o::rest) env:=
 .load t x V O J (λI H=>by
  have E:∀j v,cs[j]?=ae v→I.cell? ⟨g,s+j,none⟩=ae v:=λj v h=>((hE.tr H).cell (p:=⟨g,s+j,none⟩) W).trans (hc j v h);simp only[Instr.loadAt,Instr.sureAddr,Sem.run_bind,Sem.run_pure,ad,kF E T Y hi]) U
theorem ed.Qx{d h:Type}{kv:d→ab}{ev:h→ab}(t:af){J E:af}(T:o.op=.makeMap t none)(_:P.underlying t=ae (.map J E))(s:Want ops M a0 w0 env o true)
  (H:ed P Q ops M a0 w0 K m rest (GG w0.heap.size kv ev::env)):ed P Q ops M a0 w0 K (m+1) (o::rest) env:=
 .new (F:=GG w0.heap.size kv ev) s (λa w I V U=>⟨.map (ae w.heap.size),w.alloc (.map #[] 0),by
  simp_all[execOp,Instr.makeMap],ek _ _,w.heap.size,rfl,I.size,fQ.made w⟩) H
theorem ed.newRow(t e:af)(x y:aa)(i:TypeInfo)(z:ab)(size:Nat)(n:Nat)(ho:o.op=.makeSlice t x y)(Y:P.underlying t=ae (.slice e))(hi:P.info? e=ae i)(T:i.zero=ae z)(d:i.size=size)
  (h:i.bytes*n≤281474976710656)(W:Want ops M a0 w0 env o true)(V:fu ops M a0 w0 env o x (eC (iV n)))(U:fu ops M a0 w0 env o y (eC (iV n)))(H:(n:Int)≤9223372036854775807)
  (hr:ed P Q ops M a0 w0 K m rest (VM w0.heap.size e n (madeCells z.cells (n*size))::env)):ed P Q ops M a0 w0 K (m+1) (o::rest) env:=
 .WO x y W V U (λI w hE O J=>by
  subst d;have O:I x=iV n:=O;have J:I y=iV n:=J;have E:(i.bytes:Int)*(n:Int)≤281474976710656:=by
   omega
  have s:=run_make (P:=P) w t e i z Y hi T .i64 .i64 n n zO (Int.le_refl _) E H;simp only[Int.toNat_natCast]at s;refine⟨_,_,?_,?_,w.heap.size,rfl,hE.size,Box.new _ _ _⟩
  ·grind[execOp,Sem.run_bind,Sem.run_pure,ad]
  simp[ek]) hr
theorem ed.LM{cs:AV}(t:af)(x:aa)(I:o.op=.box t x)(E:Want ops M a0 w0 env o true)(s:fu ops M a0 w0 env o x (eC (.agg cs)))
  (H:ed P Q ops M a0 w0 K m rest (VN w0.heap.size t cs::env)):ed P Q ops M a0 w0 K (m+1) (o::rest) env:=
 .TR x E s (λh w J d=>by
  have d:h x=.agg cs:=d;refine⟨_,w.alloc (.cells cs t),?_,ek _ _,w.heap.size,rfl,J.size,Box.new _ _ _⟩;unfold execOp;simp[I,d,newVar,Value.cells,go_sem]) H
end
end Go.Proofs.YtofgfpffcegioaaGreat
