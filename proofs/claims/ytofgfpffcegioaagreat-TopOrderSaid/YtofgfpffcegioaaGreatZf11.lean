/- A part of the proof. -/
import Derived.Test.YtofgfpffcegioaaGreatZf04
set_option maxRecDepth 100000
set_option maxHeartbeats 8000000
namespace Go.Proofs.YtofgfpffcegioaaGreat
open Go.RowKit
open _root_.Array renaming ext_getElem? → ad
open Go renaming TypeId → ae,Value → af,Oper → ai
open Go.Result renaming andThen_ok → ah
open Go.Sem renaming run_bind → aa,run_pure → ag
open Option renaming some → ab
def arr(n:Nat)(f:Nat→af):AV:=Array.ofFn (n:=n) λi=>f i.val
theorem iJ(n:Nat)(f:Nat→af):(arr n f).size=n:=by simp[arr]
theorem fw{n:Nat}{f:Nat→af}{i:Nat}(h:i<n):(arr n f)[i]?=ab (f i):=by simp_all[arr]
theorem se{n:Nat}{f:Nat→af}{i:Nat}(h:¬i<n):(arr n f)[i]?=none:=by simp_all[arr]
theorem nq(n:Nat)(f:Nat→af)(i:Nat)(v:af):(arr n f).setIfInBounds i v=arr n λj=>if j=i then v else f j:=by
 apply ad;intro j;by_cases d:j<n
 ·rw[fw d];by_cases e:i=j
  ·simp_all[iJ]
  simp_all[Array.getElem?_setIfInBounds_ne,fw,Ne.symm]
 grind[se,Array.getElem?_eq_none,Array.size_setIfInBounds,iJ]
theorem jI{n:Nat}{f g:Nat→af}(h:∀i,i<n→f i=g i):arr n f=arr n g:=by
 apply ad;grind[fw,se]
theorem nt{n:Nat}{f:Nat→af}(h:∀i,i<n→(f i).oneCell'=true):(arr n f).all (·.oneCell')=true:=by
 rw[Array.all_eq_true];intro i d;rw[iJ]at d;have:=fw (f:=f) d;grind
theorem below_setRow{B:Nat}{a w:World}(h:Below B a w){g:Nat}(s:B≤g)(cs:AV):Below B a (w.setRow g cs):=
 ⟨h.os,h.tape,h.output,by unfold World.setRow;simpa using h.size,λk d=>by
  have:(w.setRow g cs).heap[k]?=w.heap[k]?:=by unfold World.setRow;simp[Array.getElem?_modify,show g≠k by omega]
  exact this.trans (h.block k d)⟩
section
variable {P:Program} {w:World}
theorem kF{s:ae}{g h:Nat}{cs:AV}{d:TypeDesc}(V:∀j v,cs[j]?=ab v→w.cell? ⟨g,h+j,none⟩=ab v)
  (H:P.underlying s=ab d)(U:(match d with|.struct _|.array _ _=>true|_=>false)=true)(hi:(P.info? s).map (·.size)=ab cs.size) :
  (loadVar s ⟨g,h,none⟩).run P w=.ok (.agg cs) w:=by
 have T:(loadCells ⟨g,h,none⟩ cs.toList.length).run P w=.ok cs.toList.toArray w:=
  run_loadCells_list (P:=P) w ⟨g,h,none⟩ cs.toList (λj v I=>by
   grind[addr_add])
 cases O:P.info? s with
 |none=>grind
 |some i=>
  have J:i.size=cs.size:=zG;have E:(isAgg s).run P w=.ok true w:=by
   unfold isAgg;rw[aa,run_underlying H w];cases d<;>simp_all
  simp_all[Array.length_toList,Array.toArray_toList,loadVar,aa,sizeOf,typeInfo]
theorem vD{E:Array ai}{s:List ai}{o:ai}{a:Act}{Q:Exit→Act→World→Prop}(J:o.guard=none)(I:ae)(x:Operand)(U:o.op=.load I x)
  (g H:Nat)(O:a.eval x=.pointer (ab ⟨g,H,none⟩))(cs:AV){d:TypeDesc}(W:∀j v,cs[j]?=ab v→w.cell? ⟨g,H+j,none⟩=ab v)
  (T:P.underlying I=ab d)(V:(match d with|.struct _|.array _ _=>true|_=>false)=true)(hi:(P.info? I).map (·.size)=ab cs.size)
  (h:wpList P E Q s (a.put o.dst (.agg cs)) w):wpList P E Q (o::s) a w:=
 wpList_plain J λK Y=>by
  unfold Oper.wp execOp;simp only[U,O,Instr.loadAt,Instr.sureAddr,aa,ag,ah,kF W T V hi];exact Y _ _ h
theorem o9{E:Array ai}{s:List ai}{o:ai}{a:Act}{Q:Exit→Act→World→Prop}(I:o.guard=none)(H:ae)(x:Operand)(U:o.op=.load H x)
  (g:Nat)(J:a.eval x=gP g){T:ae}(cs:AV){d:TypeDesc}(W:Box w g T cs)
  (O:P.underlying H=ab d)(V:(match d with|.struct _|.array _ _=>true|_=>false)=true)(hi:(P.info? H).map (·.size)=ab cs.size)
  (h:wpList P E Q s (a.put o.dst (.agg cs)) w):wpList P E Q (o::s) a w:=
 wpList_load_row I H x U g J T cs (0,0) d W O V hi h
theorem qL{s:Array ai}{d:List ai}{o:ai}{a:Act}{Q:Exit→Act→World→Prop}(E:o.guard=none)(t:ae)(O:o.op=.alloc t)
  (cs:AV)(H:(P.info? t).bind (·.zero)=ab (.agg cs))
  (h:wpList P s Q d (a.put o.dst (gP w.heap.size)) (w.alloc (.cells cs t))):wpList P s Q (o::d) a w:=
 wpList_plain E λK T=>by
  have I:(execOp a.eval o).run P w=.ok (.value (gP w.heap.size)) (w.alloc (.cells cs t)):=by
   cases J:P.info? t with
   |none=>grind
   |some i=>
    simp only[J,Option.bind_some]at H;unfold execOp;simp[O,Instr.alloc,zeroValue,typeInfo,J,H,newVar,newRow,aa,ag,Value.cells]
  grind[Oper.wp,Oper.upon_value]
theorem xX{t e:ae}{n:Nat}{cs:AV}{k:IntKind}{i:Nat}{v:af}(s:P.underlying t=ab (.array n e))(hi:i<n)(h:cs[i]?=ab v)(hs:(P.info? e).map (·.size)=ab 1)(H:∀w,(isAgg e).run P w=.ok false w) :
  (Instr.index t (.agg cs) (.int k (i:Int))).run P w=.ok v w:=by
 cases E:P.info? e with
 |none=>grind
 |some d=>
  have hs:d.size=1:=zG;simp[Instr.index,asIntOf,run_underlying s,sizeOf,typeInfo,E,hs,hi,part,H,h,aa]
theorem jJ{s:Array ai}{d:List ai}{o:ai}{a:Act}{Q:Exit→Act→World→Prop}(E:o.guard=none)(t:ae)(x y:Operand)(U:o.op=.index t x y)
  {e:ae}{n:Nat}{cs:AV}{k:IntKind}{i:Nat}{v:af}(J:a.eval x=.agg cs)(I:a.eval y=.int k (i:Int))(T:P.underlying t=ab (.array n e))(hi:i<n)(O:cs[i]?=ab v)(hs:(P.info? e).map (·.size)=ab 1)(V:∀w,(isAgg e).run P w=.ok false w)
  (h:wpList P s Q d (a.put o.dst v) w):wpList P s Q (o::d) a w:=
 wpList_plain E λK W=>by
  have H:(execOp a.eval o).run P w=.ok (.value v) w:=by
   unfold execOp;simp only[U,J,I,xX T hi O hs V,aa,ag,ah]
  grind[Oper.wp,Oper.upon_value]
end
end Go.Proofs.YtofgfpffcegioaaGreat
