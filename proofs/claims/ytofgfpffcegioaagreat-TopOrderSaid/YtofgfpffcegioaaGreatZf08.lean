/- A part of the proof. -/
import Derived.Test.YtofgfpffcegioaaGreatZf04
import Derived.RangeFuncBox
set_option maxRecDepth 100000
set_option maxHeartbeats 8000000
namespace Go.Proofs.YtofgfpffcegioaaGreat
open Go.RowKit Go.Shelf Go.ChangeMaps Go.Proofs.Tryz
open Go renaming run_underlying → ai,Value → aq,World → ar,TypeId → aw
open Go.ChangeMaps renaming heap_setBlock_same → ah
open Go.Instr renaming lookup → ak,mapUpdate → al,findKey → au,keyThatStays → av
open Go.Result renaming andThen_ok → ag
open Go.Sem renaming run_bind → aj
open Option renaming map_some → an,some → ao
structure pD{κ:Type}[DecidableEq κ](P:Program)(K:aw)(d:TypeDesc)(kv:κ→aq):Prop where
 under:P.underlying K=ao d
 same:∀a b,Instr.sameNow d (kv a) (kv b)=ao (decide (a=b))
 check:∀e w a,(Instr.checkKey e 10000 K (kv a)).run P w=.ok () w
 stays:∀a,Instr.sameBits 10000 (kv a) (kv a)=true
def lz{d h:Type}[DecidableEq d](k:d):List (d×h)→Nat→Option (Nat×h)
 |[],_=>none
 |x::l,i=>if k=x.1 then ao (i,x.2)else lz k l (i+1)
structure vm{κ:Type}[DecidableEq κ](P:Program)(K:aw)(kv:κ→aq):Prop where
 find:∀(β:Type) (ev:β→aq) (k:κ) (w:ar) (es:List MapEntry) (l:List (κ×β)),es.map (λe=>(e.key,e.val))=l.map (λx=>(kv x.1,ev x.2))→(au K (kv k) es).run P w=.ok ((lz k l 0).map λx=>(x.1,ev x.2)) w
 check:∀e w a,(Instr.checkKey e 10000 K (kv a)).run P w=.ok () w
 stays:∀a,Instr.sameBits 10000 (kv a) (kv a)=true
def jx{d h:Type}[DecidableEq d](l:List (d×h))(k:d):Option h:=(l.find? λx=>decide (k=x.1)).map (·.2)
def upd{d h:Type}[DecidableEq d](l:List (d×h))(k:d)(v:h):List (d×h):=if(jx l k).isSome then l.map λx=>if x.1=k then(k,v)else x else l++[(k,v)]
section
variable {κ β:Type} {kv:κ→aq} {ev:β→aq}
def fQ(w:ar)(b:Nat)(kv:κ→aq)(ev:β→aq)(l:List (κ×β)):Prop:=(l.map (·.1)).Nodup∧∃h d,w.heap[b]?=ao (.map h d)∧h.toList.map (λe=>(e.key,e.val))=l.map λx=>(kv x.1,ev x.2)
theorem fQ.made(w:ar):fQ (w.alloc (.map #[] 0)) w.heap.size kv ev []:=⟨List.nodup_nil,#[],0,(MapKept.heap_alloc w _).1,rfl⟩
theorem fQ.lt{w:ar}{b:Nat}{l:List (κ×β)}(h:fQ w b kv ev l):b<w.heap.size:=by obtain⟨_,E,d,s,_⟩:=h;grind
theorem fQ.same{w s:ar}{b:Nat}{l:List (κ×β)}(h:fQ w b kv ev l)(H:s.heap[b]?=w.heap[b]?):fQ s b kv ev l:=by obtain⟨E,O,d,I,J⟩:=h;exact⟨E,O,d,H.trans I,J⟩
theorem fQ.ext{w d:ar}{b:Nat}{l:List (κ×β)}(h:fQ w b kv ev l)(s:Ext w d):fQ d b kv ev l:=h.same (s.block b h.lt)
theorem fQ.drew{w:ar}{b:Nat}{l:List (κ×β)}(h:fQ w b kv ev l):fQ w.drew b kv ev l:=h
end
section
variable {κ β:Type} [DecidableEq κ] {P:Program} {K:aw} {d:TypeDesc} {kv:κ→aq} {ev:β→aq}
theorem qb(k:κ):∀(l:List (κ×β)) (i:Nat),(lz k l i).map (·.2)=jx l k
 |[],i=>rfl
 |x::l,i=>by
  have h:=qb k l (i+1);unfold jx at*;unfold lz;grind
theorem BW(k:κ):∀(l:List (κ×β)) (i:Nat) j v,lz k l i=ao (j,v)→∃m,j=i+m∧l[m]?=ao (k,v)
 |[],i,j,v,h=>by simp[lz]at h
 |x::l,i,j,v,h=>by
  unfold lz at h;by_cases e:k=x.1
  ·rw[if_pos e]at h;simp only[Option.some.injEq,Prod.mk.injEq]at h;obtain⟨rfl,rfl⟩:=h;exact⟨0,rfl,by rw[e];rfl⟩
  ·rw[if_neg e]at h;obtain⟨m,rfl,s⟩:=BW k l (i+1) j v h;exact⟨m+1,by omega,by simpa using s⟩
theorem xU(H:pD P K d kv)(k:κ)(w:ar)(s:List MapEntry)(l:List (κ×β))(h:s.map (λe=>(e.key,e.val))=l.map λx=>(kv x.1,ev x.2)):(au K (kv k) s).run P w=.ok ((lz k l 0).map λx=>(x.1,ev x.2)) w:=by
 have E:∀(s:List MapEntry) (l:List (κ×β)) (i:Nat),s.map (λe=>(e.key,e.val))=l.map (λx=>(kv x.1,ev x.2))→Instr.findNow d (kv k) s i=ao ((lz k l i).map λx=>(x.1,ev x.2)):=by
  intro s
  induction s with
  |nil=>intro l i h;cases l with
   |nil=>rfl
   |cons x l=>simp at h
  |cons e s O=>intro l i h;cases l with
   |nil=>simp at h
   |cons x l=>
    simp only[List.map_cons,List.cons.injEq,Prod.mk.injEq]at h;obtain⟨⟨J,I⟩,T⟩:=h;unfold Instr.findNow lz;rw[J,I,H.same];grind
 unfold au;simp only[aj,ai H.under,ag,E s l 0 h];rfl
theorem pD.key{κ:Type}[DecidableEq κ]{P:Program}{K:aw}{d:TypeDesc}{kv:κ→aq}(s:pD P K d kv):vm P K kv:=⟨λ_ _ k w E l h=>xU s k w E l h,s.check,s.stays⟩
theorem fQ.mE{w:ar}{b:Nat}{l:List (κ×β)}(h:fQ w b kv ev l)(J:vm P K kv){M E:aw}{z:aq}(hM:P.underlying M=ao (.map K E))(T:(zeroValue E).run P w=.ok z w)(k:κ):(ak M (.map (ao b)) (kv k) true).run P w=.ok (.tuple #[((jx l k).map ev).getD z,.bool (jx l k).isSome]) w:=by
 obtain⟨_,O,s,Y,W⟩:=h;have V:=J.find _ ev k w O.toList l W;have H:=qb k l 0;have U:(getObj b).run P w=.ok (.map O s) w:=by simp[getObj,Sem.run,Y]
 unfold ak;simp only[aj,ai hM,U,ag,J.check,Sem.run_pure];rw[V];simp only[ag];cases I:lz k l 0 with
 |none=>rw[I]at H;rw[←H];simp[T]
 |some p=>rw[I]at H;rw[←H];simp
theorem fQ.rT{w:ar}{b:Nat}{l:List (κ×β)}(h:fQ w b kv ev l)(J:vm P K kv){M E:aw}{z:aq}(hM:P.underlying M=ao (.map K E))(T:(zeroValue E).run P w=.ok z w)(k:κ):(ak M (.map (ao b)) (kv k) false).run P w=.ok (((jx l k).map ev).getD z) w:=by
 obtain⟨_,O,s,Y,W⟩:=h;have V:=J.find _ ev k w O.toList l W;have H:=qb k l 0;have U:(getObj b).run P w=.ok (.map O s) w:=by simp[getObj,Sem.run,Y]
 unfold ak;simp only[aj,ai hM,U,ag,J.check,Sem.run_pure];rw[V];simp only[ag];cases I:lz k l 0 with
 |none=>rw[I]at H;rw[←H];simp[T]
 |some p=>rw[I]at H;rw[←H];simp
theorem BX(l:List (κ×β))(k:κ)(v:β)(s:(l.map (·.1)).Nodup):((upd l k v).map (·.1)).Nodup:=by
 unfold upd;split
 ·grind
 ·rename_i h;rw[List.map_append,List.nodup_append];refine⟨s,by simp,λa H b E=>?_⟩;simp only[List.map_cons,List.map_nil,List.mem_singleton]at E;grind[jx,Option.isSome_map,List.find?_isSome]
theorem fQ.update{w:ar}{b:Nat}{l:List (κ×β)}(h:fQ w b kv ev l)(hK:vm P K kv){M E:aw}(hM:P.underlying M=ao (.map K E))(k:κ)(v:β) :
  ∃T,(al M (.map (ao b)) (kv k) (ev v)).run P w=.ok () T∧fQ T b kv ev (upd l k v)∧w.grownBy T (ao b)∧T.heap.size=w.heap.size∧∃o,T.heap[b]?=ao o∧o.isCells=false:=by
 obtain⟨V,I,s,O,he⟩:=h;have Y:=hK.find _ ev k w I.toList l he;have hn:=qb k l 0;have hg:(getObj b).run P w=.ok (.map I s) w:=by simp[getObj,Sem.run,O]
 have U:∀o,o=Obj.map (I.push { key:=kv k,val:=ev v,born:=s }) (s+1)∨(∃ad ,o=Obj.map ad s)→(setObj b o).run P w=.ok () (setBlock w b o):=by
  grind[setObj,Sem.run,setBlock]
 have H:∀o,w.grownBy (setBlock w b o) (ao b):=λo=>⟨rfl,rfl,rfl,by simp[setBlock],λi _ W=>heap_setBlock_other O _ (λe=>W (by rw[e]))⟩
 cases W:lz k l 0 with
 |none=>
  rw[W]at hn Y;have hu:upd l k v=l++[(k,v)]:=by grind[upd]
  refine⟨setBlock w b (.map (I.push { key:=kv k,val:=ev v,born:=s }) (s+1)),?_,⟨BX l k v V,_,_,ah O _,?_⟩,H _,by simp[setBlock],_,ah O _,rfl⟩
  ·unfold al;simp only[aj,ai hM,hg,ag,hK.check,Y,Option.map_none,U _ (.inl rfl)]
  grind
 |some p=>
  obtain⟨i,u⟩:=p;rw[W]at hn Y;obtain⟨m,hm,af⟩:=BW k l 0 i u W;obtain rfl:i=m:=zO;have hu:upd l k v=l.map λx=>if x.1=k then(k,v)else x:=by grind[upd]
  have ae:I.toList.length=l.length:=by have:=congrArg List.length he;grind
  have J:∃e,I[i]?=ao e∧e.key=kv k:=by
   have h2:=congrArg (λx=>x[i]?) he;grind
  obtain⟨e,J,ab⟩:=J;have aa:(av (((I[i]?).map (·.key)).getD (kv k)) (kv k)).run P w=.ok (kv k) w:=by
   rw[J];simp only[an,Option.getD_some,ab];unfold av;rw[if_pos (hK.stays k)];simp
  refine⟨setBlock w b (.map (I.modify i λe=>{ e with key:=kv k,val:=ev v }) s),?_,⟨BX l k v V,_,_,ah O _,?_⟩,H _,by simp[setBlock],_,ah O _,rfl⟩
  ·unfold al;simp only[aj,ai hM,hg,ag,hK.check,Y,an,aa];grind
  ·rw[hu];apply List.ext_getElem?;intro j;have hj:=congrArg (λx=>x[j]?) he;simp only[List.getElem?_map,Array.getElem?_toList]at hj ⊢;rw[Array.getElem?_modify];by_cases e1:i=j
   ·grind
   ·rw[if_neg e1];rw[hj];cases hx:l[j]? with
    |none=>rfl
    |some x=>
     simp only[an];have:x.1≠k:=by
      grind[List.getElem?_eq_some_iff,absurd,Nat.lt_trichotomy,List.pairwise_iff_getElem]
     grind
end
theorem NV{d h:Type}[DecidableEq d](k:d):jx ([]:List (d×h)) k=none:=rfl
theorem NW{d s:Type}[DecidableEq d](l:List (d×s))(k j:d)(v:s):jx (upd l k v) j=if j=k then ao v else jx l j:=by
 unfold upd;have E:∀l:List (d×s),jx (l.map λx=>if x.1=k then(k,v)else x) j=if j=k then(if(jx l k).isSome then ao v else none)else jx l j:=by
  intro l
  induction l with
  |nil=>simp[jx]
  |cons x l I=>
   unfold jx at*;grind
 split
 ·grind
 ·rename_i h;unfold jx at*;rw[List.find?_append];by_cases H:j=k
  ·subst H;rw[if_pos rfl];cases J:l.find? (λx=>decide (j=x.1))with
   |none=>simp
   |some x=>grind
  grind
end Go.Proofs.YtofgfpffcegioaaGreat
