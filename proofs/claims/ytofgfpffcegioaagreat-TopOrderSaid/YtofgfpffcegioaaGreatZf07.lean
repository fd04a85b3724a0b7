/- A part of the proof. -/
import Derived.Test.YtofgfpffcegioaaGreatZfM
import Derived.Shelf.Small.Strs
import Derived.Shelf.Small.Wraps
import Derived.Shelf.Slices.Turned
import Derived.Shelf.Slices.SearchI
import Derived.Shelf.Slices.Empties2
import Derived.Shelf.Bytes.SlSearch0
import Derived.Shelf.Bytes.SlClone
import Derived.Shelf.SlicesE.Equal
import Derived.Shelf.SlicesE.Clone
import Derived.Shelf.SlSortCmp.Small
import Derived.Shelf.SlSortCmp.NoneTotal
import Derived.Shelf.Bytes.SlEqualAll
import Derived.Test.YtofgfpffcegioaaGreatProg
set_option maxRecDepth 100000
set_option maxHeartbeats 8000000
namespace Go.Proofs
open Go.Shelf
def Tryz.BY:Go.Shelf.Ren:=⟨fun|125=>239|128=>282|129=>283|n=>n,fun|46=>375|3=>3|51=>29|53=>417|4=>4|5=>5|9=>9|n=>n,fun|n=>n⟩
theorem Tryz.lays125:Go.Proofs.Lays.n125 Tryz.prog Tryz.BY:={
 mixed:=by rfl
 f125:=Tryz.func239.trans (congrArg some (by rfl))
 f128:=Tryz.func282.trans (congrArg some (by rfl))
 f129:=Tryz.func283.trans (congrArg some (by rfl))
 t3:=Tryz.underlying3
 a3:=Tryz.isAgg3
 z3:=Tryz.sizeOf3
 v3:=Tryz.zeroValue3
 t4:=Tryz.underlying4
 a4:=Tryz.isAgg4
 z4:=Tryz.sizeOf4
 v4:=Tryz.zeroValue4
 t5:=Tryz.underlying5
 a5:=Tryz.isAgg5
 z5:=Tryz.sizeOf5
 v5:=Tryz.zeroValue5
 t9:=Tryz.underlying9
 a9:=Tryz.isAgg9
 z9:=Tryz.sizeOf9
 v9:=Tryz.zeroValue9
 t46:=Tryz.underlying375
 a46:=Tryz.isAgg375
 z46:=Tryz.sizeOf375
 v46:=Tryz.zeroValue375
 t51:=Tryz.underlying29
 a51:=Tryz.isAgg29
 z51:=Tryz.sizeOf29
 v51:=Tryz.zeroValue29
 t53:=Tryz.underlying417
 a53:=Tryz.isAgg417
 z53:=Tryz.sizeOf417
 v53:=Tryz.zeroValue417 }
theorem Tryz.bits_Len(x:Int)(w:World)(s:0≤x)(h:x≤18446744073709551615) :
  Calls Tryz.prog 239 #[.int .u64 x] w λe d=>e=.returned (.int .i64 (Lib.bitLen x.toNat))∧d=w:=Any.bits_Len Tryz.lays125 x w s h
def Tryz.BZ:Go.Shelf.Ren:=⟨fun|106=>185|213=>241|265=>284|n=>n,fun|9=>9|3=>3|n=>n,fun|n=>n⟩
theorem Tryz.NX:Go.Proofs.Lays.n106 Tryz.prog Tryz.BZ:={
 mixed:=by rfl
 f106:=Tryz.func185.trans (congrArg some (by rfl))
 f213:=Tryz.func241.trans (congrArg some (by rfl))
 f265:=Tryz.func284.trans (congrArg some (by rfl))
 t3:=Tryz.underlying3
 a3:=Tryz.isAgg3
 z3:=Tryz.sizeOf3
 v3:=Tryz.zeroValue3
 t9:=Tryz.underlying9
 a9:=Tryz.isAgg9
 z9:=Tryz.sizeOf9
 v9:=Tryz.zeroValue9 }
open Go.RowKit in
theorem Tryz.strings_Compare (a b:ByteArray) (w:World) :
  Calls Tryz.prog 185 #[.string a,.string b] w λe w'=>e=.returned (.int .i64 (Lib.compareBytes a.data.toList b.data.toList))∧w'=w:=Any.strings_Compare Tryz.NX a b w
def Tryz.B0:Go.Shelf.Ren:=⟨fun|122=>184|215=>240|n=>n,fun|3=>3|4=>4|n=>n,fun|n=>n⟩
theorem Tryz.NY:Go.Proofs.Lays.n122 Tryz.prog Tryz.B0:={
 mixed:=by rfl
 f122:=Tryz.func184.trans (congrArg some (by rfl))
 f215:=Tryz.func240.trans (congrArg some (by rfl))
 t3:=Tryz.underlying3
 a3:=Tryz.isAgg3
 z3:=Tryz.sizeOf3
 v3:=Tryz.zeroValue3
 t4:=Tryz.underlying4
 a4:=Tryz.isAgg4
 z4:=Tryz.sizeOf4
 v4:=Tryz.zeroValue4 }
open Go.RowKit in
theorem Tryz.cmp_Compare_int (x y:Int) (w:World) :
  Calls Tryz.prog 184 #[.int .i64 x,.int .i64 y] w λe w'=>e=.returned (.int .i64 (Lib.compareInt x y))∧w'=w:=Any.cmp_Compare_int Tryz.NY x y w
def Tryz.lays111_ren:Go.Shelf.Ren:=⟨fun|111=>314|n=>n,fun|28=>28|3=>3|4=>4|0=>0|n=>n,fun|n=>n⟩
theorem Tryz.lays111:Go.Proofs.Lays.n111 Tryz.prog Tryz.lays111_ren:={
 mixed:=by rfl
 f111:=Tryz.func314.trans (congrArg some (by rfl))
 t0:=Tryz.underlying0
 a0:=Tryz.isAgg0
 z0:=Tryz.sizeOf0
 v0:=Tryz.zeroValue0
 t3:=Tryz.underlying3
 a3:=Tryz.isAgg3
 z3:=Tryz.sizeOf3
 v3:=Tryz.zeroValue3
 t4:=Tryz.underlying4
 a4:=Tryz.isAgg4
 z4:=Tryz.sizeOf4
 v4:=Tryz.zeroValue4
 t28:=Tryz.underlying28
 a28:=Tryz.isAgg28
 z28:=Tryz.sizeOf28
 v28:=Tryz.zeroValue28 }
open Go.RowKit Go.Lib in
theorem Tryz.slices_Equal_int (b1 o1 n c b2 o2 m d:Nat) (xs ys:List Int) (w:World) (hx:n≤xs.length) (hy:m≤ys.length) (hbig:n≤9223372036854775807) (hbig2:m≤9223372036854775807) (hc1:∀j,j<xs.length→w.cell? ⟨b1,o1+j,none⟩=some (.int .i64 (xs.getD j 0))) (hc2:∀j,j<ys.length→w.cell? ⟨b2,o2+j,none⟩=some (.int .i64 (ys.getD j 0))) :
  Calls Tryz.prog 314 #[.slice (some ⟨b1,o1,none⟩) n c,.slice (some ⟨b2,o2,none⟩) m d] w λe w'=>e=.returned (.bool (xs.take n==ys.take m))∧∃q,w'=w.drewN q:=Any.slices_Equal_int Tryz.lays111 b1 o1 n c b2 o2 m d xs ys w hx hy hbig hbig2 hc1 hc2
open Go.RowKit Go.Lib in
theorem Tryz.slices_Equal_int_empty (a1 a2:Option Addr) (c m d:Nat) (w:World) (hbig2:m≤9223372036854775807) :
  Calls Tryz.prog 314 #[.slice a1 0 c,.slice a2 m d] w λe w'=>e=.returned (.bool (decide (m=0)))∧w'=w:=Any.slices_Equal_int_empty Tryz.lays111 a1 a2 c m d w hbig2
def Tryz.rb:Go.Shelf.Ren:=⟨fun|33=>315|n=>n,fun|22=>43|23=>5|4=>4|3=>3|0=>0|n=>n,fun|n=>n⟩
theorem Tryz.vo:Go.Proofs.SlLaysE.n33 Tryz.prog Tryz.rb:={
 mixed:=by rfl
 f33:=⟨Tryz.f315.name,by decide,Tryz.func315.trans (congrArg some (by rfl))⟩
 t0:=Tryz.underlying0
 a0:=Tryz.isAgg0
 z0:=Tryz.sizeOf0
 v0:=Tryz.zeroValue0
 t3:=Tryz.underlying3
 a3:=Tryz.isAgg3
 z3:=Tryz.sizeOf3
 v3:=Tryz.zeroValue3
 t4:=Tryz.underlying4
 a4:=Tryz.isAgg4
 z4:=Tryz.sizeOf4
 v4:=Tryz.zeroValue4
 t22:=Tryz.underlying43
 a22:=Tryz.isAgg43
 z22:=Tryz.sizeOf43
 v22:=Tryz.zeroValue43
 a23:=Tryz.isAgg5
 z23:=Tryz.sizeOf5 }
open Go.RowKit Go.Lib in
theorem Tryz.rU {α:Type} [Inhabited α] (enc:α→Value) (eq:α→α→Bool) (hne:NeqAt Tryz.prog 5 enc eq) (b1 o1 n c b2 o2 m d:Nat) (xs ys:List α) (w:World) (hx:n≤xs.length) (hy:m≤ys.length) (hbig:n≤9223372036854775807) (hbig2:m≤9223372036854775807) (hc1:∀j,j<xs.length→w.cell? ⟨b1,o1+j,none⟩=some (enc xs[j]!)) (hc2:∀j,j<ys.length→w.cell? ⟨b2,o2+j,none⟩=some (enc ys[j]!)) :
  Calls Tryz.prog 315 #[.slice (some ⟨b1,o1,none⟩) n c,.slice (some ⟨b2,o2,none⟩) m d] w λe w'=>e=.returned (.bool (Lib.allEq eq (xs.take n) (ys.take m)))∧∃q,w'=w.drewN q:=AnyE.slices_Equal Tryz.vo enc eq hne b1 o1 n c b2 o2 m d xs ys w hx hy hbig hbig2 hc1 hc2
def Tryz.rV:Go.Shelf.Ren:=⟨fun|6=>181|15=>239|14=>238|28=>282|29=>283|20=>274|21=>275|22=>276|23=>277|24=>278|25=>279|26=>280|27=>281|46=>301|47=>302|48=>303|49=>304|50=>305|57=>316|n=>n,fun|22=>249|24=>9|25=>329|3=>3|39=>375|0=>0|53=>29|55=>417|4=>4|46=>410|45=>409|50=>57|5=>5|9=>9|66=>436|70=>440|76=>449|77=>226|n=>n,fun|n=>n⟩
theorem Tryz.xV:Go.Proofs.SlLaysF.n6 Tryz.prog Tryz.rV:={
 mixed:=by rfl
 f6:=⟨Tryz.f181.name,by decide,Tryz.func181.trans (congrArg some (by rfl))⟩
 f14:=⟨Tryz.f238.name,by decide,Tryz.func238.trans (congrArg some (by rfl))⟩
 f15:=Tryz.func239.trans (congrArg some (by rfl))
 f20:=⟨Tryz.f274.name,by decide,Tryz.func274.trans (congrArg some (by rfl))⟩
 f21:=⟨Tryz.f275.name,by decide,Tryz.func275.trans (congrArg some (by rfl))⟩
 f22:=⟨Tryz.f276.name,by decide,Tryz.func276.trans (congrArg some (by rfl))⟩
 f23:=⟨Tryz.f277.name,by decide,Tryz.func277.trans (congrArg some (by rfl))⟩
 f24:=⟨Tryz.f278.name,by decide,Tryz.func278.trans (congrArg some (by rfl))⟩
 f25:=⟨Tryz.f279.name,by decide,Tryz.func279.trans (congrArg some (by rfl))⟩
 f26:=⟨Tryz.f280.name,by decide,Tryz.func280.trans (congrArg some (by rfl))⟩
 f27:=⟨Tryz.f281.name,by decide,Tryz.func281.trans (congrArg some (by rfl))⟩
 f28:=Tryz.func282.trans (congrArg some (by rfl))
 f29:=Tryz.func283.trans (congrArg some (by rfl))
 f46:=⟨Tryz.f301.name,by decide,Tryz.func301.trans (congrArg some (by rfl))⟩
 f47:=Tryz.func302.trans (congrArg some (by rfl))
 f48:=Tryz.func303.trans (congrArg some (by rfl))
 f49:=⟨Tryz.f304.name,by decide,Tryz.func304.trans (congrArg some (by rfl))⟩
 f50:=⟨Tryz.f305.name,by decide,Tryz.func305.trans (congrArg some (by rfl))⟩
 f57:=⟨Tryz.f316.name,by decide,Tryz.func316.trans (congrArg some (by rfl))⟩
 t0:=Tryz.underlying0
 a0:=Tryz.isAgg0
 z0:=Tryz.sizeOf0
 v0:=Tryz.zeroValue0
 t3:=Tryz.underlying3
 a3:=Tryz.isAgg3
 z3:=Tryz.sizeOf3
 v3:=Tryz.zeroValue3
 t4:=Tryz.underlying4
 a4:=Tryz.isAgg4
 z4:=Tryz.sizeOf4
 v4:=Tryz.zeroValue4
 t5:=Tryz.underlying5
 a5:=Tryz.isAgg5
 z5:=Tryz.sizeOf5
 v5:=Tryz.zeroValue5
 t9:=Tryz.underlying9
 a9:=Tryz.isAgg9
 z9:=Tryz.sizeOf9
 v9:=Tryz.zeroValue9
 t22:=Tryz.underlying249
 a22:=Tryz.isAgg249
 z22:=Tryz.sizeOf249
 v22:=Tryz.zeroValue249
 a24:=Tryz.isAgg9
 z24:=Tryz.sizeOf9
 t25:=Tryz.underlying329
 a25:=Tryz.isAgg329
 z25:=Tryz.sizeOf329
 v25:=Tryz.zeroValue329
 t39:=Tryz.underlying375
 a39:=Tryz.isAgg375
 z39:=Tryz.sizeOf375
 v39:=Tryz.zeroValue375
 t45:=Tryz.underlying409
 a45:=Tryz.isAgg409
 z45:=Tryz.sizeOf409
 v45:=Tryz.zeroValue409
 t46:=Tryz.underlying410
 a46:=Tryz.isAgg410
 z46:=Tryz.sizeOf410
 v46:=Tryz.zeroValue410
 t50:=Tryz.underlying57
 a50:=Tryz.isAgg57
 z50:=Tryz.sizeOf57
 v50:=Tryz.zeroValue57
 t53:=Tryz.underlying29
 a53:=Tryz.isAgg29
 z53:=Tryz.sizeOf29
 v53:=Tryz.zeroValue29
 t55:=Tryz.underlying417
 a55:=Tryz.isAgg417
 z55:=Tryz.sizeOf417
 v55:=Tryz.zeroValue417
 t66:=Tryz.underlying436
 a66:=Tryz.isAgg436
 z66:=Tryz.sizeOf436
 v66:=Tryz.zeroValue436
 t70:=Tryz.underlying440
 a70:=Tryz.isAgg440
 z70:=Tryz.sizeOf440
 v70:=Tryz.zeroValue440
 t76:=Tryz.underlying449
 a76:=Tryz.isAgg449
 z76:=Tryz.sizeOf449
 v76:=Tryz.zeroValue449
 t77:=Tryz.underlying226
 a77:=Tryz.isAgg226
 z77:=Tryz.sizeOf226
 v77:=Tryz.zeroValue226 }
open Go.RowKit Go.Lib Go.Sort in
theorem Tryz.slices_SortFunc_total {α:Type} [Inhabited α] (enc:α→Value) (h1:OneCell enc) (cf:α→α→Int) (hO:SWO (ltOf cf)) (g:Nat) (cb:Array Value) (blk off cap:Nat) (d:Array α) (w:World) (eg:∀args w,(callFunc g args).run Tryz.prog w=.ok (.enter g args) w) (hcmp:CmpLays1 Tryz.prog g cb enc cf blk off d.size w) (hH:Holds enc w blk off d) (hblk:blk<w.heap.size) (hsz:d.size<4611686018427387904) (hT:∀x y,(ltOf cf) x y=false→(ltOf cf) y x=false→x=y) :
  Calls Tryz.prog 181 #[.slice (some ⟨blk,off,none⟩) d.size cap,.func (.func g) #[] cb] w λe w'=>
   e=.returned (.tuple #[])∧∃n os,w'=sortWorld enc w blk off n (d.toList.mergeSort λx y=>!(ltOf cf) y x).toArray os:=Any.slices_SortFunc_total Tryz.xV enc h1 cf hO g cb blk off cap d w eg hcmp hH hblk hsz hT
end Go.Proofs
