/- A part of the proof. -/
namespace Go.Proofs.YtofgfpffcegioaaGreat
theorem zO {P:Prop} (h:P:=by omega):P:=h
theorem zD {P:Prop} (h:P:=by decide):P:=h
theorem zS {P:Prop} (h:P:=by simp):P:=h
theorem zR {P:Prop} (h:P:=by rfl):P:=h
theorem zG {P:Prop} (h:P:=by grind):P:=h
theorem zT {P:Prop} (h:P:=by simp;omega):P:=h
abbrev L8:=List UInt8
abbrev LL:=List (List UInt8)
end Go.Proofs.YtofgfpffcegioaaGreat
