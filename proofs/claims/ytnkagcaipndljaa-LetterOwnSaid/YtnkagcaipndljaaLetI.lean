/- The contracts of letter and of the document's answer, as a region's walk takes them. -/
import Derived.Test.YtnkagcaipndljaaLetH
namespace Go.Proofs.Ytnkagcaipndljaa
open Go.RowKit LetM
section
variable {w0 : World}
theorem c_at (fold : Bool) (text word : List UInt8) (place : Int) : ∀ b u x v w, Ext w0 w → VEq (.bool fold) b w → VBytes text u w → VEq (.int .i64 place) x w → VBytes word v w → Calls Try.prog 16 #[b, u, x, v] w (Ret w (VEq (.bool (standsB fold text place word)))) := fun b u x v w _ hb hu hx hv => by
  rw [show b = _ from hb, show x = _ from hx]; exact at_any fold text word place u v w hu hv
theorem c_rat (fold : Bool) (text word : List UInt8) (place : Int) (h : word.length ≤ 1000000) : ∀ b u x v w, Ext w0 w → VEq (.bool fold) b w → VBytes text u w → VEq (.int .i64 place) x w → VBytes word v w → Calls Try.prog 17 #[b, u, x, v] w (Ret w (VEq (.bool (standsB fold text place word)))) := fun b u x v w _ hb hu hx hv => by
  rw [show b = _ from hb, show x = _ from hx]; exact rat_any fold text word place u v w hu hv h
theorem c_which (fold : Bool) (text : List UInt8) (ws : List (List UInt8)) : ∀ b u v w, Ext w0 w → VEq (.bool fold) b w → VBytes text u w → VParts ws v w → Calls Try.prog 18 #[b, u, v] w (Ret w (VEq (.int .i64 (which fold text ws)))) := fun b u v w _ hb hu hv => by
  rw [show b = _ from hb]; exact which_any fold text ws u v w hu hv
theorem c_rwhich (fold : Bool) (text : List UInt8) (ws : List (List UInt8)) (h : text.length ≤ 1000000) (h2 : ∀ b ∈ ws, b.length ≤ 1000000) : ∀ b u v w, Ext w0 w → VEq (.bool fold) b w → VBytes text u w → VParts ws v w → Calls Try.prog 19 #[b, u, v] w (Ret w (VEq (.int .i64 (which fold text ws)))) := fun b u v w _ hb hu hv => by
  rw [show b = _ from hb]; exact rwhich_any fold text ws u v w hu hv h h2
theorem c_join (ps : List (List UInt8)) (h : ps.flatten.length ≤ 1000000) : ∀ v w, Ext w0 w → VParts ps v w → Calls Try.prog 20 #[v] w (Ret w (VBytes ps.flatten)) := fun v w _ hv =>
  (join_any ps v w hv h).mono fun _ _ ⟨u, h1, h2, h3⟩ => ⟨u, h1, h2, OwnB.bytes h3⟩
theorem c_rjoin (ps : List (List UInt8)) (h : ps.flatten.length ≤ 1000000) : ∀ v w, Ext w0 w → VParts ps v w → Calls Try.prog 21 #[v] w (Ret w (VBytes ps.flatten)) := fun v w _ hv =>
  (rjoin_any ps v w hv h).mono fun _ _ ⟨u, h1, h2, h3⟩ => ⟨u, h1, h2, OwnB.bytes h3⟩
theorem c_rfold (c : UInt8) : ∀ v w, Ext w0 w → VEq (byteV c) v w → Calls Try.prog 11 #[v] w (Ret w (VEq (byteV (foldC c)))) := fun v w _ hv => by rw [show v = _ from hv]; exact rfold_any c w
end
end Go.Proofs.Ytnkagcaipndljaa
