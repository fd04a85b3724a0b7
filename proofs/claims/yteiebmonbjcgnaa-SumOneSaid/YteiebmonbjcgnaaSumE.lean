/- The contracts of sums, as a region's walk takes them. -/
import Derived.Test.YteiebmonbjcgnaaSumD
import Derived.Test.YteiebmonbjcgnaaSumG
namespace Go.Proofs.Yteiebmonbjcgnaa
open Go.RowKit Go.Shelf SumM

section
variable {w0 : World}
theorem c_new : ∀ w, Ext w0 w → Calls Try.prog 21 #[] w (Ret w (VEq (pairV (1, 0)))) := fun w _ => new_any w
theorem c_rnew : ∀ w, Ext w0 w → Calls Try.prog 22 #[] w (Ret w (VEq (pairV (1, 0)))) := fun w _ => rnew_any w
theorem c_feed (s : Int × Int) (ps : List (List UInt8)) : ∀ u v w, Ext w0 w → VEq (pairV s) u w → VParts ps v w → Calls Try.prog 13 #[u, v] w (Ret w (VEq (pairV (feed s ps.flatten)))) := fun u v w _ hu hv => by
  rw [show u = _ from hu]; exact feed_pair s ps v w hv
theorem c_rfeed (s : Int × Int) (ps : List (List UInt8)) : ∀ u v w, Ext w0 w → VEq (pairV s) u w → VParts ps v w → Calls Try.prog 14 #[u, v] w (Ret w (VEq (pairV (feed s ps.flatten)))) := fun u v w _ hu hv => by
  rw [show u = _ from hu]; exact rfeed_pair s ps v w hv
theorem c_join (s t : Int × Int) (n : Int) : ∀ u v x w, Ext w0 w → VEq (pairV s) u w → VEq (pairV t) v w → VEq (.int .i64 n) x w → Calls Try.prog 9 #[u, v, x] w (Ret w (VTup [VEq (pairV (join s t n)), VEq (.int .i64 (joinE s t n))])) := fun u v x w _ hu hv hx => by
  rw [show u = _ from hu, show v = _ from hv, show x = _ from hx]; exact join_any s.1 s.2 t.1 t.2 n w
theorem c_rjoin (s t : Int × Int) (n : Int) : ∀ u v x w, Ext w0 w → VEq (pairV s) u w → VEq (pairV t) v w → VEq (.int .i64 n) x w → Calls Try.prog 10 #[u, v, x] w (Ret w (VTup [VEq (pairV (join s t n)), VEq (.int .i64 (joinE s t n))])) := fun u v x w _ hu hv hx => by
  rw [show u = _ from hu, show v = _ from hv, show x = _ from hx]; exact rjoin_any s.1 s.2 t.1 t.2 n w
theorem c_value (s : Int × Int) : ∀ u w, Ext w0 w → VEq (pairV s) u w → Calls Try.prog 15 #[u] w (Ret w (VEq (.int .u32 (value s)))) := fun u w _ hu => by
  rw [show u = _ from hu]; exact value_pair s w
theorem c_rvalue (s : Int × Int) : ∀ u w, Ext w0 w → VEq (pairV s) u w → Calls Try.prog 16 #[u] w (Ret w (VEq (.int .u32 (value s)))) := fun u w _ hu => by
  rw [show u = _ from hu]; exact rvalue_pair s w
theorem c_right (s : Int × Int) : ∀ u w, Ext w0 w → VEq (pairV s) u w → Calls Try.prog 19 #[u] w (Ret w (VEq (.bool (rightB s.1 s.2)))) := fun u w _ hu => by
  rw [show u = _ from hu]; exact right_any s.1 s.2 w
theorem c_rright (s : Int × Int) : ∀ u w, Ext w0 w → VEq (pairV s) u w → Calls Try.prog 20 #[u] w (Ret w (VEq (.bool (rightB s.1 s.2)))) := fun u w _ hu => by
  rw [show u = _ from hu]; exact rright_any s.1 s.2 w
theorem c_of (ps : List (List UInt8)) : ∀ v w, Ext w0 w → VParts ps v w → Calls Try.prog 17 #[v] w (Ret w (VEq (.int .u32 (ofB ps.flatten)))) := fun v w _ hv => of_any ps v w hv
theorem c_rof (ps : List (List UInt8)) : ∀ v w, Ext w0 w → VParts ps v w → Calls Try.prog 18 #[v] w (Ret w (VEq (.int .u32 (ofB ps.flatten)))) := fun v w _ hv => rof_any ps v w hv
theorem c_put (n : Int) (h0 : 0 ≤ n) (h1 : n < 4294967296) : ∀ v w, Ext w0 w → VEq (.int .u32 n) v w → Calls Try.prog 23 #[v] w (Ret w (VBytes (putB n))) := fun v w _ hv => by
  rw [show v = _ from hv]; exact put_any n h0 h1 w
theorem c_rput (n : Int) (h0 : 0 ≤ n) (h1 : n < 4294967296) : ∀ v w, Ext w0 w → VEq (.int .u32 n) v w → Calls Try.prog 24 #[v] w (Ret w (VBytes (putB n))) := fun v w _ hv => by
  rw [show v = _ from hv]; exact rput_any n h0 h1 w
theorem c_take (bs : List UInt8) (hlen : bs.length ≤ 1000000) : ∀ v w, Ext w0 w → VBytes bs v w → Calls Try.prog 11 #[v] w (Ret w (VTup [VEq (.int .u32 (takeV bs)), VBytes (bs.drop 4), VEq (.int .i64 (takeE bs))])) := fun v w _ hv => take_any bs v w hv hlen
theorem c_rtake (bs : List UInt8) (hlen : bs.length ≤ 1000000) : ∀ v w, Ext w0 w → VBytes bs v w → Calls Try.prog 12 #[v] w (Ret w (VTup [VEq (.int .u32 (takeV bs)), VBytes (bs.drop 4), VEq (.int .i64 (takeE bs))])) := fun v w _ hv => rtake_any bs v w hv hlen
end
end Go.Proofs.Yteiebmonbjcgnaa
