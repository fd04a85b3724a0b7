/- Sums of bytes, as plain mathematics: no program in sight. -/
namespace Go.Proofs.Ytggjkhldknppkaa.SumM

def rightB (a b : Int) : Bool := decide (0 ≤ a) && decide (a < 65521) && decide (0 ≤ b) && decide (b < 65521)
theorem rightB_iff (a b : Int) : rightB a b = true ↔ 0 ≤ a ∧ a < 65521 ∧ 0 ≤ b ∧ b < 65521 := by simp [rightB, and_assoc]
def fstep (s : Int × Int) (c : UInt8) : Int × Int := ((s.1 + c.toNat) % 65521, (s.2 + (s.1 + c.toNat) % 65521) % 65521)
def feedL (s : Int × Int) (bs : List UInt8) : Int × Int := bs.foldl fstep s
def feed (s : Int × Int) (bs : List UInt8) : Int × Int := if rightB s.1 s.2 then feedL s bs else s
def value (s : Int × Int) : Int := if rightB s.1 s.2 then s.2 * 65536 + s.1 else 0
def ofB (bs : List UInt8) : Int := value (feed (1, 0) bs)
def joinOk (a b : Int × Int) (n : Int) : Bool := rightB a.1 a.2 && rightB b.1 b.2 && decide (0 ≤ n) && decide (n ≤ 2147483647)
def join (a b : Int × Int) (n : Int) : Int × Int := if joinOk a b n then ((a.1 + b.1 - 1) % 65521, (a.2 + b.2 + n * a.1 - n) % 65521) else (0, 0)
def joinE (a b : Int × Int) (n : Int) : Int := if joinOk a b n then 0 else 2
def putB (v : Int) : List UInt8 := [UInt8.ofNat (v.toNat / 16777216), UInt8.ofNat (v.toNat / 65536), UInt8.ofNat (v.toNat / 256), UInt8.ofNat v.toNat]
def takeV (bs : List UInt8) : Int := if bs.length < 4 then 0 else ((bs.take 4).foldl (fun n (c : UInt8) => n * 256 + c.toNat) 0 : Nat)
def takeE (bs : List UInt8) : Int := if bs.length < 4 then 10 else 0

theorem feedL_nil (s : Int × Int) : feedL s [] = s := rfl
theorem feedL_snoc (s : Int × Int) (bs : List UInt8) (c : UInt8) : feedL s (bs ++ [c]) = fstep (feedL s bs) c := by simp [feedL, List.foldl_append]
theorem feedL_append (s : Int × Int) (bs cs : List UInt8) : feedL s (bs ++ cs) = feedL (feedL s bs) cs := by simp [feedL, List.foldl_append]
theorem fstep_right (s : Int × Int) (c : UInt8) : 0 ≤ (fstep s c).1 ∧ (fstep s c).1 < 65521 ∧ 0 ≤ (fstep s c).2 ∧ (fstep s c).2 < 65521 := by
  unfold fstep; dsimp only; omega
theorem feedL_right (s : Int × Int) (h : rightB s.1 s.2 = true) (bs : List UInt8) : 0 ≤ (feedL s bs).1 ∧ (feedL s bs).1 < 65521 ∧ 0 ≤ (feedL s bs).2 ∧ (feedL s bs).2 < 65521 := by
  induction bs generalizing s with
  | nil => exact (rightB_iff _ _).1 h
  | cons c bs ih => exact ih (fstep s c) ((rightB_iff _ _).2 (fstep_right s c))
theorem feed_right (s : Int × Int) (h : rightB s.1 s.2 = true) (bs : List UInt8) : rightB (feed s bs).1 (feed s bs).2 = true := by
  unfold feed; rw [if_pos h]; exact (rightB_iff _ _).2 (feedL_right s h bs)


/-- A sum goes on from a right sum as the sum of the rest from the start says. -/
theorem feedL_from (s : Int × Int) (ys : List UInt8) (h : rightB s.1 s.2 = true) : (feedL s ys).1 = (s.1 + (feedL (1, 0) ys).1 - 1) % 65521 ∧ (feedL s ys).2 = (s.2 + (feedL (1, 0) ys).2 + ys.length * s.1 - ys.length) % 65521 := by
  obtain ⟨h1, h2, h3, h4⟩ := (rightB_iff _ _).1 h
  suffices H : ∀ n, ys.length = n → (feedL s ys).1 = (s.1 + (feedL (1, 0) ys).1 - 1) % 65521 ∧ (feedL s ys).2 = (s.2 + (feedL (1, 0) ys).2 + ys.length * s.1 - ys.length) % 65521 from H _ rfl
  intro n
  induction n generalizing ys with
  | zero =>
    intro hn
    cases List.length_eq_zero_iff.1 hn
    simp only [feedL_nil, List.length_nil]
    omega
  | succ n ih =>
    intro hn
    obtain ⟨zs, c, rfl⟩ : ∃ zs c, ys = zs ++ [c] := ⟨ys.dropLast, ys.getLast (by intro h; simp [h] at hn), (List.dropLast_concat_getLast _).symm⟩
    have hz : zs.length = n := by simpa using hn
    obtain ⟨e1, e2⟩ := ih zs hz
    rw [feedL_snoc, feedL_snoc]
    unfold fstep
    dsimp only
    rw [e1, e2, List.length_append, List.length_singleton]
    generalize feedL (1, 0) zs = t
    obtain ⟨t1, t2⟩ := t
    have e3 : ((zs.length + 1 : Nat) : Int) * s.1 = zs.length * s.1 + s.1 := by rw [Int.natCast_add, Int.add_mul]; simp
    rw [e3]
    generalize (zs.length : Int) * s.1 = p
    simp only
    omega
theorem start_right : rightB (1 : Int) 0 = true := by decide
theorem feed_start (bs : List UInt8) : feed (1, 0) bs = feedL (1, 0) bs := if_pos start_right
theorem feed_of {s : Int × Int} (h : rightB s.1 s.2 = true) (bs : List UInt8) : feed s bs = feedL s bs := if_pos h
theorem feed_cut (bs : List UInt8) (k : Nat) : feed (feed (1, 0) (bs.take k)) (bs.drop k) = feed (1, 0) bs := by
  rw [feed_of (feed_right (1, 0) start_right _), feed_start, feed_start, ← feedL_append, List.take_append_drop]
theorem joinOk_cut (bs : List UInt8) (k : Nat) (hk : k ≤ bs.length) (hlen : bs.length ≤ 3000) : joinOk (feed (1, 0) (bs.take k)) (feed (1, 0) (bs.drop k)) ((bs.length : Int) - k) = true := by
  unfold joinOk
  rw [feed_right (1, 0) start_right, feed_right (1, 0) start_right]
  simp only [Bool.true_and, Bool.and_eq_true, decide_eq_true_eq]
  omega
theorem joinE_cut (bs : List UInt8) (k : Nat) (hk : k ≤ bs.length) (hlen : bs.length ≤ 3000) : joinE (feed (1, 0) (bs.take k)) (feed (1, 0) (bs.drop k)) ((bs.length : Int) - k) = 0 := if_pos (joinOk_cut bs k hk hlen)
theorem join_cut (bs : List UInt8) (k : Nat) (hk : k ≤ bs.length) (hlen : bs.length ≤ 3000) : join (feed (1, 0) (bs.take k)) (feed (1, 0) (bs.drop k)) ((bs.length : Int) - k) = feed (1, 0) bs := by
  unfold join
  rw [if_pos (joinOk_cut bs k hk hlen), ← feed_cut bs k]
  have hr := feed_right (1, 0) start_right (bs.take k)
  rw [feed_of hr]
  obtain ⟨e1, e2⟩ := feedL_from _ (bs.drop k) hr
  rw [feed_start (bs.drop k)]
  have hl : ((bs.length : Int) - k) = ((bs.drop k).length : Int) := by rw [List.length_drop]; omega
  rw [hl]
  exact Prod.ext e1.symm e2.symm

/-- The bytes of a text, together. -/
def total (bs : List UInt8) : Nat := (bs.map UInt8.toNat).sum
theorem feedL_total (s : Int × Int) (h0 : 0 ≤ s.1) (h1 : s.1 < 65521) (bs : List UInt8) : (feedL s bs).1 = (s.1 + total bs) % 65521 := by
  induction bs generalizing s with
  | nil => simp [feedL_nil, total]; omega
  | cons c bs ih =>
    have h2 := fstep_right s c
    have h3 := ih (fstep s c) h2.1 h2.2.1
    show (feedL (fstep s c) bs).1 = _
    rw [h3]
    unfold total fstep
    simp only [List.map_cons, List.sum_cons]
    omega
theorem total_set (bs : List UInt8) (i : Nat) (h : i < bs.length) (x : UInt8) : total (bs.set i x) + bs[i].toNat = total bs + x.toNat := by
  induction bs generalizing i with
  | nil => simp at h
  | cons c bs ih =>
    cases i with
    | zero => simp [total]; omega
    | succ i =>
      have := ih i (by simpa using h)
      simp only [total, List.set_cons_succ, List.map_cons, List.sum_cons, List.getElem_cons_succ] at this ⊢
      omega
theorem one_differs (bs : List UInt8) (i : Nat) (h : i < bs.length) (x : UInt8) (hx : x ≠ bs[i]) : (feed (1, 0) (bs.set i x)).1 ≠ (feed (1, 0) bs).1 := by
  rw [feed_start, feed_start, feedL_total _ (by decide) (by decide), feedL_total _ (by decide) (by decide)]
  have h1 := total_set bs i h x
  have h2 := x.toNat_lt
  have h3 := bs[i].toNat_lt
  have h4 : x.toNat ≠ bs[i].toNat := fun e => hx (UInt8.toNat_inj.1 e)
  omega
theorem value_eq {s t : Int × Int} (hs : rightB s.1 s.2 = true) (ht : rightB t.1 t.2 = true) : value s = value t ↔ s = t := by
  unfold value
  rw [if_pos hs, if_pos ht]
  obtain ⟨h1, h2, h3, h4⟩ := (rightB_iff _ _).1 hs
  obtain ⟨k1, k2, k3, k4⟩ := (rightB_iff _ _).1 ht
  constructor
  · intro h; exact Prod.ext (by omega) (by omega)
  · rintro rfl; rfl
theorem ofB_differs (bs : List UInt8) (i : Nat) (h : i < bs.length) (x : UInt8) (hx : x ≠ bs[i]) : ofB (bs.set i x) ≠ ofB bs := fun e =>
  one_differs bs i h x hx (congrArg Prod.fst ((value_eq (feed_right (1, 0) start_right _) (feed_right (1, 0) start_right _)).1 e))
theorem value_bound (s : Int × Int) : 0 ≤ value s ∧ value s < 4294967296 := by
  unfold value
  split
  · rename_i h; obtain ⟨h1, h2, h3, h4⟩ := (rightB_iff _ _).1 h; omega
  · omega

theorem putB_length (v : Int) : (putB v).length = 4 := rfl
theorem take_put (v : Int) (h0 : 0 ≤ v) (h1 : v < 4294967296) (bs : List UInt8) : takeV (putB v ++ bs) = v := by
  unfold takeV
  rw [if_neg (by simp [putB_length])]
  simp only [putB, List.cons_append, List.nil_append, List.take_succ_cons, List.take_zero, List.foldl_cons, List.foldl_nil, UInt8.toNat_ofNat']
  omega
theorem takeE_put (v : Int) (bs : List UInt8) : takeE (putB v ++ bs) = 0 := if_neg (by simp [putB_length])
theorem drop_put (v : Int) (bs : List UInt8) : (putB v ++ bs).drop 4 = bs := rfl
theorem takeE_short (v : Int) : takeE ((putB v).take 3) = 10 := if_pos (by simp [putB_length])

end Go.Proofs.Ytggjkhldknppkaa.SumM
