/- The peak hour: both packages find the first of the greatest percentages. -/
import Derived.Test.YtanedebkpcpknaaGood
namespace Go.Proofs.Ytanedebkpcpknaa
open Go.RowKit
set_option linter.unusedVariables false

/-- Where the first of the greatest of the numbers up to place k lies. -/
def pk (zs : List Int) : Nat → Nat
  | 0 => 0
  | k + 1 => if zs.getD (pk zs k) 0 < zs.getD (k + 1) 0 then k + 1 else pk zs k
def mx (zs : List Int) (k : Nat) : Int := zs.getD (pk zs k) 0
theorem pk_le (zs : List Int) : ∀ k, pk zs k ≤ k
  | 0 => Nat.le_refl 0
  | k + 1 => by have := pk_le zs k; unfold pk; split <;> omega
theorem pk_yes {zs : List Int} {k : Nat} (h : mx zs k < zs.getD (k + 1) 0) : pk zs (k + 1) = k + 1 := by unfold mx at h; rw [pk, if_pos h]
theorem pk_no {zs : List Int} {k : Nat} (h : ¬ mx zs k < zs.getD (k + 1) 0) : pk zs (k + 1) = pk zs k := by unfold mx at h; rw [pk, if_neg h]
theorem mx_next (zs : List Int) (k : Nat) : mx zs (k + 1) = max (mx zs k) (zs.getD (k + 1) 0) := by
  by_cases h : mx zs k < zs.getD (k + 1) 0
  · have : mx zs (k + 1) = zs.getD (k + 1) 0 := by show zs.getD (pk zs (k + 1)) 0 = _; rw [pk_yes h]
    omega
  · have : mx zs (k + 1) = mx zs k := by show zs.getD (pk zs (k + 1)) 0 = _; rw [pk_no h]; rfl
    omega
theorem mx_ge (zs : List Int) : ∀ k j, j ≤ k → zs.getD j 0 ≤ mx zs k
  | 0, j, h => by
    obtain rfl : j = 0 := by omega
    exact Int.le_refl _
  | k + 1, j, h => by
    rw [mx_next]
    by_cases e : j = k + 1
    · subst e; omega
    · have := mx_ge zs k j (by omega); omega
theorem pk_first (zs : List Int) : ∀ k j, j < pk zs k → zs.getD j 0 < mx zs k
  | 0, j, h => absurd h (by simp [pk])
  | k + 1, j, h => by
    by_cases e : mx zs k < zs.getD (k + 1) 0
    · have h1 := pk_yes e
      have := mx_ge zs k j (by omega)
      rw [mx_next]; omega
    · have h1 := pk_no e
      have := pk_first zs k j (by omega)
      rw [mx_next]; omega
theorem getD_some {zs : List Int} {k : Nat} {z : Int} (h : zs[k]? = some z) : zs.getD k 0 = z := by simp [h]
theorem at_two {w : World} {A : Option Addr} {n : Nat} {zs : List Int} (ha : Rd w 1 A n (intsV zs)) {i j : Nat} (hi : i < n) (hj : j < n) :
    ∃ b off x y, A = some ⟨b, off, none⟩ ∧ zs[i]? = some x ∧ zs[j]? = some y ∧ w.cell? ⟨b, off + i, none⟩ = some (.int .i64 x) ∧ w.cell? ⟨b, off + j, none⟩ = some (.int .i64 y) := by
  obtain ⟨b, off, u, rfl, _, hx, hc⟩ := ha.at1 hi
  obtain ⟨x, hz, rfl⟩ := ints_at hx
  obtain ⟨b', off', u', e, _, hx', hc'⟩ := ha.at1 hj
  obtain ⟨y, hz', rfl⟩ := ints_at hx'
  simp at e
  obtain ⟨rfl, rfl⟩ := e
  exact ⟨b, off, x, y, rfl, hz, hz', hc, hc'⟩

set_option maxHeartbeats 400000 in
theorem l6Peak_any (A : Option Addr) (n c : Nat) (zs : List Int) (w : World) (ha : Rd w 1 A n (intsV zs)) (h1 : 1 ≤ n) (hn : n ≤ 1048576) :
    Calls Try.prog 36 #[.slice A n c] w fun e w' => e = .returned (.int .i64 (pk zs (n - 1))) ∧ ∃ m, w' = w.drewN m := by
  go_enter Try.func36, Try.ntmps36
  go_wp2
  go_loopw [3, 4] (fun x i wr => ∃ k m : Nat, k + 1 ≤ n ∧ i = .int .i64 ((k + 1 : Nat) : Int) ∧ x = .int .i64 (pk zs k) ∧ wr = w.drewN m) (fun _ i _ => n - (intOf i).toNat)
  case atStart => exact ⟨0, 0, h1, rfl, rfl, rfl⟩
  case round =>
    obtain ⟨k, m, hk, rfl, rfl, rfl⟩ := hrel
    by_cases hlt : k + 1 < n
    · have hp := pk_le zs k
      obtain ⟨b, off, x, y, rfl, hx, hy, hc, hc'⟩ := at_two ha hlt (show pk zs k < n by omega)
      have ex := getD_some hx
      have ey : mx zs k = y := getD_some hy
      have HY := Lib.hid (fun h : y < x => pk_yes (zs := zs) (k := k) (by rw [ex, ey]; exact h))
      have HN := Lib.hid (fun h : ¬ y < x => pk_no (zs := zs) (k := k) (by rw [ex, ey]; exact h))
      have hi : ((k + 1 : Nat) : Int) < (n : Int) := by omega
      have h0 : (0 : Int) ≤ ((k + 1 : Nat) : Int) := by omega
      have hpi : ((pk zs k : Nat) : Int) < (n : Int) := by omega
      have hp0 : (0 : Int) ≤ ((pk zs k : Nat) : Int) := by omega
      clear hx hy ex ey ha h1
      generalize pk zs k = p at *
      generalize hK : k + 1 = K at *
      by_cases hlt2 : y < x
      · have HY2 := Lib.hid (HY.out hlt2)
        clear HY HN
        go_wp2_with fail
        go_quiet (fail)
        go_wp2
        go_roundw
        case rel => exact ⟨K, _, by omega, by go_num, by rw [HY2.out], rfl⟩
        case measure => simp [intOf]; omega
      · have HN2 := Lib.hid (HN.out hlt2)
        clear HY HN
        go_wp2_with fail
        go_quiet (fail)
        go_wp2
        go_roundw
        case rel => exact ⟨K, _, by omega, by go_num, by rw [HN2.out], rfl⟩
        case measure => simp [intOf]; omega
    · obtain rfl : n = k + 1 := by omega
      go_wp2
      go_ret
      exact ⟨ret_int (by simp), m, rfl⟩

set_option maxHeartbeats 400000 in
theorem maxOf_any (A : Option Addr) (n c : Nat) (zs : List Int) (w : World) (ha : Rd w 1 A n (intsV zs)) (h1 : 1 ≤ n) (hn : n ≤ 1048576) :
    Calls Try.prog 37 #[.slice A n c] w fun e w' => e = .returned (.int .i64 (mx zs (n - 1))) ∧ w = w' := by
  go_enter Try.func37, Try.ntmps37
  obtain ⟨b0, off0, x0, y0, hA, hx0, _, hc0, _⟩ := at_two ha h1 h1
  subst hA
  have ex0 : mx zs 0 = x0 := getD_some hx0
  have hge : ¬ ((n : Int) < 1) := by omega
  rw [Nat.add_zero] at hc0
  go_wp2
  go_loop [3, 4] (fun x i => ∃ k : Nat, k + 1 ≤ n ∧ i = .int .i64 ((k + 1 : Nat) : Int) ∧ x = .int .i64 (mx zs k)) (fun _ i => n - (intOf i).toNat)
  case atStart => exact ⟨0, h1, rfl, by rw [ex0]⟩
  case round =>
    obtain ⟨k, hk, rfl, rfl⟩ := hrel
    by_cases hlt : k + 1 < n
    · obtain ⟨b, off, x, y, hA, hx, hy, hc, hc'⟩ := at_two ha hlt h1
      simp at hA
      obtain ⟨rfl, rfl⟩ := hA
      have HM := Lib.hid (mx_next zs k)
      have ex := Lib.hid (getD_some hx)
      have hi : ((k + 1 : Nat) : Int) < (n : Int) := by omega
      have h0 : (0 : Int) ≤ ((k + 1 : Nat) : Int) := by omega
      clear hx hy ha h1 ex0 hx0 hc0 hc'
      generalize mx zs k = M at *
      generalize hK : k + 1 = K at *
      go_wp2
      go_round
      case rel => exact ⟨K, by omega, by go_num, by rw [HM.out, ex.out]; congr 1; split <;> omega⟩
      case measure => simp [intOf]; omega
    · obtain rfl : n = k + 1 := by omega
      go_wp2
      go_ret
      exact ⟨ret_int (by simp), rfl⟩

set_option maxHeartbeats 400000 in
theorem indexOf_any (A : Option Addr) (n c : Nat) (zs : List Int) (w : World) (ha : Rd w 1 A n (intsV zs)) (h1 : 1 ≤ n) (hn : n ≤ 1048576) :
    Calls Try.prog 38 #[.slice A n c, .int .i64 (mx zs (n - 1))] w fun e w' => e = .returned (.int .i64 (pk zs (n - 1))) ∧ w = w' := by
  have hp := pk_le zs (n - 1)
  have HF := Lib.hid (pk_first zs (n - 1))
  have HE : Hid (zs.getD (pk zs (n - 1)) 0 = mx zs (n - 1)) := Lib.hid rfl
  generalize mx zs (n - 1) = M at *
  generalize pk zs (n - 1) = p at *
  go_enter Try.func38, Try.ntmps38
  go_wp2
  go_loop [8] (fun i => ∃ k : Nat, k ≤ p ∧ i = .int .i64 k) (fun i => n - (intOf i).toNat)
  case atStart => exact ⟨0, Nat.zero_le _, rfl⟩
  case round =>
    obtain ⟨k, hk, rfl⟩ := hrel
    obtain ⟨b, off, x, y, rfl, hx, _, hc, _⟩ := at_two ha (show k < n by omega) h1
    have ex := getD_some hx
    have hi : (k : Int) < (n : Int) := by omega
    have h0 : (0 : Int) ≤ (k : Int) := by omega
    by_cases e : k = p
    · subst e
      have hM : x = M := by rw [← ex]; exact HE.out
      subst hM
      clear hx ha ex
      go_wp2
      go_ret
      exact ⟨rfl, rfl⟩
    · have hM : ¬ (M = x) := by have := HF.out k (by omega); omega
      have hb : (M == x) = false := by simpa using hM
      clear hx ha ex
      go_wp2
      go_round
      case rel => exact ⟨k + 1, by omega, by go_num⟩
      case measure => simp [intOf]; omega

def PeakHour_v0 (zs : List Int) : Int := if goodP zs then (pk zs 23 : Int) else 0
def PeakHour_v1 (zs : List Int) : Int := if goodP zs then mx zs 23 else 0
def PeakHour_v2 (zs : List Int) : Bool := goodP zs
theorem good_len {zs : List Int} (h : goodP zs = true) : zs.length = 24 ∧ allIn zs = true := by unfold goodP at h; simp at h; exact ⟨h.1, h.2.1⟩

set_option maxHeartbeats 400000 in
theorem PeakHour_spec (A : Option Addr) (n c : Nat) (zs : List Int) (w : World) (ha : Rd w 1 A n (intsV zs)) (hn : n ≤ 1048576) :
    Calls Try.prog 24 #[.agg #[.slice A n c]] w fun e w' => e = .returned (.tuple #[.int .i64 (PeakHour_v0 zs), .int .i64 (PeakHour_v1 zs), .bool (PeakHour_v2 zs)]) ∧ Below w.heap.size w w' := by
  have hg := fun W (h : Rd W 1 A n (intsV zs)) => l6Good_any A n c zs W h hn
  have hlen : zs.length = n := by have := ha.1; rw [ints_len] at this; omega
  have Ha := Lib.hid ha
  clear ha
  rcases Bool.eq_false_or_eq_true (goodP zs) with h | h
  · obtain rfl : n = 24 := by have := (good_len h).1; omega
    rw [h] at hg
    have e0 : PeakHour_v0 zs = (pk zs 23 : Int) := if_pos h
    have e1 : PeakHour_v1 zs = mx zs 23 := if_pos h
    have e2 : PeakHour_v2 zs = true := h
    rw [e0, e1, e2]
    have Hg := Lib.hid hg
    have Hp := Lib.hid (fun W (hW : Rd W 1 A 24 (intsV zs)) => l6Peak_any A 24 c zs W hW (by omega) (by omega))
    clear hg e0 e1 e2 h
    go_enter Try.func24, Try.ntmps24
    go_wp2_with fail
    refine (Hg.out _ (Ha.out.kept (below_a1 _ _))).mono ?_
    rintro e w1 ⟨rfl, b1⟩
    have hc := keeps b1
    have c1 := below_step (below_a1 _ _) b1 (by simp)
    have q1 : w.heap.size < w1.heap.size := by have := b1.size; simp at this; omega
    go_wp2_with fail
    refine (Hp.out _ (Ha.out.kept c1)).mono ?_
    rintro e w' ⟨rfl, m, rfl⟩
    have hp := pk_le zs 23
    have ey : zs.getD (pk zs 23) 0 = mx zs 23 := rfl
    simp only [show (24 : Nat) - 1 = 23 from rfl]
    obtain ⟨b, off, x, y, rfl, hx, _, hd, _⟩ := at_two (Ha.out.kept c1) (show pk zs 23 < 24 by omega) (show 0 < 24 by omega)
    rw [getD_some hx] at ey
    have EY := Lib.hid ey
    have hpi : ((pk zs 23 : Nat) : Int) < 24 := by omega
    have hp0 : (0 : Int) ≤ ((pk zs 23 : Nat) : Int) := by omega
    have hcell : w1.cell? ⟨w.heap.size, 0, none⟩ = some (.slice (some ⟨b, off, none⟩) 24 c) := (hc _ _ (by simp)).trans (by simp [go_sem])
    have hcw : w.cell? ⟨b, off, none⟩ = w.cell? ⟨b, off, none⟩ := rfl
    clear hc ey hx hcw
    go_wp2_with fail
    go_quiet (fail)
    go_wp2
    go_ret3
    exact ⟨congrArg (fun z => Ending.returned (.tuple #[.int .i64 (pk zs 23 : Int), .int .i64 z, .bool true])) EY.out, below_drewN (below_drewN c1 _) _⟩
  · rw [h] at hg
    have e0 : PeakHour_v0 zs = 0 := by simp [PeakHour_v0, h]
    have e1 : PeakHour_v1 zs = 0 := by simp [PeakHour_v1, h]
    have e2 : PeakHour_v2 zs = false := h
    rw [e0, e1, e2]
    have Hg := Lib.hid hg
    clear hg e0 e1 e2 h
    go_enter Try.func24, Try.ntmps24
    go_wp2_with fail
    refine (Hg.out _ (Ha.out.kept (below_a1 _ _))).mono ?_
    rintro e w1 ⟨rfl, b1⟩
    go_wp2
    go_ret3
    exact ⟨rfl, below_step (below_a1 _ _) b1 (by simp)⟩

set_option maxHeartbeats 400000 in
theorem PeakHour_impl (A : Option Addr) (n c : Nat) (zs : List Int) (w : World) (ha : Rd w 1 A n (intsV zs)) (hn : n ≤ 1048576) :
    Calls Try.prog 25 #[.agg #[.slice A n c]] w fun e w' => e = .returned (.tuple #[.int .i64 (PeakHour_v0 zs), .int .i64 (PeakHour_v1 zs), .bool (PeakHour_v2 zs)]) ∧ Below w.heap.size w w' := by
  have hg := fun W (h : Rd W 1 A n (intsV zs)) => IsValidProfile_impl A n c zs W h hn
  unfold IsValidProfile_v0 at hg
  have hlen : zs.length = n := by have := ha.1; rw [ints_len] at this; omega
  have Ha := Lib.hid ha
  clear ha
  rcases Bool.eq_false_or_eq_true (goodP zs) with h | h
  · obtain rfl : n = 24 := by have := (good_len h).1; omega
    rw [h] at hg
    have e0 : PeakHour_v0 zs = (pk zs 23 : Int) := if_pos h
    have e1 : PeakHour_v1 zs = mx zs 23 := if_pos h
    have e2 : PeakHour_v2 zs = true := h
    rw [e0, e1, e2]
    have Hg := Lib.hid hg
    have hm := fun W (hW : Rd W 1 A 24 (intsV zs)) => maxOf_any A 24 c zs W hW (by omega) (by omega)
    have hi := fun W (hW : Rd W 1 A 24 (intsV zs)) => indexOf_any A 24 c zs W hW (by omega) (by omega)
    simp only [show (24 : Nat) - 1 = 23 from rfl] at hm hi
    generalize pk zs 23 = p at *
    generalize mx zs 23 = M at *
    have Hm := Lib.hid hm
    have Hi := Lib.hid hi
    clear hg e0 e1 e2 h hm hi
    go_enter Try.func25, Try.ntmps25
    go_wp2_with fail
    refine (Hg.out _ (Ha.out.kept (below_a1 _ _))).mono ?_
    rintro e w1 ⟨rfl, b1⟩
    have hc := keeps b1
    have c1 := below_step (below_a1 _ _) b1 (by simp)
    go_wp2_with fail
    refine (Hm.out _ (Ha.out.kept c1)).mono ?_
    rintro e w' ⟨rfl, rfl⟩
    go_wp2_with fail
    refine (Hi.out _ (Ha.out.kept c1)).mono ?_
    rintro e w' ⟨rfl, rfl⟩
    go_wp2
    go_ret3
    exact ⟨rfl, c1⟩
  · rw [h] at hg
    have e0 : PeakHour_v0 zs = 0 := by simp [PeakHour_v0, h]
    have e1 : PeakHour_v1 zs = 0 := by simp [PeakHour_v1, h]
    have e2 : PeakHour_v2 zs = false := h
    rw [e0, e1, e2]
    have Hg := Lib.hid hg
    clear hg e0 e1 e2 h
    go_enter Try.func25, Try.ntmps25
    go_wp2_with fail
    refine (Hg.out _ (Ha.out.kept (below_a1 _ _))).mono ?_
    rintro e w1 ⟨rfl, b1⟩
    go_wp2
    go_ret3
    exact ⟨rfl, below_step (below_a1 _ _) b1 (by simp)⟩

end Go.Proofs.Ytanedebkpcpknaa
