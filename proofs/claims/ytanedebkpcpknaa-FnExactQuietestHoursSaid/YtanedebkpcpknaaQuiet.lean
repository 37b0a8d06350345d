/- The quietest hours: both packages find the first start of the least sum. -/
import Derived.Test.YtanedebkpcpknaaGood
import Derived.Deep.RegionHeld3
namespace Go.Proofs.Ytanedebkpcpknaa
open Go.RowKit
set_option linter.unusedVariables false

/-- The sum of h hours from a start on, around the day. -/
def sumF (zs : List Int) (s : Nat) : Nat → Int
  | 0 => 0
  | k + 1 => sumF zs s k + zs.getD ((s + k) % 24) 0
theorem sumF_next (zs : List Int) (s k : Nat) : sumF zs s (k + 1) = sumF zs s k + zs.getD ((s + k) % 24) 0 := rfl
theorem day_bd {zs : List Int} (ha : allIn zs = true) (hl : zs.length = 24) (j : Nat) : 0 ≤ zs.getD (j % 24) 0 ∧ zs.getD (j % 24) 0 ≤ 1000 := by
  have hj : j % 24 < zs.length := by omega
  have h := List.getElem?_eq_getElem hj
  have := allIn_at h ha
  simpa [h] using this
theorem sumF_bd {zs : List Int} (ha : allIn zs = true) (hl : zs.length = 24) (s : Nat) : ∀ k, 0 ≤ sumF zs s k ∧ sumF zs s k ≤ 1000 * (k : Int)
  | 0 => by simp [sumF]
  | k + 1 => by
    have h1 := sumF_bd ha hl s k
    have h2 := day_bd ha hl (s + k)
    rw [sumF_next]; omega
/-- The first of the starts below k whose sum is least. -/
def bq (zs : List Int) (h : Nat) : Nat → Nat
  | 0 => 0
  | k + 1 => if sumF zs k h < sumF zs (bq zs h k) h then k else bq zs h k
theorem bq_yes {zs : List Int} {h k : Nat} (e : sumF zs k h < sumF zs (bq zs h k) h) : bq zs h (k + 1) = k := if_pos e
theorem bq_no {zs : List Int} {h k : Nat} (e : ¬ sumF zs k h < sumF zs (bq zs h k) h) : bq zs h (k + 1) = bq zs h k := if_neg e
theorem bq_lt (zs : List Int) (h : Nat) : ∀ k, k ≤ 24 → bq zs h k < 24
  | 0, _ => by simp [bq]
  | k + 1, hk => by
    have := bq_lt zs h k (by omega)
    unfold bq; split <;> omega
def QuietestHours_v0 (zs : List Int) (h : Int) : Int := if goodP zs && inB h 1 24 then (bq zs h.toNat 24 : Int) else 0
def QuietestHours_v1 (zs : List Int) (h : Int) : Int := if goodP zs && inB h 1 24 then sumF zs (bq zs h.toNat 24) h.toNat else 0
def QuietestHours_v2 (zs : List Int) (h : Int) : Bool := goodP zs && inB h 1 24
theorem good_len2 {zs : List Int} (h : goodP zs = true) : zs.length = 24 ∧ allIn zs = true := by unfold goodP at h; simp at h; exact ⟨h.1, h.2.1⟩

set_option maxHeartbeats 400000 in
theorem l6Sum_any (A : Option Addr) (c : Nat) (zs : List Int) (s h : Nat) (w : World) (ha : Rd w 1 A 24 (intsV zs)) (hs : s < 24) (hh : h ≤ 24) (hall : allIn zs = true) :
    Calls Try.prog 34 #[.agg #[.slice A 24 c], .int .i64 s, .int .i64 h] w fun e w' => e = .returned (.int .i64 (sumF zs s h)) ∧ Below w.heap.size w w' := by
  have hlen : zs.length = 24 := by have := ha.1; rw [ints_len] at this; omega
  have HB := Lib.hid (sumF_bd hall hlen s)
  have HD := Lib.hid (day_bd hall hlen)
  have Ha := Lib.hid (fun w' (hb : Below w.heap.size w w') => ha.kept hb)
  have HN := Lib.hid (sumF_next zs s)
  clear hlen ha hall
  go_enter Try.func34, Try.ntmps34
  go_wp2
  go_loop [7, 8] (fun x i => ∃ k : Nat, k ≤ h ∧ i = .int .i64 k ∧ x = .int .i64 (sumF zs s k)) (fun _ i => h - (intOf i).toNat)
  case atStart => exact ⟨0, Nat.zero_le _, rfl, rfl⟩
  case round =>
    obtain ⟨k, hk, rfl, rfl⟩ := hrel
    by_cases hlt : k < h
    · obtain ⟨b, off, u, rfl, _, hx, hc⟩ := (Ha.out (w.alloc (.cells #[.slice A 24 c] 24)) (below_a1 _ _)).at1 (show (s + k) % 24 < 24 by omega)
      obtain ⟨z, hz, rfl⟩ := ints_at hx
      have ez : zs.getD ((s + k) % 24) 0 = z := by simp [hz]
      have h1 := HB.out k
      have h2 := HD.out (s + k)
      have hn := HN.out k
      rw [ez] at h2 hn
      have HN2 := Lib.hid hn
      have hb0 := h1.1
      have hb1 : sumF zs s k ≤ 24000 := by have := h1.2; omega
      have hz0 := h2.1
      have hz1 := h2.2
      have w1 : IntKind.i64.wrap ((s : Int) + (k : Int)) = (s : Int) + (k : Int) := IntWalk.i64_in _ (by omega)
      have hm : ((s : Int) + (k : Int)).tmod 24 = (((s + k) % 24 : Nat) : Int) := by rw [← Int.natCast_add, Int.tmod_eq_emod_of_nonneg (by omega)]; omega
      have hm0 : (0 : Int) ≤ (((s + k) % 24 : Nat) : Int) := by omega
      have hm1 : (((s + k) % 24 : Nat) : Int) < 24 := by omega
      have hlt2 : (k : Int) < (h : Int) := by omega
      clear hx hz ez h1 h2 hn HB HD HN
      generalize sumF zs s k = S at *
      generalize (s + k) % 24 = J at *
      go_wp2
      go_round
      case rel => exact ⟨k + 1, by omega, by go_num, by rw [HN2.out]⟩
      case measure => simp [intOf]; omega
    · obtain rfl : k = h := by omega
      go_wp2
      go_ret
      exact ⟨rfl, below_a1 _ _⟩

set_option maxHeartbeats 400000 in
theorem sumFrom_any (A : Option Addr) (c : Nat) (zs : List Int) (s h : Nat) (w : World) (ha : Rd w 1 A 24 (intsV zs)) (hs : s < 24) (hh : h ≤ 24) (hall : allIn zs = true) :
    Calls Try.prog 35 #[.agg #[.slice A 24 c], .int .i64 s, .int .i64 h] w fun e w' => e = .returned (.int .i64 (sumF zs s h)) ∧ Below w.heap.size w w' := by
  have hlen : zs.length = 24 := by have := ha.1; rw [ints_len] at this; omega
  have HB := Lib.hid (sumF_bd hall hlen s)
  have HD := Lib.hid (day_bd hall hlen)
  have Ha := Lib.hid (fun w' (hb : Below w.heap.size w w') => ha.kept hb)
  have HN := Lib.hid (sumF_next zs s)
  clear hlen ha hall
  go_enter Try.func35, Try.ntmps35
  go_wp2
  go_loop [7, 10] (fun x i => ∃ k : Nat, k ≤ h ∧ i = .int .i64 k ∧ x = .int .i64 (sumF zs s k)) (fun _ i => h - (intOf i).toNat)
  case atStart => exact ⟨0, Nat.zero_le _, rfl, rfl⟩
  case round =>
    obtain ⟨k, hk, rfl, rfl⟩ := hrel
    by_cases hlt : k < h
    · obtain ⟨b, off, u, rfl, _, hx, hc⟩ := (Ha.out (w.alloc (.cells #[.slice A 24 c] 24)) (below_a1 _ _)).at1 (show (s + k) % 24 < 24 by omega)
      obtain ⟨z, hz, rfl⟩ := ints_at hx
      have ez : zs.getD ((s + k) % 24) 0 = z := by simp [hz]
      have h1 := HB.out k
      have h2 := HD.out (s + k)
      have hn := HN.out k
      rw [ez] at h2 hn
      have HN2 := Lib.hid hn
      have hb0 := h1.1
      have hb1 : sumF zs s k ≤ 24000 := by have := h1.2; omega
      have hz0 := h2.1
      have hz1 := h2.2
      have w1 : IntKind.i64.wrap ((s : Int) + (k : Int)) = (s : Int) + (k : Int) := IntWalk.i64_in _ (by omega)
      have hm : ((s : Int) + (k : Int)).tmod 24 = (((s + k) % 24 : Nat) : Int) := by rw [← Int.natCast_add, Int.tmod_eq_emod_of_nonneg (by omega)]; omega
      have hm0 : (0 : Int) ≤ (((s + k) % 24 : Nat) : Int) := by omega
      have hm1 : (((s + k) % 24 : Nat) : Int) < 24 := by omega
      have hlt2 : (k : Int) < (h : Int) := by omega
      clear hx hz ez h1 h2 hn HB HD HN
      generalize sumF zs s k = S at *
      generalize (s + k) % 24 = J at *
      go_wp2
      go_round
      case rel => exact ⟨k + 1, by omega, by go_num, by rw [HN2.out]⟩
      case measure => simp [intOf]; omega
    · obtain rfl : k = h := by omega
      go_wp2
      go_ret
      exact ⟨rfl, below_a1 _ _⟩

set_option maxRecDepth 100000 in
set_option maxHeartbeats 1000000 in
theorem QuietestHours_spec (A : Option Addr) (n c : Nat) (zs : List Int) (h : Int) (w : World) (ha : Rd w 1 A n (intsV zs)) (hn : n ≤ 1048576) :
    Calls Try.prog 17 #[.agg #[.slice A n c], .int .i64 h] w fun e w' => e = .returned (.tuple #[.int .i64 (QuietestHours_v0 zs h), .int .i64 (QuietestHours_v1 zs h), .bool (QuietestHours_v2 zs h)]) ∧ Below w.heap.size w w' := by
  have hg := fun W (h : Rd W 1 A n (intsV zs)) => l6Good_any A n c zs W h hn
  skip
  have hlen : zs.length = n := by have := ha.1; rw [ints_len] at this; omega
  have Ha := Lib.hid ha
  clear ha
  rcases Bool.eq_false_or_eq_true (goodP zs) with hgood | hgood
  · obtain rfl : n = 24 := by have := (good_len2 hgood).1; omega
    rw [hgood] at hg
    have Hg := Lib.hid hg
    have hi := l1In_any h 1 24
    rcases Bool.eq_false_or_eq_true (inB h 1 24) with hh | hh
    · obtain ⟨m, rfl⟩ : ∃ m : Nat, h = m := ⟨h.toNat, by have := inB_yes.1 hh; omega⟩
      have hm1 : 1 ≤ m := by have := inB_yes.1 hh; omega
      have hm2 : m ≤ 24 := by have := inB_yes.1 hh; omega
      have e0 : QuietestHours_v0 zs m = (bq zs m 24 : Int) := by simp [QuietestHours_v0, hgood, hh]
      have e1 : QuietestHours_v1 zs m = sumF zs (bq zs m 24) m := by simp [QuietestHours_v1, hgood, hh]
      have e2 : QuietestHours_v2 zs m = true := by simp [QuietestHours_v2, hgood, hh]
      rw [e0, e1, e2]
      rw [hh] at hi
      have Hi := Lib.hid hi
      have Hs := Lib.hid (fun s (hs : s < 24) W (hW : Rd W 1 A 24 (intsV zs)) => l6Sum_any A c zs s m W hW hs hm2 (good_len2 hgood).2)
      clear hg hi e0 e1 e2 hgood hh hlen
      go_enter Try.func17, Try.ntmps17
      go_wp2_with fail
      refine (Hg.out _ (Ha.out.kept (below_a1 _ _))).mono ?_
      rintro e w1 ⟨rfl, b1⟩
      have c1 := below_step (below_a1 _ _) b1 (by simp)
      have hcell1 : w1.cell? ⟨w.heap.size, 0, none⟩ = some (.slice A 24 c) := (keeps b1 _ _ (by simp)).trans (by simp [go_sem])
      go_wp2_with fail
      refine (Hi.out _).mono ?_
      rintro e w' ⟨rfl, rfl⟩
      go_wp2
      go_loopw [7, 8] (fun x i wr => ∃ k : Nat, 1 ≤ k ∧ k ≤ 24 ∧ i = .int .i64 k ∧ x = .int .i64 (bq zs m k) ∧ wr.cell? ⟨w.heap.size, 0, none⟩ = some (.slice A 24 c) ∧ Below w.heap.size w wr) (fun _ i _ => 24 - (intOf i).toNat)
      case atStart => exact ⟨1, by omega, by omega, rfl, by simp [bq], hcell1, c1⟩
      case round =>
        obtain ⟨k, hk0, hk, rfl, rfl, hcell, hbel⟩ := hrel
        clear hcell1
        by_cases hlt : k < 24
        · have H1 := Lib.hid (Hs.out k hlt)
          have H2 := Lib.hid (Hs.out (bq zs m k) (bq_lt zs m k hk))
          have HY := Lib.hid (fun e => bq_yes (zs := zs) (h := m) (k := k) e)
          have HN := Lib.hid (fun e => bq_no (zs := zs) (h := m) (k := k) e)
          generalize hB : bq zs m k = B at H1 H2 HY HN ⊢
          generalize sumF zs k m = S1 at H1 H2 HY HN
          generalize sumF zs B m = S2 at H1 H2 HY HN
          clear hB
          by_cases hlt2 : S1 < S2
          · have HY2 := Lib.hid (HY.out hlt2)
            clear HY HN
            go_wp2_with fail
            go_region_held3 (fun w' => w'.cell? ⟨w.heap.size, 0, none⟩ = some (.slice A 24 c) ∧ Below wr.heap.size wr w') (first | (go_split_ands; refine held1 hcell ?_; first | exact (Below.refl _ _).drew | exact also (by assumption) (by assumption) | exact below_drewN (by assumption) _)) (first | (go_at_call 34; (first | (with_reducible refine (H1.out _ (Ha.out.kept (also hbel (by first | exact (Below.refl _ _).drew | (go_split_ands; assumption))))).mono ?_) | (with_reducible refine (H2.out _ (Ha.out.kept (also hbel (by first | exact (Below.refl _ _).drew | (go_split_ands; assumption))))).mono ?_)); rintro e w3 ⟨rfl, b3⟩))
            rename_i hS
            obtain ⟨hc2, hb2⟩ := hS
            go_wp2
            go_roundw
            case rel => exact ⟨k + 1, by omega, by omega, by go_num, by rw [HY2.out], hc2, also hbel hb2⟩
            case measure => simp [intOf]; omega
          · have HN2 := Lib.hid (HN.out hlt2)
            clear HY HN
            go_wp2_with fail
            go_region_held3 (fun w' => w'.cell? ⟨w.heap.size, 0, none⟩ = some (.slice A 24 c) ∧ Below wr.heap.size wr w') (first | (go_split_ands; refine held1 hcell ?_; first | exact (Below.refl _ _).drew | exact also (by assumption) (by assumption) | exact below_drewN (by assumption) _)) (first | (go_at_call 34; (first | (with_reducible refine (H1.out _ (Ha.out.kept (also hbel (by first | exact (Below.refl _ _).drew | (go_split_ands; assumption))))).mono ?_) | (with_reducible refine (H2.out _ (Ha.out.kept (also hbel (by first | exact (Below.refl _ _).drew | (go_split_ands; assumption))))).mono ?_)); rintro e w3 ⟨rfl, b3⟩))
            rename_i hS
            obtain ⟨hc2, hb2⟩ := hS
            go_wp2
            go_roundw
            case rel => exact ⟨k + 1, by omega, by omega, by go_num, by rw [HN2.out], hc2, also hbel hb2⟩
            case measure => simp [intOf]; omega
        · obtain rfl : k = 24 := by omega
          have H2 := Lib.hid (Hs.out (bq zs m 24) (bq_lt zs m 24 hk))
          go_wp2_with fail
          refine (H2.out _ (Ha.out.kept hbel)).mono ?_
          rintro e w3 ⟨rfl, b3⟩
          go_wp2
          go_ret3
          exact ⟨rfl, also hbel b3⟩
    · have e0 : QuietestHours_v0 zs h = 0 := by simp [QuietestHours_v0, hgood, hh]
      have e1 : QuietestHours_v1 zs h = 0 := by simp [QuietestHours_v1, hgood, hh]
      have e2 : QuietestHours_v2 zs h = false := by simp [QuietestHours_v2, hgood, hh]
      rw [e0, e1, e2]
      rw [hh] at hi
      have Hi := Lib.hid hi
      clear hg hi e0 e1 e2 hgood hh
      go_enter Try.func17, Try.ntmps17
      go_wp2_with fail
      refine (Hg.out _ (Ha.out.kept (below_a1 _ _))).mono ?_
      rintro e w1 ⟨rfl, b1⟩
      go_wp2_with fail
      refine (Hi.out _).mono ?_
      rintro e w' ⟨rfl, rfl⟩
      go_wp2
      go_ret3
      exact ⟨rfl, below_step (below_a1 _ _) b1 (by simp)⟩
  · rw [hgood] at hg
    have e0 : QuietestHours_v0 zs h = 0 := by simp [QuietestHours_v0, hgood]
    have e1 : QuietestHours_v1 zs h = 0 := by simp [QuietestHours_v1, hgood]
    have e2 : QuietestHours_v2 zs h = false := by simp [QuietestHours_v2, hgood]
    rw [e0, e1, e2]
    have Hg := Lib.hid hg
    clear hg e0 e1 e2 hgood
    go_enter Try.func17, Try.ntmps17
    go_wp2_with fail
    refine (Hg.out _ (Ha.out.kept (below_a1 _ _))).mono ?_
    rintro e w1 ⟨rfl, b1⟩
    go_wp2
    go_ret3
    exact ⟨rfl, below_step (below_a1 _ _) b1 (by simp)⟩

set_option maxRecDepth 100000 in
set_option maxHeartbeats 1000000 in
theorem QuietestHours_impl (A : Option Addr) (n c : Nat) (zs : List Int) (h : Int) (w : World) (ha : Rd w 1 A n (intsV zs)) (hn : n ≤ 1048576) :
    Calls Try.prog 18 #[.agg #[.slice A n c], .int .i64 h] w fun e w' => e = .returned (.tuple #[.int .i64 (QuietestHours_v0 zs h), .int .i64 (QuietestHours_v1 zs h), .bool (QuietestHours_v2 zs h)]) ∧ Below w.heap.size w w' := by
  have hg := fun W (h : Rd W 1 A n (intsV zs)) => IsValidProfile_impl A n c zs W h hn
  unfold IsValidProfile_v0 at hg
  have hlen : zs.length = n := by have := ha.1; rw [ints_len] at this; omega
  have Ha := Lib.hid ha
  clear ha
  rcases Bool.eq_false_or_eq_true (goodP zs) with hgood | hgood
  · obtain rfl : n = 24 := by have := (good_len2 hgood).1; omega
    rw [hgood] at hg
    have Hg := Lib.hid hg
    have hi := inside_any h 1 24
    rcases Bool.eq_false_or_eq_true (inB h 1 24) with hh | hh
    · obtain ⟨m, rfl⟩ : ∃ m : Nat, h = m := ⟨h.toNat, by have := inB_yes.1 hh; omega⟩
      have hm1 : 1 ≤ m := by have := inB_yes.1 hh; omega
      have hm2 : m ≤ 24 := by have := inB_yes.1 hh; omega
      have e0 : QuietestHours_v0 zs m = (bq zs m 24 : Int) := by simp [QuietestHours_v0, hgood, hh]
      have e1 : QuietestHours_v1 zs m = sumF zs (bq zs m 24) m := by simp [QuietestHours_v1, hgood, hh]
      have e2 : QuietestHours_v2 zs m = true := by simp [QuietestHours_v2, hgood, hh]
      rw [e0, e1, e2]
      rw [hh] at hi
      have Hi := Lib.hid hi
      have Hs := Lib.hid (fun s (hs : s < 24) W (hW : Rd W 1 A 24 (intsV zs)) => sumFrom_any A c zs s m W hW hs hm2 (good_len2 hgood).2)
      clear hg hi e0 e1 e2 hgood hh hlen
      go_enter Try.func18, Try.ntmps18
      go_wp2_with fail
      refine (Hg.out _ (Ha.out.kept (below_a1 _ _))).mono ?_
      rintro e w1 ⟨rfl, b1⟩
      have c1 := below_step (below_a1 _ _) b1 (by simp)
      have hcell1 : w1.cell? ⟨w.heap.size, 0, none⟩ = some (.slice A 24 c) := (keeps b1 _ _ (by simp)).trans (by simp [go_sem])
      go_wp2_with fail
      refine (Hi.out _).mono ?_
      rintro e w' ⟨rfl, rfl⟩
      go_wp2
      go_loopw [7, 17] (fun x i wr => ∃ k : Nat, 0 ≤ k ∧ k ≤ 24 ∧ i = .int .i64 k ∧ x = .int .i64 (bq zs m k) ∧ wr.cell? ⟨w.heap.size, 0, none⟩ = some (.slice A 24 c) ∧ Below w.heap.size w wr) (fun _ i _ => 24 - (intOf i).toNat)
      case atStart => exact ⟨0, by omega, by omega, rfl, rfl, hcell1, c1⟩
      case round =>
        obtain ⟨k, hk0, hk, rfl, rfl, hcell, hbel⟩ := hrel
        clear hcell1
        by_cases hlt : k < 24
        · have H1 := Lib.hid (Hs.out k hlt)
          have H2 := Lib.hid (Hs.out (bq zs m k) (bq_lt zs m k hk))
          have HY := Lib.hid (fun e => bq_yes (zs := zs) (h := m) (k := k) e)
          have HN := Lib.hid (fun e => bq_no (zs := zs) (h := m) (k := k) e)
          generalize hB : bq zs m k = B at H1 H2 HY HN ⊢
          generalize sumF zs k m = S1 at H1 H2 HY HN
          generalize sumF zs B m = S2 at H1 H2 HY HN
          clear hB
          by_cases hlt2 : S1 < S2
          · have HY2 := Lib.hid (HY.out hlt2)
            clear HY HN
            go_wp2_with fail
            go_region_held3 (fun w' => w'.cell? ⟨w.heap.size, 0, none⟩ = some (.slice A 24 c) ∧ Below wr.heap.size wr w') (first | (go_split_ands; refine held1 hcell ?_; first | exact (Below.refl _ _).drew | exact also (by assumption) (by assumption) | exact below_drewN (by assumption) _)) (first | (go_at_call 35; (first | (with_reducible refine (H1.out _ (Ha.out.kept (also hbel (by first | exact (Below.refl _ _).drew | (go_split_ands; assumption))))).mono ?_) | (with_reducible refine (H2.out _ (Ha.out.kept (also hbel (by first | exact (Below.refl _ _).drew | (go_split_ands; assumption))))).mono ?_)); rintro e w3 ⟨rfl, b3⟩))
            rename_i hS
            obtain ⟨hc2, hb2⟩ := hS
            go_wp2
            go_roundw
            case rel => exact ⟨k + 1, by omega, by omega, by go_num, by rw [HY2.out], hc2, also hbel hb2⟩
            case measure => simp [intOf]; omega
          · have HN2 := Lib.hid (HN.out hlt2)
            clear HY HN
            go_wp2_with fail
            go_region_held3 (fun w' => w'.cell? ⟨w.heap.size, 0, none⟩ = some (.slice A 24 c) ∧ Below wr.heap.size wr w') (first | (go_split_ands; refine held1 hcell ?_; first | exact (Below.refl _ _).drew | exact also (by assumption) (by assumption) | exact below_drewN (by assumption) _)) (first | (go_at_call 35; (first | (with_reducible refine (H1.out _ (Ha.out.kept (also hbel (by first | exact (Below.refl _ _).drew | (go_split_ands; assumption))))).mono ?_) | (with_reducible refine (H2.out _ (Ha.out.kept (also hbel (by first | exact (Below.refl _ _).drew | (go_split_ands; assumption))))).mono ?_)); rintro e w3 ⟨rfl, b3⟩))
            rename_i hS
            obtain ⟨hc2, hb2⟩ := hS
            go_wp2
            go_roundw
            case rel => exact ⟨k + 1, by omega, by omega, by go_num, by rw [HN2.out], hc2, also hbel hb2⟩
            case measure => simp [intOf]; omega
        · obtain rfl : k = 24 := by omega
          have H2 := Lib.hid (Hs.out (bq zs m 24) (bq_lt zs m 24 hk))
          go_wp2_with fail
          refine (H2.out _ (Ha.out.kept hbel)).mono ?_
          rintro e w3 ⟨rfl, b3⟩
          go_wp2
          go_ret3
          exact ⟨rfl, also hbel b3⟩
    · have e0 : QuietestHours_v0 zs h = 0 := by simp [QuietestHours_v0, hgood, hh]
      have e1 : QuietestHours_v1 zs h = 0 := by simp [QuietestHours_v1, hgood, hh]
      have e2 : QuietestHours_v2 zs h = false := by simp [QuietestHours_v2, hgood, hh]
      rw [e0, e1, e2]
      rw [hh] at hi
      have Hi := Lib.hid hi
      clear hg hi e0 e1 e2 hgood hh
      go_enter Try.func18, Try.ntmps18
      go_wp2_with fail
      refine (Hg.out _ (Ha.out.kept (below_a1 _ _))).mono ?_
      rintro e w1 ⟨rfl, b1⟩
      go_wp2_with fail
      refine (Hi.out _).mono ?_
      rintro e w' ⟨rfl, rfl⟩
      go_wp2
      go_ret3
      exact ⟨rfl, below_step (below_a1 _ _) b1 (by simp)⟩
  · rw [hgood] at hg
    have e0 : QuietestHours_v0 zs h = 0 := by simp [QuietestHours_v0, hgood]
    have e1 : QuietestHours_v1 zs h = 0 := by simp [QuietestHours_v1, hgood]
    have e2 : QuietestHours_v2 zs h = false := by simp [QuietestHours_v2, hgood]
    rw [e0, e1, e2]
    have Hg := Lib.hid hg
    clear hg e0 e1 e2 hgood
    go_enter Try.func18, Try.ntmps18
    go_wp2_with fail
    refine (Hg.out _ (Ha.out.kept (below_a1 _ _))).mono ?_
    rintro e w1 ⟨rfl, b1⟩
    go_wp2
    go_ret3
    exact ⟨rfl, below_step (below_a1 _ _) b1 (by simp)⟩

end Go.Proofs.Ytanedebkpcpknaa
