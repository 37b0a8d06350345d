/- Good profiles: both packages' test computes one plain function. -/
import Derived.Test.YtanedebkpcpknaaIn
import Derived.Test.YtanedebkpcpknaaProf
namespace Go.Proofs.Ytanedebkpcpknaa
open Go.RowKit
set_option linter.unusedVariables false

def allIn (zs : List Int) : Bool := zs.all fun x => inB x 0 1000
def goodP (zs : List Int) : Bool := decide (zs.length = 24) && (allIn zs && decide (zs.sum = 2400))
theorem sum_snoc {zs : List Int} {k : Nat} {z : Int} (h : zs[k]? = some z) : (zs.take (k + 1)).sum = (zs.take k).sum + z := by
  rw [List.take_add_one, h]; simp
theorem allIn_snoc {zs : List Int} {k : Nat} {z : Int} (h : zs[k]? = some z) : allIn (zs.take (k + 1)) = (allIn (zs.take k) && inB z 0 1000) := by
  unfold allIn; rw [List.take_add_one, h]; simp
theorem allIn_take {zs : List Int} (h : allIn zs = true) (k : Nat) : allIn (zs.take k) = true := by
  unfold allIn at *; rw [List.all_eq_true] at *; exact fun x hx => h x (List.mem_of_mem_take hx)
theorem allIn_bad {zs : List Int} {k : Nat} {z : Int} (h : zs[k]? = some z) (hz : inB z 0 1000 = false) : allIn zs = false := by
  unfold allIn; rw [List.all_eq_false]; exact ⟨z, List.mem_of_getElem? h, by simp [hz]⟩
theorem allIn_at {zs : List Int} {k : Nat} {z : Int} (h : zs[k]? = some z) (ha : allIn zs = true) : 0 ≤ z ∧ z ≤ 1000 := by
  unfold allIn at ha; rw [List.all_eq_true] at ha; exact inB_yes.1 (ha z (List.mem_of_getElem? h))
theorem sum_bd : ∀ (zs : List Int), allIn zs = true → 0 ≤ zs.sum ∧ zs.sum ≤ 1000 * (zs.length : Int)
  | [], _ => by simp
  | z :: zs, h => by
    have h1 : inB z 0 1000 = true ∧ allIn zs = true := by unfold allIn at *; simpa using h
    have := sum_bd zs h1.2
    have h2 := inB_yes.1 h1.1
    simp only [List.sum_cons, List.length_cons]
    omega

set_option maxHeartbeats 400000 in
theorem sumInts_any (A : Option Addr) (n c : Nat) (zs : List Int) (w : World) (ha : Rd w 1 A n (intsV zs)) (hn : n ≤ 1048576) (hall : allIn zs = true) :
    Calls Try.prog 32 #[.slice A n c] w fun e w' => e = .returned (.int .i64 zs.sum) ∧ w = w' := by
  have hlen : zs.length = n := by have := ha.1; rw [ints_len] at this; omega
  have Hl := Lib.hid hlen
  have Ha := Lib.hid hall
  clear hlen hall
  go_enter Try.func32, Try.ntmps32
  go_wp2
  go_loop [3, 8] (fun x i => ∃ k : Nat, k ≤ n ∧ i = .int .i64 k ∧ x = .int .i64 ((zs.take k).sum)) (fun _ i => n - (intOf i).toNat)
  case atStart => exact ⟨0, Nat.zero_le _, rfl, rfl⟩
  case round =>
    obtain ⟨k, hk, rfl, rfl⟩ := hrel
    by_cases hlt : k < n
    · obtain ⟨b, off, u, rfl, _, hx, hc⟩ := ha.at1 hlt
      obtain ⟨z, hz, rfl⟩ := ints_at hx
      have hb := sum_bd _ (allIn_take Ha.out k)
      rw [List.length_take] at hb
      have hl := Hl.out
      have hb0 := hb.1
      have hb1 : (zs.take k).sum ≤ 1048576000 := by have := hb.2; omega
      have hz0 := (allIn_at hz Ha.out).1
      have hz1 := (allIn_at hz Ha.out).2
      have H := Lib.hid (sum_snoc hz)
      clear hx hz ha hb hl
      generalize (zs.take k).sum = S at *
      go_wp2
      go_round
      case rel => exact ⟨k + 1, by omega, by go_num, by rw [H.out]⟩
      case measure => simp [intOf]; omega
    · have hkn : k = n := by omega
      subst hkn
      go_wp2
      go_ret
      have hl := Hl.out
      exact ⟨ret_int (by rw [List.take_of_length_le (by omega)]), rfl⟩

theorem bad_any (x : Int) (w : World) :
    Calls Try.prog 30 #[.int .i64 x] w fun e w' => e = .returned (.bool (!inB x 0 1000)) ∧ w = w' := by
  have hi := inside_any x 0 1000
  generalize inB x 0 1000 = r at hi ⊢
  go_enter Try.func30, Try.ntmps30
  go_wp2_with fail
  refine (hi _).mono ?_
  rintro e w1 ⟨rfl, rfl⟩
  go_wp2
  go_ret
  exact ⟨rfl, rfl⟩

set_option maxHeartbeats 400000 in
theorem badIndex_any (A : Option Addr) (n c : Nat) (zs : List Int) (w : World) (ha : Rd w 1 A n (intsV zs)) (hn : n ≤ 1048576) :
    Calls Try.prog 39 #[.slice A n c, .func (.func 30) #[] #[]] w fun e w' => (∃ r, e = .returned (.int .i64 r) ∧ decide (0 ≤ r) = !allIn zs) ∧ w = w' := by
  have hlen : zs.length = n := by have := ha.1; rw [ints_len] at this; omega
  have Hl := Lib.hid hlen
  clear hlen
  go_enter Try.func39, Try.ntmps39
  go_wp2
  go_loop [8] (fun i => ∃ k : Nat, k ≤ n ∧ i = .int .i64 k ∧ allIn (zs.take k) = true) (fun i => n - (intOf i).toNat)
  case atStart => exact ⟨0, Nat.zero_le _, rfl, rfl⟩
  case round =>
    obtain ⟨k, hk, rfl, hal⟩ := hrel
    by_cases hlt : k < n
    · obtain ⟨b, off, u, rfl, _, hx, hc⟩ := ha.at1 hlt
      obtain ⟨z, hz, rfl⟩ := ints_at hx
      have H := Lib.hid (allIn_snoc hz)
      have HB := Lib.hid (fun h => allIn_bad hz h)
      have Hal := Lib.hid hal
      clear hx hz ha hal
      have hi := bad_any z
      generalize inB z 0 1000 = r at hi H HB
      cases r
      · have HF := Lib.hid (HB.out rfl)
        clear HB
        go_wp2_with fail
        refine (hi _).mono ?_
        rintro e w1 ⟨rfl, rfl⟩
        go_wp2
        go_ret
        exact ⟨⟨(k : Int), rfl, by rw [HF.out]; simp⟩, rfl⟩
      · go_wp2_with fail
        refine (hi _).mono ?_
        rintro e w1 ⟨rfl, rfl⟩
        go_wp2
        go_round
        case rel => exact ⟨k + 1, by omega, by go_num, by rw [H.out, Hal.out]; rfl⟩
        case measure => simp [intOf]; omega
    · have hkn : k = n := by omega
      subst hkn
      go_wp2
      go_ret
      have hl := Hl.out
      rw [List.take_of_length_le (by omega)] at hal
      exact ⟨⟨-1, rfl, by simp [hal]⟩, rfl⟩
theorem anyBad_any (A : Option Addr) (n c : Nat) (zs : List Int) (w : World) (ha : Rd w 1 A n (intsV zs)) (hn : n ≤ 1048576) :
    Calls Try.prog 29 #[.slice A n c, .func (.func 30) #[] #[]] w fun e w' => e = .returned (.bool (!allIn zs)) ∧ w = w' := by
  have Hb := Lib.hid (badIndex_any A n c zs w ha hn)
  clear ha
  go_enter Try.func29, Try.ntmps29
  go_wp2_with fail
  refine Hb.out.mono ?_
  rintro e w1 ⟨⟨r, rfl, hr⟩, rfl⟩
  have Hr := Lib.hid hr
  clear hr
  go_wp2
  go_ret
  exact ⟨ret_bool Hr.out, rfl⟩

set_option maxHeartbeats 400000 in
theorem l6Good_any (A : Option Addr) (n c : Nat) (zs : List Int) (w : World) (ha : Rd w 1 A n (intsV zs)) (hn : n ≤ 1048576) :
    Calls Try.prog 27 #[.agg #[.slice A n c]] w fun e w' => e = .returned (.bool (goodP zs)) ∧ Below w.heap.size w w' := by
  have hlen : zs.length = n := by have := ha.1; rw [ints_len] at this; omega
  have Hl := Lib.hid hlen
  have Ha := Lib.hid (fun w' (hb : Below w.heap.size w w') => ha.kept hb)
  clear hlen ha
  go_enter Try.func27, Try.ntmps27
  go_wp2
  go_loop [3, 4] (fun x i => ∃ k : Nat, k ≤ n ∧ i = .int .i64 k ∧ x = .int .i64 ((zs.take k).sum) ∧ allIn (zs.take k) = true) (fun _ i => n - (intOf i).toNat)
  case atStart => exact ⟨0, Nat.zero_le _, rfl, rfl, rfl⟩
  case round =>
    obtain ⟨k, hk, rfl, rfl, hal⟩ := hrel
    have hb := sum_bd _ hal
    rw [List.length_take] at hb
    have hl := Hl.out
    have hb0 := hb.1
    have hb1 : (zs.take k).sum ≤ 1048576000 := by have := hb.2; omega
    have Hal := Lib.hid hal
    clear hal hb hl
    by_cases hlt : k < n
    · obtain ⟨b, off, u, rfl, _, hx, hc⟩ := (Ha.out (w.alloc (.cells #[.slice A n c] 24)) (below_a1 _ _)).at1 hlt
      obtain ⟨z, hz, rfl⟩ := ints_at hx
      have H := Lib.hid (allIn_snoc hz)
      have HB := Lib.hid (fun h => allIn_bad hz h)
      have HS := Lib.hid (sum_snoc hz)
      have hi := l1In_any z 0 1000
      have HZ : Hid (inB z 0 1000 = true → 0 ≤ z ∧ z ≤ 1000) := Lib.hid inB_yes.1
      clear hx hz
      generalize inB z 0 1000 = r at hi H HB HZ
      generalize (zs.take k).sum = S at *
      have hi2 : (k : Int) < (n : Int) := by omega
      have hi0 : (0 : Int) ≤ (k : Int) := by omega
      cases r
      · have HF := Lib.hid (HB.out rfl)
        clear HB
        go_wp2_with fail
        refine (hi _).mono ?_
        rintro e w1 ⟨rfl, rfl⟩
        go_wp2
        go_ret
        exact ⟨ret_bool (by unfold goodP; rw [HF.out]; simp), below_a1 _ _⟩
      · have hz0 := (HZ.out rfl).1
        have hz1 := (HZ.out rfl).2
        go_wp2_with fail
        refine (hi _).mono ?_
        rintro e w1 ⟨rfl, rfl⟩
        go_wp2
        go_round
        case rel => exact ⟨k + 1, by omega, by go_num, by rw [HS.out], by rw [H.out, Hal.out]; rfl⟩
        case measure => simp [intOf]; omega
    · have hkn : k = n := by omega
      subst hkn
      have hl := Hl.out
      rw [List.take_of_length_le (by omega)] at *
      have HG : Hid (goodP zs = (decide (k = 24) && decide (zs.sum = 2400))) := Lib.hid (by have := Hal.out; unfold goodP; rw [this, hl]; simp)
      clear Hal hl
      by_cases h24 : k = 24
      · subst h24
        by_cases hs : zs.sum = 2400
        · go_wp2
          go_ret
          exact ⟨ret_bool (by rw [HG.out]; simp [hs]), below_a1 _ _⟩
        · go_wp2
          go_ret
          exact ⟨ret_bool (by rw [HG.out]; simp [hs]), below_a1 _ _⟩
      · go_wp2
        go_ret
        exact ⟨ret_bool (by rw [HG.out]; simp [h24]), below_a1 _ _⟩

/-- The answer of both packages. -/
def IsValidProfile_v0 (zs : List Int) : Bool := goodP zs
theorem IsValidProfile_spec (A : Option Addr) (n c : Nat) (zs : List Int) (w : World) (ha : Rd w 1 A n (intsV zs)) (hn : n ≤ 1048576) :
    Calls Try.prog 14 #[.agg #[.slice A n c]] w fun e w' => e = .returned (.bool (IsValidProfile_v0 zs)) ∧ Below w.heap.size w w' := by
  have H := Lib.hid (fun W (h : Rd W 1 A n (intsV zs)) => l6Good_any A n c zs W h hn)
  have Ha := Lib.hid ha
  unfold IsValidProfile_v0
  generalize goodP zs = r at H ⊢
  clear ha
  go_enter Try.func14, Try.ntmps14
  go_wp2_with fail
  refine (H.out _ (Ha.out.kept (below_a1 _ _))).mono ?_
  rintro e w1 ⟨rfl, b1⟩
  go_wp2
  go_ret
  exact ⟨rfl, below_step (below_a1 _ _) b1 (by simp)⟩
theorem IsValidProfile_impl (A : Option Addr) (n c : Nat) (zs : List Int) (w : World) (ha : Rd w 1 A n (intsV zs)) (hn : n ≤ 1048576) :
    Calls Try.prog 16 #[.agg #[.slice A n c]] w fun e w' => e = .returned (.bool (IsValidProfile_v0 zs)) ∧ Below w.heap.size w w' := by
  have hlen : zs.length = n := by have := ha.1; rw [ints_len] at this; omega
  have HG : Hid (IsValidProfile_v0 zs = (decide (n = 24) && (allIn zs && decide (zs.sum = 2400)))) := Lib.hid (by unfold IsValidProfile_v0 goodP; rw [hlen])
  have HC := Lib.hid (fun W (h : Rd W 1 A n (intsV zs)) => anyBad_any A n c zs W h hn)
  have HS := Lib.hid (fun W (h : Rd W 1 A n (intsV zs)) (hall : allIn zs = true) => sumInts_any A n c zs W h hn hall)
  have Ha := Lib.hid ha
  clear ha hlen
  go_enter Try.func16, Try.ntmps16
  by_cases h24 : n = 24
  · subst h24
    rcases Bool.eq_false_or_eq_true (allIn zs) with hall | hall
    · have HS1 := Lib.hid (fun W h => HS.out W h hall)
      have HG1 : Hid (IsValidProfile_v0 zs = decide (zs.sum = 2400)) := Lib.hid (by rw [HG.out, hall]; simp)
      have HC1 := HC.out
      rw [hall] at HC1
      have HC2 := Lib.hid HC1
      clear HG HC HC1 HS hall
      go_wp2_with fail
      refine (HC2.out _ (Ha.out.kept (below_a1 _ _))).mono ?_
      rintro e w1 ⟨rfl, rfl⟩
      go_wp2_with fail
      refine (HS1.out _ (Ha.out.kept (below_a1 _ _))).mono ?_
      rintro e w1 ⟨rfl, rfl⟩
      generalize zs.sum = S at *
      go_wp2
      go_ret
      exact ⟨ret_bool (by rw [HG1.out]; rfl), below_a1 _ _⟩
    · have HG1 : Hid (IsValidProfile_v0 zs = false) := Lib.hid (by rw [HG.out, hall]; simp)
      have HC1 := HC.out
      rw [hall] at HC1
      have HC2 := Lib.hid HC1
      clear HG HC HC1 HS hall
      go_wp2_with fail
      refine (HC2.out _ (Ha.out.kept (below_a1 _ _))).mono ?_
      rintro e w1 ⟨rfl, rfl⟩
      go_wp2
      go_ret
      exact ⟨ret_bool HG1.out.symm, below_a1 _ _⟩
  · go_wp2
    go_ret
    exact ⟨ret_bool (by rw [HG.out]; simp [h24]), below_a1 _ _⟩

end Go.Proofs.Ytanedebkpcpknaa
