/- Amounts in units: plain numbers first (fractions in lowest terms), then the walks. -/
import Derived.Test.YtlkphjlabmnjiaaDoorAmount
import Derived.Test.YtlkphjlabmnjiaaDoorMem
import Derived.Deep.RegionHeld3
namespace Go.Proofs.YtlkphjlabmnjiaaDoor
open Go.RowKit
set_option linter.unusedVariables false

/-! ### plain -/
def fac (u : Int) : Nat := if u = 1 then 36 else if u = 2 then 2160 else if u = 3 then 600 else 25
def fnum (u : Int) : Nat := if u = 1 then 1 else if u = 2 then 60 else if u = 3 then 50 else 25
def fden (u : Int) : Nat := if u = 1 then 1 else if u = 2 then 1 else if u = 3 then 3 else 36
def redN (a b : Nat) : Nat := a / Nat.gcd a b
def redD (a b : Nat) : Nat := b / Nat.gcd a b
theorem fac_eq (u : Int) : fac u * fden u = 36 * fnum u := by
  unfold fac fden fnum
  split
  · rfl
  · split
    · rfl
    · split <;> rfl
theorem fac_bd (u : Int) : 25 ≤ fac u ∧ fac u ≤ 2160 := by
  unfold fac
  split
  · omega
  · split
    · omega
    · split <;> omega
theorem fnum_bd (u : Int) : 1 ≤ fnum u ∧ fnum u ≤ 60 := by
  unfold fnum
  split
  · omega
  · split
    · omega
    · split <;> omega
theorem fden_bd (u : Int) : 1 ≤ fden u ∧ fden u ≤ 36 := by
  unfold fden
  split
  · omega
  · split
    · omega
    · split <;> omega
/-- Two fractions of one value have one form in lowest terms. -/
theorem red_eq {a b c d : Nat} (hb : 0 < b) (hd : 0 < d) (h : a * d = c * b) : redN a b = redN c d ∧ redD a b = redD c d := by
  have g1 : 0 < Nat.gcd a b := Nat.gcd_pos_of_pos_right _ hb
  have g2 : 0 < Nat.gcd c d := Nat.gcd_pos_of_pos_right _ hd
  have co1 : Nat.Coprime (a / Nat.gcd a b) (b / Nat.gcd a b) := Nat.coprime_div_gcd_div_gcd g1
  have co2 : Nat.Coprime (c / Nat.gcd c d) (d / Nat.gcd c d) := Nat.coprime_div_gcd_div_gcd g2
  have ea := Nat.div_mul_cancel (Nat.gcd_dvd_left a b)
  have eb := Nat.div_mul_cancel (Nat.gcd_dvd_right a b)
  have ec := Nat.div_mul_cancel (Nat.gcd_dvd_left c d)
  have ed := Nat.div_mul_cancel (Nat.gcd_dvd_right c d)
  unfold redN redD
  generalize Nat.gcd a b = x at *
  generalize Nat.gcd c d = y at *
  generalize a / x = p at *
  generalize b / x = q at *
  generalize c / y = r at *
  generalize d / y = s at *
  subst ea eb ec ed
  have hq : 0 < q := Nat.pos_of_mul_pos_right hb
  have hs : 0 < s := Nat.pos_of_mul_pos_right hd
  have e : p * s = r * q := by
    have h2 : (p * s) * (x * y) = (r * q) * (x * y) := by
      calc (p * s) * (x * y) = p * x * (s * y) := by ac_rfl
        _ = r * y * (q * x) := h
        _ = (r * q) * (x * y) := by ac_rfl
    exact Nat.eq_of_mul_eq_mul_right (Nat.mul_pos g1 g2) h2
  have d1 : q ∣ s := co1.symm.dvd_of_dvd_mul_left (by rw [e]; exact Nat.dvd_mul_left _ _)
  have d2 : s ∣ q := co2.symm.dvd_of_dvd_mul_left (by rw [← e]; exact Nat.dvd_mul_left _ _)
  have eq : q = s := Nat.dvd_antisymm d1 d2
  subst eq
  exact ⟨Nat.eq_of_mul_eq_mul_right hq e, rfl⟩

/-! ### the walks -/
theorem asPart_any (a b : Nat) (w : World) (hb0 : 0 < b) (ha : a ≤ 4611686018427387904) (hb : b ≤ 4611686018427387904) :
    Calls Tryd.prog 67 #[.int .i64 a, .int .i64 b] w fun e w' => e = .returned (.agg #[.int .i64 (redN a b), .int .i64 (redD a b)]) ∧ Below w.heap.size w w' := by
  have hc := lowestTerms_any a b (w.alloc (.cells #[.int .i64 0, .int .i64 0] 63)) hb0 ha hb
  have e1 : a / Nat.gcd a b = redN a b := rfl
  have e2 : b / Nat.gcd a b = redD a b := rfl
  rw [e1, e2] at hc
  clear e1 e2
  go_enter Tryd.func67, Tryd.ntmps67
  go_wp2_with fail
  refine hc.mono ?_
  rintro e w' ⟨rfl, n, rfl⟩
  clear hc
  go_wp2
  exact bodyPost_ret (v := .agg #[.int .i64 (redN a b), .int .i64 (redD a b)]) (by simp [results, Tryd.results67, go_sem]) rfl ⟨rfl, ((below_drewN (below_a1 _ _) _).setCell (Nat.le_refl _) _).setCell (Nat.le_refl _) _⟩

theorem l3Factor_any (u : Int) (w : World) (h1 : 1 ≤ u) (h2 : u ≤ 4) :
    Calls Tryd.prog 43 #[.int .i64 u] w fun e w' => e = .returned (.int .i64 (fac u)) ∧ Below w.heap.size w w' := by
  have hh : u = 1 ∨ u = 2 ∨ u = 3 ∨ u = 4 := by omega
  rcases hh with rfl | rfl | rfl | rfl
  all_goals
    go_enter Tryd.func43, Tryd.ntmps43
    go_wp2
    go_ret
    exact ⟨rfl, below_a1 _ _⟩

theorem cast_bd {a b c : Nat} (h : a * b ≤ c) : 0 ≤ (a : Int) * (b : Int) ∧ (a : Int) * (b : Int) ≤ (c : Int) := by
  rw [← Int.natCast_mul]
  generalize a * b = x at *
  omega
/-- What the table of flows holds. -/
def Flows (w : World) : Prop := ∀ u : Nat, 1 ≤ u → u ≤ 4 → w.cell? ⟨1, u * 2, none⟩ = some (.int .i64 (fnum u)) ∧ w.cell? ⟨1, u * 2 + 1, none⟩ = some (.int .i64 (fden u))
theorem Flows.later {w w' : World} (h : Flows w) (b : Below w.heap.size w w') : Flows w' := fun u h1 h2 => ⟨Go.Proofs.YtlkphjlabmnjiaaDoor.later b (h u h1 h2).1, Go.Proofs.YtlkphjlabmnjiaaDoor.later b (h u h1 h2).2⟩
theorem inUnit_any (v u k : Int) (w : World) (hv0 : 0 ≤ v) (hv1 : v ≤ 1000000) (h1 : 1 ≤ u) (h2 : u ≤ 4) (k1 : 1 ≤ k) (k2 : k ≤ 4) (hf : Flows w) :
    Calls Tryd.prog 45 #[.agg #[.int .i64 v, .int .i64 u], .int .i64 k] w fun e w' => e = .returned (.agg #[.int .i64 (redN (v.toNat * fnum u * fden k) (fden u * fnum k)), .int .i64 (redD (v.toNat * fnum u * fden k) (fden u * fnum k))]) ∧ Below w.heap.size w w' := by
  obtain ⟨v, rfl⟩ := Int.eq_ofNat_of_zero_le hv0
  obtain ⟨u, rfl⟩ := Int.eq_ofNat_of_zero_le (show 0 ≤ u by omega)
  obtain ⟨k, rfl⟩ := Int.eq_ofNat_of_zero_le (show 0 ≤ k by omega)
  obtain ⟨c0, c1⟩ := hf u (by omega) (by omega)
  obtain ⟨d0, d1⟩ := hf k (by omega) (by omega)
  have hg : 1 < w.heap.size := World.block_lt_of_cell? w _ c0
  have hg0 : 0 < w.heap.size := by omega
  have u5 : (u : Int) < 5 := by omega
  have k5 : (k : Int) < 5 := by omega
  obtain ⟨b0, b1⟩ := fnum_bd u
  obtain ⟨b2, b3⟩ := fden_bd u
  obtain ⟨b4, b5⟩ := fnum_bd k
  obtain ⟨b6, b7⟩ := fden_bd k
  have hred := fun W => asPart_any (v * fnum u * fden k) (fden u * fnum k) W (Nat.mul_pos (by omega) (by omega)) (Nat.le_trans (Nat.mul_le_mul (Nat.mul_le_mul (show v ≤ 1000000 by omega) b1) b7) (by omega)) (Nat.le_trans (Nat.mul_le_mul b3 b5) (by omega))
  have m1 : v * fnum u ≤ 60000000 := Nat.le_trans (Nat.mul_le_mul (show v ≤ 1000000 by omega) b1) (by omega)
  have m2 : v * fnum u * fden k ≤ 2160000000 := Nat.le_trans (Nat.mul_le_mul m1 b7) (by omega)
  have m3 : fden u * fnum k ≤ 2160 := Nat.le_trans (Nat.mul_le_mul b3 b5) (by omega)
  generalize fnum u = nu at *
  generalize fden u = du at *
  generalize fnum k = nk at *
  generalize fden k = dk at *
  have i1 : 0 ≤ (v : Int) * (nu : Int) ∧ (v : Int) * (nu : Int) ≤ 60000000 := cast_bd m1
  have i2 : 0 ≤ (v : Int) * (nu : Int) * (dk : Int) ∧ (v : Int) * (nu : Int) * (dk : Int) ≤ 2160000000 := by have := cast_bd m2; rwa [Int.natCast_mul] at this
  have i3 : 0 ≤ (du : Int) * (nk : Int) ∧ (du : Int) * (nk : Int) ≤ 2160 := cast_bd m3
  obtain ⟨i1, j1⟩ := i1
  obtain ⟨i2, j2⟩ := i2
  obtain ⟨i3, j3⟩ := i3
  have e1 : ((v * nu * dk : Nat) : Int) = (v : Int) * (nu : Int) * (dk : Int) := by simp
  have e2 : ((du * nk : Nat) : Int) = (du : Int) * (nk : Int) := by simp
  rw [e1, e2] at hred
  clear e1 e2 m1 m2 m3
  go_enter Tryd.func45, Tryd.ntmps45
  go_wp2_with fail
  go_region
  all_goals
    go_wp2_with fail
    refine (hred _).mono ?_
    rintro e w1 ⟨rfl, b⟩
    have hk := keeps b
    have hkF := keepsF b
    clear hred hf c0 c1 d0 d1
    go_wp2
    exact bodyPost_ret (v := .agg #[.int .i64 (redN (v * nu * dk) (du * nk)), .int .i64 (redD (v * nu * dk) (du * nk))]) (by simp [results, Tryd.results45, go_sem, hk]) rfl ⟨rfl, ((below_step (below_a4 _ _ _ _ _).drew b (by simp)).setCell (by simp) _).setCell (by simp) _⟩


/-- An amount in a unit, as the two packages give it. -/
def convOf (v u k : Int) : Value :=
  if goodAmt v u && inB k 1 4 then .tuple #[.int .i64 (redN (v.toNat * fac u) (fac k)), .int .i64 (redD (v.toNat * fac u) (fac k)), .bool true] else .tuple #[.int .i64 0, .int .i64 0, .bool false]

set_option maxRecDepth 100000 in
theorem ConvertAmount_spec (v u k : Int) (w : World) :
    Calls Tryd.prog 12 #[.agg #[.int .i64 v, .int .i64 u], .int .i64 k] w fun e w' => e = .returned (convOf v u k) ∧ Below w.heap.size w w' := by
  cases hg : goodAmt v u
  · have Hg := Lib.hid hg
    clear hg
    go_enter Tryd.func12, Tryd.ntmps12
    go_wp2_with fail
    refine (l3Good_any _ _ _).mono ?_
    rintro e w1 ⟨rfl, b1⟩
    rw [Hg.out]
    go_wp2_with fail
    go_ret3
    exact ⟨by rw [convOf, Hg.out]; rfl, below_step (below_a1 _ _) b1 (by simp)⟩
  · cases hk : inB k 1 4
    · have Hg := Lib.hid hg
      have Hk := Lib.hid hk
      clear hg hk
      go_enter Tryd.func12, Tryd.ntmps12
      go_wp2_with fail
      refine (l3Good_any _ _ _).mono ?_
      rintro e w1 ⟨rfl, b1⟩
      rw [Hg.out]
      go_wp2_with fail
      refine (l3Unit_any _ _).mono ?_
      rintro e w2 ⟨rfl, rfl⟩
      rw [Hk.out]
      go_wp2_with fail
      go_ret3
      exact ⟨by rw [convOf, Hg.out, Hk.out]; rfl, below_step (below_a1 _ _) b1 (by simp)⟩
    · obtain ⟨hv, hu⟩ : inB v 0 1000000 = true ∧ inB u 1 4 = true := by simpa [goodAmt] using hg
      obtain ⟨hv0, hv1⟩ := inB_yes.1 hv
      obtain ⟨hu0, hu1⟩ := inB_yes.1 hu
      obtain ⟨hk0, hk1⟩ := inB_yes.1 hk
      have Hg := Lib.hid hg
      have Hk := Lib.hid hk
      clear hg hk hv hu
      have hfu := fac_bd u
      have hfk := fac_bd k
      obtain ⟨v, rfl⟩ := Int.eq_ofNat_of_zero_le hv0
      have m1 : v * fac u ≤ 2160000000 := Nat.le_trans (Nat.mul_le_mul (show v ≤ 1000000 by omega) hfu.2) (by omega)
      have hred := fun W => l3Reduce_any (v * fac u) (fac k) W (by omega) (by omega) (by omega)
      have e1 : ((v * fac u : Nat) : Int) = (v : Int) * (fac u : Int) := by simp
      rw [e1] at hred
      clear e1
      have Hred := Lib.hid hred
      clear hred
      obtain ⟨i1, j1⟩ := cast_bd m1
      clear m1
      have Hu := fun W => Lib.hid (l3Factor_any u W hu0 hu1)
      have Hw := fun W => Lib.hid (l3Factor_any k W hk0 hk1)
      go_enter Tryd.func12, Tryd.ntmps12
      go_wp2_with fail
      refine (l3Good_any _ _ _).mono ?_
      rintro e w1 ⟨rfl, b1⟩
      rw [Hg.out]
      have hc := keeps b1
      go_wp2_with fail
      refine (l3Unit_any _ _).mono ?_
      rintro e w2 ⟨rfl, rfl⟩
      rw [Hk.out]
      have c0 : w1.cell? ⟨w.heap.size, 0, none⟩ = some (.int .i64 v) := by rw [hc _ _ (by simp)]; simp [go_sem]
      have c1 : w1.cell? ⟨w.heap.size, 1, none⟩ = some (.int .i64 u) := by rw [hc _ _ (by simp)]; simp [go_sem]
      clear hc
      go_wp2_with fail
      have hmul : IntKind.i64.wrap ((v : Int) * (fac u : Int)) = (v : Int) * (fac u : Int) := IntWalk.i64_in _ ⟨by omega, by omega⟩
      go_region_held3 (fun w' => w'.cell? ⟨w.heap.size, 0, none⟩ = some (.int .i64 v) ∧ w'.cell? ⟨w.heap.size, 1, none⟩ = some (.int .i64 u) ∧ Below w1.heap.size w1 w') (first | (go_split_ands; refine held2 c0 c1 ?_; first | exact (Below.refl _ _).drew | exact also (by assumption) (by assumption) | exact below_drewN (by assumption) _)) (first | (go_at_call 43; (first | (with_reducible refine (Hu _).out.mono ?_) | (with_reducible refine (Hw _).out.mono ?_)); rintro e w3 ⟨rfl, b3⟩) | (go_at_call 42; (with_reducible refine (Hred.out _).mono ?_); rintro e w4 ⟨rfl, n, rfl⟩))
      clear hmul
      go_wp2
      go_ret3
      rename_i hS
      exact ⟨by rw [convOf, Hg.out, Hk.out]; rfl, below_step (below_a1 _ _) (also b1 hS.2.2) (by simp)⟩

theorem conv_same (v : Nat) (u k : Int) : redN (v * fnum u * fden k) (fden u * fnum k) = redN (v * fac u) (fac k) ∧ redD (v * fnum u * fden k) (fden u * fnum k) = redD (v * fac u) (fac k) := by
  have h1 := fnum_bd k
  have h2 := fden_bd u
  have h3 := fac_bd k
  refine red_eq (Nat.mul_pos (by omega) (by omega)) (by omega) ?_
  have e1 := fac_eq u
  have e2 := fac_eq k
  calc v * fnum u * fden k * fac k = v * fnum u * (fac k * fden k) := by ac_rfl
    _ = v * (36 * fnum u) * fnum k := by rw [e2]; ac_rfl
    _ = v * fac u * (fden u * fnum k) := by rw [← e1]; ac_rfl

theorem ConvertAmount_impl (v u k : Int) (w : World) (hf : Flows w) :
    Calls Tryd.prog 14 #[.agg #[.int .i64 v, .int .i64 u], .int .i64 k] w fun e w' => e = .returned (convOf v u k) ∧ Below w.heap.size w w' := by
  cases hg : goodAmt v u
  · have Hg := Lib.hid hg
    clear hg
    go_enter Tryd.func14, Tryd.ntmps14
    go_wp2_with fail
    refine (IsValidAmount_impl _ _ _).mono ?_
    rintro e w1 ⟨rfl, b1⟩
    rw [Hg.out]
    go_wp2_with fail
    go_ret3
    exact ⟨by rw [convOf, Hg.out]; rfl, below_step (below_a1 _ _) b1 (by simp)⟩
  · cases hk : inB k 1 4
    · have Hg := Lib.hid hg
      have Hk := Lib.hid hk
      clear hg hk
      go_enter Tryd.func14, Tryd.ntmps14
      go_wp2_with fail
      refine (IsValidAmount_impl _ _ _).mono ?_
      rintro e w1 ⟨rfl, b1⟩
      rw [Hg.out]
      go_wp2_with fail
      refine (isUnit_any _ _).mono ?_
      rintro e w2 ⟨rfl, rfl⟩
      rw [Hk.out]
      go_wp2_with fail
      go_ret3
      exact ⟨by rw [convOf, Hg.out, Hk.out]; rfl, below_step (below_a1 _ _) b1 (by simp)⟩
    · obtain ⟨hv, hu⟩ : inB v 0 1000000 = true ∧ inB u 1 4 = true := by simpa [goodAmt] using hg
      obtain ⟨hv0, hv1⟩ := inB_yes.1 hv
      obtain ⟨hu0, hu1⟩ := inB_yes.1 hu
      obtain ⟨hk0, hk1⟩ := inB_yes.1 hk
      have Hg := Lib.hid hg
      have Hk := Lib.hid hk
      clear hg hk hv hu
      have hin := fun W h => Lib.hid (inUnit_any v u k W hv0 hv1 hu0 hu1 hk0 hk1 h)
      obtain ⟨e1, e2⟩ := conv_same v.toNat u k
      rw [e1, e2] at hin
      have Hin := Lib.hid hin
      clear e1 e2 hin
      go_enter Tryd.func14, Tryd.ntmps14
      go_wp2_with fail
      refine (IsValidAmount_impl _ _ _).mono ?_
      rintro e w1 ⟨rfl, b1⟩
      rw [Hg.out]
      have hc := keeps b1
      go_wp2_with fail
      refine (isUnit_any _ _).mono ?_
      rintro e w2 ⟨rfl, rfl⟩
      rw [Hk.out]
      go_wp2_with fail
      refine (Hin.out _ (hf.later (below_step (below_a1 _ _) b1 (by simp)))).out.mono ?_
      rintro e w3 ⟨rfl, b3⟩
      clear hc
      go_wp2_with fail
      go_quiet (fail)
      go_wp2
      go_ret3
      exact ⟨by rw [convOf, Hg.out, Hk.out]; rfl, below_drewN ((below_step (below_step (below_a1 _ _) b1 (by simp)) b3 (by simp)).alloc (by have := b1.size; have := b3.size; simp at *; omega) _) _⟩

end Go.Proofs.YtlkphjlabmnjiaaDoor
