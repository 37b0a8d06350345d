/- Amounts: sums and comparisons: the walks of both packages. -/
import Derived.Test.YtlkphjlabmnjiaaDoorUnit2
namespace Go.Proofs.YtlkphjlabmnjiaaDoor
open Go.RowKit
set_option linter.unusedVariables false

/-! ### comparisons -/
def cmpI (a b : Int) : Int := if a < b then -1 else if b < a then 1 else 0
theorem isNaN_any (a : Int) (w : World) : Calls Tryd.prog 79 #[.int .i64 a] w fun e w' => e = .returned (.bool false) ∧ w = w' := by
  have h : (a != a) = false := by simp
  go_enter Tryd.func79, Tryd.ntmps79
  go_wp2
  go_ret
  exact ⟨rfl, rfl⟩
theorem cmp_any (a b : Int) (w : World) : Calls Tryd.prog 69 #[.int .i64 a, .int .i64 b] w fun e w' => e = .returned (.int .i64 (cmpI a b)) ∧ w = w' := by
  by_cases h1 : a < b
  · go_enter Tryd.func69, Tryd.ntmps69
    go_wp2_with (go_at_call 79; refine (isNaN_any _ _).mono ?_; rintro e w' ⟨rfl, rfl⟩)
    go_ret
    exact ⟨ret_int (by rw [cmpI, if_pos h1]), rfl⟩
  · by_cases h2 : b < a
    · go_enter Tryd.func69, Tryd.ntmps69
      go_wp2_with (go_at_call 79; refine (isNaN_any _ _).mono ?_; rintro e w' ⟨rfl, rfl⟩)
      go_ret
      exact ⟨ret_int (by rw [cmpI, if_neg (by omega), if_pos h2]), rfl⟩
    · go_enter Tryd.func69, Tryd.ntmps69
      go_wp2_with (go_at_call 79; refine (isNaN_any _ _).mono ?_; rintro e w' ⟨rfl, rfl⟩)
      go_ret
      exact ⟨ret_int (by rw [cmpI, if_neg (by omega), if_neg (by omega)]), rfl⟩

theorem prod_bd {a d : Nat} (h : a ≤ 2160000000) (hd : d ≤ 2160) : a * d ≤ 4665600000000 := Nat.le_trans (Nat.mul_le_mul h hd) (by omega)
theorem plus_any (a b c d : Nat) (w : World) (hb : 0 < b) (hd : 0 < d) (la : a ≤ 2160000000) (lb : b ≤ 2160) (lc : c ≤ 2160000000) (ld : d ≤ 2160) :
    Calls Tryd.prog 50 #[.agg #[.int .i64 a, .int .i64 b], .agg #[.int .i64 c, .int .i64 d]] w fun e w' => e = .returned (.agg #[.int .i64 (redN (a * d + c * b) (b * d)), .int .i64 (redD (a * d + c * b) (b * d))]) ∧ Below w.heap.size w w' := by
  have m1 := prod_bd la ld
  have m2 := prod_bd lc lb
  have m3 : b * d ≤ 4665600 := Nat.le_trans (Nat.mul_le_mul lb ld) (by omega)
  have hred := fun W => asPart_any (a * d + c * b) (b * d) W (Nat.mul_pos hb hd) (by omega) (by omega)
  obtain ⟨i1, j1⟩ := cast_bd m1
  obtain ⟨i2, j2⟩ := cast_bd m2
  obtain ⟨i3, j3⟩ := cast_bd m3
  rw [Int.natCast_add, Int.natCast_mul, Int.natCast_mul, Int.natCast_mul] at hred
  have Hred := Lib.hid hred
  clear hred m1 m2 m3
  go_enter Tryd.func50, Tryd.ntmps50
  go_wp2_with fail
  refine (Hred.out _).mono ?_
  rintro e w1 ⟨rfl, b1⟩
  have hk := keeps b1
  have hkF := keepsF b1
  go_wp2
  exact bodyPost_ret (v := .agg #[.int .i64 (redN (a * d + c * b) (b * d)), .int .i64 (redD (a * d + c * b) (b * d))]) (by simp [results, Tryd.results50, go_sem, hk]) rfl ⟨rfl, ((below_step (below_a3 _ _ _ _) b1 (by simp <;> omega)).setCell (by simp <;> omega) _).setCell (by simp <;> omega) _⟩
theorem compare_any (a b c d : Nat) (w : World) (la : a ≤ 2160000000) (lb : b ≤ 2160) (lc : c ≤ 2160000000) (ld : d ≤ 2160) :
    Calls Tryd.prog 51 #[.agg #[.int .i64 a, .int .i64 b], .agg #[.int .i64 c, .int .i64 d]] w fun e w' => e = .returned (.int .i64 (cmpI ((a : Int) * d) ((c : Int) * b))) ∧ Below w.heap.size w w' := by
  obtain ⟨i1, j1⟩ := cast_bd (prod_bd la ld)
  obtain ⟨i2, j2⟩ := cast_bd (prod_bd lc lb)
  go_enter Tryd.func51, Tryd.ntmps51
  go_wp2_with fail
  refine (cmp_any _ _ _).mono ?_
  rintro e w' ⟨rfl, rfl⟩
  go_wp2_with fail
  go_ret
  exact ⟨rfl, below_a2 _ _ _⟩

/-! ### CompareAmounts -/
def cmpOf (v u x y : Int) : Value :=
  if goodAmt v u && goodAmt x y then .tuple #[.int .i64 (if v.toNat * fac u < x.toNat * fac y then 1 else if x.toNat * fac y < v.toNat * fac u then 2 else 0), .bool true] else .tuple #[.int .i64 0, .bool false]
theorem cmpOf_yes {v x : Nat} {u y : Int} (hg : goodAmt v u = true) (hh : goodAmt x y = true) : .tuple #[.int .i64 (if v * fac u < x * fac y then 1 else if x * fac y < v * fac u then 2 else 0), .bool true] = cmpOf v u x y := by
  rw [cmpOf, hg, hh]; rfl

/-! ### AddAmounts -/
def addOf (v u x y k : Int) : Value :=
  if goodAmt v u && goodAmt x y && inB k 1 4 then .tuple #[.int .i64 (redN (v.toNat * fac u + x.toNat * fac y) (fac k)), .int .i64 (redD (v.toNat * fac u + x.toNat * fac y) (fac k)), .bool true] else .tuple #[.int .i64 0, .int .i64 0, .bool false]
theorem addOf_yes {v x : Nat} {u y k : Int} (hg : goodAmt v u = true) (hh : goodAmt x y = true) (hk : inB k 1 4 = true) : .tuple #[.int .i64 (redN (v * fac u + x * fac y) (fac k)), .int .i64 (redD (v * fac u + x * fac y) (fac k)), .bool true] = addOf v u x y k := by
  rw [addOf, hg, hh, hk]; rfl
set_option maxRecDepth 100000 in
set_option maxHeartbeats 1000000 in
theorem AddAmounts_spec (v u x y k : Int) (w : World) :
    Calls Tryd.prog 17 #[.agg #[.int .i64 v, .int .i64 u], .agg #[.int .i64 x, .int .i64 y], .int .i64 k] w fun e w' => e = .returned (addOf v u x y k) ∧ Below w.heap.size w w' := by
  cases hg : goodAmt v u
  · have Hg := Lib.hid hg
    clear hg
    go_enter Tryd.func17, Tryd.ntmps17
    go_wp2_with fail
    refine (l3Good_any _ _ _).mono ?_
    rintro e w1 ⟨rfl, b1⟩
    have c1 := b1
    have hc := keeps c1
    rw [Hg.out]
    go_wp2_with fail
    go_ret3
    exact ⟨by rw [addOf, Hg.out]; rfl, (below_step (below_a2 _ _ _) c1 (by simp <;> omega))⟩
  · cases hh : goodAmt x y
    · have Hg := Lib.hid hg
      have Hh := Lib.hid hh
      clear hg hh
      go_enter Tryd.func17, Tryd.ntmps17
      go_wp2_with fail
      refine (l3Good_any _ _ _).mono ?_
      rintro e w1 ⟨rfl, b1⟩
      have c1 := b1
      have hc := keeps c1
      rw [Hg.out]
      go_wp2_with fail
      refine (l3Good_any _ _ _).mono ?_
      rintro e w2 ⟨rfl, b2⟩
      have c2 := also c1 b2
      clear hc
      have hc := keeps c2
      rw [Hh.out]
      go_wp2_with fail
      go_ret3
      exact ⟨by rw [addOf, Hg.out, Hh.out]; rfl, (below_step (below_a2 _ _ _) c2 (by simp <;> omega))⟩
    · cases hk : inB k 1 4
      · have Hg := Lib.hid hg
        have Hh := Lib.hid hh
        have Hk := Lib.hid hk
        clear hg hh hk
        go_enter Tryd.func17, Tryd.ntmps17
        go_wp2_with fail
        refine (l3Good_any _ _ _).mono ?_
        rintro e w1 ⟨rfl, b1⟩
        have c1 := b1
        have hc := keeps c1
        rw [Hg.out]
        go_wp2_with fail
        refine (l3Good_any _ _ _).mono ?_
        rintro e w2 ⟨rfl, b2⟩
        have c2 := also c1 b2
        clear hc
        have hc := keeps c2
        rw [Hh.out]
        go_wp2_with fail
        refine (l3Unit_any _ _).mono ?_
        rintro e w' ⟨rfl, rfl⟩
        rw [Hk.out]
        go_wp2_with fail
        go_ret3
        exact ⟨by rw [addOf, Hg.out, Hh.out, Hk.out]; rfl, (below_step (below_a2 _ _ _) c2 (by simp <;> omega))⟩
      · obtain ⟨hvv, huv⟩ : inB v 0 1000000 = true ∧ inB u 1 4 = true := by simpa [goodAmt] using hg
        obtain ⟨lv0, lv1⟩ := inB_yes.1 hvv
        obtain ⟨lu0, lu1⟩ := inB_yes.1 huv
        clear hvv huv
        obtain ⟨hvx, hux⟩ : inB x 0 1000000 = true ∧ inB y 1 4 = true := by simpa [goodAmt] using hh
        obtain ⟨lx0, lx1⟩ := inB_yes.1 hvx
        obtain ⟨ly0, ly1⟩ := inB_yes.1 hux
        clear hvx hux
        obtain ⟨lk0, lk1⟩ := inB_yes.1 hk
        obtain ⟨v, rfl⟩ := Int.eq_ofNat_of_zero_le lv0
        obtain ⟨x, rfl⟩ := Int.eq_ofNat_of_zero_le lx0
        have m1 : v * fac u ≤ 2160000000 := Nat.le_trans (Nat.mul_le_mul (show v ≤ 1000000 by omega) (fac_bd u).2) (by omega)
        have m2 : x * fac y ≤ 2160000000 := Nat.le_trans (Nat.mul_le_mul (show x ≤ 1000000 by omega) (fac_bd y).2) (by omega)
        have hfk := fac_bd k
        have hred := fun W => reduce_r (v * fac u + x * fac y) (fac k) W (by omega) (by omega) (by omega)
        rw [Int.natCast_add, Int.natCast_mul, Int.natCast_mul] at hred
        obtain ⟨i1, j1⟩ := cast_bd m1
        obtain ⟨i2, j2⟩ := cast_bd m2
        have hs1 := fun W => l3Small_any v u W (by omega) lu0 lu1
        have hs2 := fun W => l3Small_any x y W (by omega) ly0 ly1
        rw [Int.natCast_mul] at hs1 hs2
        have hfa := fun W => l3Factor_any k W lk0 lk1
        have hadd : IntKind.i64.wrap ((v : Int) * (fac u : Int) + (x : Int) * (fac y : Int)) = (v : Int) * (fac u : Int) + (x : Int) * (fac y : Int) := IntWalk.i64_in _ ⟨by omega, by omega⟩
        have Hadd := Lib.hid hadd
        have Hred := Lib.hid hred
        have Hs1 := Lib.hid hs1
        have Hs2 := Lib.hid hs2
        have Hfa := Lib.hid hfa
        clear hred hs1 hs2 hfa hadd m1 m2
        have Hg := Lib.hid hg
        have Hh := Lib.hid hh
        have Hk := Lib.hid hk
        clear hg hh hk
        go_enter Tryd.func17, Tryd.ntmps17
        go_wp2_with fail
        refine (l3Good_any _ _ _).mono ?_
        rintro e w1 ⟨rfl, b1⟩
        have c1 := b1
        have hc := keeps c1
        rw [Hg.out]
        go_wp2_with fail
        refine (l3Good_any _ _ _).mono ?_
        rintro e w2 ⟨rfl, b2⟩
        have c2 := also c1 b2
        clear hc
        have hc := keeps c2
        rw [Hh.out]
        go_wp2_with fail
        refine (l3Unit_any _ _).mono ?_
        rintro e w' ⟨rfl, rfl⟩
        rw [Hk.out]
        have d0 : w2.cell? ⟨w.heap.size, 0, none⟩ = some (.int .i64 v) := by rw [hc _ _ (by simp <;> omega)]; simp [go_sem]
        have d1 : w2.cell? ⟨w.heap.size, 1, none⟩ = some (.int .i64 u) := by rw [hc _ _ (by simp <;> omega)]; simp [go_sem]
        have d2 : w2.cell? ⟨w.heap.size + 1, 0, none⟩ = some (.int .i64 x) := by rw [hc _ _ (by simp <;> omega)]; simp [go_sem]
        have d3 : w2.cell? ⟨w.heap.size + 1, 1, none⟩ = some (.int .i64 y) := by rw [hc _ _ (by simp <;> omega)]; simp [go_sem]
        clear hc
        go_wp2_with fail
        have hadd := Hadd.out
        go_region_held3 (fun w' => w'.cell? ⟨w.heap.size, 0, none⟩ = some (.int .i64 v) ∧ w'.cell? ⟨w.heap.size, 1, none⟩ = some (.int .i64 u) ∧ w'.cell? ⟨w.heap.size + 1, 0, none⟩ = some (.int .i64 x) ∧ w'.cell? ⟨w.heap.size + 1, 1, none⟩ = some (.int .i64 y) ∧ Below w2.heap.size w2 w') (first | (go_split_ands; refine held4 d0 d1 d2 d3 ?_; first | exact (Below.refl _ _).drew | exact also (by assumption) (by assumption) | exact below_drewN (by assumption) _ | exact Below.alloc (by assumption) (Below.size (by assumption)) _ | exact below_realloc (by assumption) (Hid.out (by assumption)) | (refine Below.setCell (Below.setCell (by assumption) ?_ _) ?_ _ <;> first | exact Nat.le_refl _ | exact Hid.out (by assumption)))) (first | (go_at_call 47; (first | (with_reducible refine (Hs1.out _).mono ?_) | (with_reducible refine (Hs2.out _).mono ?_)); rintro e w3 ⟨rfl, b3⟩) | (go_at_call 43; (with_reducible refine (Hfa.out _).mono ?_); rintro e w3 ⟨rfl, b3⟩) | (go_at_call 42; (with_reducible refine (Hred.out _).mono ?_); rintro e w4 ⟨rfl, n, rfl⟩))
        clear hadd
        go_wp2
        go_ret3
        rename_i hS
        exact ⟨congrArg Ending.returned (addOf_yes Hg.out Hh.out Hk.out), below_step (below_a2 _ _ _) (also c2 hS.2.2.2.2) (by simp <;> omega)⟩
set_option maxRecDepth 100000 in
set_option maxHeartbeats 1000000 in
theorem CompareAmounts_spec (v u x y : Int) (w : World) :
    Calls Tryd.prog 19 #[.agg #[.int .i64 v, .int .i64 u], .agg #[.int .i64 x, .int .i64 y]] w fun e w' => e = .returned (cmpOf v u x y) ∧ Below w.heap.size w w' := by
  cases hg : goodAmt v u
  · have Hg := Lib.hid hg
    clear hg
    go_enter Tryd.func19, Tryd.ntmps19
    go_wp2_with fail
    refine (l3Good_any _ _ _).mono ?_
    rintro e w1 ⟨rfl, b1⟩
    have c1 := b1
    have hc := keeps c1
    rw [Hg.out]
    go_wp2_with fail
    go_ret2
    exact ⟨by rw [cmpOf, Hg.out]; rfl, (below_step (below_a2 _ _ _) c1 (by simp <;> omega))⟩
  · cases hh : goodAmt x y
    · have Hg := Lib.hid hg
      have Hh := Lib.hid hh
      clear hg hh
      go_enter Tryd.func19, Tryd.ntmps19
      go_wp2_with fail
      refine (l3Good_any _ _ _).mono ?_
      rintro e w1 ⟨rfl, b1⟩
      have c1 := b1
      have hc := keeps c1
      rw [Hg.out]
      go_wp2_with fail
      refine (l3Good_any _ _ _).mono ?_
      rintro e w2 ⟨rfl, b2⟩
      have c2 := also c1 b2
      clear hc
      have hc := keeps c2
      rw [Hh.out]
      go_wp2_with fail
      go_ret2
      exact ⟨by rw [cmpOf, Hg.out, Hh.out]; rfl, (below_step (below_a2 _ _ _) c2 (by simp <;> omega))⟩
    · obtain ⟨hvv, huv⟩ : inB v 0 1000000 = true ∧ inB u 1 4 = true := by simpa [goodAmt] using hg
      obtain ⟨lv0, lv1⟩ := inB_yes.1 hvv
      obtain ⟨lu0, lu1⟩ := inB_yes.1 huv
      clear hvv huv
      obtain ⟨hvx, hux⟩ : inB x 0 1000000 = true ∧ inB y 1 4 = true := by simpa [goodAmt] using hh
      obtain ⟨lx0, lx1⟩ := inB_yes.1 hvx
      obtain ⟨ly0, ly1⟩ := inB_yes.1 hux
      clear hvx hux
      obtain ⟨v, rfl⟩ := Int.eq_ofNat_of_zero_le lv0
      obtain ⟨x, rfl⟩ := Int.eq_ofNat_of_zero_le lx0
      have m1 : v * fac u ≤ 2160000000 := Nat.le_trans (Nat.mul_le_mul (show v ≤ 1000000 by omega) (fac_bd u).2) (by omega)
      have m2 : x * fac y ≤ 2160000000 := Nat.le_trans (Nat.mul_le_mul (show x ≤ 1000000 by omega) (fac_bd y).2) (by omega)
      have hfin := cmpOf_yes hg hh
      have hs1 := fun W => l3Small_any v u W (by omega) lu0 lu1
      have hs2 := fun W => l3Small_any x y W (by omega) ly0 ly1
      generalize v * fac u = s at *
      generalize x * fac y = r at *
      have Hs1 := Lib.hid hs1
      have Hs2 := Lib.hid hs2
      have Hfin := Lib.hid hfin
      clear hs1 hs2 hfin
      have Hg := Lib.hid hg
      have Hh := Lib.hid hh
      clear hg hh
      rcases Nat.lt_or_ge s r with h | h
      · have Hf : Hid _ := Hfin
        go_enter Tryd.func19, Tryd.ntmps19
        go_wp2_with fail
        refine (l3Good_any _ _ _).mono ?_
        rintro e w1 ⟨rfl, b1⟩
        have c1 := b1
        have hc := keeps c1
        rw [Hg.out]
        go_wp2_with fail
        refine (l3Good_any _ _ _).mono ?_
        rintro e w2 ⟨rfl, b2⟩
        have c2 := also c1 b2
        clear hc
        have hc := keeps c2
        rw [Hh.out]
        have d0 : w2.cell? ⟨w.heap.size, 0, none⟩ = some (.int .i64 v) := by rw [hc _ _ (by simp <;> omega)]; simp [go_sem]
        have d1 : w2.cell? ⟨w.heap.size, 1, none⟩ = some (.int .i64 u) := by rw [hc _ _ (by simp <;> omega)]; simp [go_sem]
        have d2 : w2.cell? ⟨w.heap.size + 1, 0, none⟩ = some (.int .i64 x) := by rw [hc _ _ (by simp <;> omega)]; simp [go_sem]
        have d3 : w2.cell? ⟨w.heap.size + 1, 1, none⟩ = some (.int .i64 y) := by rw [hc _ _ (by simp <;> omega)]; simp [go_sem]
        clear hc
        go_wp2_with fail
        go_region_held3 (fun w' => w'.cell? ⟨w.heap.size, 0, none⟩ = some (.int .i64 v) ∧ w'.cell? ⟨w.heap.size, 1, none⟩ = some (.int .i64 u) ∧ w'.cell? ⟨w.heap.size + 1, 0, none⟩ = some (.int .i64 x) ∧ w'.cell? ⟨w.heap.size + 1, 1, none⟩ = some (.int .i64 y) ∧ Below w2.heap.size w2 w') (first | (go_split_ands; refine held4 d0 d1 d2 d3 ?_; first | exact (Below.refl _ _).drew | exact also (by assumption) (by assumption) | exact below_drewN (by assumption) _ | exact Below.alloc (by assumption) (Below.size (by assumption)) _ | exact below_realloc (by assumption) (Hid.out (by assumption)) | (refine Below.setCell (Below.setCell (by assumption) ?_ _) ?_ _ <;> first | exact Nat.le_refl _ | exact Hid.out (by assumption)))) (first | (go_at_call 47; (first | (with_reducible refine (Hs1.out _).mono ?_) | (with_reducible refine (Hs2.out _).mono ?_)); rintro e w3 ⟨rfl, b3⟩))
        rename_i hS
        obtain ⟨f0, f1, f2, f3, c3⟩ := hS
        go_wp2_with fail
        go_ret2
        exact ⟨congrArg Ending.returned (by rw [← Hfin.out, if_pos h]; rfl), below_step (below_a2 _ _ _) (also c2 c3) (by simp <;> omega)⟩
      · go_enter Tryd.func19, Tryd.ntmps19
        go_wp2_with fail
        refine (l3Good_any _ _ _).mono ?_
        rintro e w1 ⟨rfl, b1⟩
        have c1 := b1
        have hc := keeps c1
        rw [Hg.out]
        go_wp2_with fail
        refine (l3Good_any _ _ _).mono ?_
        rintro e w2 ⟨rfl, b2⟩
        have c2 := also c1 b2
        clear hc
        have hc := keeps c2
        rw [Hh.out]
        have d0 : w2.cell? ⟨w.heap.size, 0, none⟩ = some (.int .i64 v) := by rw [hc _ _ (by simp <;> omega)]; simp [go_sem]
        have d1 : w2.cell? ⟨w.heap.size, 1, none⟩ = some (.int .i64 u) := by rw [hc _ _ (by simp <;> omega)]; simp [go_sem]
        have d2 : w2.cell? ⟨w.heap.size + 1, 0, none⟩ = some (.int .i64 x) := by rw [hc _ _ (by simp <;> omega)]; simp [go_sem]
        have d3 : w2.cell? ⟨w.heap.size + 1, 1, none⟩ = some (.int .i64 y) := by rw [hc _ _ (by simp <;> omega)]; simp [go_sem]
        clear hc
        go_wp2_with fail
        go_region_held3 (fun w' => w'.cell? ⟨w.heap.size, 0, none⟩ = some (.int .i64 v) ∧ w'.cell? ⟨w.heap.size, 1, none⟩ = some (.int .i64 u) ∧ w'.cell? ⟨w.heap.size + 1, 0, none⟩ = some (.int .i64 x) ∧ w'.cell? ⟨w.heap.size + 1, 1, none⟩ = some (.int .i64 y) ∧ Below w2.heap.size w2 w') (first | (go_split_ands; refine held4 d0 d1 d2 d3 ?_; first | exact (Below.refl _ _).drew | exact also (by assumption) (by assumption) | exact below_drewN (by assumption) _ | exact Below.alloc (by assumption) (Below.size (by assumption)) _ | exact below_realloc (by assumption) (Hid.out (by assumption)) | (refine Below.setCell (Below.setCell (by assumption) ?_ _) ?_ _ <;> first | exact Nat.le_refl _ | exact Hid.out (by assumption)))) (first | (go_at_call 47; (first | (with_reducible refine (Hs1.out _).mono ?_) | (with_reducible refine (Hs2.out _).mono ?_)); rintro e w3 ⟨rfl, b3⟩))
        rename_i hS
        obtain ⟨f0, f1, f2, f3, c3⟩ := hS
        go_wp2_with fail
        go_region_held3 (fun w' => w'.cell? ⟨w.heap.size, 0, none⟩ = some (.int .i64 v) ∧ w'.cell? ⟨w.heap.size, 1, none⟩ = some (.int .i64 u) ∧ w'.cell? ⟨w.heap.size + 1, 0, none⟩ = some (.int .i64 x) ∧ w'.cell? ⟨w.heap.size + 1, 1, none⟩ = some (.int .i64 y) ∧ Below w3.heap.size w3 w') (first | (go_split_ands; refine held4 f0 f1 f2 f3 ?_; first | exact (Below.refl _ _).drew | exact also (by assumption) (by assumption) | exact below_drewN (by assumption) _ | exact Below.alloc (by assumption) (Below.size (by assumption)) _ | exact below_realloc (by assumption) (Hid.out (by assumption)) | (refine Below.setCell (Below.setCell (by assumption) ?_ _) ?_ _ <;> first | exact Nat.le_refl _ | exact Hid.out (by assumption)))) (first | (go_at_call 47; (first | (with_reducible refine (Hs1.out _).mono ?_) | (with_reducible refine (Hs2.out _).mono ?_)); rintro e w5 ⟨rfl, b5⟩))
        rename_i hS
        have c5 := hS.2.2.2.2
        rcases Nat.lt_or_ge r s with h2 | h2
        · go_wp2_with fail
          go_ret2
          exact ⟨congrArg Ending.returned (by rw [← Hfin.out, if_neg (by omega), if_pos h2]; rfl), below_step (below_a2 _ _ _) (also (also c2 c3) c5) (by simp <;> omega)⟩
        · go_wp2_with fail
          go_ret2
          exact ⟨congrArg Ending.returned (by rw [← Hfin.out, if_neg (by omega), if_neg (by omega)]; rfl), below_step (below_a2 _ _ _) (also (also c2 c3) c5) (by simp <;> omega)⟩
set_option maxRecDepth 100000 in
set_option maxHeartbeats 1000000 in
theorem CompareAmounts_impl (v u x y : Int) (w : World) (hf : Flows w) :
    Calls Tryd.prog 20 #[.agg #[.int .i64 v, .int .i64 u], .agg #[.int .i64 x, .int .i64 y]] w fun e w' => e = .returned (cmpOf v u x y) ∧ Below w.heap.size w w' := by
  cases hg : goodAmt v u
  · have Hg := Lib.hid hg
    clear hg
    go_enter Tryd.func20, Tryd.ntmps20
    go_wp2_with fail
    refine (IsValidAmount_impl _ _ _).mono ?_
    rintro e w1 ⟨rfl, b1⟩
    have c1 := b1
    have hc := keeps c1
    rw [Hg.out]
    go_wp2_with fail
    go_ret2
    exact ⟨by rw [cmpOf, Hg.out]; rfl, (below_step (below_a2 _ _ _) c1 (by simp <;> omega))⟩
  · cases hh : goodAmt x y
    · have Hg := Lib.hid hg
      have Hh := Lib.hid hh
      clear hg hh
      go_enter Tryd.func20, Tryd.ntmps20
      go_wp2_with fail
      refine (IsValidAmount_impl _ _ _).mono ?_
      rintro e w1 ⟨rfl, b1⟩
      have c1 := b1
      have hc := keeps c1
      rw [Hg.out]
      go_wp2_with fail
      refine (IsValidAmount_impl _ _ _).mono ?_
      rintro e w2 ⟨rfl, b2⟩
      have c2 := also c1 b2
      clear hc
      have hc := keeps c2
      rw [Hh.out]
      go_wp2_with fail
      go_ret2
      exact ⟨by rw [cmpOf, Hg.out, Hh.out]; rfl, (below_step (below_a2 _ _ _) c2 (by simp <;> omega))⟩
    · obtain ⟨hvv, huv⟩ : inB v 0 1000000 = true ∧ inB u 1 4 = true := by simpa [goodAmt] using hg
      obtain ⟨lv0, lv1⟩ := inB_yes.1 hvv
      obtain ⟨lu0, lu1⟩ := inB_yes.1 huv
      clear hvv huv
      obtain ⟨hvx, hux⟩ : inB x 0 1000000 = true ∧ inB y 1 4 = true := by simpa [goodAmt] using hh
      obtain ⟨lx0, lx1⟩ := inB_yes.1 hvx
      obtain ⟨ly0, ly1⟩ := inB_yes.1 hux
      clear hvx hux
      obtain ⟨v, rfl⟩ := Int.eq_ofNat_of_zero_le lv0
      obtain ⟨x, rfl⟩ := Int.eq_ofNat_of_zero_le lx0
      have h1 : ∀ W, Flows W → Calls Tryd.prog 45 #[.agg #[.int .i64 (v : Int), .int .i64 u], .int .i64 1] W fun e w' => e = .returned (.agg #[.int .i64 (unN v u 1), .int .i64 (unD v u 1)]) ∧ Below W.heap.size W w' := fun W h => by have := inUnit_any v u 1 W lv0 lv1 lu0 lu1 (by omega) (by omega) h; rw [Int.toNat_natCast] at this; exact this
      have h2 : ∀ W, Flows W → Calls Tryd.prog 45 #[.agg #[.int .i64 (x : Int), .int .i64 y], .int .i64 1] W fun e w' => e = .returned (.agg #[.int .i64 (unN x y 1), .int .i64 (unD x y 1)]) ∧ Below W.heap.size W w' := fun W h => by have := inUnit_any x y 1 W lx0 lx1 ly0 ly1 (by omega) (by omega) h; rw [Int.toNat_natCast] at this; exact this
      obtain ⟨q1, q2⟩ := un_bd v u 1 (by omega)
      obtain ⟨q3, q4⟩ := un_bd x y 1 (by omega)
      obtain ⟨e1, e2⟩ := cmp_same v x u y
      have hfin := cmpOf_yes hg hh
      have hcm := fun W => compare_any (unN v u 1) (unD v u 1) (unN x y 1) (unD x y 1) W q1 q2 q3 q4
      have hv : cmpI ((unN v u 1 : Int) * (unD x y 1 : Int)) ((unN x y 1 : Int) * (unD v u 1 : Int)) = if v * fac u < x * fac y then -1 else if x * fac y < v * fac u then 1 else 0 := by
        unfold cmpI
        rw [← Int.natCast_mul, ← Int.natCast_mul]
        simp only [Int.ofNat_lt, e1, e2]
      rw [hv] at hcm
      clear hv e1 e2
      generalize v * fac u = s at *
      generalize x * fac y = r at *
      generalize unN v u 1 = a at *
      generalize unD v u 1 = b at *
      generalize unN x y 1 = c at *
      generalize unD x y 1 = d at *
      obtain ⟨z, hz⟩ : ∃ z : Int, z = if s < r then -1 else if r < s then 1 else 0 := ⟨_, rfl⟩
      rw [← hz] at hcm
      have hzz : (z = -1 ∧ (if s < r then (1 : Int) else if r < s then 2 else 0) = 1) ∨ (z = 1 ∧ (if s < r then (1 : Int) else if r < s then 2 else 0) = 2) ∨ (z = 0 ∧ (if s < r then (1 : Int) else if r < s then 2 else 0) = 0) := by
        rw [hz]
        by_cases h : s < r
        · left; simp [h]
        · by_cases h' : r < s
          · right; left; simp [h, h']
          · right; right; simp [h, h']
      clear hz
      rcases hzz with ⟨rfl, e⟩ | ⟨rfl, e⟩ | ⟨rfl, e⟩
      all_goals
        rw [e] at hfin
        clear e
        have Hh1 := Lib.hid h1
        have Hh2 := Lib.hid h2
        have Hhcm := Lib.hid hcm
        have Hhfin := Lib.hid hfin
        clear h1 h2 hcm hfin
        have Hg := Lib.hid hg
        have Hh := Lib.hid hh
        clear hg hh
        go_enter Tryd.func20, Tryd.ntmps20
        go_wp2_with fail
        refine (IsValidAmount_impl _ _ _).mono ?_
        rintro e w1 ⟨rfl, b1⟩
        have c1 := b1
        have hc := keeps c1
        rw [Hg.out]
        go_wp2_with fail
        refine (IsValidAmount_impl _ _ _).mono ?_
        rintro e w2 ⟨rfl, b2⟩
        have c2 := also c1 b2
        clear hc
        have hc := keeps c2
        rw [Hh.out]
        have d0 : w2.cell? ⟨w.heap.size, 0, none⟩ = some (.int .i64 v) := by rw [hc _ _ (by simp <;> omega)]; simp [go_sem]
        have d1 : w2.cell? ⟨w.heap.size, 1, none⟩ = some (.int .i64 u) := by rw [hc _ _ (by simp <;> omega)]; simp [go_sem]
        have d2 : w2.cell? ⟨w.heap.size + 1, 0, none⟩ = some (.int .i64 x) := by rw [hc _ _ (by simp <;> omega)]; simp [go_sem]
        have d3 : w2.cell? ⟨w.heap.size + 1, 1, none⟩ = some (.int .i64 y) := by rw [hc _ _ (by simp <;> omega)]; simp [go_sem]
        clear hc
        have hf2 := hf.later (below_step (below_a2 _ _ _) c2 (by simp <;> omega))
        have Hf2 := Lib.hid hf2
        clear hf2
        go_wp2_with fail
        go_region_held3 (fun w' => w'.cell? ⟨w.heap.size, 0, none⟩ = some (.int .i64 v) ∧ w'.cell? ⟨w.heap.size, 1, none⟩ = some (.int .i64 u) ∧ w'.cell? ⟨w.heap.size + 1, 0, none⟩ = some (.int .i64 x) ∧ w'.cell? ⟨w.heap.size + 1, 1, none⟩ = some (.int .i64 y) ∧ Below w2.heap.size w2 w') (first | (go_split_ands; refine held4 d0 d1 d2 d3 ?_; first | exact (Below.refl _ _).drew | exact also (by assumption) (by assumption) | exact below_drewN (by assumption) _ | exact Below.alloc (by assumption) (Below.size (by assumption)) _ | exact below_realloc (by assumption) (Hid.out (by assumption)) | (refine Below.setCell (Below.setCell (by assumption) ?_ _) ?_ _ <;> first | exact Nat.le_refl _ | exact Hid.out (by assumption)))) (first | (go_at_call 45; (first | (with_reducible refine (Hh1.out _ (Hf2.out.later (by first | exact (Below.refl _ _).drew | (go_split_ands; assumption)))).mono ?_) | (with_reducible refine (Hh2.out _ (Hf2.out.later (by first | exact (Below.refl _ _).drew | (go_split_ands; assumption)))).mono ?_)); rintro e w3 ⟨rfl, b3⟩) | (go_at_call 51; (with_reducible refine (Hhcm.out _).mono ?_); rintro e w4 ⟨rfl, b4⟩))
        rename_i hS
        have c5 := hS.2.2.2.2
        clear hS
        go_wp2_with fail
        go_ret2
        exact ⟨congrArg Ending.returned Hhfin.out, below_step (below_a2 _ _ _) (also c2 c5) (by simp <;> omega)⟩
set_option maxRecDepth 100000 in
set_option maxHeartbeats 1000000 in
theorem AddAmounts_impl (v u x y k : Int) (w : World) (hf : Flows w) :
    Calls Tryd.prog 18 #[.agg #[.int .i64 v, .int .i64 u], .agg #[.int .i64 x, .int .i64 y], .int .i64 k] w fun e w' => e = .returned (addOf v u x y k) ∧ Below w.heap.size w w' := by
  cases hg : goodAmt v u
  · have Hg := Lib.hid hg
    clear hg
    go_enter Tryd.func18, Tryd.ntmps18
    go_wp2_with fail
    refine (IsValidAmount_impl _ _ _).mono ?_
    rintro e w1 ⟨rfl, b1⟩
    have c1 := b1
    have hc := keeps c1
    rw [Hg.out]
    go_wp2_with fail
    go_ret3
    exact ⟨by rw [addOf, Hg.out]; rfl, (below_step (below_a2 _ _ _) c1 (by simp <;> omega))⟩
  · cases hh : goodAmt x y
    · have Hg := Lib.hid hg
      have Hh := Lib.hid hh
      clear hg hh
      go_enter Tryd.func18, Tryd.ntmps18
      go_wp2_with fail
      refine (IsValidAmount_impl _ _ _).mono ?_
      rintro e w1 ⟨rfl, b1⟩
      have c1 := b1
      have hc := keeps c1
      rw [Hg.out]
      go_wp2_with fail
      refine (IsValidAmount_impl _ _ _).mono ?_
      rintro e w2 ⟨rfl, b2⟩
      have c2 := also c1 b2
      clear hc
      have hc := keeps c2
      rw [Hh.out]
      go_wp2_with fail
      go_ret3
      exact ⟨by rw [addOf, Hg.out, Hh.out]; rfl, (below_step (below_a2 _ _ _) c2 (by simp <;> omega))⟩
    · cases hk : inB k 1 4
      · have Hg := Lib.hid hg
        have Hh := Lib.hid hh
        have Hk := Lib.hid hk
        clear hg hh hk
        go_enter Tryd.func18, Tryd.ntmps18
        go_wp2_with fail
        refine (IsValidAmount_impl _ _ _).mono ?_
        rintro e w1 ⟨rfl, b1⟩
        have c1 := b1
        have hc := keeps c1
        rw [Hg.out]
        go_wp2_with fail
        refine (IsValidAmount_impl _ _ _).mono ?_
        rintro e w2 ⟨rfl, b2⟩
        have c2 := also c1 b2
        clear hc
        have hc := keeps c2
        rw [Hh.out]
        go_wp2_with fail
        refine (isUnit_any _ _).mono ?_
        rintro e w' ⟨rfl, rfl⟩
        rw [Hk.out]
        go_wp2_with fail
        go_ret3
        exact ⟨by rw [addOf, Hg.out, Hh.out, Hk.out]; rfl, (below_step (below_a2 _ _ _) c2 (by simp <;> omega))⟩
      · obtain ⟨hvv, huv⟩ : inB v 0 1000000 = true ∧ inB u 1 4 = true := by simpa [goodAmt] using hg
        obtain ⟨lv0, lv1⟩ := inB_yes.1 hvv
        obtain ⟨lu0, lu1⟩ := inB_yes.1 huv
        clear hvv huv
        obtain ⟨hvx, hux⟩ : inB x 0 1000000 = true ∧ inB y 1 4 = true := by simpa [goodAmt] using hh
        obtain ⟨lx0, lx1⟩ := inB_yes.1 hvx
        obtain ⟨ly0, ly1⟩ := inB_yes.1 hux
        clear hvx hux
        obtain ⟨lk0, lk1⟩ := inB_yes.1 hk
        obtain ⟨v, rfl⟩ := Int.eq_ofNat_of_zero_le lv0
        obtain ⟨x, rfl⟩ := Int.eq_ofNat_of_zero_le lx0
        have h1 : ∀ W, Flows W → Calls Tryd.prog 45 #[.agg #[.int .i64 (v : Int), .int .i64 u], .int .i64 k] W fun e w' => e = .returned (.agg #[.int .i64 (unN v u k), .int .i64 (unD v u k)]) ∧ Below W.heap.size W w' := fun W h => by have := inUnit_any v u k W lv0 lv1 lu0 lu1 (by omega) (by omega) h; rw [Int.toNat_natCast] at this; exact this
        have h2 : ∀ W, Flows W → Calls Tryd.prog 45 #[.agg #[.int .i64 (x : Int), .int .i64 y], .int .i64 k] W fun e w' => e = .returned (.agg #[.int .i64 (unN x y k), .int .i64 (unD x y k)]) ∧ Below W.heap.size W w' := fun W h => by have := inUnit_any x y k W lx0 lx1 ly0 ly1 (by omega) (by omega) h; rw [Int.toNat_natCast] at this; exact this
        obtain ⟨q1, q2⟩ := un_bd v u k (by omega)
        obtain ⟨q3, q4⟩ := un_bd x y k (by omega)
        obtain ⟨_, q5⟩ := un_cross v u k
        obtain ⟨_, q6⟩ := un_cross x y k
        obtain ⟨e1, e2⟩ := sum_same v x u y k
        have hfin := addOf_yes hg hh hk
        rw [← e1, ← e2] at hfin
        clear e1 e2
        generalize unN v u k = a at *
        generalize unD v u k = b at *
        generalize unN x y k = c at *
        generalize unD x y k = d at *
        have hpl := fun W => plus_any a b c d W q5 q6 q1 q2 q3 q4
        have Hh1 := Lib.hid h1
        have Hh2 := Lib.hid h2
        have Hhpl := Lib.hid hpl
        have Hhfin := Lib.hid hfin
        clear h1 h2 hpl hfin
        have Hg := Lib.hid hg
        have Hh := Lib.hid hh
        have Hk := Lib.hid hk
        clear hg hh hk
        go_enter Tryd.func18, Tryd.ntmps18
        go_wp2_with fail
        refine (IsValidAmount_impl _ _ _).mono ?_
        rintro e w1 ⟨rfl, b1⟩
        have c1 := b1
        have hc := keeps c1
        rw [Hg.out]
        go_wp2_with fail
        refine (IsValidAmount_impl _ _ _).mono ?_
        rintro e w2 ⟨rfl, b2⟩
        have c2 := also c1 b2
        clear hc
        have hc := keeps c2
        rw [Hh.out]
        go_wp2_with fail
        refine (isUnit_any _ _).mono ?_
        rintro e w' ⟨rfl, rfl⟩
        rw [Hk.out]
        have d0 : w2.cell? ⟨w.heap.size, 0, none⟩ = some (.int .i64 v) := by rw [hc _ _ (by simp <;> omega)]; simp [go_sem]
        have d1 : w2.cell? ⟨w.heap.size, 1, none⟩ = some (.int .i64 u) := by rw [hc _ _ (by simp <;> omega)]; simp [go_sem]
        have d2 : w2.cell? ⟨w.heap.size + 1, 0, none⟩ = some (.int .i64 x) := by rw [hc _ _ (by simp <;> omega)]; simp [go_sem]
        have d3 : w2.cell? ⟨w.heap.size + 1, 1, none⟩ = some (.int .i64 y) := by rw [hc _ _ (by simp <;> omega)]; simp [go_sem]
        clear hc
        have hf2 := hf.later (below_step (below_a2 _ _ _) c2 (by simp <;> omega))
        have Hf2 := Lib.hid hf2
        clear hf2
        go_wp2_with fail
        go_region_held3 (fun w' => w'.cell? ⟨w.heap.size, 0, none⟩ = some (.int .i64 v) ∧ w'.cell? ⟨w.heap.size, 1, none⟩ = some (.int .i64 u) ∧ w'.cell? ⟨w.heap.size + 1, 0, none⟩ = some (.int .i64 x) ∧ w'.cell? ⟨w.heap.size + 1, 1, none⟩ = some (.int .i64 y) ∧ Below w2.heap.size w2 w') (first | (go_split_ands; refine held4 d0 d1 d2 d3 ?_; first | exact (Below.refl _ _).drew | exact also (by assumption) (by assumption) | exact below_drewN (by assumption) _ | exact Below.alloc (by assumption) (Below.size (by assumption)) _ | exact below_realloc (by assumption) (Hid.out (by assumption)) | (refine Below.setCell (Below.setCell (by assumption) ?_ _) ?_ _ <;> first | exact Nat.le_refl _ | exact Hid.out (by assumption)))) (first | (go_at_call 45; (first | (with_reducible refine (Hh1.out _ (Hf2.out.later (by first | exact (Below.refl _ _).drew | (go_split_ands; assumption)))).mono ?_) | (with_reducible refine (Hh2.out _ (Hf2.out.later (by first | exact (Below.refl _ _).drew | (go_split_ands; assumption)))).mono ?_)); rintro e w3 ⟨rfl, b3⟩; have y3 : Hid (w2.heap.size ≤ w3.heap.size) := Lib.hid (Nat.le_trans (show _ ∧ _ ∧ _ ∧ _ ∧ Below w2.heap.size w2 _ by assumption).2.2.2.2.size b3.size); have hk3 := keeps b3; have hl3 := keepsF b3; have z3 := Below.size b3; (try simp at z3); (try have x3 := Nat.lt_of_succ_le z3); (try have t3 : w2.heap.size < w3.heap.size := by omega)) | (go_at_call 50; (with_reducible refine (Hhpl.out _).mono ?_); rintro e w4 ⟨rfl, b4⟩; have y4 : Hid (w2.heap.size ≤ w4.heap.size) := Lib.hid (Nat.le_trans (show _ ∧ _ ∧ _ ∧ _ ∧ Below w2.heap.size w2 _ by assumption).2.2.2.2.size b4.size); have hk4 := keeps b4; have hl4 := keepsF b4; have z4 := Below.size b4; (try simp at z4); (try have x4 := Nat.lt_of_succ_le z4); (try have t4 : w2.heap.size < w4.heap.size := by omega)))
        all_goals
          go_wp2_with fail
          go_quiet (fail)
          go_wp2
          go_ret3
          exact ⟨congrArg Ending.returned Hhfin.out, below_drewN (below_step (below_a2 _ _ _) (also c2 (show _ ∧ _ ∧ _ ∧ _ ∧ Below w2.heap.size w2 _ by assumption).2.2.2.2) (by simp <;> omega)) _⟩
end Go.Proofs.YtlkphjlabmnjiaaDoor
