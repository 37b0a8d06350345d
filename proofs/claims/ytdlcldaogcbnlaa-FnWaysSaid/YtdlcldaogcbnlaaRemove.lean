/- RemovePipe: both packages. -/
import Derived.Test.YtdlcldaogcbnlaaDelP
import Derived.Test.YtdlcldaogcbnlaaWithout
import Derived.Test.YtdlcldaogcbnlaaFind
import Derived.Test.YtdlcldaogcbnlaaFinN
import Derived.Test.YtdlcldaogcbnlaaRes
import Derived.Test.YtdlcldaogcbnlaaCurP
import Derived.Test.YtdlcldaogcbnlaaFr
namespace Go.Proofs.Ytdlcldaogcbnlaa
open Go.RowKit
set_option linter.unusedVariables false
set_option linter.unusedSimpArgs false

def RemovePipe_v1 (m : Int) (ps : List Pp) (id : Int) : Bool := goodN m ps && decide (0 ≤ findL ps id)
def RemovePipe_m0 (m : Int) (ps : List Pp) (id : Int) : Int := if RemovePipe_v1 m ps id = true then m else 0
def RemovePipe_v0 (m : Int) (ps : List Pp) (id : Int) : List Pp := if RemovePipe_v1 m ps id = true then ps.eraseIdx (findL ps id).toNat else []
theorem rem_yes {m : Int} {ps : List Pp} {id : Int} (h : goodN m ps = true) (h2 : 0 ≤ findL ps id) : RemovePipe_v1 m ps id = true ∧ RemovePipe_m0 m ps id = m ∧ RemovePipe_v0 m ps id = ps.eraseIdx (findL ps id).toNat := by
  have h3 : RemovePipe_v1 m ps id = true := by unfold RemovePipe_v1; rw [h, decide_eq_true h2]; rfl
  exact ⟨h3, if_pos h3, if_pos h3⟩
theorem rem_no {m : Int} {ps : List Pp} {id : Int} (h : goodN m ps = false ∨ ¬ 0 ≤ findL ps id) : RemovePipe_v1 m ps id = false ∧ RemovePipe_m0 m ps id = 0 ∧ RemovePipe_v0 m ps id = [] := by
  have h3 : RemovePipe_v1 m ps id = false := by
    unfold RemovePipe_v1
    rcases h with h | h
    · rw [h]; rfl
    · rw [decide_eq_false h, Bool.and_false]
  exact ⟨h3, if_neg (by rw [h3]; simp), if_neg (by rw [h3]; simp)⟩
theorem findL_lt' (ps : List Pp) (v : Int) : findL ps v < (ps.length : Int) := by
  induction ps with
  | nil => simp [findL]
  | cons p ps ih => unfold findL; rw [List.length_cons]; split
                    · omega
                    · split <;> omega
theorem RemovePipe_len (m : Int) (ps : List Pp) (id : Int) : (RemovePipe_v0 m ps id).length ≤ 1048576 := by
  by_cases h : RemovePipe_v1 m ps id = true
  · have h2 := h
    unfold RemovePipe_v1 at h2
    rw [Bool.and_eq_true] at h2
    have hg := (good_of h2.1).len
    unfold RemovePipe_v0
    rw [if_pos h, List.length_eraseIdx]
    split <;> omega
  · unfold RemovePipe_v0; rw [if_neg h]; simp
theorem l2Without_z (m : Int) (A : Option Addr) (n c : Nat) (ps : List Pp) (z : Int) (i : Nat) (w : World) (ha : Rd w 4 A n (pipesV ps)) (hn : n ≤ 1048576) (hf : Fm A n c) (hi : i < n) (e : z = ((i : Nat) : Int)) :
    Calls Try.prog 54 #[.agg #[.int .i64 m, .slice A n c], .int .i64 z] w fun e w' => ∃ A' n' c', e = .returned (.agg #[.int .i64 m, .slice A' n' c']) ∧ Rd w' 4 A' n' (pipesV (ps.eraseIdx i)) ∧ Fm A' n' c' ∧ Below w.heap.size w w' := by
  subst e
  exact l2Without_any m A n c ps i w ha hn hf hi

set_option maxRecDepth 100000 in
set_option maxHeartbeats 8000000 in
theorem hasPipe_any (m : Int) (A : Option Addr) (n c : Nat) (ps : List Pp) (id : Int) (w : World) (ha : Rd w 4 A n (pipesV ps)) (hn : n ≤ 1048576) :
    Calls Try.prog 55 #[.agg #[.int .i64 m, .slice A n c], .int .i64 id] w fun e w' => e = .returned (.bool (RemovePipe_v1 m ps id)) ∧ Below w.heap.size w w' := by
  have hl := rd_pipes_len ha
  go_enter Try.func55, Try.ntmps55
  refine wp_seq_k (fun K1 h1 => ?_)
  refine W.region_plain (row := none) [(0, true), (1, false)] (by kernel_rfl) ?_
  have s1 := SG.self w none
  refine W.sn (fun b => .pointer (some ⟨b, 0, none⟩)) #[.int .i64 m, .slice A n c] 31 s1 rfl (by kernel_rfl) rfl (fun _ => by kernel_rfl) (fun b2 w3 hb4 k5 x6 s7 => ?_)
  have lo8 : w.heap.size ≤ b2 := Nat.le_trans ((SG.belowR (Below.refl _ _) s1 (fun kq e => by cases e))).size (Nat.le_of_eq hb4)
  refine W.as (v := .bool false) (h := ?_)
  refine W.endF 13 [(0, .agg #[.int .i64 m, .slice A n c]), (1, .int .i64 id), (2, .pointer (some ⟨b2, 0, none⟩)), (4, .bool false)] (fun U9 => ?_)
  have c10 := (SG.belowR (Below.refl _ _) s7 (fun kq e => by cases e))
  refine h1 _ _ ?_
  refine wp_seq_k (fun K2 h2 => ?_)
  refine W.region_plain (row := none) [(0, false), (1, true), (2, false), (3, false), (4, false), (5, true), (6, false), (7, false), (8, false)] (by kernel_rfl) ?_
  have s11 := SG.self w3 none
  refine F.q (v := .agg #[.int .i64 m, .slice A n c]) (hr := (r_load2 rfl (ev_any (by kernel_rfl)) (by kernel_rfl) (by kernel_rfl) (sgS (blk_cell (j := 0) x6 (by kernel_rfl)) (Option.some_ne_none _)) (sgS (blk_cell (j := 1) x6 (by kernel_rfl)) (Option.some_ne_none _)))) (h := ?_)
  refine W.sc (vs := [.agg #[.int .i64 m, .slice A n c]]) rfl rfl (by kernel_rfl) (by kernel_rfl) (by kernel_rfl) rfl (IsValid_any m A n c ps _ (Rd.kept ha (SG.belowR c10 s11 (fun kq e => by cases e))) (by omega)) ?_
  rintro e w13 ⟨rfl, b12⟩
  have s14 := SG.of_below s11 b12
  refine ⟨_, rfl, s14, ?_⟩
  refine F.nx ?_
  rcases Bool.eq_false_or_eq_true (goodN m ps) with q15 | q15
  · rw [q15]
    refine F.mv (v := .bool true) (h := ?_)
    refine F.q (v := .agg #[.int .i64 m, .slice A n c]) (hr := (r_load2 rfl (ev_any (by kernel_rfl)) (by kernel_rfl) (by kernel_rfl) (sgS (blk_cell (j := 0) x6 (by kernel_rfl)) (Option.some_ne_none _)) (sgS (blk_cell (j := 1) x6 (by kernel_rfl)) (Option.some_ne_none _)))) (h := ?_)
    refine F.mv (v := .int .i64 id) (h := ?_)
    refine W.sc (vs := [.agg #[.int .i64 m, .slice A n c], .int .i64 id]) rfl rfl (by kernel_rfl) (by kernel_rfl) (by kernel_rfl) rfl (pipeIndex_any m A n c ps id _ (Rd.kept ha (SG.belowR c10 s14 (fun kq e => by cases e))) (by omega)) ?_
    rintro e w17 ⟨rfl, b16⟩
    have s18 := SG.of_below s14 b16
    refine ⟨_, rfl, s18, ?_⟩
    refine F.nx ?_
    by_cases q19 : (findL ps id : Int) ≥ (0 : Int)
    · refine F.q (v := .bool true) (hr := (r_geq (m := findL ps id) (n := 0) rfl (ev_any (by kernel_rfl)) (ev_any (by kernel_rfl)) (decide_eq_true q19))) (h := ?_)
      refine F.q (v := .bool true) (hr := (r_pick (b := true) rfl (ev_any (by kernel_rfl)) (ev_any (by kernel_rfl)))) (h := ?_)
      refine F.as (v := .bool true) (h := ?_)
      refine F.endF [(0, .agg #[.int .i64 m, .slice A n c]), (1, .int .i64 id), (2, .pointer (some ⟨b2, 0, none⟩)), (4, .bool true)] (fun U20 => ?_)
      have x6 := SG.blk s18 x6 (Option.some_ne_none _)
      have c21 := (SG.belowR c10 s18 (fun kq e => by cases e))
      refine h2 _ _ ?_
      refine wp_ret ?_
      try simp only [Exit.then]
      refine ret1 (v := .bool true) rfl (by kernel_rfl) ?_
      exact ⟨by rw [(rem_yes q15 (by omega)).1], c21⟩
    · refine F.q (v := .bool false) (hr := (r_geq (m := findL ps id) (n := 0) rfl (ev_any (by kernel_rfl)) (ev_any (by kernel_rfl)) (decide_eq_false q19))) (h := ?_)
      refine F.q (v := .bool false) (hr := (r_pick (b := true) rfl (ev_any (by kernel_rfl)) (ev_any (by kernel_rfl)))) (h := ?_)
      refine F.as (v := .bool false) (h := ?_)
      refine F.endF [(0, .agg #[.int .i64 m, .slice A n c]), (1, .int .i64 id), (2, .pointer (some ⟨b2, 0, none⟩)), (4, .bool false)] (fun U22 => ?_)
      have x6 := SG.blk s18 x6 (Option.some_ne_none _)
      have c23 := (SG.belowR c10 s18 (fun kq e => by cases e))
      refine h2 _ _ ?_
      refine wp_ret ?_
      try simp only [Exit.then]
      refine ret1 (v := .bool false) rfl (by kernel_rfl) ?_
      exact ⟨by rw [(rem_no (.inr (by omega))).1], c23⟩
  · rw [q15]
    refine F.mv (v := .bool false) (h := ?_)
    refine F.sp s14 (h := ?_)
    refine F.sp s14 (h := ?_)
    refine F.sp s14 (h := ?_)
    refine F.sp s14 (h := ?_)
    refine F.q (v := .bool false) (hr := (r_pick (b := false) rfl (ev_any (by kernel_rfl)) (ev_any (by kernel_rfl)))) (h := ?_)
    refine F.as (v := .bool false) (h := ?_)
    refine F.endF [(0, .agg #[.int .i64 m, .slice A n c]), (1, .int .i64 id), (2, .pointer (some ⟨b2, 0, none⟩)), (4, .bool false)] (fun U24 => ?_)
    have x6 := SG.blk s14 x6 (Option.some_ne_none _)
    have c25 := (SG.belowR c10 s14 (fun kq e => by cases e))
    refine h2 _ _ ?_
    refine wp_ret ?_
    try simp only [Exit.then]
    refine ret1 (v := .bool false) rfl (by kernel_rfl) ?_
    exact ⟨by rw [(rem_no (.inl q15)).1], c25⟩

set_option maxRecDepth 100000 in
set_option maxHeartbeats 8000000 in
theorem RemovePipe_impl (m : Int) (A : Option Addr) (n c : Nat) (ps : List Pp) (id : Int) (w : World) (ha : Rd w 4 A n (pipesV ps)) (hn : n ≤ 1048576) (hf : Fm A n c) :
    Calls Try.prog 30 #[.agg #[.int .i64 m, .slice A n c], .int .i64 id] w fun e w' => ∃ A' d, e = .returned (.tuple #[.agg #[.int .i64 (RemovePipe_m0 m ps id), .slice A' (RemovePipe_v0 m ps id).length d], .bool (RemovePipe_v1 m ps id)]) ∧ w'.ownsRow w.heap.size 51 4 (.slice A' (RemovePipe_v0 m ps id).length d) (RemovePipe_v0 m ps id).length (pipesV (RemovePipe_v0 m ps id)) ∧ Below w.heap.size w w' := by
  have hl := rd_pipes_len ha
  go_enter Try.func30, Try.ntmps30
  refine wp_seq_k (fun K1 h1 => ?_)
  refine W.region_plain (row := none) [(0, true), (1, true), (2, false)] (by kernel_rfl) ?_
  have s1 := SG.self w none
  refine W.sn (fun b => .pointer (some ⟨b, 0, none⟩)) #[.int .i64 m, .slice A n c] 31 s1 rfl (by kernel_rfl) rfl (fun _ => by kernel_rfl) (fun b2 w3 hb4 k5 x6 s7 => ?_)
  have lo8 : w.heap.size ≤ b2 := Nat.le_trans ((SG.belowR (Below.refl _ _) s1 (fun kq e => by cases e))).size (Nat.le_of_eq hb4)
  refine W.sn (fun b => .pointer (some ⟨b, 0, none⟩)) #[.int .i64 0, .slice none 0 0] 31 s7 rfl (by kernel_rfl) rfl (fun _ => by kernel_rfl) (fun b9 w10 hb11 k12 x13 s14 => ?_)
  have lo15 : w.heap.size ≤ b9 := Nat.le_trans ((SG.belowR (Below.refl _ _) s7 (fun kq e => by cases e))).size (Nat.le_of_eq hb11)
  have ne16 : b2 ≠ b9 := Nat.ne_of_lt (Nat.lt_of_lt_of_eq (blk_lt x6) hb11)
  have x6 := (k12.block _ (blk_lt x6)).trans x6
  refine W.as (v := .bool false) (h := ?_)
  refine W.endF 26 [(0, .agg #[.int .i64 m, .slice A n c]), (1, .int .i64 id), (2, .pointer (some ⟨b2, 0, none⟩)), (4, .pointer (some ⟨b9, 0, none⟩)), (5, .bool false)] (fun U17 => ?_)
  have c18 := (SG.belowR (Below.refl _ _) s14 (fun kq e => by cases e))
  refine h1 _ _ ?_
  refine wp_seq_k (fun K2 h2 => ?_)
  refine wp_seq_k (fun K3 h3 => ?_)
  refine W.region_plain (row := none) [(0, false), (1, false), (2, true), (3, false)] (by kernel_rfl) ?_
  have s19 := SG.self w10 none
  refine F.q (v := .agg #[.int .i64 m, .slice A n c]) (hr := (r_load2 rfl (ev_any (by kernel_rfl)) (by kernel_rfl) (by kernel_rfl) (sgS (blk_cell (j := 0) x6 (by kernel_rfl)) (Option.some_ne_none _)) (sgS (blk_cell (j := 1) x6 (by kernel_rfl)) (Option.some_ne_none _)))) (h := ?_)
  refine F.mv (v := .int .i64 id) (h := ?_)
  refine W.sc (vs := [.agg #[.int .i64 m, .slice A n c], .int .i64 id]) rfl rfl (by kernel_rfl) (by kernel_rfl) (by kernel_rfl) rfl (hasPipe_any m A n c ps id _ (Rd.kept ha (SG.belowR c18 s19 (fun kq e => by cases e))) (by omega)) ?_
  rintro e w21 ⟨rfl, b20⟩
  have s22 := SG.of_below s19 b20
  refine ⟨_, rfl, s22, ?_⟩
  refine F.nx ?_
  rcases Bool.eq_false_or_eq_true (RemovePipe_v1 m ps id) with q23 | q23
  · rw [q23]
    have hrp := Bool.and_eq_true_iff.1 (show (goodN m ps && decide (0 ≤ findL ps id)) = true from q23)
    have hf0 := of_decide_eq_true hrp.2
    have hgl := (good_of hrp.1).len
    have hfl9 := findL_lt' ps id
    refine F.q (v := .bool false) (hr := (r_not (b := true) rfl (ev_any (by kernel_rfl)) rfl)) (h := ?_)
    refine F.endF [(0, .agg #[.int .i64 m, .slice A n c]), (1, .int .i64 id), (2, .pointer (some ⟨b2, 0, none⟩)), (4, .pointer (some ⟨b9, 0, none⟩)), (5, .bool false), (10, .bool false)] (fun U24 => ?_)
    have x6 := SG.blk s22 x6 (Option.some_ne_none _)
    have x13 := SG.blk s22 x13 (Option.some_ne_none _)
    have c25 := (SG.belowR c18 s22 (fun kq e => by cases e))
    refine h3 _ _ ?_
    refine wp_cond_false (by kernel_rfl) ?_
    refine wp_skip ?_
    refine h2 _ _ ?_
    refine wp_seq_k (fun K4 h4 => ?_)
    refine W.region_plain (row := none) [(0, false), (1, false), (2, true), (3, false)] (by kernel_rfl) ?_
    have s26 := SG.self w21 none
    refine F.q (v := .agg #[.int .i64 m, .slice A n c]) (hr := (r_load2 rfl (ev_any (by kernel_rfl)) (by kernel_rfl) (by kernel_rfl) (sgS (blk_cell (j := 0) x6 (by kernel_rfl)) (Option.some_ne_none _)) (sgS (blk_cell (j := 1) x6 (by kernel_rfl)) (Option.some_ne_none _)))) (h := ?_)
    refine F.mv (v := .int .i64 id) (h := ?_)
    refine W.sc (vs := [.agg #[.int .i64 m, .slice A n c], .int .i64 id]) rfl rfl (by kernel_rfl) (by kernel_rfl) (by kernel_rfl) rfl (pipeIndex_any m A n c ps id _ (Rd.kept ha (SG.belowR c25 s26 (fun kq e => by cases e))) (by omega)) ?_
    rintro e w28 ⟨rfl, b27⟩
    have s29 := SG.of_below s26 b27
    refine ⟨_, rfl, s29, ?_⟩
    refine F.nx ?_
    refine F.as (v := .int .i64 (findL ps id)) (h := ?_)
    refine F.endF [(0, .agg #[.int .i64 m, .slice A n c]), (1, .int .i64 id), (2, .pointer (some ⟨b2, 0, none⟩)), (4, .pointer (some ⟨b9, 0, none⟩)), (5, .bool false), (6, .int .i64 (findL ps id)), (10, .bool false)] (fun U30 => ?_)
    have x6 := SG.blk s29 x6 (Option.some_ne_none _)
    have x13 := SG.blk s29 x13 (Option.some_ne_none _)
    have c31 := (SG.belowR c25 s29 (fun kq e => by cases e))
    refine h4 _ _ ?_
    refine wp_seq_k (fun K5 h5 => ?_)
    refine W.region_sch (row := (some b9)) (Sch.of [(0, false), (1, false), (3, false), (4, false), (6, false), (7, false), (8, false), (2, true), (5, true), (9, true), (10, false), (11, true), (12, false)]) (by kernel_rfl) (by kernel_rfl) (fun _ d _ _ _ h => by cases d <;> exact h) (by kernel_rfl) (fun w32 e33 s34 => ?_)
    have x35 := (heap_same e33 x13)
    refine F.q (v := .pointer (some ⟨b2, 0, none⟩)) (hr := (r_field0 rfl (ev_any (by kernel_rfl)) (by kernel_rfl))) (h := ?_)
    refine F.ld (v := .int .i64 m) (hc := (sgS (blk_cell (j := 0) x6 (by kernel_rfl)) (fun e9 => ne16 (Option.some.inj e9)))) (h := ?_)
    refine F.q (v := .pointer (some ⟨b2, 1, none⟩)) (hr := (r_field (k := 1) rfl (ev_any (by kernel_rfl)) (by kernel_rfl))) (h := ?_)
    refine F.ld (v := .slice A n c) (hc := (sgS (blk_cell (j := 1) x6 (by kernel_rfl)) (fun e9 => ne16 (Option.some.inj e9)))) (h := ?_)
    refine F.mv (v := .int .i64 (findL ps id)) (h := ?_)
    refine F.mv (v := .int .i64 (findL ps id)) (h := ?_)
    refine F.q (v := .int .i64 (findL ps id + 1)) (hr := (r_add (m := findL ps id) (n := 1) (z := findL ps id + 1) rfl (ev_any (by kernel_rfl)) (ev_any (by kernel_rfl)) (rfl) (by omega))) (h := ?_)
    refine W.sn (fun b => .slice (some ⟨b, 0, none⟩) 0 0) #[] 51 s34 rfl (by kernel_rfl) rfl (fun _ => by kernel_rfl) (fun b36 w37 hb38 k39 x40 s41 => ?_)
    refine F.nx ?_
    have lo42 : w.heap.size ≤ b36 := Nat.le_trans ((SG.belowR c31 s34 (fun kq e => by cases e; exact lo15))).size (Nat.le_of_eq hb38)
    have ne43 : b2 ≠ b36 := Nat.ne_of_lt (Nat.lt_of_lt_of_eq (Nat.lt_of_lt_of_le (blk_lt x6) (s34).size) hb38)
    have ne44 : b9 ≠ b36 := Nat.ne_of_lt (Nat.lt_of_lt_of_eq (blk_lt x35) hb38)
    have x35 := (k39.block _ (blk_lt x35)).trans x35
    have ho45 := own_empty (base := w.heap.size) (size := 4) x40 lo42
    replace ho45 : World.ownsRow _ _ _ _ _ _ (pipesV []) := ho45
    have nb46 : Nb b2 (.slice (some ⟨b36, 0, none⟩) 0 0) := nb_new ne43
    have nb47 : Nb b9 (.slice (some ⟨b36, 0, none⟩) 0 0) := nb_new ne44
    replace ho45 : World.ownsRow _ _ _ _ _ _ (pipesV []) := ho45
    refine W.sapR (e := 51) (size := 4) (base := w.heap.size) (v := .slice (some ⟨b36, 0, none⟩) 0 0) (A := A) (m := n) (c := c) s41 rfl rfl rfl rfl (by kernel_rfl) (by kernel_rfl) (by kernel_rfl) ho45 (Rd.kept ha (SG.belowR c31 s41 (fun kq e => by cases e; exact lo15))) hf (pipes_one _) (by omega) (by have := ((SG.belowR c31 s41 (fun kq e => by cases e; exact lo15))).size; omega) (.inr (fun kq e => by have := (s34).size; have := hb38; have e' := Option.some.inj e; simp at e'; omega)) (fun A48 cap49 w50 ho51 hg52 hat53 s54 => ?_)
    refine F.nx ?_
    have nb55 : Nb b2 (.slice A48 (0 + n) cap49) := nb_app2 nb46 (Nat.lt_of_lt_of_le (blk_lt x6) (s41).size) hat53
    have nb56 : Nb b9 (.slice A48 (0 + n) cap49) := nb_app2 nb47 (blk_lt x35) hat53
    have x35 := (hg52.block _ (blk_lt x35) nb47).trans x35
    have ho51 := own_joinP ho51
    have fr57 : ∀ kq, (.slice A48 (0 + n) cap49 : Value).ownBlock = some kq → w28.heap.size ≤ kq := fun kq e => by
      have hs := (s41).size
      rcases hat53 with h | h
      · exact (show ∀ kq, Value.ownBlock _ = some kq → w28.heap.size ≤ kq from (fun kq e => by have := (s34).size; have := hb38; have e' := Option.some.inj e; simp at e'; omega)) kq (h.symm.trans e)
      · have := Option.some.inj (h.symm.trans e); omega
    refine W.sc (vs := [.slice A48 (0 + n) cap49, .int .i64 (findL ps id), .int .i64 (findL ps id + 1)]) rfl rfl (by kernel_rfl) (by kernel_rfl) (by kernel_rfl) rfl (DeleteP_any A48 (0 + n) cap49 ps (findL ps id).toNat w.heap.size (findL ps id) (findL ps id + 1) _ ho51 (by omega) (by omega) (by omega) (by omega)) ?_
    rintro e w59 ⟨rfl, ho61, g60⟩
    have s62 := SG.of_grown s54 g60 (.inr fr57)
    refine ⟨_, rfl, s62, ?_⟩
    refine F.nx ?_
    have nb64 : Nb b2 (.slice A48 ((0 + n) - 1) cap49) := nb_app3 (v := .slice A48 (0 + n) cap49) nb55 (Nat.lt_of_lt_of_le (blk_lt x6) (s54).size) (.inl ob_same)
    have nb65 : Nb b9 (.slice A48 ((0 + n) - 1) cap49) := nb_app3 (v := .slice A48 (0 + n) cap49) nb56 (blk_lt x35) (.inl ob_same)
    have x35 := (g60.block _ (blk_lt x35) nb56).trans x35
    have fr66 : ∀ kq, (.slice A48 ((0 + n) - 1) cap49 : Value).ownBlock = some kq → w28.heap.size ≤ kq := fun kq e => by
      have hs := (s54).size
      rcases (show (.slice A48 ((0 + n) - 1) cap49 : Value).ownBlock = (.slice A48 (0 + n) cap49 : Value).ownBlock ∨ ∀ k9, (.slice A48 ((0 + n) - 1) cap49 : Value).ownBlock = some k9 → w50.heap.size ≤ k9 from (.inl ob_same)) with h | h
      · exact (show ∀ kq, (.slice A48 (0 + n) cap49 : Value).ownBlock = some kq → w28.heap.size ≤ kq from fr57) kq (by rw [← h]; exact e)
      · have := h kq e; omega
    refine F.q (v := .agg #[.int .i64 m, .slice A48 ((0 + n) - 1) cap49]) (hr := (r_build rfl (vs := [(0, .int .i64 m), (1, .slice A48 ((0 + n) - 1) cap49)]) (by kernel_rfl) (by kernel_rfl))) (h := ?_)
    refine W.ss (v := .agg #[.int .i64 m, .slice A48 ((0 + n) - 1) cap49]) (j := 0) (news := [.int .i64 m, .slice A48 ((0 + n) - 1) cap49]) (cs' := #[.int .i64 m, .slice A48 ((0 + n) - 1) cap49]) s62 rfl (by kernel_rfl) rfl rfl (by kernel_rfl) (by kernel_rfl) x35 (by kernel_rfl) (by kernel_rfl) (by simp) (by kernel_rfl) (by kernel_rfl) (.inl rfl) (fun w67 g68 x69 s70 => ?_)
    have ho71 := own_grown ho61 g68 (fun j e1 e2 => by cases e2; exact nb65 e1.symm)
    refine F.as (v := .bool true) (h := ?_)
    refine F.endF [(0, .agg #[.int .i64 m, .slice A n c]), (1, .int .i64 id), (2, .pointer (some ⟨b2, 0, none⟩)), (4, .pointer (some ⟨b9, 0, none⟩)), (5, .bool true), (6, .int .i64 (findL ps id)), (10, .bool false)] (fun U72 => ?_)
    have x6 := SG.blk s70 x6 (fun e9 => ne16 (Option.some.inj e9))
    have c73 := (SG.belowR c31 s70 (fun kq e => by cases e; exact lo15))
    refine h5 _ _ ?_
    refine wp_ret ?_
    try simp only [Exit.then]
    refine retCT (x := .bool true) rfl (by kernel_rfl) (by kernel_rfl) (by kernel_rfl) (by kernel_rfl) x69 ?_
    exact fin_net ho71 (rem_yes hrp.1 hf0).2.2.symm (rem_yes hrp.1 hf0).2.1.symm (rem_yes hrp.1 hf0).1.symm c73
  · rw [q23]
    refine F.q (v := .bool true) (hr := (r_not (b := false) rfl (ev_any (by kernel_rfl)) rfl)) (h := ?_)
    refine F.endF [(0, .agg #[.int .i64 m, .slice A n c]), (1, .int .i64 id), (2, .pointer (some ⟨b2, 0, none⟩)), (4, .pointer (some ⟨b9, 0, none⟩)), (5, .bool false), (10, .bool true)] (fun U74 => ?_)
    have x6 := SG.blk s22 x6 (Option.some_ne_none _)
    have x13 := SG.blk s22 x13 (Option.some_ne_none _)
    have c75 := (SG.belowR c18 s22 (fun kq e => by cases e))
    refine h3 _ _ ?_
    refine wp_cond_true (by kernel_rfl) ?_
    refine wp_seq_k (fun K6 h6 => ?_)
    refine W.region_plain (row := (some b9)) [(0, false), (1, true), (2, false)] (by kernel_rfl) ?_
    have s76 := SG.self w21 (some b9)
    refine F.q (v := .agg #[.int .i64 0, .slice none 0 0]) (hr := (r_build rfl (vs := []) (by kernel_rfl) (by kernel_rfl))) (h := ?_)
    refine W.ss (v := .agg #[.int .i64 0, .slice none 0 0]) (j := 0) (news := [.int .i64 0, .slice none 0 0]) (cs' := #[.int .i64 0, .slice none 0 0]) s76 rfl (by kernel_rfl) rfl rfl (by kernel_rfl) (by kernel_rfl) x13 (by kernel_rfl) (by kernel_rfl) (by simp) (by kernel_rfl) (by kernel_rfl) (.inl rfl) (fun w77 g78 x79 s80 => ?_)
    refine F.as (v := .bool false) (h := ?_)
    refine F.endF [(0, .agg #[.int .i64 m, .slice A n c]), (1, .int .i64 id), (2, .pointer (some ⟨b2, 0, none⟩)), (4, .pointer (some ⟨b9, 0, none⟩)), (5, .bool false), (10, .bool true)] (fun U81 => ?_)
    have x6 := SG.blk s80 x6 (fun e9 => ne16 (Option.some.inj e9))
    have c82 := (SG.belowR c75 s80 (fun kq e => by cases e; exact lo15))
    refine h6 _ _ ?_
    refine wp_ret ?_
    try simp only [Exit.then]
    refine retCT (x := .bool false) rfl (by kernel_rfl) (by kernel_rfl) (by kernel_rfl) (by kernel_rfl) x79 ?_
    exact fin_net (zs := []) (World.ownsRow_nil _ _ _ _) (show RemovePipe_v1 m ps id = false ∧ RemovePipe_m0 m ps id = 0 ∧ RemovePipe_v0 m ps id = [] from ⟨q23, if_neg (by rw [q23]; simp), if_neg (by rw [q23]; simp)⟩).2.2.symm (show RemovePipe_v1 m ps id = false ∧ RemovePipe_m0 m ps id = 0 ∧ RemovePipe_v0 m ps id = [] from ⟨q23, if_neg (by rw [q23]; simp), if_neg (by rw [q23]; simp)⟩).2.1.symm (show RemovePipe_v1 m ps id = false ∧ RemovePipe_m0 m ps id = 0 ∧ RemovePipe_v0 m ps id = [] from ⟨q23, if_neg (by rw [q23]; simp), if_neg (by rw [q23]; simp)⟩).1.symm c82

end Go.Proofs.Ytdlcldaogcbnlaa
