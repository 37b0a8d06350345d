/- A number put to its place in a rising list, once. -/
import Derived.Test.YtdlcldaogcbnlaaNetC
import Derived.Test.YtdlcldaogcbnlaaSch3
namespace Go.Proofs.Ytdlcldaogcbnlaa
open Go.RowKit
set_option linter.unusedVariables false

set_option maxRecDepth 100000 in
set_option maxHeartbeats 1000000 in
theorem l1Put_any (A : Option Addr) (n c : Nat) (zs : List Int) (v : Int) (w : World) (ha : Rd w 1 A n (intsV zs)) (hf : Fm A n c) (hn : n ≤ 1000000) :
    Calls Try.prog 60 #[.slice A n c, .int .i64 v] w fun e w' => ∃ A' n' c', e = .returned (.slice A' n' c') ∧ Rd w' 1 A' n' (intsV (putL zs v)) ∧ Fm A' n' c' ∧ Below w.heap.size w w' := by
  have hl := rd_ints_len ha
  go_enter Try.func60, Try.ntmps60
  refine wp_seq_k (fun K1 h1 => ?_)
  refine region_quiet [(0, false)] (by kernel_rfl) ?_
  refine sq (v := .slice none 0 0) rfl (r_assign rfl (by kernel_rfl)) (by kernel_rfl) rfl rfl ?_
  refine sch_end ?_
  simp only [List.set_cons_zero, List.set_cons_succ]
  refine h1 _ _ ?_
  refine wp_seq_k (fun K2 h2 => ?_)
  refine region_quiet [(0, false)] (by kernel_rfl) ?_
  refine sq (v := .int .i64 0) rfl (r_assign rfl (by kernel_rfl)) (by kernel_rfl) rfl rfl ?_
  refine sch_end ?_
  simp only [List.set_cons_zero, List.set_cons_succ]
  refine h2 _ _ ?_
  refine wp_seq_k (fun K3 h3 => ?_)
  refine wp_block ?_
  refine loopK (fun am0 aa0 wl0 => ∃ (k : Nat) (u0_6 u0_7 u0_8 u0_9 u0_10 u0_11 u0_12 u0_13 u0_14 u0_15 u0_16 u0_17 u0_18 u0_19 : Value), aa0 = ⟨[.slice A n c, .int .i64 v, undef, undef, .slice none 0 0, .int .i64 ((k : Nat) : Int), u0_6, u0_7, u0_8, u0_9, u0_10, u0_11, u0_12, u0_13, u0_14, u0_15, u0_16, u0_17, u0_18, u0_19, undef, undef, undef, undef, undef, undef, undef, undef, undef, undef, undef, undef, undef, undef, undef, undef, undef, undef, undef, undef, undef, undef, undef, undef, undef].toArray, []⟩ ∧ (am0 = n - k) ∧ (k ≤ n) ∧ (∀ j z, j < k → zs[j]? = some z → z < v) ∧ (Below w.heap.size w wl0)) (n - 0) ?_ ?_
  · exact ⟨0, undef, undef, undef, undef, undef, undef, undef, undef, undef, undef, undef, undef, undef, undef, (by kernel_rfl), rfl, (Nat.zero_le _), upto_zero, (Below.refl _ _)⟩
  rintro am0 aa0 wl0 K4 h4 ⟨k, u0_6, u0_7, u0_8, u0_9, u0_10, u0_11, u0_12, u0_13, u0_14, u0_15, u0_16, u0_17, u0_18, u0_19, rfl, rfl, hk, hok, c1⟩
  refine wp_seq_k (fun K5 h5 => ?_)
  refine wp_seq_k (fun K6 h6 => ?_)
  refine region_quiet [(0, false), (1, false), (2, false), (3, false), (4, false), (5, false), (6, false), (7, false), (8, false), (9, false), (10, false), (11, false)] (by kernel_rfl) ?_
  refine sq (v := .int .i64 ((k : Nat) : Int)) rfl (r_move rfl (by kernel_rfl)) (by kernel_rfl) rfl rfl ?_
  refine sq (v := .slice A n c) rfl (r_move rfl (by kernel_rfl)) (by kernel_rfl) rfl rfl ?_
  refine sq (v := .int .i64 ((n : Nat) : Int)) rfl (r_len (A := A) (n := n) (c := c) rfl (by kernel_rfl) (by kernel_rfl)) (by kernel_rfl) rfl rfl ?_
  by_cases q2 : (((k : Nat) : Int) : Int) < (((n : Nat) : Int) : Int)
  · refine sq (v := .bool true) rfl (r_lss (m := ((k : Nat) : Int)) (n := ((n : Nat) : Int)) rfl (by kernel_rfl) (by kernel_rfl) (decide_eq_true q2)) (by kernel_rfl) rfl rfl ?_
    refine sq (v := .bool true) rfl (r_move rfl (by kernel_rfl)) (by kernel_rfl) rfl rfl ?_
    refine sq (v := .slice A n c) rfl (r_move rfl (by kernel_rfl)) (by kernel_rfl) rfl rfl ?_
    refine sq (v := .int .i64 ((k : Nat) : Int)) rfl (r_move rfl (by kernel_rfl)) (by kernel_rfl) rfl rfl ?_
    obtain ⟨x3, hx4⟩ := get_of (zs := zs) (k := k) (by have := hl; omega)
    obtain ⟨b5, o6, hA7, hb8, hc9⟩ := Rd.elInt ha hx4
    refine sq (v := .pointer (some ⟨b5, o6 + k, none⟩)) rfl (r_idx1 (n := n) (c := c) (k := k) rfl (by kernel_rfl) hA7 (by kernel_rfl) (by kernel_rfl) (by have := hl; omega)) (by kernel_rfl) rfl rfl ?_
    refine sq (v := .int .i64 x3) rfl (r_load rfl (by kernel_rfl) (by kernel_rfl) (eqS (later c1 hc9))) (by kernel_rfl) rfl rfl ?_
    refine sq (v := .int .i64 v) rfl (r_move rfl (by kernel_rfl)) (by kernel_rfl) rfl rfl ?_
    by_cases q10 : (x3 : Int) < (v : Int)
    · refine sq (v := .bool true) rfl (r_lss (m := x3) (n := v) rfl (by kernel_rfl) (by kernel_rfl) (decide_eq_true q10)) (by kernel_rfl) rfl rfl ?_
      refine sq (v := .bool true) rfl (r_pick (b := true) rfl (by kernel_rfl) (by kernel_rfl)) (by kernel_rfl) rfl rfl ?_
      refine sch_end ?_
      simp only [List.set_cons_zero, List.set_cons_succ]
      refine h6 _ _ ?_
      refine wp_cond_true (by kernel_rfl) ?_
      refine wp_skip ?_
      refine h5 _ _ ?_
      refine wp_block ?_
      refine region_quiet [(0, false), (1, false), (2, false)] (by kernel_rfl) ?_
      refine sq (v := .int .i64 ((k : Nat) : Int)) rfl (r_move rfl (by kernel_rfl)) (by kernel_rfl) rfl rfl ?_
      refine sq (v := .int .i64 ((k + 1 : Nat) : Int)) rfl (r_add (m := ((k : Nat) : Int)) (n := 1) (z := ((k + 1 : Nat) : Int)) rfl (by kernel_rfl) (by kernel_rfl) (by omega) (by omega)) (by kernel_rfl) rfl rfl ?_
      refine sq (v := .int .i64 ((k + 1 : Nat) : Int)) rfl (r_assign rfl (by kernel_rfl)) (by kernel_rfl) rfl rfl ?_
      refine sch_end ?_
      simp only [List.set_cons_zero, List.set_cons_succ]
      exact h4 _ _ _ (by omega : (n - (k + 1)) < _) ⟨k + 1, (.int .i64 ((k : Nat) : Int)), (.slice A n c), (.int .i64 ((n : Nat) : Int)), (.bool true), (.bool true), (.slice A n c), (.int .i64 ((k : Nat) : Int)), (.pointer (some ⟨b5, o6 + k, none⟩)), (.int .i64 x3), (.int .i64 v), (.bool true), (.bool true), (.int .i64 ((k : Nat) : Int)), (.int .i64 ((k + 1 : Nat) : Int)), (by kernel_rfl), rfl, (by omega), (upto_succ hok hx4 q10), c1⟩
    · refine sq (v := .bool false) rfl (r_lss (m := x3) (n := v) rfl (by kernel_rfl) (by kernel_rfl) (decide_eq_false q10)) (by kernel_rfl) rfl rfl ?_
      refine sq (v := .bool false) rfl (r_pick (b := true) rfl (by kernel_rfl) (by kernel_rfl)) (by kernel_rfl) rfl rfl ?_
      refine sch_end ?_
      simp only [List.set_cons_zero, List.set_cons_succ]
      refine h6 _ _ ?_
      refine wp_cond_false (by kernel_rfl) ?_
      refine wp_exit ?_
      refine h3 _ _ ?_
      refine wp_seq_k (fun K7 h7 => ?_)
      refine wp_seq_k (fun K8 h8 => ?_)
      refine region_quiet [(0, false), (1, false), (2, false), (3, false), (4, false), (5, false), (6, false), (7, false), (8, false), (9, false), (10, false), (11, false)] (by kernel_rfl) ?_
      refine sq (v := .int .i64 ((k : Nat) : Int)) rfl (r_move rfl (by kernel_rfl)) (by kernel_rfl) rfl rfl ?_
      refine sq (v := .slice A n c) rfl (r_move rfl (by kernel_rfl)) (by kernel_rfl) rfl rfl ?_
      refine sq (v := .int .i64 ((n : Nat) : Int)) rfl (r_len (A := A) (n := n) (c := c) rfl (by kernel_rfl) (by kernel_rfl)) (by kernel_rfl) rfl rfl ?_
      refine sq (v := .bool true) rfl (r_lss (m := ((k : Nat) : Int)) (n := ((n : Nat) : Int)) rfl (by kernel_rfl) (by kernel_rfl) (decide_eq_true q2)) (by kernel_rfl) rfl rfl ?_
      refine sq (v := .bool true) rfl (r_move rfl (by kernel_rfl)) (by kernel_rfl) rfl rfl ?_
      refine sq (v := .slice A n c) rfl (r_move rfl (by kernel_rfl)) (by kernel_rfl) rfl rfl ?_
      refine sq (v := .int .i64 ((k : Nat) : Int)) rfl (r_move rfl (by kernel_rfl)) (by kernel_rfl) rfl rfl ?_
      refine sq (v := .pointer (some ⟨b5, o6 + k, none⟩)) rfl (r_idx1 (n := n) (c := c) (k := k) rfl (by kernel_rfl) hA7 (by kernel_rfl) (by kernel_rfl) (by have := hl; omega)) (by kernel_rfl) rfl rfl ?_
      refine sq (v := .int .i64 x3) rfl (r_load rfl (by kernel_rfl) (by kernel_rfl) (eqS (later c1 hc9))) (by kernel_rfl) rfl rfl ?_
      refine sq (v := .int .i64 v) rfl (r_move rfl (by kernel_rfl)) (by kernel_rfl) rfl rfl ?_
      by_cases q11 : (x3 : Int) = (v : Int)
      · refine sq (v := .bool true) rfl (r_eql (m := x3) (n := v) rfl (by kernel_rfl) (by kernel_rfl) (decide_eq_true q11)) (by kernel_rfl) rfl rfl ?_
        refine sq (v := .bool true) rfl (r_pick (b := true) rfl (by kernel_rfl) (by kernel_rfl)) (by kernel_rfl) rfl rfl ?_
        refine sch_end ?_
        simp only [List.set_cons_zero, List.set_cons_succ]
        refine h8 _ _ ?_
        refine wp_cond_true (by kernel_rfl) ?_
        refine wp_seq_k (fun K9 h9 => ?_)
        refine region_quiet [(0, false), (1, false)] (by kernel_rfl) ?_
        refine sq (v := .slice A n c) rfl (r_move rfl (by kernel_rfl)) (by kernel_rfl) rfl rfl ?_
        refine sq (v := .slice A n c) rfl (r_assign rfl (by kernel_rfl)) (by kernel_rfl) rfl rfl ?_
        refine sch_end ?_
        simp only [List.set_cons_zero, List.set_cons_succ]
        refine h9 _ _ ?_
        refine wp_ret ?_
        try simp only [Exit.then]
        refine ret1 (v := .slice A n c) rfl (by kernel_rfl) ?_
        have e9 : putL zs v = zs := by
          rw [putL_at v zs k hok (by omega) (fun z hz => by first | (have h9 := (List.getElem?_eq_some_iff.1 hz).1; omega) | (rw [hx4] at hz; cases hz; omega)), if_pos (by rw [hx4, q11])]
        exact ⟨_, _, _, rfl, (by rw [e9]; exact (Rd.kept ha c1)), hf, c1⟩
      · refine sq (v := .bool false) rfl (r_eql (m := x3) (n := v) rfl (by kernel_rfl) (by kernel_rfl) (decide_eq_false q11)) (by kernel_rfl) rfl rfl ?_
        refine sq (v := .bool false) rfl (r_pick (b := true) rfl (by kernel_rfl) (by kernel_rfl)) (by kernel_rfl) rfl rfl ?_
        refine sch_end ?_
        simp only [List.set_cons_zero, List.set_cons_succ]
        refine h8 _ _ ?_
        refine wp_cond_false (by kernel_rfl) ?_
        refine wp_skip ?_
        refine h7 _ _ ?_
        refine wp_seq_k (fun K10 h10 => ?_)
        refine region_sch (row := none) (Sch.app [(1, false), (2, false), (3, false), (5, false), (8, false), (9, false), (10, false)] (.br 0 6 (Sch.app [] (.br 4 6 (Sch.of [(6, true), (7, true), (11, true), (12, false)]) (Sch.of [(4, true), (7, true), (11, true), (12, false)]))) (Sch.of [(0, true), (4, true), (7, true), (11, true), (12, false)]))) (by kernel_rfl) (by kernel_rfl) (fun _ d _ _ _ h => by cases d <;> exact h) (by kernel_rfl) (fun w12 e13 s14 => ?_)
        refine sq (v := .slice A n c) rfl (r_move rfl (by kernel_rfl)) (by kernel_rfl) rfl rfl ?_
        refine sq (v := .int .i64 ((k : Nat) : Int)) rfl (r_move rfl (by kernel_rfl)) (by kernel_rfl) rfl rfl ?_
        refine sq (v := .slice A k c) rfl (r_sliceTo (A := A) (n := n) (c := c) (k := k) (size := 1) rfl (by kernel_rfl) (by kernel_rfl) (by kernel_rfl) (by have := (hf).le; omega)) (by kernel_rfl) rfl rfl ?_
        refine sq (v := .int .i64 v) rfl (r_move rfl (by kernel_rfl)) (by kernel_rfl) rfl rfl ?_
        refine sq (v := .slice A n c) rfl (r_move rfl (by kernel_rfl)) (by kernel_rfl) rfl rfl ?_
        refine sq (v := .int .i64 ((k : Nat) : Int)) rfl (r_move rfl (by kernel_rfl)) (by kernel_rfl) rfl rfl ?_
        refine sq (v := .slice (sFrom A c k 1) (n - k) (c - k)) rfl (r_sliceFrom (A := A) (n := n) (c := c) (k := k) (size := 1) rfl (by kernel_rfl) (by kernel_rfl) (by kernel_rfl) (by omega)) (by kernel_rfl) rfl rfl ?_
        refine sbr ?_ ?_
        · refine sn (fun b => .slice (some ⟨b, 0, none⟩) 0 0) #[] 3 s14 rfl (by kernel_rfl) rfl (fun _ => by kernel_rfl) (fun b15 w16 hb17 k18 x19 s20 => ?_)
          have lo21 : w.heap.size ≤ b15 := by have := ((SG.belowR c1 s14 (fun kq e => by cases e))).size; omega
          refine sbr ?_ ?_
          · have ho22 := own_empty (base := w.heap.size) (size := 1) x19 lo21
            replace ho22 : World.ownsRow _ _ _ _ _ _ (intsV []) := ho22
            replace ho22 : World.ownsRow _ _ _ _ _ _ (intsV []) := ho22
            refine sapR (e := 3) (size := 1) (base := w.heap.size) (v := .slice (some ⟨b15, 0, none⟩) 0 0) (A := A) (m := k) (c := c) s20 rfl rfl rfl rfl (by kernel_rfl) (by kernel_rfl) (by kernel_rfl) ho22 (Rd.toI (Rd.kept ha (SG.belowR c1 s20 (fun kq e => by cases e))) (by omega)) (Fm.to hf (by have := (hf).le; omega)) (ints_one _) (by omega) (by have := ((SG.belowR c1 s20 (fun kq e => by cases e))).size; omega) (.inr (fun kq e => by have := World.grownBy.size s14; have := hb17; have e' := Option.some.inj e; simp at e'; omega)) (fun A23 cap24 w25 ho26 hg27 hat28 s29 => ?_)
            have ho26 := own_joinI ho26
            have fr30 : ∀ kq, (.slice A23 (0 + k) cap24 : Value).ownBlock = some kq → wl0.heap.size ≤ kq := fun kq e => by
              have hs := World.grownBy.size s20
              rcases hat28 with h | h
              · exact (show ∀ kq, Value.ownBlock _ = some kq → wl0.heap.size ≤ kq from (fun kq e => by have := World.grownBy.size s14; have := hb17; have e' := Option.some.inj e; simp at e'; omega)) kq (h.symm.trans e)
              · have := Option.some.inj (h.symm.trans e); omega
            refine sn (fun b => .slice (some ⟨b, 0, none⟩) 1 1) #[.int .i64 v] 3 s29 rfl (by kernel_rfl) rfl (fun _ => by kernel_rfl) (fun b31 w32 hb33 k34 x35 s36 => ?_)
            have lo37 : w.heap.size ≤ b31 := by have := ((SG.belowR c1 s29 (fun kq e => by cases e))).size; omega
            have nb38 : Nb b31 (.slice A23 (0 + k) cap24) := nb_hi ho26 (Nat.le_of_eq hb33)
            have ho39 := own_kept ho26 k34
            refine sap (e := 3) (size := 1) (base := w.heap.size) (m := 1) (v := .slice A23 (0 + k) cap24) (c := 1) s36 rfl rfl rfl rfl (by kernel_rfl) (by kernel_rfl) (by kernel_rfl) ho39 x35 (by kernel_rfl) (by kernel_rfl) (by omega) (by omega) (by have := ((SG.belowR c1 s36 (fun kq e => by cases e))).size; omega) (.inr fr30) (fun g40 cap41 w42 ho43 hg44 hat45 hlt46 s47 => ?_)
            have nb48 : Nb b31 (.slice (some ⟨g40, 0, none⟩) ((0 + k) + 1) cap41) := nb_app nb38 (blk_lt x35) hat45
            have x35 := (hg44.block _ (blk_lt x35) nb38).trans x35
            have ho43 := own_snoc ho43
            have fr49 : ∀ kq, (.slice (some ⟨g40, 0, none⟩) ((0 + k) + 1) cap41 : Value).ownBlock = some kq → wl0.heap.size ≤ kq := fun kq e => by
              have hs := World.grownBy.size s36
              have e' : g40 = kq := by simpa [Value.ownBlock] using e
              rcases hat45 with h | h
              · exact (show ∀ kq, Value.ownBlock _ = some kq → wl0.heap.size ≤ kq from fr30) kq (by rw [← e']; exact h)
              · omega
            refine sapR (e := 3) (size := 1) (base := w.heap.size) (v := .slice (some ⟨g40, 0, none⟩) ((0 + k) + 1) cap41) (A := (sFrom A c k 1)) (m := (n - k)) (c := (c - k)) s47 rfl rfl rfl rfl (by kernel_rfl) (by kernel_rfl) (by kernel_rfl) ho43 (Rd.fromI (Rd.kept ha (SG.belowR c1 s47 (fun kq e => by cases e))) (by omega) (hf).le) (Fm.from (size := 1) hf (by omega)) (ints_one _) (by omega) (by have := ((SG.belowR c1 s47 (fun kq e => by cases e))).size; omega) (.inr fr49) (fun A50 cap51 w52 ho53 hg54 hat55 s56 => ?_)
            have nb57 : Nb b31 (.slice A50 (((0 + k) + 1) + (n - k)) cap51) := nb_app2 nb48 (blk_lt x35) hat55
            have x35 := (hg54.block _ (blk_lt x35) nb48).trans x35
            have ho53 := own_joinI ho53
            have fr58 : ∀ kq, (.slice A50 (((0 + k) + 1) + (n - k)) cap51 : Value).ownBlock = some kq → wl0.heap.size ≤ kq := fun kq e => by
              have hs := World.grownBy.size s47
              rcases hat55 with h | h
              · exact (show ∀ kq, Value.ownBlock _ = some kq → wl0.heap.size ≤ kq from fr49) kq (h.symm.trans e)
              · have := Option.some.inj (h.symm.trans e); omega
            refine sq (v := .slice A50 (((0 + k) + 1) + (n - k)) cap51) rfl (r_assign rfl (by kernel_rfl)) (by kernel_rfl) rfl rfl ?_
            refine sch_end ?_
            simp only [List.set_cons_zero, List.set_cons_succ]
            have c59 := (SG.belowR c1 s56 (fun kq e => by cases e))
            refine h10 _ _ ?_
            refine wp_ret ?_
            try simp only [Exit.then]
            refine ret1 (v := .slice A50 (((0 + k) + 1) + (n - k)) cap51) rfl (by kernel_rfl) ?_
            have e9 : putL zs v = ((([] ++ (zs.take k)) ++ [v]) ++ (zs.drop k)) := by
              rw [putL_at v zs k hok (by omega) (fun z hz => by first | (have h9 := (List.getElem?_eq_some_iff.1 hz).1; omega) | (rw [hx4] at hz; cases hz; omega)), if_neg (by rw [hx4]; intro e; cases e; omega)]; simp
            exact ⟨_, _, _, rfl, (by rw [e9]; exact own_rd ho53), own_fm ho53, c59⟩
          · refine sn (fun b => .slice (some ⟨b, 0, none⟩) 1 1) #[.int .i64 v] 3 s20 rfl (by kernel_rfl) rfl (fun _ => by kernel_rfl) (fun b60 w61 hb62 k63 x64 s65 => ?_)
            have lo66 : w.heap.size ≤ b60 := by have := ((SG.belowR c1 s20 (fun kq e => by cases e))).size; omega
            have ne67 : b15 ≠ b60 := by have := blk_lt x19; omega
            have x19 := (k63.block _ (blk_lt x19)).trans x19
            have ho68 := own_empty (base := w.heap.size) (size := 1) x19 lo21
            replace ho68 : World.ownsRow _ _ _ _ _ _ (intsV []) := ho68
            have nb69 : Nb b60 (.slice (some ⟨b15, 0, none⟩) 0 0) := nb_new (by have := ne67; omega)
            replace ho68 : World.ownsRow _ _ _ _ _ _ (intsV []) := ho68
            refine sapR (e := 3) (size := 1) (base := w.heap.size) (v := .slice (some ⟨b15, 0, none⟩) 0 0) (A := A) (m := k) (c := c) s65 rfl rfl rfl rfl (by kernel_rfl) (by kernel_rfl) (by kernel_rfl) ho68 (Rd.toI (Rd.kept ha (SG.belowR c1 s65 (fun kq e => by cases e))) (by omega)) (Fm.to hf (by have := (hf).le; omega)) (ints_one _) (by omega) (by have := ((SG.belowR c1 s65 (fun kq e => by cases e))).size; omega) (.inr (fun kq e => by have := World.grownBy.size s14; have := hb17; have e' := Option.some.inj e; simp at e'; omega)) (fun A70 cap71 w72 ho73 hg74 hat75 s76 => ?_)
            have nb77 : Nb b60 (.slice A70 (0 + k) cap71) := nb_app2 nb69 (blk_lt x64) hat75
            have x64 := (hg74.block _ (blk_lt x64) nb69).trans x64
            have ho73 := own_joinI ho73
            have fr78 : ∀ kq, (.slice A70 (0 + k) cap71 : Value).ownBlock = some kq → wl0.heap.size ≤ kq := fun kq e => by
              have hs := World.grownBy.size s65
              rcases hat75 with h | h
              · exact (show ∀ kq, Value.ownBlock _ = some kq → wl0.heap.size ≤ kq from (fun kq e => by have := World.grownBy.size s14; have := hb17; have e' := Option.some.inj e; simp at e'; omega)) kq (h.symm.trans e)
              · have := Option.some.inj (h.symm.trans e); omega
            refine sap (e := 3) (size := 1) (base := w.heap.size) (m := 1) (v := .slice A70 (0 + k) cap71) (c := 1) s76 rfl rfl rfl rfl (by kernel_rfl) (by kernel_rfl) (by kernel_rfl) ho73 x64 (by kernel_rfl) (by kernel_rfl) (by omega) (by omega) (by have := ((SG.belowR c1 s76 (fun kq e => by cases e))).size; omega) (.inr fr78) (fun g79 cap80 w81 ho82 hg83 hat84 hlt85 s86 => ?_)
            have nb87 : Nb b60 (.slice (some ⟨g79, 0, none⟩) ((0 + k) + 1) cap80) := nb_app nb77 (blk_lt x64) hat84
            have x64 := (hg83.block _ (blk_lt x64) nb77).trans x64
            have ho82 := own_snoc ho82
            have fr88 : ∀ kq, (.slice (some ⟨g79, 0, none⟩) ((0 + k) + 1) cap80 : Value).ownBlock = some kq → wl0.heap.size ≤ kq := fun kq e => by
              have hs := World.grownBy.size s76
              have e' : g79 = kq := by simpa [Value.ownBlock] using e
              rcases hat84 with h | h
              · exact (show ∀ kq, Value.ownBlock _ = some kq → wl0.heap.size ≤ kq from fr78) kq (by rw [← e']; exact h)
              · omega
            refine sapR (e := 3) (size := 1) (base := w.heap.size) (v := .slice (some ⟨g79, 0, none⟩) ((0 + k) + 1) cap80) (A := (sFrom A c k 1)) (m := (n - k)) (c := (c - k)) s86 rfl rfl rfl rfl (by kernel_rfl) (by kernel_rfl) (by kernel_rfl) ho82 (Rd.fromI (Rd.kept ha (SG.belowR c1 s86 (fun kq e => by cases e))) (by omega) (hf).le) (Fm.from (size := 1) hf (by omega)) (ints_one _) (by omega) (by have := ((SG.belowR c1 s86 (fun kq e => by cases e))).size; omega) (.inr fr88) (fun A89 cap90 w91 ho92 hg93 hat94 s95 => ?_)
            have nb96 : Nb b60 (.slice A89 (((0 + k) + 1) + (n - k)) cap90) := nb_app2 nb87 (blk_lt x64) hat94
            have x64 := (hg93.block _ (blk_lt x64) nb87).trans x64
            have ho92 := own_joinI ho92
            have fr97 : ∀ kq, (.slice A89 (((0 + k) + 1) + (n - k)) cap90 : Value).ownBlock = some kq → wl0.heap.size ≤ kq := fun kq e => by
              have hs := World.grownBy.size s86
              rcases hat94 with h | h
              · exact (show ∀ kq, Value.ownBlock _ = some kq → wl0.heap.size ≤ kq from fr88) kq (h.symm.trans e)
              · have := Option.some.inj (h.symm.trans e); omega
            refine sq (v := .slice A89 (((0 + k) + 1) + (n - k)) cap90) rfl (r_assign rfl (by kernel_rfl)) (by kernel_rfl) rfl rfl ?_
            refine sch_end ?_
            simp only [List.set_cons_zero, List.set_cons_succ]
            have c98 := (SG.belowR c1 s95 (fun kq e => by cases e))
            refine h10 _ _ ?_
            refine wp_ret ?_
            try simp only [Exit.then]
            refine ret1 (v := .slice A89 (((0 + k) + 1) + (n - k)) cap90) rfl (by kernel_rfl) ?_
            have e9 : putL zs v = ((([] ++ (zs.take k)) ++ [v]) ++ (zs.drop k)) := by
              rw [putL_at v zs k hok (by omega) (fun z hz => by first | (have h9 := (List.getElem?_eq_some_iff.1 hz).1; omega) | (rw [hx4] at hz; cases hz; omega)), if_neg (by rw [hx4]; intro e; cases e; omega)]; simp
            exact ⟨_, _, _, rfl, (by rw [e9]; exact own_rd ho92), own_fm ho92, c98⟩
        · refine sn (fun b => .slice (some ⟨b, 0, none⟩) 1 1) #[.int .i64 v] 3 s14 rfl (by kernel_rfl) rfl (fun _ => by kernel_rfl) (fun b99 w100 hb101 k102 x103 s104 => ?_)
          have lo105 : w.heap.size ≤ b99 := by have := ((SG.belowR c1 s14 (fun kq e => by cases e))).size; omega
          refine sn (fun b => .slice (some ⟨b, 0, none⟩) 0 0) #[] 3 s104 rfl (by kernel_rfl) rfl (fun _ => by kernel_rfl) (fun b106 w107 hb108 k109 x110 s111 => ?_)
          have lo112 : w.heap.size ≤ b106 := by have := ((SG.belowR c1 s104 (fun kq e => by cases e))).size; omega
          have ne113 : b99 ≠ b106 := by have := blk_lt x103; omega
          have x103 := (k109.block _ (blk_lt x103)).trans x103
          have ho114 := own_empty (base := w.heap.size) (size := 1) x110 lo112
          replace ho114 : World.ownsRow _ _ _ _ _ _ (intsV []) := ho114
          have nb115 : Nb b99 (.slice (some ⟨b106, 0, none⟩) 0 0) := nb_new (by have := ne113; omega)
          replace ho114 : World.ownsRow _ _ _ _ _ _ (intsV []) := ho114
          refine sapR (e := 3) (size := 1) (base := w.heap.size) (v := .slice (some ⟨b106, 0, none⟩) 0 0) (A := A) (m := k) (c := c) s111 rfl rfl rfl rfl (by kernel_rfl) (by kernel_rfl) (by kernel_rfl) ho114 (Rd.toI (Rd.kept ha (SG.belowR c1 s111 (fun kq e => by cases e))) (by omega)) (Fm.to hf (by have := (hf).le; omega)) (ints_one _) (by omega) (by have := ((SG.belowR c1 s111 (fun kq e => by cases e))).size; omega) (.inr (fun kq e => by have := World.grownBy.size s104; have := hb108; have e' := Option.some.inj e; simp at e'; omega)) (fun A116 cap117 w118 ho119 hg120 hat121 s122 => ?_)
          have nb123 : Nb b99 (.slice A116 (0 + k) cap117) := nb_app2 nb115 (blk_lt x103) hat121
          have x103 := (hg120.block _ (blk_lt x103) nb115).trans x103
          have ho119 := own_joinI ho119
          have fr124 : ∀ kq, (.slice A116 (0 + k) cap117 : Value).ownBlock = some kq → wl0.heap.size ≤ kq := fun kq e => by
            have hs := World.grownBy.size s111
            rcases hat121 with h | h
            · exact (show ∀ kq, Value.ownBlock _ = some kq → wl0.heap.size ≤ kq from (fun kq e => by have := World.grownBy.size s104; have := hb108; have e' := Option.some.inj e; simp at e'; omega)) kq (h.symm.trans e)
            · have := Option.some.inj (h.symm.trans e); omega
          refine sap (e := 3) (size := 1) (base := w.heap.size) (m := 1) (v := .slice A116 (0 + k) cap117) (c := 1) s122 rfl rfl rfl rfl (by kernel_rfl) (by kernel_rfl) (by kernel_rfl) ho119 x103 (by kernel_rfl) (by kernel_rfl) (by omega) (by omega) (by have := ((SG.belowR c1 s122 (fun kq e => by cases e))).size; omega) (.inr fr124) (fun g125 cap126 w127 ho128 hg129 hat130 hlt131 s132 => ?_)
          have nb133 : Nb b99 (.slice (some ⟨g125, 0, none⟩) ((0 + k) + 1) cap126) := nb_app nb123 (blk_lt x103) hat130
          have x103 := (hg129.block _ (blk_lt x103) nb123).trans x103
          have ho128 := own_snoc ho128
          have fr134 : ∀ kq, (.slice (some ⟨g125, 0, none⟩) ((0 + k) + 1) cap126 : Value).ownBlock = some kq → wl0.heap.size ≤ kq := fun kq e => by
            have hs := World.grownBy.size s122
            have e' : g125 = kq := by simpa [Value.ownBlock] using e
            rcases hat130 with h | h
            · exact (show ∀ kq, Value.ownBlock _ = some kq → wl0.heap.size ≤ kq from fr124) kq (by rw [← e']; exact h)
            · omega
          refine sapR (e := 3) (size := 1) (base := w.heap.size) (v := .slice (some ⟨g125, 0, none⟩) ((0 + k) + 1) cap126) (A := (sFrom A c k 1)) (m := (n - k)) (c := (c - k)) s132 rfl rfl rfl rfl (by kernel_rfl) (by kernel_rfl) (by kernel_rfl) ho128 (Rd.fromI (Rd.kept ha (SG.belowR c1 s132 (fun kq e => by cases e))) (by omega) (hf).le) (Fm.from (size := 1) hf (by omega)) (ints_one _) (by omega) (by have := ((SG.belowR c1 s132 (fun kq e => by cases e))).size; omega) (.inr fr134) (fun A135 cap136 w137 ho138 hg139 hat140 s141 => ?_)
          have nb142 : Nb b99 (.slice A135 (((0 + k) + 1) + (n - k)) cap136) := nb_app2 nb133 (blk_lt x103) hat140
          have x103 := (hg139.block _ (blk_lt x103) nb133).trans x103
          have ho138 := own_joinI ho138
          have fr143 : ∀ kq, (.slice A135 (((0 + k) + 1) + (n - k)) cap136 : Value).ownBlock = some kq → wl0.heap.size ≤ kq := fun kq e => by
            have hs := World.grownBy.size s132
            rcases hat140 with h | h
            · exact (show ∀ kq, Value.ownBlock _ = some kq → wl0.heap.size ≤ kq from fr134) kq (h.symm.trans e)
            · have := Option.some.inj (h.symm.trans e); omega
          refine sq (v := .slice A135 (((0 + k) + 1) + (n - k)) cap136) rfl (r_assign rfl (by kernel_rfl)) (by kernel_rfl) rfl rfl ?_
          refine sch_end ?_
          simp only [List.set_cons_zero, List.set_cons_succ]
          have c144 := (SG.belowR c1 s141 (fun kq e => by cases e))
          refine h10 _ _ ?_
          refine wp_ret ?_
          try simp only [Exit.then]
          refine ret1 (v := .slice A135 (((0 + k) + 1) + (n - k)) cap136) rfl (by kernel_rfl) ?_
          have e9 : putL zs v = ((([] ++ (zs.take k)) ++ [v]) ++ (zs.drop k)) := by
            rw [putL_at v zs k hok (by omega) (fun z hz => by first | (have h9 := (List.getElem?_eq_some_iff.1 hz).1; omega) | (rw [hx4] at hz; cases hz; omega)), if_neg (by rw [hx4]; intro e; cases e; omega)]; simp
          exact ⟨_, _, _, rfl, (by rw [e9]; exact own_rd ho138), own_fm ho138, c144⟩
  · refine sq (v := .bool false) rfl (r_lss (m := ((k : Nat) : Int)) (n := ((n : Nat) : Int)) rfl (by kernel_rfl) (by kernel_rfl) (decide_eq_false q2)) (by kernel_rfl) rfl rfl ?_
    refine sq (v := .bool false) rfl (r_move rfl (by kernel_rfl)) (by kernel_rfl) rfl rfl ?_
    refine sk rfl rfl (by kernel_rfl) rfl rfl ?_
    refine sk rfl rfl (by kernel_rfl) rfl rfl ?_
    refine sk rfl rfl (by kernel_rfl) rfl rfl ?_
    refine sk rfl rfl (by kernel_rfl) rfl rfl ?_
    refine sk rfl rfl (by kernel_rfl) rfl rfl ?_
    refine sk rfl rfl (by kernel_rfl) rfl rfl ?_
    refine sq (v := .bool false) rfl (r_pick (b := false) rfl (by kernel_rfl) (by kernel_rfl)) (by kernel_rfl) rfl rfl ?_
    refine sch_end ?_
    simp only [List.set_cons_zero, List.set_cons_succ]
    refine h6 _ _ ?_
    refine wp_cond_false (by kernel_rfl) ?_
    refine wp_exit ?_
    refine h3 _ _ ?_
    refine wp_seq_k (fun K11 h11 => ?_)
    refine wp_seq_k (fun K12 h12 => ?_)
    refine region_quiet [(0, false), (1, false), (2, false), (3, false), (4, false), (5, false), (6, false), (7, false), (8, false), (9, false), (10, false), (11, false)] (by kernel_rfl) ?_
    refine sq (v := .int .i64 ((k : Nat) : Int)) rfl (r_move rfl (by kernel_rfl)) (by kernel_rfl) rfl rfl ?_
    refine sq (v := .slice A n c) rfl (r_move rfl (by kernel_rfl)) (by kernel_rfl) rfl rfl ?_
    refine sq (v := .int .i64 ((n : Nat) : Int)) rfl (r_len (A := A) (n := n) (c := c) rfl (by kernel_rfl) (by kernel_rfl)) (by kernel_rfl) rfl rfl ?_
    refine sq (v := .bool false) rfl (r_lss (m := ((k : Nat) : Int)) (n := ((n : Nat) : Int)) rfl (by kernel_rfl) (by kernel_rfl) (decide_eq_false q2)) (by kernel_rfl) rfl rfl ?_
    refine sq (v := .bool false) rfl (r_move rfl (by kernel_rfl)) (by kernel_rfl) rfl rfl ?_
    refine sk rfl rfl (by kernel_rfl) rfl rfl ?_
    refine sk rfl rfl (by kernel_rfl) rfl rfl ?_
    refine sk rfl rfl (by kernel_rfl) rfl rfl ?_
    refine sk rfl rfl (by kernel_rfl) rfl rfl ?_
    refine sk rfl rfl (by kernel_rfl) rfl rfl ?_
    refine sk rfl rfl (by kernel_rfl) rfl rfl ?_
    refine sq (v := .bool false) rfl (r_pick (b := false) rfl (by kernel_rfl) (by kernel_rfl)) (by kernel_rfl) rfl rfl ?_
    refine sch_end ?_
    simp only [List.set_cons_zero, List.set_cons_succ]
    refine h12 _ _ ?_
    refine wp_cond_false (by kernel_rfl) ?_
    refine wp_skip ?_
    refine h11 _ _ ?_
    refine wp_seq_k (fun K13 h13 => ?_)
    refine region_sch (row := none) (Sch.app [(1, false), (2, false), (3, false), (5, false), (8, false), (9, false), (10, false)] (.br 0 6 (Sch.app [] (.br 4 6 (Sch.of [(6, true), (7, true), (11, true), (12, false)]) (Sch.of [(4, true), (7, true), (11, true), (12, false)]))) (Sch.of [(0, true), (4, true), (7, true), (11, true), (12, false)]))) (by kernel_rfl) (by kernel_rfl) (fun _ d _ _ _ h => by cases d <;> exact h) (by kernel_rfl) (fun w145 e146 s147 => ?_)
    refine sq (v := .slice A n c) rfl (r_move rfl (by kernel_rfl)) (by kernel_rfl) rfl rfl ?_
    refine sq (v := .int .i64 ((k : Nat) : Int)) rfl (r_move rfl (by kernel_rfl)) (by kernel_rfl) rfl rfl ?_
    refine sq (v := .slice A k c) rfl (r_sliceTo (A := A) (n := n) (c := c) (k := k) (size := 1) rfl (by kernel_rfl) (by kernel_rfl) (by kernel_rfl) (by have := (hf).le; omega)) (by kernel_rfl) rfl rfl ?_
    refine sq (v := .int .i64 v) rfl (r_move rfl (by kernel_rfl)) (by kernel_rfl) rfl rfl ?_
    refine sq (v := .slice A n c) rfl (r_move rfl (by kernel_rfl)) (by kernel_rfl) rfl rfl ?_
    refine sq (v := .int .i64 ((k : Nat) : Int)) rfl (r_move rfl (by kernel_rfl)) (by kernel_rfl) rfl rfl ?_
    refine sq (v := .slice (sFrom A c k 1) (n - k) (c - k)) rfl (r_sliceFrom (A := A) (n := n) (c := c) (k := k) (size := 1) rfl (by kernel_rfl) (by kernel_rfl) (by kernel_rfl) (by omega)) (by kernel_rfl) rfl rfl ?_
    refine sbr ?_ ?_
    · refine sn (fun b => .slice (some ⟨b, 0, none⟩) 0 0) #[] 3 s147 rfl (by kernel_rfl) rfl (fun _ => by kernel_rfl) (fun b148 w149 hb150 k151 x152 s153 => ?_)
      have lo154 : w.heap.size ≤ b148 := by have := ((SG.belowR c1 s147 (fun kq e => by cases e))).size; omega
      refine sbr ?_ ?_
      · have ho155 := own_empty (base := w.heap.size) (size := 1) x152 lo154
        replace ho155 : World.ownsRow _ _ _ _ _ _ (intsV []) := ho155
        replace ho155 : World.ownsRow _ _ _ _ _ _ (intsV []) := ho155
        refine sapR (e := 3) (size := 1) (base := w.heap.size) (v := .slice (some ⟨b148, 0, none⟩) 0 0) (A := A) (m := k) (c := c) s153 rfl rfl rfl rfl (by kernel_rfl) (by kernel_rfl) (by kernel_rfl) ho155 (Rd.toI (Rd.kept ha (SG.belowR c1 s153 (fun kq e => by cases e))) (by omega)) (Fm.to hf (by have := (hf).le; omega)) (ints_one _) (by omega) (by have := ((SG.belowR c1 s153 (fun kq e => by cases e))).size; omega) (.inr (fun kq e => by have := World.grownBy.size s147; have := hb150; have e' := Option.some.inj e; simp at e'; omega)) (fun A156 cap157 w158 ho159 hg160 hat161 s162 => ?_)
        have ho159 := own_joinI ho159
        have fr163 : ∀ kq, (.slice A156 (0 + k) cap157 : Value).ownBlock = some kq → wl0.heap.size ≤ kq := fun kq e => by
          have hs := World.grownBy.size s153
          rcases hat161 with h | h
          · exact (show ∀ kq, Value.ownBlock _ = some kq → wl0.heap.size ≤ kq from (fun kq e => by have := World.grownBy.size s147; have := hb150; have e' := Option.some.inj e; simp at e'; omega)) kq (h.symm.trans e)
          · have := Option.some.inj (h.symm.trans e); omega
        refine sn (fun b => .slice (some ⟨b, 0, none⟩) 1 1) #[.int .i64 v] 3 s162 rfl (by kernel_rfl) rfl (fun _ => by kernel_rfl) (fun b164 w165 hb166 k167 x168 s169 => ?_)
        have lo170 : w.heap.size ≤ b164 := by have := ((SG.belowR c1 s162 (fun kq e => by cases e))).size; omega
        have nb171 : Nb b164 (.slice A156 (0 + k) cap157) := nb_hi ho159 (Nat.le_of_eq hb166)
        have ho172 := own_kept ho159 k167
        refine sap (e := 3) (size := 1) (base := w.heap.size) (m := 1) (v := .slice A156 (0 + k) cap157) (c := 1) s169 rfl rfl rfl rfl (by kernel_rfl) (by kernel_rfl) (by kernel_rfl) ho172 x168 (by kernel_rfl) (by kernel_rfl) (by omega) (by omega) (by have := ((SG.belowR c1 s169 (fun kq e => by cases e))).size; omega) (.inr fr163) (fun g173 cap174 w175 ho176 hg177 hat178 hlt179 s180 => ?_)
        have nb181 : Nb b164 (.slice (some ⟨g173, 0, none⟩) ((0 + k) + 1) cap174) := nb_app nb171 (blk_lt x168) hat178
        have x168 := (hg177.block _ (blk_lt x168) nb171).trans x168
        have ho176 := own_snoc ho176
        have fr182 : ∀ kq, (.slice (some ⟨g173, 0, none⟩) ((0 + k) + 1) cap174 : Value).ownBlock = some kq → wl0.heap.size ≤ kq := fun kq e => by
          have hs := World.grownBy.size s169
          have e' : g173 = kq := by simpa [Value.ownBlock] using e
          rcases hat178 with h | h
          · exact (show ∀ kq, Value.ownBlock _ = some kq → wl0.heap.size ≤ kq from fr163) kq (by rw [← e']; exact h)
          · omega
        refine sapR (e := 3) (size := 1) (base := w.heap.size) (v := .slice (some ⟨g173, 0, none⟩) ((0 + k) + 1) cap174) (A := (sFrom A c k 1)) (m := (n - k)) (c := (c - k)) s180 rfl rfl rfl rfl (by kernel_rfl) (by kernel_rfl) (by kernel_rfl) ho176 (Rd.fromI (Rd.kept ha (SG.belowR c1 s180 (fun kq e => by cases e))) (by omega) (hf).le) (Fm.from (size := 1) hf (by omega)) (ints_one _) (by omega) (by have := ((SG.belowR c1 s180 (fun kq e => by cases e))).size; omega) (.inr fr182) (fun A183 cap184 w185 ho186 hg187 hat188 s189 => ?_)
        have nb190 : Nb b164 (.slice A183 (((0 + k) + 1) + (n - k)) cap184) := nb_app2 nb181 (blk_lt x168) hat188
        have x168 := (hg187.block _ (blk_lt x168) nb181).trans x168
        have ho186 := own_joinI ho186
        have fr191 : ∀ kq, (.slice A183 (((0 + k) + 1) + (n - k)) cap184 : Value).ownBlock = some kq → wl0.heap.size ≤ kq := fun kq e => by
          have hs := World.grownBy.size s180
          rcases hat188 with h | h
          · exact (show ∀ kq, Value.ownBlock _ = some kq → wl0.heap.size ≤ kq from fr182) kq (h.symm.trans e)
          · have := Option.some.inj (h.symm.trans e); omega
        refine sq (v := .slice A183 (((0 + k) + 1) + (n - k)) cap184) rfl (r_assign rfl (by kernel_rfl)) (by kernel_rfl) rfl rfl ?_
        refine sch_end ?_
        simp only [List.set_cons_zero, List.set_cons_succ]
        have c192 := (SG.belowR c1 s189 (fun kq e => by cases e))
        refine h13 _ _ ?_
        refine wp_ret ?_
        try simp only [Exit.then]
        refine ret1 (v := .slice A183 (((0 + k) + 1) + (n - k)) cap184) rfl (by kernel_rfl) ?_
        have e9 : putL zs v = ((([] ++ (zs.take k)) ++ [v]) ++ (zs.drop k)) := by
          rw [putL_at v zs k hok (by omega) (fun z hz => by first | (have h9 := (List.getElem?_eq_some_iff.1 hz).1; omega)), if_neg (by intro e; have h9 := (List.getElem?_eq_some_iff.1 e).1; omega)]; simp
        exact ⟨_, _, _, rfl, (by rw [e9]; exact own_rd ho186), own_fm ho186, c192⟩
      · refine sn (fun b => .slice (some ⟨b, 0, none⟩) 1 1) #[.int .i64 v] 3 s153 rfl (by kernel_rfl) rfl (fun _ => by kernel_rfl) (fun b193 w194 hb195 k196 x197 s198 => ?_)
        have lo199 : w.heap.size ≤ b193 := by have := ((SG.belowR c1 s153 (fun kq e => by cases e))).size; omega
        have ne200 : b148 ≠ b193 := by have := blk_lt x152; omega
        have x152 := (k196.block _ (blk_lt x152)).trans x152
        have ho201 := own_empty (base := w.heap.size) (size := 1) x152 lo154
        replace ho201 : World.ownsRow _ _ _ _ _ _ (intsV []) := ho201
        have nb202 : Nb b193 (.slice (some ⟨b148, 0, none⟩) 0 0) := nb_new (by have := ne200; omega)
        replace ho201 : World.ownsRow _ _ _ _ _ _ (intsV []) := ho201
        refine sapR (e := 3) (size := 1) (base := w.heap.size) (v := .slice (some ⟨b148, 0, none⟩) 0 0) (A := A) (m := k) (c := c) s198 rfl rfl rfl rfl (by kernel_rfl) (by kernel_rfl) (by kernel_rfl) ho201 (Rd.toI (Rd.kept ha (SG.belowR c1 s198 (fun kq e => by cases e))) (by omega)) (Fm.to hf (by have := (hf).le; omega)) (ints_one _) (by omega) (by have := ((SG.belowR c1 s198 (fun kq e => by cases e))).size; omega) (.inr (fun kq e => by have := World.grownBy.size s147; have := hb150; have e' := Option.some.inj e; simp at e'; omega)) (fun A203 cap204 w205 ho206 hg207 hat208 s209 => ?_)
        have nb210 : Nb b193 (.slice A203 (0 + k) cap204) := nb_app2 nb202 (blk_lt x197) hat208
        have x197 := (hg207.block _ (blk_lt x197) nb202).trans x197
        have ho206 := own_joinI ho206
        have fr211 : ∀ kq, (.slice A203 (0 + k) cap204 : Value).ownBlock = some kq → wl0.heap.size ≤ kq := fun kq e => by
          have hs := World.grownBy.size s198
          rcases hat208 with h | h
          · exact (show ∀ kq, Value.ownBlock _ = some kq → wl0.heap.size ≤ kq from (fun kq e => by have := World.grownBy.size s147; have := hb150; have e' := Option.some.inj e; simp at e'; omega)) kq (h.symm.trans e)
          · have := Option.some.inj (h.symm.trans e); omega
        refine sap (e := 3) (size := 1) (base := w.heap.size) (m := 1) (v := .slice A203 (0 + k) cap204) (c := 1) s209 rfl rfl rfl rfl (by kernel_rfl) (by kernel_rfl) (by kernel_rfl) ho206 x197 (by kernel_rfl) (by kernel_rfl) (by omega) (by omega) (by have := ((SG.belowR c1 s209 (fun kq e => by cases e))).size; omega) (.inr fr211) (fun g212 cap213 w214 ho215 hg216 hat217 hlt218 s219 => ?_)
        have nb220 : Nb b193 (.slice (some ⟨g212, 0, none⟩) ((0 + k) + 1) cap213) := nb_app nb210 (blk_lt x197) hat217
        have x197 := (hg216.block _ (blk_lt x197) nb210).trans x197
        have ho215 := own_snoc ho215
        have fr221 : ∀ kq, (.slice (some ⟨g212, 0, none⟩) ((0 + k) + 1) cap213 : Value).ownBlock = some kq → wl0.heap.size ≤ kq := fun kq e => by
          have hs := World.grownBy.size s209
          have e' : g212 = kq := by simpa [Value.ownBlock] using e
          rcases hat217 with h | h
          · exact (show ∀ kq, Value.ownBlock _ = some kq → wl0.heap.size ≤ kq from fr211) kq (by rw [← e']; exact h)
          · omega
        refine sapR (e := 3) (size := 1) (base := w.heap.size) (v := .slice (some ⟨g212, 0, none⟩) ((0 + k) + 1) cap213) (A := (sFrom A c k 1)) (m := (n - k)) (c := (c - k)) s219 rfl rfl rfl rfl (by kernel_rfl) (by kernel_rfl) (by kernel_rfl) ho215 (Rd.fromI (Rd.kept ha (SG.belowR c1 s219 (fun kq e => by cases e))) (by omega) (hf).le) (Fm.from (size := 1) hf (by omega)) (ints_one _) (by omega) (by have := ((SG.belowR c1 s219 (fun kq e => by cases e))).size; omega) (.inr fr221) (fun A222 cap223 w224 ho225 hg226 hat227 s228 => ?_)
        have nb229 : Nb b193 (.slice A222 (((0 + k) + 1) + (n - k)) cap223) := nb_app2 nb220 (blk_lt x197) hat227
        have x197 := (hg226.block _ (blk_lt x197) nb220).trans x197
        have ho225 := own_joinI ho225
        have fr230 : ∀ kq, (.slice A222 (((0 + k) + 1) + (n - k)) cap223 : Value).ownBlock = some kq → wl0.heap.size ≤ kq := fun kq e => by
          have hs := World.grownBy.size s219
          rcases hat227 with h | h
          · exact (show ∀ kq, Value.ownBlock _ = some kq → wl0.heap.size ≤ kq from fr221) kq (h.symm.trans e)
          · have := Option.some.inj (h.symm.trans e); omega
        refine sq (v := .slice A222 (((0 + k) + 1) + (n - k)) cap223) rfl (r_assign rfl (by kernel_rfl)) (by kernel_rfl) rfl rfl ?_
        refine sch_end ?_
        simp only [List.set_cons_zero, List.set_cons_succ]
        have c231 := (SG.belowR c1 s228 (fun kq e => by cases e))
        refine h13 _ _ ?_
        refine wp_ret ?_
        try simp only [Exit.then]
        refine ret1 (v := .slice A222 (((0 + k) + 1) + (n - k)) cap223) rfl (by kernel_rfl) ?_
        have e9 : putL zs v = ((([] ++ (zs.take k)) ++ [v]) ++ (zs.drop k)) := by
          rw [putL_at v zs k hok (by omega) (fun z hz => by first | (have h9 := (List.getElem?_eq_some_iff.1 hz).1; omega)), if_neg (by intro e; have h9 := (List.getElem?_eq_some_iff.1 e).1; omega)]; simp
        exact ⟨_, _, _, rfl, (by rw [e9]; exact own_rd ho225), own_fm ho225, c231⟩
    · refine sn (fun b => .slice (some ⟨b, 0, none⟩) 1 1) #[.int .i64 v] 3 s147 rfl (by kernel_rfl) rfl (fun _ => by kernel_rfl) (fun b232 w233 hb234 k235 x236 s237 => ?_)
      have lo238 : w.heap.size ≤ b232 := by have := ((SG.belowR c1 s147 (fun kq e => by cases e))).size; omega
      refine sn (fun b => .slice (some ⟨b, 0, none⟩) 0 0) #[] 3 s237 rfl (by kernel_rfl) rfl (fun _ => by kernel_rfl) (fun b239 w240 hb241 k242 x243 s244 => ?_)
      have lo245 : w.heap.size ≤ b239 := by have := ((SG.belowR c1 s237 (fun kq e => by cases e))).size; omega
      have ne246 : b232 ≠ b239 := by have := blk_lt x236; omega
      have x236 := (k242.block _ (blk_lt x236)).trans x236
      have ho247 := own_empty (base := w.heap.size) (size := 1) x243 lo245
      replace ho247 : World.ownsRow _ _ _ _ _ _ (intsV []) := ho247
      have nb248 : Nb b232 (.slice (some ⟨b239, 0, none⟩) 0 0) := nb_new (by have := ne246; omega)
      replace ho247 : World.ownsRow _ _ _ _ _ _ (intsV []) := ho247
      refine sapR (e := 3) (size := 1) (base := w.heap.size) (v := .slice (some ⟨b239, 0, none⟩) 0 0) (A := A) (m := k) (c := c) s244 rfl rfl rfl rfl (by kernel_rfl) (by kernel_rfl) (by kernel_rfl) ho247 (Rd.toI (Rd.kept ha (SG.belowR c1 s244 (fun kq e => by cases e))) (by omega)) (Fm.to hf (by have := (hf).le; omega)) (ints_one _) (by omega) (by have := ((SG.belowR c1 s244 (fun kq e => by cases e))).size; omega) (.inr (fun kq e => by have := World.grownBy.size s237; have := hb241; have e' := Option.some.inj e; simp at e'; omega)) (fun A249 cap250 w251 ho252 hg253 hat254 s255 => ?_)
      have nb256 : Nb b232 (.slice A249 (0 + k) cap250) := nb_app2 nb248 (blk_lt x236) hat254
      have x236 := (hg253.block _ (blk_lt x236) nb248).trans x236
      have ho252 := own_joinI ho252
      have fr257 : ∀ kq, (.slice A249 (0 + k) cap250 : Value).ownBlock = some kq → wl0.heap.size ≤ kq := fun kq e => by
        have hs := World.grownBy.size s244
        rcases hat254 with h | h
        · exact (show ∀ kq, Value.ownBlock _ = some kq → wl0.heap.size ≤ kq from (fun kq e => by have := World.grownBy.size s237; have := hb241; have e' := Option.some.inj e; simp at e'; omega)) kq (h.symm.trans e)
        · have := Option.some.inj (h.symm.trans e); omega
      refine sap (e := 3) (size := 1) (base := w.heap.size) (m := 1) (v := .slice A249 (0 + k) cap250) (c := 1) s255 rfl rfl rfl rfl (by kernel_rfl) (by kernel_rfl) (by kernel_rfl) ho252 x236 (by kernel_rfl) (by kernel_rfl) (by omega) (by omega) (by have := ((SG.belowR c1 s255 (fun kq e => by cases e))).size; omega) (.inr fr257) (fun g258 cap259 w260 ho261 hg262 hat263 hlt264 s265 => ?_)
      have nb266 : Nb b232 (.slice (some ⟨g258, 0, none⟩) ((0 + k) + 1) cap259) := nb_app nb256 (blk_lt x236) hat263
      have x236 := (hg262.block _ (blk_lt x236) nb256).trans x236
      have ho261 := own_snoc ho261
      have fr267 : ∀ kq, (.slice (some ⟨g258, 0, none⟩) ((0 + k) + 1) cap259 : Value).ownBlock = some kq → wl0.heap.size ≤ kq := fun kq e => by
        have hs := World.grownBy.size s255
        have e' : g258 = kq := by simpa [Value.ownBlock] using e
        rcases hat263 with h | h
        · exact (show ∀ kq, Value.ownBlock _ = some kq → wl0.heap.size ≤ kq from fr257) kq (by rw [← e']; exact h)
        · omega
      refine sapR (e := 3) (size := 1) (base := w.heap.size) (v := .slice (some ⟨g258, 0, none⟩) ((0 + k) + 1) cap259) (A := (sFrom A c k 1)) (m := (n - k)) (c := (c - k)) s265 rfl rfl rfl rfl (by kernel_rfl) (by kernel_rfl) (by kernel_rfl) ho261 (Rd.fromI (Rd.kept ha (SG.belowR c1 s265 (fun kq e => by cases e))) (by omega) (hf).le) (Fm.from (size := 1) hf (by omega)) (ints_one _) (by omega) (by have := ((SG.belowR c1 s265 (fun kq e => by cases e))).size; omega) (.inr fr267) (fun A268 cap269 w270 ho271 hg272 hat273 s274 => ?_)
      have nb275 : Nb b232 (.slice A268 (((0 + k) + 1) + (n - k)) cap269) := nb_app2 nb266 (blk_lt x236) hat273
      have x236 := (hg272.block _ (blk_lt x236) nb266).trans x236
      have ho271 := own_joinI ho271
      have fr276 : ∀ kq, (.slice A268 (((0 + k) + 1) + (n - k)) cap269 : Value).ownBlock = some kq → wl0.heap.size ≤ kq := fun kq e => by
        have hs := World.grownBy.size s265
        rcases hat273 with h | h
        · exact (show ∀ kq, Value.ownBlock _ = some kq → wl0.heap.size ≤ kq from fr267) kq (h.symm.trans e)
        · have := Option.some.inj (h.symm.trans e); omega
      refine sq (v := .slice A268 (((0 + k) + 1) + (n - k)) cap269) rfl (r_assign rfl (by kernel_rfl)) (by kernel_rfl) rfl rfl ?_
      refine sch_end ?_
      simp only [List.set_cons_zero, List.set_cons_succ]
      have c277 := (SG.belowR c1 s274 (fun kq e => by cases e))
      refine h13 _ _ ?_
      refine wp_ret ?_
      try simp only [Exit.then]
      refine ret1 (v := .slice A268 (((0 + k) + 1) + (n - k)) cap269) rfl (by kernel_rfl) ?_
      have e9 : putL zs v = ((([] ++ (zs.take k)) ++ [v]) ++ (zs.drop k)) := by
        rw [putL_at v zs k hok (by omega) (fun z hz => by first | (have h9 := (List.getElem?_eq_some_iff.1 hz).1; omega)), if_neg (by intro e; have h9 := (List.getElem?_eq_some_iff.1 e).1; omega)]; simp
      exact ⟨_, _, _, rfl, (by rw [e9]; exact own_rd ho271), own_fm ho271, c277⟩

end Go.Proofs.Ytdlcldaogcbnlaa
