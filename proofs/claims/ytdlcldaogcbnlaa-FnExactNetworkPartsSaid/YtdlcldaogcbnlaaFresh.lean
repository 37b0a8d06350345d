/- A number put to its place, the reached nodes: the list that is handed back is old or new. -/
import Derived.Test.YtdlcldaogcbnlaaReached
import Derived.Test.YtdlcldaogcbnlaaSch5
import Derived.Test.YtdlcldaogcbnlaaFr
namespace Go.Proofs.Ytdlcldaogcbnlaa
open Go.RowKit
set_option linter.unusedVariables false
set_option linter.unusedSimpArgs false

/-- A slice's block is no older than this. -/
def freshA (H : Nat) (A : Option Addr) : Prop := ∀ b off, A = some ⟨b, off, none⟩ → H ≤ b
theorem fresh_put {H : Nat} {A A' : Option Addr} {W : World} (h : freshA H A) (hW : H ≤ W.heap.size) (h2 : A' = A ∨ ∀ b off, A' = some ⟨b, off, none⟩ → W.heap.size ≤ b) : freshA H A' := fun b off e => by
  rcases h2 with h3 | h3
  · exact h b off (by rw [← h3]; exact e)
  · exact Nat.le_trans hW (h3 b off e)

set_option maxRecDepth 100000 in
set_option maxHeartbeats 8000000 in
theorem l1Put_fr (A : Option Addr) (n c : Nat) (zs : List Int) (v : Int) (w : World) (ha : Rd w 1 A n (intsV zs)) (hf : Fm A n c) (hn : n ≤ 1000000) :
    Calls Try.prog 60 #[.slice A n c, .int .i64 v] w fun e w' => ∃ A' n' c', e = .returned (.slice A' n' c') ∧ Rd w' 1 A' n' (intsV (putL zs v)) ∧ Fm A' n' c' ∧ (A' = A ∨ ∀ b off, A' = some ⟨b, off, none⟩ → w.heap.size ≤ b) ∧ Below w.heap.size w w' := by
  have hl := rd_ints_len ha
  go_enter Try.func60, Try.ntmps60
  refine wp_seq_k (fun K1 h1 => ?_)
  refine W.region_quiet [(0, false)] (by kernel_rfl) ?_
  refine W.as (v := .slice none 0 0) (h := ?_)
  refine W.endF 45 [(0, .slice A n c), (1, .int .i64 v), (4, .slice none 0 0)] (fun U1 => ?_)
  refine h1 _ _ ?_
  refine wp_seq_k (fun K2 h2 => ?_)
  refine W.region_quiet [(0, false)] (by kernel_rfl) ?_
  refine F.as (v := .int .i64 0) (h := ?_)
  refine F.endF [(0, .slice A n c), (1, .int .i64 v), (4, .slice none 0 0), (5, .int .i64 0)] (fun U2 => ?_)
  refine h2 _ _ ?_
  refine wp_seq_k (fun K3 h3 => ?_)
  refine wp_block ?_
  refine loopK (fun am0 aa0 wl0 => ∃ (k : Nat) (U0 : Nat → Value), aa0 = ⟨(fr U0 [(0, .slice A n c), (1, .int .i64 v), (4, .slice none 0 0), (5, .int .i64 ((k : Nat) : Int))] 45 0).toArray, []⟩ ∧ (am0 = n - k) ∧ (k ≤ n) ∧ (∀ j z, j < k → zs[j]? = some z → z < v) ∧ (Below w.heap.size w wl0)) (n - 0) ?_ ?_
  · exact ⟨0, (fun iU9 => lk [(0, .slice A n c), (1, .int .i64 v), (4, .slice none 0 0), (5, .int .i64 0)] iU9 (U2 iU9)), (by kernel_rfl), rfl, (Nat.zero_le _), upto_zero, (Below.refl _ _)⟩
  rintro am0 aa0 wl0 K4 h4 ⟨k, U0, rfl, rfl, hk, hok, c3⟩
  refine wp_seq_k (fun K5 h5 => ?_)
  refine wp_seq_k (fun K6 h6 => ?_)
  refine W.region_quiet [(0, false), (1, false), (2, false), (3, false), (4, false), (5, false), (6, false), (7, false), (8, false), (9, false), (10, false), (11, false)] (by kernel_rfl) ?_
  refine F.mv (v := .int .i64 ((k : Nat) : Int)) (h := ?_)
  refine F.mv (v := .slice A n c) (h := ?_)
  refine F.q (v := .int .i64 ((n : Nat) : Int)) (hr := (r_len (A := A) (n := n) (c := c) rfl (ev_any (by kernel_rfl)) (by kernel_rfl))) (h := ?_)
  by_cases q4 : (((k : Nat) : Int) : Int) < (((n : Nat) : Int) : Int)
  · refine F.q (v := .bool true) (hr := (r_lss (m := ((k : Nat) : Int)) (n := ((n : Nat) : Int)) rfl (ev_any (by kernel_rfl)) (ev_any (by kernel_rfl)) (decide_eq_true q4))) (h := ?_)
    refine F.mv (v := .bool true) (h := ?_)
    refine F.mv (v := .slice A n c) (h := ?_)
    refine F.mv (v := .int .i64 ((k : Nat) : Int)) (h := ?_)
    obtain ⟨x5, hx6⟩ := get_of (zs := zs) (k := k) (by have := hl; omega)
    obtain ⟨b7, o8, hA9, hb10, hc11⟩ := Rd.elInt ha hx6
    refine F.q (v := .pointer (some ⟨b7, o8 + k, none⟩)) (hr := (r_idx1 (n := n) (c := c) (k := k) rfl (ev_any (by kernel_rfl)) hA9 (by kernel_rfl) (by kernel_rfl) (by have := hl; omega))) (h := ?_)
    refine F.ld (v := .int .i64 x5) (hc := (eqS (later c3 hc11))) (h := ?_)
    refine F.mv (v := .int .i64 v) (h := ?_)
    by_cases q12 : (x5 : Int) < (v : Int)
    · refine F.q (v := .bool true) (hr := (r_lss (m := x5) (n := v) rfl (ev_any (by kernel_rfl)) (ev_any (by kernel_rfl)) (decide_eq_true q12))) (h := ?_)
      refine F.q (v := .bool true) (hr := (r_pick (b := true) rfl (ev_any (by kernel_rfl)) (ev_any (by kernel_rfl)))) (h := ?_)
      refine F.endF [(0, .slice A n c), (1, .int .i64 v), (4, .slice none 0 0), (5, .int .i64 ((k : Nat) : Int)), (17, .bool true)] (fun U13 => ?_)
      refine h6 _ _ ?_
      refine wp_cond_true (by kernel_rfl) ?_
      refine wp_skip ?_
      refine h5 _ _ ?_
      refine wp_block ?_
      refine W.region_quiet [(0, false), (1, false), (2, false)] (by kernel_rfl) ?_
      refine F.mv (v := .int .i64 ((k : Nat) : Int)) (h := ?_)
      refine F.q (v := .int .i64 ((k + 1 : Nat) : Int)) (hr := (r_add (m := ((k : Nat) : Int)) (n := 1) (z := ((k + 1 : Nat) : Int)) rfl (ev_any (by kernel_rfl)) (ev_any (by kernel_rfl)) (by omega) (by omega))) (h := ?_)
      refine F.as (v := .int .i64 ((k + 1 : Nat) : Int)) (h := ?_)
      refine F.endF [(0, .slice A n c), (1, .int .i64 v), (4, .slice none 0 0), (5, .int .i64 ((k + 1 : Nat) : Int)), (17, .bool true)] (fun U14 => ?_)
      exact h4 _ _ _ (by omega : (n - (k + 1)) < _) ⟨k + 1, (fun iU9 => lk [(0, .slice A n c), (1, .int .i64 v), (4, .slice none 0 0), (5, .int .i64 ((k + 1 : Nat) : Int)), (17, .bool true)] iU9 (U14 iU9)), (by kernel_rfl), rfl, (by omega), (upto_succ hok hx6 q12), c3⟩
    · refine F.q (v := .bool false) (hr := (r_lss (m := x5) (n := v) rfl (ev_any (by kernel_rfl)) (ev_any (by kernel_rfl)) (decide_eq_false q12))) (h := ?_)
      refine F.q (v := .bool false) (hr := (r_pick (b := true) rfl (ev_any (by kernel_rfl)) (ev_any (by kernel_rfl)))) (h := ?_)
      refine F.endF [(0, .slice A n c), (1, .int .i64 v), (4, .slice none 0 0), (5, .int .i64 ((k : Nat) : Int)), (17, .bool false)] (fun U15 => ?_)
      refine h6 _ _ ?_
      refine wp_cond_false (by kernel_rfl) ?_
      refine wp_exit ?_
      refine h3 _ _ ?_
      refine wp_seq_k (fun K7 h7 => ?_)
      refine wp_seq_k (fun K8 h8 => ?_)
      refine W.region_quiet [(0, false), (1, false), (2, false), (3, false), (4, false), (5, false), (6, false), (7, false), (8, false), (9, false), (10, false), (11, false)] (by kernel_rfl) ?_
      refine F.mv (v := .int .i64 ((k : Nat) : Int)) (h := ?_)
      refine F.mv (v := .slice A n c) (h := ?_)
      refine F.q (v := .int .i64 ((n : Nat) : Int)) (hr := (r_len (A := A) (n := n) (c := c) rfl (ev_any (by kernel_rfl)) (by kernel_rfl))) (h := ?_)
      refine F.q (v := .bool true) (hr := (r_lss (m := ((k : Nat) : Int)) (n := ((n : Nat) : Int)) rfl (ev_any (by kernel_rfl)) (ev_any (by kernel_rfl)) (decide_eq_true q4))) (h := ?_)
      refine F.mv (v := .bool true) (h := ?_)
      refine F.mv (v := .slice A n c) (h := ?_)
      refine F.mv (v := .int .i64 ((k : Nat) : Int)) (h := ?_)
      refine F.q (v := .pointer (some ⟨b7, o8 + k, none⟩)) (hr := (r_idx1 (n := n) (c := c) (k := k) rfl (ev_any (by kernel_rfl)) hA9 (by kernel_rfl) (by kernel_rfl) (by have := hl; omega))) (h := ?_)
      refine F.ld (v := .int .i64 x5) (hc := (eqS (later c3 hc11))) (h := ?_)
      refine F.mv (v := .int .i64 v) (h := ?_)
      by_cases q16 : (x5 : Int) = (v : Int)
      · refine F.q (v := .bool true) (hr := (r_eql (m := x5) (n := v) rfl (ev_any (by kernel_rfl)) (ev_any (by kernel_rfl)) (decide_eq_true q16))) (h := ?_)
        refine F.q (v := .bool true) (hr := (r_pick (b := true) rfl (ev_any (by kernel_rfl)) (ev_any (by kernel_rfl)))) (h := ?_)
        refine F.endF [(0, .slice A n c), (1, .int .i64 v), (4, .slice none 0 0), (5, .int .i64 ((k : Nat) : Int)), (17, .bool false), (31, .bool true)] (fun U17 => ?_)
        refine h8 _ _ ?_
        refine wp_cond_true (by kernel_rfl) ?_
        refine wp_seq_k (fun K9 h9 => ?_)
        refine W.region_quiet [(0, false), (1, false)] (by kernel_rfl) ?_
        refine F.mv (v := .slice A n c) (h := ?_)
        refine F.as (v := .slice A n c) (h := ?_)
        refine F.endF [(0, .slice A n c), (1, .int .i64 v), (4, .slice A n c), (5, .int .i64 ((k : Nat) : Int)), (17, .bool false), (31, .bool true)] (fun U18 => ?_)
        refine h9 _ _ ?_
        refine wp_ret ?_
        try simp only [Exit.then]
        refine ret1 (v := .slice A n c) rfl (by kernel_rfl) ?_
        have e9 : putL zs v = zs := by
          rw [putL_at v zs k hok (by omega) (fun z hz => by first | (have h9 := (List.getElem?_eq_some_iff.1 hz).1; omega) | (rw [hx6] at hz; cases hz; omega)), if_pos (by rw [hx6, q16])]
        exact ⟨_, _, _, rfl, (by rw [e9]; exact (Rd.kept ha c3)), hf, .inl rfl, c3⟩
      · refine F.q (v := .bool false) (hr := (r_eql (m := x5) (n := v) rfl (ev_any (by kernel_rfl)) (ev_any (by kernel_rfl)) (decide_eq_false q16))) (h := ?_)
        refine F.q (v := .bool false) (hr := (r_pick (b := true) rfl (ev_any (by kernel_rfl)) (ev_any (by kernel_rfl)))) (h := ?_)
        refine F.endF [(0, .slice A n c), (1, .int .i64 v), (4, .slice none 0 0), (5, .int .i64 ((k : Nat) : Int)), (17, .bool false), (31, .bool false)] (fun U19 => ?_)
        refine h8 _ _ ?_
        refine wp_cond_false (by kernel_rfl) ?_
        refine wp_skip ?_
        refine h7 _ _ ?_
        refine wp_seq_k (fun K10 h10 => ?_)
        refine W.region_sch (row := none) (Sch.app [(1, false), (2, false), (3, false), (5, false), (8, false), (9, false), (10, false)] (.br 0 6 (Sch.app [] (.br 4 6 (Sch.of [(6, true), (7, true), (11, true), (12, false)]) (Sch.of [(4, true), (7, true), (11, true), (12, false)]))) (Sch.of [(0, true), (4, true), (7, true), (11, true), (12, false)]))) (by kernel_rfl) (by kernel_rfl) (fun _ d _ _ _ h => by cases d <;> exact h) (by kernel_rfl) (fun w20 e21 s22 => ?_)
        refine F.mv (v := .slice A n c) (h := ?_)
        refine F.mv (v := .int .i64 ((k : Nat) : Int)) (h := ?_)
        refine F.q (v := .slice A k c) (hr := (r_sliceTo (A := A) (n := n) (c := c) (k := k) (size := 1) rfl (ev_any (by kernel_rfl)) (ev_any (by kernel_rfl)) (by kernel_rfl) (by have := (hf).le; omega))) (h := ?_)
        refine F.mv (v := .int .i64 v) (h := ?_)
        refine F.mv (v := .slice A n c) (h := ?_)
        refine F.mv (v := .int .i64 ((k : Nat) : Int)) (h := ?_)
        refine F.q (v := .slice (sFrom A c k 1) (n - k) (c - k)) (hr := (r_sliceFrom (A := A) (n := n) (c := c) (k := k) (size := 1) rfl (ev_any (by kernel_rfl)) (ev_any (by kernel_rfl)) (by kernel_rfl) (by omega))) (h := ?_)
        refine W.sbr ?_ ?_
        · refine W.sn (fun b => .slice (some ⟨b, 0, none⟩) 0 0) #[] 3 s22 rfl (by kernel_rfl) rfl (fun _ => by kernel_rfl) (fun b23 w24 hb25 k26 x27 s28 => ?_)
          refine F.nx ?_
          have lo29 : w.heap.size ≤ b23 := Nat.le_trans ((SG.belowR c3 s22 (fun kq e => by cases e))).size (Nat.le_of_eq hb25)
          refine W.sbr ?_ ?_
          · have ho30 := own_empty (base := w.heap.size) (size := 1) x27 lo29
            replace ho30 : World.ownsRow _ _ _ _ _ _ (intsV []) := ho30
            replace ho30 : World.ownsRow _ _ _ _ _ _ (intsV []) := ho30
            refine W.sapR (e := 3) (size := 1) (base := w.heap.size) (v := .slice (some ⟨b23, 0, none⟩) 0 0) (A := A) (m := k) (c := c) s28 rfl rfl rfl rfl (by kernel_rfl) (by kernel_rfl) (by kernel_rfl) ho30 (Rd.toI (Rd.kept ha (SG.belowR c3 s28 (fun kq e => by cases e))) (by omega)) (Fm.to hf (by have := (hf).le; omega)) (ints_one _) (by omega) (by have := ((SG.belowR c3 s28 (fun kq e => by cases e))).size; omega) (.inr (fun kq e => by have := (s22).size; have := hb25; have e' := Option.some.inj e; simp at e'; omega)) (fun A31 cap32 w33 ho34 hg35 hat36 s37 => ?_)
            refine F.nx ?_
            have ho34 := own_joinI ho34
            have fr38 : ∀ kq, (.slice A31 (0 + k) cap32 : Value).ownBlock = some kq → wl0.heap.size ≤ kq := fun kq e => by
              have hs := (s28).size
              rcases hat36 with h | h
              · exact (show ∀ kq, Value.ownBlock _ = some kq → wl0.heap.size ≤ kq from (fun kq e => by have := (s22).size; have := hb25; have e' := Option.some.inj e; simp at e'; omega)) kq (h.symm.trans e)
              · have := Option.some.inj (h.symm.trans e); omega
            refine W.sn (fun b => .slice (some ⟨b, 0, none⟩) 1 1) #[.int .i64 v] 3 s37 rfl (by kernel_rfl) rfl (fun _ => by kernel_rfl) (fun b39 w40 hb41 k42 x43 s44 => ?_)
            refine F.nx ?_
            have lo45 : w.heap.size ≤ b39 := Nat.le_trans ((SG.belowR c3 s37 (fun kq e => by cases e))).size (Nat.le_of_eq hb41)
            have nb46 : Nb b39 (.slice A31 (0 + k) cap32) := nb_hi ho34 (Nat.le_of_eq hb41)
            have ho47 := own_kept ho34 k42
            refine W.sap (e := 3) (size := 1) (base := w.heap.size) (m := 1) (v := .slice A31 (0 + k) cap32) (c := 1) s44 rfl rfl rfl rfl (by kernel_rfl) (by kernel_rfl) (by kernel_rfl) ho47 x43 (by kernel_rfl) (by kernel_rfl) (by omega) (by omega) (by have := ((SG.belowR c3 s44 (fun kq e => by cases e))).size; omega) (.inr fr38) (fun g48 cap49 w50 ho51 hg52 hat53 hlt54 s55 => ?_)
            refine F.nx ?_
            have nb56 : Nb b39 (.slice (some ⟨g48, 0, none⟩) ((0 + k) + 1) cap49) := nb_app nb46 (blk_lt x43) hat53
            have x43 := (hg52.block _ (blk_lt x43) nb46).trans x43
            have ho51 := own_snoc ho51
            have fr57 : ∀ kq, (.slice (some ⟨g48, 0, none⟩) ((0 + k) + 1) cap49 : Value).ownBlock = some kq → wl0.heap.size ≤ kq := fun kq e => by
              have hs := (s44).size
              have e' : g48 = kq := by simpa [Value.ownBlock] using e
              rcases hat53 with h | h
              · exact (show ∀ kq, Value.ownBlock _ = some kq → wl0.heap.size ≤ kq from fr38) kq (by rw [← e']; exact h)
              · omega
            refine W.sapR (e := 3) (size := 1) (base := w.heap.size) (v := .slice (some ⟨g48, 0, none⟩) ((0 + k) + 1) cap49) (A := (sFrom A c k 1)) (m := (n - k)) (c := (c - k)) s55 rfl rfl rfl rfl (by kernel_rfl) (by kernel_rfl) (by kernel_rfl) ho51 (Rd.fromI (Rd.kept ha (SG.belowR c3 s55 (fun kq e => by cases e))) (by omega) (hf).le) (Fm.from (size := 1) hf (by omega)) (ints_one _) (by omega) (by have := ((SG.belowR c3 s55 (fun kq e => by cases e))).size; omega) (.inr fr57) (fun A58 cap59 w60 ho61 hg62 hat63 s64 => ?_)
            refine F.nx ?_
            have nb65 : Nb b39 (.slice A58 (((0 + k) + 1) + (n - k)) cap59) := nb_app2 nb56 (blk_lt x43) hat63
            have x43 := (hg62.block _ (blk_lt x43) nb56).trans x43
            have ho61 := own_joinI ho61
            have fr66 : ∀ kq, (.slice A58 (((0 + k) + 1) + (n - k)) cap59 : Value).ownBlock = some kq → wl0.heap.size ≤ kq := fun kq e => by
              have hs := (s55).size
              rcases hat63 with h | h
              · exact (show ∀ kq, Value.ownBlock _ = some kq → wl0.heap.size ≤ kq from fr57) kq (h.symm.trans e)
              · have := Option.some.inj (h.symm.trans e); omega
            refine F.as (v := .slice A58 (((0 + k) + 1) + (n - k)) cap59) (h := ?_)
            refine F.endF [(0, .slice A n c), (1, .int .i64 v), (4, .slice A58 (((0 + k) + 1) + (n - k)) cap59), (5, .int .i64 ((k : Nat) : Int)), (17, .bool false), (31, .bool false)] (fun U67 => ?_)
            have c68 := (SG.belowR c3 s64 (fun kq e => by cases e))
            refine h10 _ _ ?_
            refine wp_ret ?_
            try simp only [Exit.then]
            refine ret1 (v := .slice A58 (((0 + k) + 1) + (n - k)) cap59) rfl (by kernel_rfl) ?_
            have e9 : putL zs v = ((([] ++ (zs.take k)) ++ [v]) ++ (zs.drop k)) := by
              rw [putL_at v zs k hok (by omega) (fun z hz => by first | (have h9 := (List.getElem?_eq_some_iff.1 hz).1; omega) | (rw [hx6] at hz; cases hz; omega)), if_neg (by rw [hx6]; intro e; cases e; omega)]; simp
            exact ⟨_, _, _, rfl, (by rw [e9]; exact own_rd ho61), own_fm ho61, .inr (fun b off e => (World.ownsRow.lt ho61 b (by rw [e]; rfl)).1), c68⟩
          · refine W.sn (fun b => .slice (some ⟨b, 0, none⟩) 1 1) #[.int .i64 v] 3 s28 rfl (by kernel_rfl) rfl (fun _ => by kernel_rfl) (fun b69 w70 hb71 k72 x73 s74 => ?_)
            refine F.nx ?_
            have lo75 : w.heap.size ≤ b69 := Nat.le_trans ((SG.belowR c3 s28 (fun kq e => by cases e))).size (Nat.le_of_eq hb71)
            have ne76 : b23 ≠ b69 := Nat.ne_of_lt (Nat.lt_of_lt_of_eq (blk_lt x27) hb71)
            have x27 := (k72.block _ (blk_lt x27)).trans x27
            have ho77 := own_empty (base := w.heap.size) (size := 1) x27 lo29
            replace ho77 : World.ownsRow _ _ _ _ _ _ (intsV []) := ho77
            have nb78 : Nb b69 (.slice (some ⟨b23, 0, none⟩) 0 0) := nb_new (Ne.symm ne76)
            replace ho77 : World.ownsRow _ _ _ _ _ _ (intsV []) := ho77
            refine W.sapR (e := 3) (size := 1) (base := w.heap.size) (v := .slice (some ⟨b23, 0, none⟩) 0 0) (A := A) (m := k) (c := c) s74 rfl rfl rfl rfl (by kernel_rfl) (by kernel_rfl) (by kernel_rfl) ho77 (Rd.toI (Rd.kept ha (SG.belowR c3 s74 (fun kq e => by cases e))) (by omega)) (Fm.to hf (by have := (hf).le; omega)) (ints_one _) (by omega) (by have := ((SG.belowR c3 s74 (fun kq e => by cases e))).size; omega) (.inr (fun kq e => by have := (s22).size; have := hb25; have e' := Option.some.inj e; simp at e'; omega)) (fun A79 cap80 w81 ho82 hg83 hat84 s85 => ?_)
            refine F.nx ?_
            have nb86 : Nb b69 (.slice A79 (0 + k) cap80) := nb_app2 nb78 (blk_lt x73) hat84
            have x73 := (hg83.block _ (blk_lt x73) nb78).trans x73
            have ho82 := own_joinI ho82
            have fr87 : ∀ kq, (.slice A79 (0 + k) cap80 : Value).ownBlock = some kq → wl0.heap.size ≤ kq := fun kq e => by
              have hs := (s74).size
              rcases hat84 with h | h
              · exact (show ∀ kq, Value.ownBlock _ = some kq → wl0.heap.size ≤ kq from (fun kq e => by have := (s22).size; have := hb25; have e' := Option.some.inj e; simp at e'; omega)) kq (h.symm.trans e)
              · have := Option.some.inj (h.symm.trans e); omega
            refine W.sap (e := 3) (size := 1) (base := w.heap.size) (m := 1) (v := .slice A79 (0 + k) cap80) (c := 1) s85 rfl rfl rfl rfl (by kernel_rfl) (by kernel_rfl) (by kernel_rfl) ho82 x73 (by kernel_rfl) (by kernel_rfl) (by omega) (by omega) (by have := ((SG.belowR c3 s85 (fun kq e => by cases e))).size; omega) (.inr fr87) (fun g88 cap89 w90 ho91 hg92 hat93 hlt94 s95 => ?_)
            refine F.nx ?_
            have nb96 : Nb b69 (.slice (some ⟨g88, 0, none⟩) ((0 + k) + 1) cap89) := nb_app nb86 (blk_lt x73) hat93
            have x73 := (hg92.block _ (blk_lt x73) nb86).trans x73
            have ho91 := own_snoc ho91
            have fr97 : ∀ kq, (.slice (some ⟨g88, 0, none⟩) ((0 + k) + 1) cap89 : Value).ownBlock = some kq → wl0.heap.size ≤ kq := fun kq e => by
              have hs := (s85).size
              have e' : g88 = kq := by simpa [Value.ownBlock] using e
              rcases hat93 with h | h
              · exact (show ∀ kq, Value.ownBlock _ = some kq → wl0.heap.size ≤ kq from fr87) kq (by rw [← e']; exact h)
              · omega
            refine W.sapR (e := 3) (size := 1) (base := w.heap.size) (v := .slice (some ⟨g88, 0, none⟩) ((0 + k) + 1) cap89) (A := (sFrom A c k 1)) (m := (n - k)) (c := (c - k)) s95 rfl rfl rfl rfl (by kernel_rfl) (by kernel_rfl) (by kernel_rfl) ho91 (Rd.fromI (Rd.kept ha (SG.belowR c3 s95 (fun kq e => by cases e))) (by omega) (hf).le) (Fm.from (size := 1) hf (by omega)) (ints_one _) (by omega) (by have := ((SG.belowR c3 s95 (fun kq e => by cases e))).size; omega) (.inr fr97) (fun A98 cap99 w100 ho101 hg102 hat103 s104 => ?_)
            refine F.nx ?_
            have nb105 : Nb b69 (.slice A98 (((0 + k) + 1) + (n - k)) cap99) := nb_app2 nb96 (blk_lt x73) hat103
            have x73 := (hg102.block _ (blk_lt x73) nb96).trans x73
            have ho101 := own_joinI ho101
            have fr106 : ∀ kq, (.slice A98 (((0 + k) + 1) + (n - k)) cap99 : Value).ownBlock = some kq → wl0.heap.size ≤ kq := fun kq e => by
              have hs := (s95).size
              rcases hat103 with h | h
              · exact (show ∀ kq, Value.ownBlock _ = some kq → wl0.heap.size ≤ kq from fr97) kq (h.symm.trans e)
              · have := Option.some.inj (h.symm.trans e); omega
            refine F.as (v := .slice A98 (((0 + k) + 1) + (n - k)) cap99) (h := ?_)
            refine F.endF [(0, .slice A n c), (1, .int .i64 v), (4, .slice A98 (((0 + k) + 1) + (n - k)) cap99), (5, .int .i64 ((k : Nat) : Int)), (17, .bool false), (31, .bool false)] (fun U107 => ?_)
            have c108 := (SG.belowR c3 s104 (fun kq e => by cases e))
            refine h10 _ _ ?_
            refine wp_ret ?_
            try simp only [Exit.then]
            refine ret1 (v := .slice A98 (((0 + k) + 1) + (n - k)) cap99) rfl (by kernel_rfl) ?_
            have e9 : putL zs v = ((([] ++ (zs.take k)) ++ [v]) ++ (zs.drop k)) := by
              rw [putL_at v zs k hok (by omega) (fun z hz => by first | (have h9 := (List.getElem?_eq_some_iff.1 hz).1; omega) | (rw [hx6] at hz; cases hz; omega)), if_neg (by rw [hx6]; intro e; cases e; omega)]; simp
            exact ⟨_, _, _, rfl, (by rw [e9]; exact own_rd ho101), own_fm ho101, .inr (fun b off e => (World.ownsRow.lt ho101 b (by rw [e]; rfl)).1), c108⟩
        · refine W.sn (fun b => .slice (some ⟨b, 0, none⟩) 1 1) #[.int .i64 v] 3 s22 rfl (by kernel_rfl) rfl (fun _ => by kernel_rfl) (fun b109 w110 hb111 k112 x113 s114 => ?_)
          refine F.nx ?_
          have lo115 : w.heap.size ≤ b109 := Nat.le_trans ((SG.belowR c3 s22 (fun kq e => by cases e))).size (Nat.le_of_eq hb111)
          refine W.sn (fun b => .slice (some ⟨b, 0, none⟩) 0 0) #[] 3 s114 rfl (by kernel_rfl) rfl (fun _ => by kernel_rfl) (fun b116 w117 hb118 k119 x120 s121 => ?_)
          refine F.nx ?_
          have lo122 : w.heap.size ≤ b116 := Nat.le_trans ((SG.belowR c3 s114 (fun kq e => by cases e))).size (Nat.le_of_eq hb118)
          have ne123 : b109 ≠ b116 := Nat.ne_of_lt (Nat.lt_of_lt_of_eq (blk_lt x113) hb118)
          have x113 := (k119.block _ (blk_lt x113)).trans x113
          have ho124 := own_empty (base := w.heap.size) (size := 1) x120 lo122
          replace ho124 : World.ownsRow _ _ _ _ _ _ (intsV []) := ho124
          have nb125 : Nb b109 (.slice (some ⟨b116, 0, none⟩) 0 0) := nb_new ne123
          replace ho124 : World.ownsRow _ _ _ _ _ _ (intsV []) := ho124
          refine W.sapR (e := 3) (size := 1) (base := w.heap.size) (v := .slice (some ⟨b116, 0, none⟩) 0 0) (A := A) (m := k) (c := c) s121 rfl rfl rfl rfl (by kernel_rfl) (by kernel_rfl) (by kernel_rfl) ho124 (Rd.toI (Rd.kept ha (SG.belowR c3 s121 (fun kq e => by cases e))) (by omega)) (Fm.to hf (by have := (hf).le; omega)) (ints_one _) (by omega) (by have := ((SG.belowR c3 s121 (fun kq e => by cases e))).size; omega) (.inr (fun kq e => by have := (s114).size; have := hb118; have e' := Option.some.inj e; simp at e'; omega)) (fun A126 cap127 w128 ho129 hg130 hat131 s132 => ?_)
          refine F.nx ?_
          have nb133 : Nb b109 (.slice A126 (0 + k) cap127) := nb_app2 nb125 (blk_lt x113) hat131
          have x113 := (hg130.block _ (blk_lt x113) nb125).trans x113
          have ho129 := own_joinI ho129
          have fr134 : ∀ kq, (.slice A126 (0 + k) cap127 : Value).ownBlock = some kq → wl0.heap.size ≤ kq := fun kq e => by
            have hs := (s121).size
            rcases hat131 with h | h
            · exact (show ∀ kq, Value.ownBlock _ = some kq → wl0.heap.size ≤ kq from (fun kq e => by have := (s114).size; have := hb118; have e' := Option.some.inj e; simp at e'; omega)) kq (h.symm.trans e)
            · have := Option.some.inj (h.symm.trans e); omega
          refine W.sap (e := 3) (size := 1) (base := w.heap.size) (m := 1) (v := .slice A126 (0 + k) cap127) (c := 1) s132 rfl rfl rfl rfl (by kernel_rfl) (by kernel_rfl) (by kernel_rfl) ho129 x113 (by kernel_rfl) (by kernel_rfl) (by omega) (by omega) (by have := ((SG.belowR c3 s132 (fun kq e => by cases e))).size; omega) (.inr fr134) (fun g135 cap136 w137 ho138 hg139 hat140 hlt141 s142 => ?_)
          refine F.nx ?_
          have nb143 : Nb b109 (.slice (some ⟨g135, 0, none⟩) ((0 + k) + 1) cap136) := nb_app nb133 (blk_lt x113) hat140
          have x113 := (hg139.block _ (blk_lt x113) nb133).trans x113
          have ho138 := own_snoc ho138
          have fr144 : ∀ kq, (.slice (some ⟨g135, 0, none⟩) ((0 + k) + 1) cap136 : Value).ownBlock = some kq → wl0.heap.size ≤ kq := fun kq e => by
            have hs := (s132).size
            have e' : g135 = kq := by simpa [Value.ownBlock] using e
            rcases hat140 with h | h
            · exact (show ∀ kq, Value.ownBlock _ = some kq → wl0.heap.size ≤ kq from fr134) kq (by rw [← e']; exact h)
            · omega
          refine W.sapR (e := 3) (size := 1) (base := w.heap.size) (v := .slice (some ⟨g135, 0, none⟩) ((0 + k) + 1) cap136) (A := (sFrom A c k 1)) (m := (n - k)) (c := (c - k)) s142 rfl rfl rfl rfl (by kernel_rfl) (by kernel_rfl) (by kernel_rfl) ho138 (Rd.fromI (Rd.kept ha (SG.belowR c3 s142 (fun kq e => by cases e))) (by omega) (hf).le) (Fm.from (size := 1) hf (by omega)) (ints_one _) (by omega) (by have := ((SG.belowR c3 s142 (fun kq e => by cases e))).size; omega) (.inr fr144) (fun A145 cap146 w147 ho148 hg149 hat150 s151 => ?_)
          refine F.nx ?_
          have nb152 : Nb b109 (.slice A145 (((0 + k) + 1) + (n - k)) cap146) := nb_app2 nb143 (blk_lt x113) hat150
          have x113 := (hg149.block _ (blk_lt x113) nb143).trans x113
          have ho148 := own_joinI ho148
          have fr153 : ∀ kq, (.slice A145 (((0 + k) + 1) + (n - k)) cap146 : Value).ownBlock = some kq → wl0.heap.size ≤ kq := fun kq e => by
            have hs := (s142).size
            rcases hat150 with h | h
            · exact (show ∀ kq, Value.ownBlock _ = some kq → wl0.heap.size ≤ kq from fr144) kq (h.symm.trans e)
            · have := Option.some.inj (h.symm.trans e); omega
          refine F.as (v := .slice A145 (((0 + k) + 1) + (n - k)) cap146) (h := ?_)
          refine F.endF [(0, .slice A n c), (1, .int .i64 v), (4, .slice A145 (((0 + k) + 1) + (n - k)) cap146), (5, .int .i64 ((k : Nat) : Int)), (17, .bool false), (31, .bool false)] (fun U154 => ?_)
          have c155 := (SG.belowR c3 s151 (fun kq e => by cases e))
          refine h10 _ _ ?_
          refine wp_ret ?_
          try simp only [Exit.then]
          refine ret1 (v := .slice A145 (((0 + k) + 1) + (n - k)) cap146) rfl (by kernel_rfl) ?_
          have e9 : putL zs v = ((([] ++ (zs.take k)) ++ [v]) ++ (zs.drop k)) := by
            rw [putL_at v zs k hok (by omega) (fun z hz => by first | (have h9 := (List.getElem?_eq_some_iff.1 hz).1; omega) | (rw [hx6] at hz; cases hz; omega)), if_neg (by rw [hx6]; intro e; cases e; omega)]; simp
          exact ⟨_, _, _, rfl, (by rw [e9]; exact own_rd ho148), own_fm ho148, .inr (fun b off e => (World.ownsRow.lt ho148 b (by rw [e]; rfl)).1), c155⟩
  · refine F.q (v := .bool false) (hr := (r_lss (m := ((k : Nat) : Int)) (n := ((n : Nat) : Int)) rfl (ev_any (by kernel_rfl)) (ev_any (by kernel_rfl)) (decide_eq_false q4))) (h := ?_)
    refine F.mv (v := .bool false) (h := ?_)
    refine F.sp rfl (h := ?_)
    refine F.sp rfl (h := ?_)
    refine F.sp rfl (h := ?_)
    refine F.sp rfl (h := ?_)
    refine F.sp rfl (h := ?_)
    refine F.sp rfl (h := ?_)
    refine F.q (v := .bool false) (hr := (r_pick (b := false) rfl (ev_any (by kernel_rfl)) (ev_any (by kernel_rfl)))) (h := ?_)
    refine F.endF [(0, .slice A n c), (1, .int .i64 v), (4, .slice none 0 0), (5, .int .i64 ((k : Nat) : Int)), (17, .bool false)] (fun U156 => ?_)
    refine h6 _ _ ?_
    refine wp_cond_false (by kernel_rfl) ?_
    refine wp_exit ?_
    refine h3 _ _ ?_
    refine wp_seq_k (fun K11 h11 => ?_)
    refine wp_seq_k (fun K12 h12 => ?_)
    refine W.region_quiet [(0, false), (1, false), (2, false), (3, false), (4, false), (5, false), (6, false), (7, false), (8, false), (9, false), (10, false), (11, false)] (by kernel_rfl) ?_
    refine F.mv (v := .int .i64 ((k : Nat) : Int)) (h := ?_)
    refine F.mv (v := .slice A n c) (h := ?_)
    refine F.q (v := .int .i64 ((n : Nat) : Int)) (hr := (r_len (A := A) (n := n) (c := c) rfl (ev_any (by kernel_rfl)) (by kernel_rfl))) (h := ?_)
    refine F.q (v := .bool false) (hr := (r_lss (m := ((k : Nat) : Int)) (n := ((n : Nat) : Int)) rfl (ev_any (by kernel_rfl)) (ev_any (by kernel_rfl)) (decide_eq_false q4))) (h := ?_)
    refine F.mv (v := .bool false) (h := ?_)
    refine F.sp rfl (h := ?_)
    refine F.sp rfl (h := ?_)
    refine F.sp rfl (h := ?_)
    refine F.sp rfl (h := ?_)
    refine F.sp rfl (h := ?_)
    refine F.sp rfl (h := ?_)
    refine F.q (v := .bool false) (hr := (r_pick (b := false) rfl (ev_any (by kernel_rfl)) (ev_any (by kernel_rfl)))) (h := ?_)
    refine F.endF [(0, .slice A n c), (1, .int .i64 v), (4, .slice none 0 0), (5, .int .i64 ((k : Nat) : Int)), (17, .bool false), (31, .bool false)] (fun U157 => ?_)
    refine h12 _ _ ?_
    refine wp_cond_false (by kernel_rfl) ?_
    refine wp_skip ?_
    refine h11 _ _ ?_
    refine wp_seq_k (fun K13 h13 => ?_)
    refine W.region_sch (row := none) (Sch.app [(1, false), (2, false), (3, false), (5, false), (8, false), (9, false), (10, false)] (.br 0 6 (Sch.app [] (.br 4 6 (Sch.of [(6, true), (7, true), (11, true), (12, false)]) (Sch.of [(4, true), (7, true), (11, true), (12, false)]))) (Sch.of [(0, true), (4, true), (7, true), (11, true), (12, false)]))) (by kernel_rfl) (by kernel_rfl) (fun _ d _ _ _ h => by cases d <;> exact h) (by kernel_rfl) (fun w158 e159 s160 => ?_)
    refine F.mv (v := .slice A n c) (h := ?_)
    refine F.mv (v := .int .i64 ((k : Nat) : Int)) (h := ?_)
    refine F.q (v := .slice A k c) (hr := (r_sliceTo (A := A) (n := n) (c := c) (k := k) (size := 1) rfl (ev_any (by kernel_rfl)) (ev_any (by kernel_rfl)) (by kernel_rfl) (by have := (hf).le; omega))) (h := ?_)
    refine F.mv (v := .int .i64 v) (h := ?_)
    refine F.mv (v := .slice A n c) (h := ?_)
    refine F.mv (v := .int .i64 ((k : Nat) : Int)) (h := ?_)
    refine F.q (v := .slice (sFrom A c k 1) (n - k) (c - k)) (hr := (r_sliceFrom (A := A) (n := n) (c := c) (k := k) (size := 1) rfl (ev_any (by kernel_rfl)) (ev_any (by kernel_rfl)) (by kernel_rfl) (by omega))) (h := ?_)
    refine W.sbr ?_ ?_
    · refine W.sn (fun b => .slice (some ⟨b, 0, none⟩) 0 0) #[] 3 s160 rfl (by kernel_rfl) rfl (fun _ => by kernel_rfl) (fun b161 w162 hb163 k164 x165 s166 => ?_)
      refine F.nx ?_
      have lo167 : w.heap.size ≤ b161 := Nat.le_trans ((SG.belowR c3 s160 (fun kq e => by cases e))).size (Nat.le_of_eq hb163)
      refine W.sbr ?_ ?_
      · have ho168 := own_empty (base := w.heap.size) (size := 1) x165 lo167
        replace ho168 : World.ownsRow _ _ _ _ _ _ (intsV []) := ho168
        replace ho168 : World.ownsRow _ _ _ _ _ _ (intsV []) := ho168
        refine W.sapR (e := 3) (size := 1) (base := w.heap.size) (v := .slice (some ⟨b161, 0, none⟩) 0 0) (A := A) (m := k) (c := c) s166 rfl rfl rfl rfl (by kernel_rfl) (by kernel_rfl) (by kernel_rfl) ho168 (Rd.toI (Rd.kept ha (SG.belowR c3 s166 (fun kq e => by cases e))) (by omega)) (Fm.to hf (by have := (hf).le; omega)) (ints_one _) (by omega) (by have := ((SG.belowR c3 s166 (fun kq e => by cases e))).size; omega) (.inr (fun kq e => by have := (s160).size; have := hb163; have e' := Option.some.inj e; simp at e'; omega)) (fun A169 cap170 w171 ho172 hg173 hat174 s175 => ?_)
        refine F.nx ?_
        have ho172 := own_joinI ho172
        have fr176 : ∀ kq, (.slice A169 (0 + k) cap170 : Value).ownBlock = some kq → wl0.heap.size ≤ kq := fun kq e => by
          have hs := (s166).size
          rcases hat174 with h | h
          · exact (show ∀ kq, Value.ownBlock _ = some kq → wl0.heap.size ≤ kq from (fun kq e => by have := (s160).size; have := hb163; have e' := Option.some.inj e; simp at e'; omega)) kq (h.symm.trans e)
          · have := Option.some.inj (h.symm.trans e); omega
        refine W.sn (fun b => .slice (some ⟨b, 0, none⟩) 1 1) #[.int .i64 v] 3 s175 rfl (by kernel_rfl) rfl (fun _ => by kernel_rfl) (fun b177 w178 hb179 k180 x181 s182 => ?_)
        refine F.nx ?_
        have lo183 : w.heap.size ≤ b177 := Nat.le_trans ((SG.belowR c3 s175 (fun kq e => by cases e))).size (Nat.le_of_eq hb179)
        have nb184 : Nb b177 (.slice A169 (0 + k) cap170) := nb_hi ho172 (Nat.le_of_eq hb179)
        have ho185 := own_kept ho172 k180
        refine W.sap (e := 3) (size := 1) (base := w.heap.size) (m := 1) (v := .slice A169 (0 + k) cap170) (c := 1) s182 rfl rfl rfl rfl (by kernel_rfl) (by kernel_rfl) (by kernel_rfl) ho185 x181 (by kernel_rfl) (by kernel_rfl) (by omega) (by omega) (by have := ((SG.belowR c3 s182 (fun kq e => by cases e))).size; omega) (.inr fr176) (fun g186 cap187 w188 ho189 hg190 hat191 hlt192 s193 => ?_)
        refine F.nx ?_
        have nb194 : Nb b177 (.slice (some ⟨g186, 0, none⟩) ((0 + k) + 1) cap187) := nb_app nb184 (blk_lt x181) hat191
        have x181 := (hg190.block _ (blk_lt x181) nb184).trans x181
        have ho189 := own_snoc ho189
        have fr195 : ∀ kq, (.slice (some ⟨g186, 0, none⟩) ((0 + k) + 1) cap187 : Value).ownBlock = some kq → wl0.heap.size ≤ kq := fun kq e => by
          have hs := (s182).size
          have e' : g186 = kq := by simpa [Value.ownBlock] using e
          rcases hat191 with h | h
          · exact (show ∀ kq, Value.ownBlock _ = some kq → wl0.heap.size ≤ kq from fr176) kq (by rw [← e']; exact h)
          · omega
        refine W.sapR (e := 3) (size := 1) (base := w.heap.size) (v := .slice (some ⟨g186, 0, none⟩) ((0 + k) + 1) cap187) (A := (sFrom A c k 1)) (m := (n - k)) (c := (c - k)) s193 rfl rfl rfl rfl (by kernel_rfl) (by kernel_rfl) (by kernel_rfl) ho189 (Rd.fromI (Rd.kept ha (SG.belowR c3 s193 (fun kq e => by cases e))) (by omega) (hf).le) (Fm.from (size := 1) hf (by omega)) (ints_one _) (by omega) (by have := ((SG.belowR c3 s193 (fun kq e => by cases e))).size; omega) (.inr fr195) (fun A196 cap197 w198 ho199 hg200 hat201 s202 => ?_)
        refine F.nx ?_
        have nb203 : Nb b177 (.slice A196 (((0 + k) + 1) + (n - k)) cap197) := nb_app2 nb194 (blk_lt x181) hat201
        have x181 := (hg200.block _ (blk_lt x181) nb194).trans x181
        have ho199 := own_joinI ho199
        have fr204 : ∀ kq, (.slice A196 (((0 + k) + 1) + (n - k)) cap197 : Value).ownBlock = some kq → wl0.heap.size ≤ kq := fun kq e => by
          have hs := (s193).size
          rcases hat201 with h | h
          · exact (show ∀ kq, Value.ownBlock _ = some kq → wl0.heap.size ≤ kq from fr195) kq (h.symm.trans e)
          · have := Option.some.inj (h.symm.trans e); omega
        refine F.as (v := .slice A196 (((0 + k) + 1) + (n - k)) cap197) (h := ?_)
        refine F.endF [(0, .slice A n c), (1, .int .i64 v), (4, .slice A196 (((0 + k) + 1) + (n - k)) cap197), (5, .int .i64 ((k : Nat) : Int)), (17, .bool false), (31, .bool false)] (fun U205 => ?_)
        have c206 := (SG.belowR c3 s202 (fun kq e => by cases e))
        refine h13 _ _ ?_
        refine wp_ret ?_
        try simp only [Exit.then]
        refine ret1 (v := .slice A196 (((0 + k) + 1) + (n - k)) cap197) rfl (by kernel_rfl) ?_
        have e9 : putL zs v = ((([] ++ (zs.take k)) ++ [v]) ++ (zs.drop k)) := by
          rw [putL_at v zs k hok (by omega) (fun z hz => by first | (have h9 := (List.getElem?_eq_some_iff.1 hz).1; omega)), if_neg (by intro e; have h9 := (List.getElem?_eq_some_iff.1 e).1; omega)]; simp
        exact ⟨_, _, _, rfl, (by rw [e9]; exact own_rd ho199), own_fm ho199, .inr (fun b off e => (World.ownsRow.lt ho199 b (by rw [e]; rfl)).1), c206⟩
      · refine W.sn (fun b => .slice (some ⟨b, 0, none⟩) 1 1) #[.int .i64 v] 3 s166 rfl (by kernel_rfl) rfl (fun _ => by kernel_rfl) (fun b207 w208 hb209 k210 x211 s212 => ?_)
        refine F.nx ?_
        have lo213 : w.heap.size ≤ b207 := Nat.le_trans ((SG.belowR c3 s166 (fun kq e => by cases e))).size (Nat.le_of_eq hb209)
        have ne214 : b161 ≠ b207 := Nat.ne_of_lt (Nat.lt_of_lt_of_eq (blk_lt x165) hb209)
        have x165 := (k210.block _ (blk_lt x165)).trans x165
        have ho215 := own_empty (base := w.heap.size) (size := 1) x165 lo167
        replace ho215 : World.ownsRow _ _ _ _ _ _ (intsV []) := ho215
        have nb216 : Nb b207 (.slice (some ⟨b161, 0, none⟩) 0 0) := nb_new (Ne.symm ne214)
        replace ho215 : World.ownsRow _ _ _ _ _ _ (intsV []) := ho215
        refine W.sapR (e := 3) (size := 1) (base := w.heap.size) (v := .slice (some ⟨b161, 0, none⟩) 0 0) (A := A) (m := k) (c := c) s212 rfl rfl rfl rfl (by kernel_rfl) (by kernel_rfl) (by kernel_rfl) ho215 (Rd.toI (Rd.kept ha (SG.belowR c3 s212 (fun kq e => by cases e))) (by omega)) (Fm.to hf (by have := (hf).le; omega)) (ints_one _) (by omega) (by have := ((SG.belowR c3 s212 (fun kq e => by cases e))).size; omega) (.inr (fun kq e => by have := (s160).size; have := hb163; have e' := Option.some.inj e; simp at e'; omega)) (fun A217 cap218 w219 ho220 hg221 hat222 s223 => ?_)
        refine F.nx ?_
        have nb224 : Nb b207 (.slice A217 (0 + k) cap218) := nb_app2 nb216 (blk_lt x211) hat222
        have x211 := (hg221.block _ (blk_lt x211) nb216).trans x211
        have ho220 := own_joinI ho220
        have fr225 : ∀ kq, (.slice A217 (0 + k) cap218 : Value).ownBlock = some kq → wl0.heap.size ≤ kq := fun kq e => by
          have hs := (s212).size
          rcases hat222 with h | h
          · exact (show ∀ kq, Value.ownBlock _ = some kq → wl0.heap.size ≤ kq from (fun kq e => by have := (s160).size; have := hb163; have e' := Option.some.inj e; simp at e'; omega)) kq (h.symm.trans e)
          · have := Option.some.inj (h.symm.trans e); omega
        refine W.sap (e := 3) (size := 1) (base := w.heap.size) (m := 1) (v := .slice A217 (0 + k) cap218) (c := 1) s223 rfl rfl rfl rfl (by kernel_rfl) (by kernel_rfl) (by kernel_rfl) ho220 x211 (by kernel_rfl) (by kernel_rfl) (by omega) (by omega) (by have := ((SG.belowR c3 s223 (fun kq e => by cases e))).size; omega) (.inr fr225) (fun g226 cap227 w228 ho229 hg230 hat231 hlt232 s233 => ?_)
        refine F.nx ?_
        have nb234 : Nb b207 (.slice (some ⟨g226, 0, none⟩) ((0 + k) + 1) cap227) := nb_app nb224 (blk_lt x211) hat231
        have x211 := (hg230.block _ (blk_lt x211) nb224).trans x211
        have ho229 := own_snoc ho229
        have fr235 : ∀ kq, (.slice (some ⟨g226, 0, none⟩) ((0 + k) + 1) cap227 : Value).ownBlock = some kq → wl0.heap.size ≤ kq := fun kq e => by
          have hs := (s223).size
          have e' : g226 = kq := by simpa [Value.ownBlock] using e
          rcases hat231 with h | h
          · exact (show ∀ kq, Value.ownBlock _ = some kq → wl0.heap.size ≤ kq from fr225) kq (by rw [← e']; exact h)
          · omega
        refine W.sapR (e := 3) (size := 1) (base := w.heap.size) (v := .slice (some ⟨g226, 0, none⟩) ((0 + k) + 1) cap227) (A := (sFrom A c k 1)) (m := (n - k)) (c := (c - k)) s233 rfl rfl rfl rfl (by kernel_rfl) (by kernel_rfl) (by kernel_rfl) ho229 (Rd.fromI (Rd.kept ha (SG.belowR c3 s233 (fun kq e => by cases e))) (by omega) (hf).le) (Fm.from (size := 1) hf (by omega)) (ints_one _) (by omega) (by have := ((SG.belowR c3 s233 (fun kq e => by cases e))).size; omega) (.inr fr235) (fun A236 cap237 w238 ho239 hg240 hat241 s242 => ?_)
        refine F.nx ?_
        have nb243 : Nb b207 (.slice A236 (((0 + k) + 1) + (n - k)) cap237) := nb_app2 nb234 (blk_lt x211) hat241
        have x211 := (hg240.block _ (blk_lt x211) nb234).trans x211
        have ho239 := own_joinI ho239
        have fr244 : ∀ kq, (.slice A236 (((0 + k) + 1) + (n - k)) cap237 : Value).ownBlock = some kq → wl0.heap.size ≤ kq := fun kq e => by
          have hs := (s233).size
          rcases hat241 with h | h
          · exact (show ∀ kq, Value.ownBlock _ = some kq → wl0.heap.size ≤ kq from fr235) kq (h.symm.trans e)
          · have := Option.some.inj (h.symm.trans e); omega
        refine F.as (v := .slice A236 (((0 + k) + 1) + (n - k)) cap237) (h := ?_)
        refine F.endF [(0, .slice A n c), (1, .int .i64 v), (4, .slice A236 (((0 + k) + 1) + (n - k)) cap237), (5, .int .i64 ((k : Nat) : Int)), (17, .bool false), (31, .bool false)] (fun U245 => ?_)
        have c246 := (SG.belowR c3 s242 (fun kq e => by cases e))
        refine h13 _ _ ?_
        refine wp_ret ?_
        try simp only [Exit.then]
        refine ret1 (v := .slice A236 (((0 + k) + 1) + (n - k)) cap237) rfl (by kernel_rfl) ?_
        have e9 : putL zs v = ((([] ++ (zs.take k)) ++ [v]) ++ (zs.drop k)) := by
          rw [putL_at v zs k hok (by omega) (fun z hz => by first | (have h9 := (List.getElem?_eq_some_iff.1 hz).1; omega)), if_neg (by intro e; have h9 := (List.getElem?_eq_some_iff.1 e).1; omega)]; simp
        exact ⟨_, _, _, rfl, (by rw [e9]; exact own_rd ho239), own_fm ho239, .inr (fun b off e => (World.ownsRow.lt ho239 b (by rw [e]; rfl)).1), c246⟩
    · refine W.sn (fun b => .slice (some ⟨b, 0, none⟩) 1 1) #[.int .i64 v] 3 s160 rfl (by kernel_rfl) rfl (fun _ => by kernel_rfl) (fun b247 w248 hb249 k250 x251 s252 => ?_)
      refine F.nx ?_
      have lo253 : w.heap.size ≤ b247 := Nat.le_trans ((SG.belowR c3 s160 (fun kq e => by cases e))).size (Nat.le_of_eq hb249)
      refine W.sn (fun b => .slice (some ⟨b, 0, none⟩) 0 0) #[] 3 s252 rfl (by kernel_rfl) rfl (fun _ => by kernel_rfl) (fun b254 w255 hb256 k257 x258 s259 => ?_)
      refine F.nx ?_
      have lo260 : w.heap.size ≤ b254 := Nat.le_trans ((SG.belowR c3 s252 (fun kq e => by cases e))).size (Nat.le_of_eq hb256)
      have ne261 : b247 ≠ b254 := Nat.ne_of_lt (Nat.lt_of_lt_of_eq (blk_lt x251) hb256)
      have x251 := (k257.block _ (blk_lt x251)).trans x251
      have ho262 := own_empty (base := w.heap.size) (size := 1) x258 lo260
      replace ho262 : World.ownsRow _ _ _ _ _ _ (intsV []) := ho262
      have nb263 : Nb b247 (.slice (some ⟨b254, 0, none⟩) 0 0) := nb_new ne261
      replace ho262 : World.ownsRow _ _ _ _ _ _ (intsV []) := ho262
      refine W.sapR (e := 3) (size := 1) (base := w.heap.size) (v := .slice (some ⟨b254, 0, none⟩) 0 0) (A := A) (m := k) (c := c) s259 rfl rfl rfl rfl (by kernel_rfl) (by kernel_rfl) (by kernel_rfl) ho262 (Rd.toI (Rd.kept ha (SG.belowR c3 s259 (fun kq e => by cases e))) (by omega)) (Fm.to hf (by have := (hf).le; omega)) (ints_one _) (by omega) (by have := ((SG.belowR c3 s259 (fun kq e => by cases e))).size; omega) (.inr (fun kq e => by have := (s252).size; have := hb256; have e' := Option.some.inj e; simp at e'; omega)) (fun A264 cap265 w266 ho267 hg268 hat269 s270 => ?_)
      refine F.nx ?_
      have nb271 : Nb b247 (.slice A264 (0 + k) cap265) := nb_app2 nb263 (blk_lt x251) hat269
      have x251 := (hg268.block _ (blk_lt x251) nb263).trans x251
      have ho267 := own_joinI ho267
      have fr272 : ∀ kq, (.slice A264 (0 + k) cap265 : Value).ownBlock = some kq → wl0.heap.size ≤ kq := fun kq e => by
        have hs := (s259).size
        rcases hat269 with h | h
        · exact (show ∀ kq, Value.ownBlock _ = some kq → wl0.heap.size ≤ kq from (fun kq e => by have := (s252).size; have := hb256; have e' := Option.some.inj e; simp at e'; omega)) kq (h.symm.trans e)
        · have := Option.some.inj (h.symm.trans e); omega
      refine W.sap (e := 3) (size := 1) (base := w.heap.size) (m := 1) (v := .slice A264 (0 + k) cap265) (c := 1) s270 rfl rfl rfl rfl (by kernel_rfl) (by kernel_rfl) (by kernel_rfl) ho267 x251 (by kernel_rfl) (by kernel_rfl) (by omega) (by omega) (by have := ((SG.belowR c3 s270 (fun kq e => by cases e))).size; omega) (.inr fr272) (fun g273 cap274 w275 ho276 hg277 hat278 hlt279 s280 => ?_)
      refine F.nx ?_
      have nb281 : Nb b247 (.slice (some ⟨g273, 0, none⟩) ((0 + k) + 1) cap274) := nb_app nb271 (blk_lt x251) hat278
      have x251 := (hg277.block _ (blk_lt x251) nb271).trans x251
      have ho276 := own_snoc ho276
      have fr282 : ∀ kq, (.slice (some ⟨g273, 0, none⟩) ((0 + k) + 1) cap274 : Value).ownBlock = some kq → wl0.heap.size ≤ kq := fun kq e => by
        have hs := (s270).size
        have e' : g273 = kq := by simpa [Value.ownBlock] using e
        rcases hat278 with h | h
        · exact (show ∀ kq, Value.ownBlock _ = some kq → wl0.heap.size ≤ kq from fr272) kq (by rw [← e']; exact h)
        · omega
      refine W.sapR (e := 3) (size := 1) (base := w.heap.size) (v := .slice (some ⟨g273, 0, none⟩) ((0 + k) + 1) cap274) (A := (sFrom A c k 1)) (m := (n - k)) (c := (c - k)) s280 rfl rfl rfl rfl (by kernel_rfl) (by kernel_rfl) (by kernel_rfl) ho276 (Rd.fromI (Rd.kept ha (SG.belowR c3 s280 (fun kq e => by cases e))) (by omega) (hf).le) (Fm.from (size := 1) hf (by omega)) (ints_one _) (by omega) (by have := ((SG.belowR c3 s280 (fun kq e => by cases e))).size; omega) (.inr fr282) (fun A283 cap284 w285 ho286 hg287 hat288 s289 => ?_)
      refine F.nx ?_
      have nb290 : Nb b247 (.slice A283 (((0 + k) + 1) + (n - k)) cap284) := nb_app2 nb281 (blk_lt x251) hat288
      have x251 := (hg287.block _ (blk_lt x251) nb281).trans x251
      have ho286 := own_joinI ho286
      have fr291 : ∀ kq, (.slice A283 (((0 + k) + 1) + (n - k)) cap284 : Value).ownBlock = some kq → wl0.heap.size ≤ kq := fun kq e => by
        have hs := (s280).size
        rcases hat288 with h | h
        · exact (show ∀ kq, Value.ownBlock _ = some kq → wl0.heap.size ≤ kq from fr282) kq (h.symm.trans e)
        · have := Option.some.inj (h.symm.trans e); omega
      refine F.as (v := .slice A283 (((0 + k) + 1) + (n - k)) cap284) (h := ?_)
      refine F.endF [(0, .slice A n c), (1, .int .i64 v), (4, .slice A283 (((0 + k) + 1) + (n - k)) cap284), (5, .int .i64 ((k : Nat) : Int)), (17, .bool false), (31, .bool false)] (fun U292 => ?_)
      have c293 := (SG.belowR c3 s289 (fun kq e => by cases e))
      refine h13 _ _ ?_
      refine wp_ret ?_
      try simp only [Exit.then]
      refine ret1 (v := .slice A283 (((0 + k) + 1) + (n - k)) cap284) rfl (by kernel_rfl) ?_
      have e9 : putL zs v = ((([] ++ (zs.take k)) ++ [v]) ++ (zs.drop k)) := by
        rw [putL_at v zs k hok (by omega) (fun z hz => by first | (have h9 := (List.getElem?_eq_some_iff.1 hz).1; omega)), if_neg (by intro e; have h9 := (List.getElem?_eq_some_iff.1 e).1; omega)]; simp
      exact ⟨_, _, _, rfl, (by rw [e9]; exact own_rd ho286), own_fm ho286, .inr (fun b off e => (World.ownsRow.lt ho286 b (by rw [e]; rfl)).1), c293⟩

set_option maxRecDepth 100000 in
set_option maxHeartbeats 8000000 in
theorem l2Reached_fr (m : Int) (A : Option Addr) (n c : Nat) (ps : List Pp) (v : Int) (w : World) (ha : Rd w 4 A n (pipesV ps)) (hn : n ≤ 1048576) (hp : pipesIn ps m.toNat) (hm : 1 ≤ m ∧ m ≤ 8) (hv0 : 1 ≤ v ∧ v ≤ m) :
    Calls Try.prog 34 #[.agg #[.int .i64 m, .slice A n c], .int .i64 v] w fun e w' => ∃ A' n' c', e = .returned (.slice A' n' c') ∧ Rd w' 1 A' n' (intsV (reachList (joined ps) m.toNat v)) ∧ Fm A' n' c' ∧ freshA w.heap.size A' ∧ Below w.heap.size w w' := by
  have hl := rd_pipes_len ha
  have hv : 1 ≤ v ∧ v ≤ (m.toNat : Int) := by omega
  go_enter Try.func34, Try.ntmps34
  refine wp_seq_k (fun K1 h1 => ?_)
  refine W.region_plain (row := none) [(0, true), (1, false)] (by kernel_rfl) ?_
  have s1 := SG.self w none
  refine W.sn (fun b => .pointer (some ⟨b, 0, none⟩)) #[.int .i64 m, .slice A n c] 31 s1 rfl (by kernel_rfl) rfl (fun _ => by kernel_rfl) (fun b2 w3 hb4 k5 x6 s7 => ?_)
  have lo8 : w.heap.size ≤ b2 := Nat.le_trans ((SG.belowR (Below.refl _ _) s1 (fun kq e => by cases e))).size (Nat.le_of_eq hb4)
  refine W.as (v := .slice none 0 0) (h := ?_)
  refine W.endF 55 [(0, .agg #[.int .i64 m, .slice A n c]), (1, .int .i64 v), (2, .pointer (some ⟨b2, 0, none⟩)), (4, .slice none 0 0)] (fun U9 => ?_)
  have c10 := (SG.belowR (Below.refl _ _) s7 (fun kq e => by cases e))
  refine h1 _ _ ?_
  refine wp_seq_k (fun K2 h2 => ?_)
  refine W.region_plain (row := none) [(0, false), (1, true), (2, false)] (by kernel_rfl) ?_
  have s11 := SG.self w3 none
  refine F.mv (v := .int .i64 v) (h := ?_)
  refine W.sn (fun b => .slice (some ⟨b, 0, none⟩) 1 1) #[.int .i64 v] 3 s11 rfl (by kernel_rfl) rfl (fun _ => by kernel_rfl) (fun b12 w13 hb14 k15 x16 s17 => ?_)
  refine F.nx ?_
  have lo18 : w.heap.size ≤ b12 := Nat.le_trans ((SG.belowR c10 s11 (fun kq e => by cases e))).size (Nat.le_of_eq hb14)
  have ne19 : b2 ≠ b12 := Nat.ne_of_lt (Nat.lt_of_lt_of_eq (Nat.lt_of_lt_of_le (blk_lt x6) (s11).size) hb14)
  refine F.as (v := .slice (some ⟨b12, 0, none⟩) 1 1) (h := ?_)
  refine F.endF [(0, .agg #[.int .i64 m, .slice A n c]), (1, .int .i64 v), (2, .pointer (some ⟨b2, 0, none⟩)), (4, .slice none 0 0), (5, .slice (some ⟨b12, 0, none⟩) 1 1)] (fun U20 => ?_)
  have x6 := SG.blk s17 x6 (Option.some_ne_none _)
  have c21 := (SG.belowR c10 s17 (fun kq e => by cases e))
  refine h2 _ _ ?_
  refine wp_seq_k (fun K3 h3 => ?_)
  refine wp_seq_k (fun K4 h4 => ?_)
  refine W.region_quiet [(0, false)] (by kernel_rfl) ?_
  refine F.as (v := .bool true) (h := ?_)
  refine F.endF [(0, .agg #[.int .i64 m, .slice A n c]), (1, .int .i64 v), (2, .pointer (some ⟨b2, 0, none⟩)), (4, .slice none 0 0), (5, .slice (some ⟨b12, 0, none⟩) 1 1), (6, .bool true)] (fun U22 => ?_)
  refine h4 _ _ ?_
  refine wp_block ?_
  have ho23 := own_blk (base := w.heap.size) (size := 1) (n := 1) x16 lo18 rfl (by omega)
  replace ho23 : World.ownsRow _ _ _ _ _ _ (intsV [v]) := ho23
  have nb24 : Nb b2 (.slice (some ⟨b12, 0, none⟩) 1 1) := nb_new ne19
  have rd26 := own_rd ho23
  have hl27 := rd_ints_len rd26
  refine loopK (fun am0 aa0 wl0 => ∃ (zs : List Int) (mo : Bool) (A0_5 : Option Addr) (n0_5 : Nat) (c0_5 : Nat) (U0 : Nat → Value), aa0 = ⟨(fr U0 [(0, .agg #[.int .i64 m, .slice A n c]), (1, .int .i64 v), (2, .pointer (some ⟨b2, 0, none⟩)), (4, .slice none 0 0), (5, .slice A0_5 n0_5 c0_5), (6, .bool mo)] 55 0).toArray, []⟩ ∧ (am0 = 2 * (9 - zs.length) + mo.toNat) ∧ (Fnd ps m.toNat v zs) ∧ (mo = false → shutTo ps zs ps.length) ∧ (freshA w.heap.size A0_5) ∧ (wl0.heap[b2]? = some (.cells #[.int .i64 m, .slice A n c] 31 (0, 0))) ∧ (Fm A0_5 n0_5 c0_5) ∧ (Rd wl0 1 A0_5 n0_5 (intsV zs)) ∧ (Below w.heap.size w wl0)) (2 * (9 - ([v]).length) + true.toNat) ?_ ?_
  · exact ⟨[v], true, (some ⟨b12, 0, none⟩), 1, 1, (fun iU9 => lk [(0, .agg #[.int .i64 m, .slice A n c]), (1, .int .i64 v), (2, .pointer (some ⟨b2, 0, none⟩)), (4, .slice none 0 0), (5, .slice (some ⟨b12, 0, none⟩) 1 1), (6, .bool true)] iU9 (U22 iU9)), (by kernel_rfl), rfl, (Fnd.start _ _ _), (fun e => by cases e), (fun b off e => by cases e; exact lo18), x6, (own_fm ho23), rd26, c21⟩
  rintro am0 aa0 wl0 K5 h5 ⟨zs, mo, A0_5, n0_5, c0_5, U0, rfl, rfl, hf, hsh, hfr, x6, fm0_5, rd0_5, c28⟩
  have hl0_5 := rd_ints_len rd0_5
  have hfl := hf.len hp hv
  refine wp_seq_k (fun K6 h6 => ?_)
  refine wp_seq_k (fun K7 h7 => ?_)
  refine W.region_quiet [(0, false)] (by kernel_rfl) ?_
  refine F.mv (v := .bool mo) (h := ?_)
  refine F.endF [(0, .agg #[.int .i64 m, .slice A n c]), (1, .int .i64 v), (2, .pointer (some ⟨b2, 0, none⟩)), (4, .slice none 0 0), (5, .slice A0_5 n0_5 c0_5), (6, .bool mo), (12, .bool mo)] (fun U29 => ?_)
  refine h7 _ _ ?_
  rcases Bool.eq_false_or_eq_true mo with q30 | q30
  · rw [q30]
    have qmo := q30
    refine wp_cond_true (by kernel_rfl) ?_
    refine wp_skip ?_
    refine h6 _ _ ?_
    refine wp_block ?_
    refine wp_seq_k (fun K8 h8 => ?_)
    refine W.region_quiet [(0, false)] (by kernel_rfl) ?_
    refine F.as (v := .bool false) (h := ?_)
    refine F.endF [(0, .agg #[.int .i64 m, .slice A n c]), (1, .int .i64 v), (2, .pointer (some ⟨b2, 0, none⟩)), (4, .slice none 0 0), (5, .slice A0_5 n0_5 c0_5), (6, .bool false), (12, .bool true)] (fun U31 => ?_)
    refine h8 _ _ ?_
    refine wp_seq_k (fun K9 h9 => ?_)
    refine W.region_quiet [(0, false)] (by kernel_rfl) ?_
    refine F.as (v := .int .i64 0) (h := ?_)
    refine F.endF [(0, .agg #[.int .i64 m, .slice A n c]), (1, .int .i64 v), (2, .pointer (some ⟨b2, 0, none⟩)), (4, .slice none 0 0), (5, .slice A0_5 n0_5 c0_5), (6, .bool false), (7, .int .i64 0), (12, .bool true)] (fun U32 => ?_)
    refine h9 _ _ ?_
    refine wp_block ?_
    refine loopK (fun am1 aa1 wl1 => ∃ (i : Nat) (ys : List Int) (mo2 : Bool) (A1_5 : Option Addr) (n1_5 : Nat) (c1_5 : Nat) (U1 : Nat → Value), aa1 = ⟨(fr U1 [(0, .agg #[.int .i64 m, .slice A n c]), (1, .int .i64 v), (2, .pointer (some ⟨b2, 0, none⟩)), (4, .slice none 0 0), (5, .slice A1_5 n1_5 c1_5), (6, .bool mo2), (7, .int .i64 ((i : Nat) : Int)), (12, .bool true)] 55 0).toArray, []⟩ ∧ (am1 = n - i) ∧ (i ≤ n) ∧ (Fnd ps m.toNat v ys) ∧ (zs.length ≤ ys.length) ∧ (mo2 = true → zs.length < ys.length) ∧ (mo2 = false → ys = zs ∧ shutTo ps ys i) ∧ (freshA w.heap.size A1_5) ∧ (wl1.heap[b2]? = some (.cells #[.int .i64 m, .slice A n c] 31 (0, 0))) ∧ (Fm A1_5 n1_5 c1_5) ∧ (Rd wl1 1 A1_5 n1_5 (intsV ys)) ∧ (Below w.heap.size w wl1)) (n - 0) ?_ ?_
    · exact ⟨0, zs, false, A0_5, n0_5, c0_5, (fun iU9 => lk [(0, .agg #[.int .i64 m, .slice A n c]), (1, .int .i64 v), (2, .pointer (some ⟨b2, 0, none⟩)), (4, .slice none 0 0), (5, .slice A0_5 n0_5 c0_5), (6, .bool false), (7, .int .i64 0), (12, .bool true)] iU9 (U32 iU9)), (by kernel_rfl), rfl, (Nat.zero_le _), hf, (Nat.le_refl _), (fun e => by cases e), (fun _ => ⟨rfl, fun j p hj => absurd hj (by omega)⟩), hfr, x6, fm0_5, rd0_5, c28⟩
    rintro am1 aa1 wl1 K10 h10 ⟨i, ys, mo2, A1_5, n1_5, c1_5, U1, rfl, rfl, hi, hf2, hle, hmt, hmf, hfr2, x6, fm1_5, rd1_5, c33⟩
    have hl1_5 := rd_ints_len rd1_5
    have hfl2 := hf2.len hp hv
    refine wp_seq_k (fun K11 h11 => ?_)
    refine wp_seq_k (fun K12 h12 => ?_)
    refine W.region_quiet [(0, false), (1, false), (2, false), (3, false), (4, false)] (by kernel_rfl) ?_
    refine F.mv (v := .int .i64 ((i : Nat) : Int)) (h := ?_)
    refine F.q (v := .pointer (some ⟨b2, 1, none⟩)) (hr := (r_field (k := 1) rfl (ev_any (by kernel_rfl)) (by kernel_rfl))) (h := ?_)
    refine F.ld (v := .slice A n c) (hc := (eqS (blk_cell (j := 1) x6 (by kernel_rfl)))) (h := ?_)
    refine F.q (v := .int .i64 ((n : Nat) : Int)) (hr := (r_len (A := A) (n := n) (c := c) rfl (ev_any (by kernel_rfl)) (by kernel_rfl))) (h := ?_)
    by_cases q34 : (((i : Nat) : Int) : Int) < (((n : Nat) : Int) : Int)
    · refine F.q (v := .bool true) (hr := (r_lss (m := ((i : Nat) : Int)) (n := ((n : Nat) : Int)) rfl (ev_any (by kernel_rfl)) (ev_any (by kernel_rfl)) (decide_eq_true q34))) (h := ?_)
      refine F.endF [(0, .agg #[.int .i64 m, .slice A n c]), (1, .int .i64 v), (2, .pointer (some ⟨b2, 0, none⟩)), (4, .slice none 0 0), (5, .slice A1_5 n1_5 c1_5), (6, .bool mo2), (7, .int .i64 ((i : Nat) : Int)), (12, .bool true), (17, .bool true)] (fun U35 => ?_)
      refine h12 _ _ ?_
      refine wp_cond_true (by kernel_rfl) ?_
      refine wp_skip ?_
      refine h11 _ _ ?_
      refine wp_seq_k (fun K13 h13 => ?_)
      refine wp_block ?_
      refine wp_seq_k (fun K14 h14 => ?_)
      refine W.region_sch (row := none) (Sch.of [(0, false), (1, false), (2, false), (3, false), (4, false), (5, false), (6, false), (8, false), (9, false), (10, false), (11, false), (12, false), (13, false), (14, false), (7, true), (15, true), (16, false), (17, false)]) (by kernel_rfl) (by kernel_rfl) (fun _ d _ _ _ h => by cases d <;> exact h) (by kernel_rfl) (fun w36 e37 s38 => ?_)
      refine F.mv (v := .slice A1_5 n1_5 c1_5) (h := ?_)
      refine F.q (v := .pointer (some ⟨b2, 1, none⟩)) (hr := (r_field (k := 1) rfl (ev_any (by kernel_rfl)) (by kernel_rfl))) (h := ?_)
      refine F.ld (v := .slice A n c) (hc := (sgS (blk_cell (j := 1) x6 (by kernel_rfl)) (Option.some_ne_none _))) (h := ?_)
      refine F.mv (v := .int .i64 ((i : Nat) : Int)) (h := ?_)
      obtain ⟨x39, hx40⟩ := get_of (zs := ps) (k := i) (by have := hl; omega)
      obtain ⟨b41, o42, hA43, hb44, hc45, hc46, hc47, hc48⟩ := Rd.elPipe ha hx40
      refine F.q (v := .pointer (some ⟨b41, o42 + i * 4, none⟩)) (hr := (r_idx (n := n) (c := c) (k := i) rfl (ev_any (by kernel_rfl)) hA43 (by kernel_rfl) (by kernel_rfl) (by have := hl; omega))) (h := ?_)
      refine F.q (v := .pointer (some ⟨b41, o42 + i * 4 + 1, none⟩)) (hr := (r_field (k := 1) rfl (ev_any (by kernel_rfl)) (by kernel_rfl))) (h := ?_)
      refine F.ld (v := .int .i64 x39.fr) (hc := (sgS (later c33 hc46) (by simp))) (h := ?_)
      refine F.mv (v := .slice A1_5 n1_5 c1_5) (h := ?_)
      refine F.q (v := .pointer (some ⟨b2, 1, none⟩)) (hr := (r_field (k := 1) rfl (ev_any (by kernel_rfl)) (by kernel_rfl))) (h := ?_)
      refine F.ld (v := .slice A n c) (hc := (sgS (blk_cell (j := 1) x6 (by kernel_rfl)) (Option.some_ne_none _))) (h := ?_)
      refine F.mv (v := .int .i64 ((i : Nat) : Int)) (h := ?_)
      refine F.q (v := .pointer (some ⟨b41, o42 + i * 4, none⟩)) (hr := (r_idx (n := n) (c := c) (k := i) rfl (ev_any (by kernel_rfl)) hA43 (by kernel_rfl) (by kernel_rfl) (by have := hl; omega))) (h := ?_)
      refine F.q (v := .pointer (some ⟨b41, o42 + i * 4 + 2, none⟩)) (hr := (r_field (k := 2) rfl (ev_any (by kernel_rfl)) (by kernel_rfl))) (h := ?_)
      refine F.ld (v := .int .i64 x39.to) (hc := (sgS (later c33 hc47) (by simp))) (h := ?_)
      refine W.sc (vs := [.slice A1_5 n1_5 c1_5, .int .i64 x39.fr]) rfl rfl (by kernel_rfl) (by kernel_rfl) (by kernel_rfl) rfl (l1Has_any A1_5 n1_5 c1_5 ys x39.fr _ (Rd.kept rd1_5 (SG.below s38)) (by omega)) ?_
      rintro e w50 ⟨rfl, b49⟩
      have s51 := SG.of_below s38 b49
      refine ⟨_, rfl, s51, ?_⟩
      refine F.nx ?_
      rcases Bool.eq_false_or_eq_true (ys.contains x39.fr) with q52 | q52
      · rw [q52]
        refine W.sc (vs := [.slice A1_5 n1_5 c1_5, .int .i64 x39.to]) rfl rfl (by kernel_rfl) (by kernel_rfl) (by kernel_rfl) rfl (l1Has_any A1_5 n1_5 c1_5 ys x39.to _ (Rd.kept rd1_5 (SG.below s51)) (by omega)) ?_
        rintro e w54 ⟨rfl, b53⟩
        have s55 := SG.of_below s51 b53
        refine ⟨_, rfl, s55, ?_⟩
        refine F.nx ?_
        rcases Bool.eq_false_or_eq_true (ys.contains x39.to) with q56 | q56
        · rw [q56]
          refine F.as (v := .bool true) (h := ?_)
          refine F.as (v := .bool true) (h := ?_)
          refine F.endF [(0, .agg #[.int .i64 m, .slice A n c]), (1, .int .i64 v), (2, .pointer (some ⟨b2, 0, none⟩)), (4, .slice none 0 0), (5, .slice A1_5 n1_5 c1_5), (6, .bool mo2), (7, .int .i64 ((i : Nat) : Int)), (8, .bool true), (9, .bool true), (12, .bool true), (17, .bool true)] (fun U57 => ?_)
          have x6 := SG.blk s55 x6 (Option.some_ne_none _)
          have c58 := (SG.belowR c33 s55 (fun kq e => by cases e))
          have rd59 := Rd.kept rd1_5 (SG.below s55)
          refine h14 _ _ ?_
          refine wp_seq_k (fun K15 h15 => ?_)
          refine wp_seq_k (fun K16 h16 => ?_)
          refine W.region_quiet [(0, false), (1, false), (2, false)] (by kernel_rfl) ?_
          refine F.mv (v := .bool true) (h := ?_)
          refine F.mv (v := .bool true) (h := ?_)
          refine F.q (v := .bool true) (hr := (r_eqlB (m := true) (n := true) rfl (ev_any (by kernel_rfl)) (ev_any (by kernel_rfl)) (by kernel_rfl) rfl)) (h := ?_)
          refine F.endF [(0, .agg #[.int .i64 m, .slice A n c]), (1, .int .i64 v), (2, .pointer (some ⟨b2, 0, none⟩)), (4, .slice none 0 0), (5, .slice A1_5 n1_5 c1_5), (6, .bool mo2), (7, .int .i64 ((i : Nat) : Int)), (8, .bool true), (9, .bool true), (12, .bool true), (17, .bool true), (38, .bool true)] (fun U60 => ?_)
          refine h16 _ _ ?_
          refine wp_cond_true (by kernel_rfl) ?_
          refine wp_exit ?_
          refine h13 _ _ ?_
          refine W.region_quiet [(0, false), (1, false), (2, false)] (by kernel_rfl) ?_
          refine F.mv (v := .int .i64 ((i : Nat) : Int)) (h := ?_)
          refine F.q (v := .int .i64 ((i + 1 : Nat) : Int)) (hr := (r_add (m := ((i : Nat) : Int)) (n := 1) (z := ((i + 1 : Nat) : Int)) rfl (ev_any (by kernel_rfl)) (ev_any (by kernel_rfl)) (by omega) (by omega))) (h := ?_)
          refine F.as (v := .int .i64 ((i + 1 : Nat) : Int)) (h := ?_)
          refine F.endF [(0, .agg #[.int .i64 m, .slice A n c]), (1, .int .i64 v), (2, .pointer (some ⟨b2, 0, none⟩)), (4, .slice none 0 0), (5, .slice A1_5 n1_5 c1_5), (6, .bool mo2), (7, .int .i64 ((i + 1 : Nat) : Int)), (8, .bool true), (9, .bool true), (12, .bool true), (17, .bool true), (38, .bool true)] (fun U61 => ?_)
          exact h10 _ _ _ (by omega : (n - (i + 1)) < _) ⟨i + 1, ys, mo2, A1_5, n1_5, c1_5, (fun iU9 => lk [(0, .agg #[.int .i64 m, .slice A n c]), (1, .int .i64 v), (2, .pointer (some ⟨b2, 0, none⟩)), (4, .slice none 0 0), (5, .slice A1_5 n1_5 c1_5), (6, .bool mo2), (7, .int .i64 ((i + 1 : Nat) : Int)), (8, .bool true), (9, .bool true), (12, .bool true), (17, .bool true), (38, .bool true)] iU9 (U61 iU9)), (by kernel_rfl), rfl, (by omega), hf2, hle, hmt, (fun e => ⟨(hmf e).1, shutTo.next (hmf e).2 hx40 (by rw [q52, q56])⟩), hfr2, x6, fm1_5, rd59, c58⟩
        · rw [q56]
          refine F.as (v := .bool true) (h := ?_)
          refine F.as (v := .bool false) (h := ?_)
          refine F.endF [(0, .agg #[.int .i64 m, .slice A n c]), (1, .int .i64 v), (2, .pointer (some ⟨b2, 0, none⟩)), (4, .slice none 0 0), (5, .slice A1_5 n1_5 c1_5), (6, .bool mo2), (7, .int .i64 ((i : Nat) : Int)), (8, .bool true), (9, .bool false), (12, .bool true), (17, .bool true)] (fun U62 => ?_)
          have x6 := SG.blk s55 x6 (Option.some_ne_none _)
          have c63 := (SG.belowR c33 s55 (fun kq e => by cases e))
          have rd64 := Rd.kept rd1_5 (SG.below s55)
          refine h14 _ _ ?_
          refine wp_seq_k (fun K17 h17 => ?_)
          refine wp_seq_k (fun K18 h18 => ?_)
          refine W.region_quiet [(0, false), (1, false), (2, false)] (by kernel_rfl) ?_
          refine F.mv (v := .bool true) (h := ?_)
          refine F.mv (v := .bool false) (h := ?_)
          refine F.q (v := .bool false) (hr := (r_eqlB (m := true) (n := false) rfl (ev_any (by kernel_rfl)) (ev_any (by kernel_rfl)) (by kernel_rfl) rfl)) (h := ?_)
          refine F.endF [(0, .agg #[.int .i64 m, .slice A n c]), (1, .int .i64 v), (2, .pointer (some ⟨b2, 0, none⟩)), (4, .slice none 0 0), (5, .slice A1_5 n1_5 c1_5), (6, .bool mo2), (7, .int .i64 ((i : Nat) : Int)), (8, .bool true), (9, .bool false), (12, .bool true), (17, .bool true), (38, .bool false)] (fun U65 => ?_)
          refine h18 _ _ ?_
          refine wp_cond_false (by kernel_rfl) ?_
          refine wp_skip ?_
          refine h17 _ _ ?_
          refine wp_seq_k (fun K19 h19 => ?_)
          refine W.region_sch (row := none) (Sch.of [(0, false), (1, false), (2, false), (3, false), (4, false), (5, false), (6, false), (8, false), (9, false), (10, false), (11, false), (12, false), (13, false), (7, true), (14, true), (15, false)]) (by kernel_rfl) (by kernel_rfl) (fun _ d _ _ _ h => by cases d <;> exact h) (by kernel_rfl) (fun w66 e67 s68 => ?_)
          refine F.mv (v := .slice A1_5 n1_5 c1_5) (h := ?_)
          refine F.q (v := .pointer (some ⟨b2, 1, none⟩)) (hr := (r_field (k := 1) rfl (ev_any (by kernel_rfl)) (by kernel_rfl))) (h := ?_)
          refine F.ld (v := .slice A n c) (hc := (sgS (blk_cell (j := 1) x6 (by kernel_rfl)) (Option.some_ne_none _))) (h := ?_)
          refine F.mv (v := .int .i64 ((i : Nat) : Int)) (h := ?_)
          refine F.q (v := .pointer (some ⟨b41, o42 + i * 4, none⟩)) (hr := (r_idx (n := n) (c := c) (k := i) rfl (ev_any (by kernel_rfl)) hA43 (by kernel_rfl) (by kernel_rfl) (by have := hl; omega))) (h := ?_)
          refine F.q (v := .pointer (some ⟨b41, o42 + i * 4 + 1, none⟩)) (hr := (r_field (k := 1) rfl (ev_any (by kernel_rfl)) (by kernel_rfl))) (h := ?_)
          refine F.ld (v := .int .i64 x39.fr) (hc := (sgS (later c63 hc46) (by simp))) (h := ?_)
          refine F.q (v := .pointer (some ⟨b2, 1, none⟩)) (hr := (r_field (k := 1) rfl (ev_any (by kernel_rfl)) (by kernel_rfl))) (h := ?_)
          refine F.ld (v := .slice A n c) (hc := (sgS (blk_cell (j := 1) x6 (by kernel_rfl)) (Option.some_ne_none _))) (h := ?_)
          refine F.mv (v := .int .i64 ((i : Nat) : Int)) (h := ?_)
          refine F.q (v := .pointer (some ⟨b41, o42 + i * 4, none⟩)) (hr := (r_idx (n := n) (c := c) (k := i) rfl (ev_any (by kernel_rfl)) hA43 (by kernel_rfl) (by kernel_rfl) (by have := hl; omega))) (h := ?_)
          refine F.q (v := .pointer (some ⟨b41, o42 + i * 4 + 2, none⟩)) (hr := (r_field (k := 2) rfl (ev_any (by kernel_rfl)) (by kernel_rfl))) (h := ?_)
          refine F.ld (v := .int .i64 x39.to) (hc := (sgS (later c63 hc47) (by simp))) (h := ?_)
          refine W.sc (vs := [.slice A1_5 n1_5 c1_5, .int .i64 x39.fr]) rfl rfl (by kernel_rfl) (by kernel_rfl) (by kernel_rfl) rfl (l1Put_fr A1_5 n1_5 c1_5 ys x39.fr _ (Rd.kept rd64 (SG.below s68)) fm1_5 (by have h7 := hl1_5; first | omega)) ?_
          rintro e w79 ⟨A69, n70, c71, rfl, rd72, fm73, hpf76, b78⟩
          have s80 := SG.of_below s68 b78
          refine ⟨_, rfl, s80, ?_⟩
          refine F.nx ?_
          have hl74 := rd_ints_len rd72
          have hfp77 : freshA w.heap.size A69 := fresh_put hfr2 ((SG.belowR c63 s68 (fun kq e => by cases e))).size hpf76
          refine W.sc (vs := [.slice A69 n70 c71, .int .i64 x39.to]) rfl rfl (by kernel_rfl) (by kernel_rfl) (by kernel_rfl) rfl (l1Put_fr A69 n70 c71 (putL ys x39.fr) x39.to _ rd72 fm73 (by have h7 := hl74; first | omega | (have h8 := putL_len_le ys x39.fr; omega))) ?_
          rintro e w91 ⟨A81, n82, c83, rfl, rd84, fm85, hpf88, b90⟩
          have s92 := SG.of_below s80 b90
          refine ⟨_, rfl, s92, ?_⟩
          refine F.nx ?_
          have rd93 := Rd.kept rd72 b90
          have hl86 := rd_ints_len rd84
          have hfp89 : freshA w.heap.size A81 := fresh_put hfp77 ((SG.belowR c63 s80 (fun kq e => by cases e))).size hpf88
          refine F.as (v := .slice A81 n82 c83) (h := ?_)
          refine F.endF [(0, .agg #[.int .i64 m, .slice A n c]), (1, .int .i64 v), (2, .pointer (some ⟨b2, 0, none⟩)), (4, .slice none 0 0), (5, .slice A81 n82 c83), (6, .bool mo2), (7, .int .i64 ((i : Nat) : Int)), (8, .bool true), (9, .bool false), (12, .bool true), (17, .bool true), (38, .bool false)] (fun U94 => ?_)
          have x6 := SG.blk s92 x6 (Option.some_ne_none _)
          have c95 := (SG.belowR c63 s92 (fun kq e => by cases e))
          have rd96 := Rd.kept rd64 (SG.below s92)
          refine h19 _ _ ?_
          refine W.region_quiet [(0, false)] (by kernel_rfl) ?_
          refine F.as (v := .bool true) (h := ?_)
          refine F.endF [(0, .agg #[.int .i64 m, .slice A n c]), (1, .int .i64 v), (2, .pointer (some ⟨b2, 0, none⟩)), (4, .slice none 0 0), (5, .slice A81 n82 c83), (6, .bool true), (7, .int .i64 ((i : Nat) : Int)), (8, .bool true), (9, .bool false), (12, .bool true), (17, .bool true), (38, .bool false)] (fun U97 => ?_)
          refine h13 _ _ ?_
          refine W.region_quiet [(0, false), (1, false), (2, false)] (by kernel_rfl) ?_
          refine F.mv (v := .int .i64 ((i : Nat) : Int)) (h := ?_)
          refine F.q (v := .int .i64 ((i + 1 : Nat) : Int)) (hr := (r_add (m := ((i : Nat) : Int)) (n := 1) (z := ((i + 1 : Nat) : Int)) rfl (ev_any (by kernel_rfl)) (ev_any (by kernel_rfl)) (by omega) (by omega))) (h := ?_)
          refine F.as (v := .int .i64 ((i + 1 : Nat) : Int)) (h := ?_)
          refine F.endF [(0, .agg #[.int .i64 m, .slice A n c]), (1, .int .i64 v), (2, .pointer (some ⟨b2, 0, none⟩)), (4, .slice none 0 0), (5, .slice A81 n82 c83), (6, .bool true), (7, .int .i64 ((i + 1 : Nat) : Int)), (8, .bool true), (9, .bool false), (12, .bool true), (17, .bool true), (38, .bool false)] (fun U98 => ?_)
          exact h10 _ _ _ (by omega : (n - (i + 1)) < _) ⟨i + 1, putL (putL ys x39.fr) x39.to, true, A81, n82, c83, (fun iU9 => lk [(0, .agg #[.int .i64 m, .slice A n c]), (1, .int .i64 v), (2, .pointer (some ⟨b2, 0, none⟩)), (4, .slice none 0 0), (5, .slice A81 n82 c83), (6, .bool true), (7, .int .i64 ((i + 1 : Nat) : Int)), (8, .bool true), (9, .bool false), (12, .bool true), (17, .bool true), (38, .bool false)] iU9 (U98 iU9)), (by kernel_rfl), rfl, (by omega), (Fnd.put hf2 hx40 (by rw [q52, q56]; decide)), (by have h9 := put2_len (ys := ys) (a := x39.fr) (c := x39.to) (by rw [q52, q56]; decide); omega), (fun _ => by have h9 := put2_len (ys := ys) (a := x39.fr) (c := x39.to) (by rw [q52, q56]; decide); omega), (fun e => by cases e), hfp89, x6, fm85, rd84, c95⟩
      · rw [q52]
        refine W.sc (vs := [.slice A1_5 n1_5 c1_5, .int .i64 x39.to]) rfl rfl (by kernel_rfl) (by kernel_rfl) (by kernel_rfl) rfl (l1Has_any A1_5 n1_5 c1_5 ys x39.to _ (Rd.kept rd1_5 (SG.below s51)) (by omega)) ?_
        rintro e w100 ⟨rfl, b99⟩
        have s101 := SG.of_below s51 b99
        refine ⟨_, rfl, s101, ?_⟩
        refine F.nx ?_
        rcases Bool.eq_false_or_eq_true (ys.contains x39.to) with q102 | q102
        · rw [q102]
          refine F.as (v := .bool false) (h := ?_)
          refine F.as (v := .bool true) (h := ?_)
          refine F.endF [(0, .agg #[.int .i64 m, .slice A n c]), (1, .int .i64 v), (2, .pointer (some ⟨b2, 0, none⟩)), (4, .slice none 0 0), (5, .slice A1_5 n1_5 c1_5), (6, .bool mo2), (7, .int .i64 ((i : Nat) : Int)), (8, .bool false), (9, .bool true), (12, .bool true), (17, .bool true)] (fun U103 => ?_)
          have x6 := SG.blk s101 x6 (Option.some_ne_none _)
          have c104 := (SG.belowR c33 s101 (fun kq e => by cases e))
          have rd105 := Rd.kept rd1_5 (SG.below s101)
          refine h14 _ _ ?_
          refine wp_seq_k (fun K20 h20 => ?_)
          refine wp_seq_k (fun K21 h21 => ?_)
          refine W.region_quiet [(0, false), (1, false), (2, false)] (by kernel_rfl) ?_
          refine F.mv (v := .bool false) (h := ?_)
          refine F.mv (v := .bool true) (h := ?_)
          refine F.q (v := .bool false) (hr := (r_eqlB (m := false) (n := true) rfl (ev_any (by kernel_rfl)) (ev_any (by kernel_rfl)) (by kernel_rfl) rfl)) (h := ?_)
          refine F.endF [(0, .agg #[.int .i64 m, .slice A n c]), (1, .int .i64 v), (2, .pointer (some ⟨b2, 0, none⟩)), (4, .slice none 0 0), (5, .slice A1_5 n1_5 c1_5), (6, .bool mo2), (7, .int .i64 ((i : Nat) : Int)), (8, .bool false), (9, .bool true), (12, .bool true), (17, .bool true), (38, .bool false)] (fun U106 => ?_)
          refine h21 _ _ ?_
          refine wp_cond_false (by kernel_rfl) ?_
          refine wp_skip ?_
          refine h20 _ _ ?_
          refine wp_seq_k (fun K22 h22 => ?_)
          refine W.region_sch (row := none) (Sch.of [(0, false), (1, false), (2, false), (3, false), (4, false), (5, false), (6, false), (8, false), (9, false), (10, false), (11, false), (12, false), (13, false), (7, true), (14, true), (15, false)]) (by kernel_rfl) (by kernel_rfl) (fun _ d _ _ _ h => by cases d <;> exact h) (by kernel_rfl) (fun w107 e108 s109 => ?_)
          refine F.mv (v := .slice A1_5 n1_5 c1_5) (h := ?_)
          refine F.q (v := .pointer (some ⟨b2, 1, none⟩)) (hr := (r_field (k := 1) rfl (ev_any (by kernel_rfl)) (by kernel_rfl))) (h := ?_)
          refine F.ld (v := .slice A n c) (hc := (sgS (blk_cell (j := 1) x6 (by kernel_rfl)) (Option.some_ne_none _))) (h := ?_)
          refine F.mv (v := .int .i64 ((i : Nat) : Int)) (h := ?_)
          refine F.q (v := .pointer (some ⟨b41, o42 + i * 4, none⟩)) (hr := (r_idx (n := n) (c := c) (k := i) rfl (ev_any (by kernel_rfl)) hA43 (by kernel_rfl) (by kernel_rfl) (by have := hl; omega))) (h := ?_)
          refine F.q (v := .pointer (some ⟨b41, o42 + i * 4 + 1, none⟩)) (hr := (r_field (k := 1) rfl (ev_any (by kernel_rfl)) (by kernel_rfl))) (h := ?_)
          refine F.ld (v := .int .i64 x39.fr) (hc := (sgS (later c104 hc46) (by simp))) (h := ?_)
          refine F.q (v := .pointer (some ⟨b2, 1, none⟩)) (hr := (r_field (k := 1) rfl (ev_any (by kernel_rfl)) (by kernel_rfl))) (h := ?_)
          refine F.ld (v := .slice A n c) (hc := (sgS (blk_cell (j := 1) x6 (by kernel_rfl)) (Option.some_ne_none _))) (h := ?_)
          refine F.mv (v := .int .i64 ((i : Nat) : Int)) (h := ?_)
          refine F.q (v := .pointer (some ⟨b41, o42 + i * 4, none⟩)) (hr := (r_idx (n := n) (c := c) (k := i) rfl (ev_any (by kernel_rfl)) hA43 (by kernel_rfl) (by kernel_rfl) (by have := hl; omega))) (h := ?_)
          refine F.q (v := .pointer (some ⟨b41, o42 + i * 4 + 2, none⟩)) (hr := (r_field (k := 2) rfl (ev_any (by kernel_rfl)) (by kernel_rfl))) (h := ?_)
          refine F.ld (v := .int .i64 x39.to) (hc := (sgS (later c104 hc47) (by simp))) (h := ?_)
          refine W.sc (vs := [.slice A1_5 n1_5 c1_5, .int .i64 x39.fr]) rfl rfl (by kernel_rfl) (by kernel_rfl) (by kernel_rfl) rfl (l1Put_fr A1_5 n1_5 c1_5 ys x39.fr _ (Rd.kept rd105 (SG.below s109)) fm1_5 (by have h7 := hl1_5; first | omega)) ?_
          rintro e w120 ⟨A110, n111, c112, rfl, rd113, fm114, hpf117, b119⟩
          have s121 := SG.of_below s109 b119
          refine ⟨_, rfl, s121, ?_⟩
          refine F.nx ?_
          have hl115 := rd_ints_len rd113
          have hfp118 : freshA w.heap.size A110 := fresh_put hfr2 ((SG.belowR c104 s109 (fun kq e => by cases e))).size hpf117
          refine W.sc (vs := [.slice A110 n111 c112, .int .i64 x39.to]) rfl rfl (by kernel_rfl) (by kernel_rfl) (by kernel_rfl) rfl (l1Put_fr A110 n111 c112 (putL ys x39.fr) x39.to _ rd113 fm114 (by have h7 := hl115; first | omega | (have h8 := putL_len_le ys x39.fr; omega))) ?_
          rintro e w132 ⟨A122, n123, c124, rfl, rd125, fm126, hpf129, b131⟩
          have s133 := SG.of_below s121 b131
          refine ⟨_, rfl, s133, ?_⟩
          refine F.nx ?_
          have rd134 := Rd.kept rd113 b131
          have hl127 := rd_ints_len rd125
          have hfp130 : freshA w.heap.size A122 := fresh_put hfp118 ((SG.belowR c104 s121 (fun kq e => by cases e))).size hpf129
          refine F.as (v := .slice A122 n123 c124) (h := ?_)
          refine F.endF [(0, .agg #[.int .i64 m, .slice A n c]), (1, .int .i64 v), (2, .pointer (some ⟨b2, 0, none⟩)), (4, .slice none 0 0), (5, .slice A122 n123 c124), (6, .bool mo2), (7, .int .i64 ((i : Nat) : Int)), (8, .bool false), (9, .bool true), (12, .bool true), (17, .bool true), (38, .bool false)] (fun U135 => ?_)
          have x6 := SG.blk s133 x6 (Option.some_ne_none _)
          have c136 := (SG.belowR c104 s133 (fun kq e => by cases e))
          have rd137 := Rd.kept rd105 (SG.below s133)
          refine h22 _ _ ?_
          refine W.region_quiet [(0, false)] (by kernel_rfl) ?_
          refine F.as (v := .bool true) (h := ?_)
          refine F.endF [(0, .agg #[.int .i64 m, .slice A n c]), (1, .int .i64 v), (2, .pointer (some ⟨b2, 0, none⟩)), (4, .slice none 0 0), (5, .slice A122 n123 c124), (6, .bool true), (7, .int .i64 ((i : Nat) : Int)), (8, .bool false), (9, .bool true), (12, .bool true), (17, .bool true), (38, .bool false)] (fun U138 => ?_)
          refine h13 _ _ ?_
          refine W.region_quiet [(0, false), (1, false), (2, false)] (by kernel_rfl) ?_
          refine F.mv (v := .int .i64 ((i : Nat) : Int)) (h := ?_)
          refine F.q (v := .int .i64 ((i + 1 : Nat) : Int)) (hr := (r_add (m := ((i : Nat) : Int)) (n := 1) (z := ((i + 1 : Nat) : Int)) rfl (ev_any (by kernel_rfl)) (ev_any (by kernel_rfl)) (by omega) (by omega))) (h := ?_)
          refine F.as (v := .int .i64 ((i + 1 : Nat) : Int)) (h := ?_)
          refine F.endF [(0, .agg #[.int .i64 m, .slice A n c]), (1, .int .i64 v), (2, .pointer (some ⟨b2, 0, none⟩)), (4, .slice none 0 0), (5, .slice A122 n123 c124), (6, .bool true), (7, .int .i64 ((i + 1 : Nat) : Int)), (8, .bool false), (9, .bool true), (12, .bool true), (17, .bool true), (38, .bool false)] (fun U139 => ?_)
          exact h10 _ _ _ (by omega : (n - (i + 1)) < _) ⟨i + 1, putL (putL ys x39.fr) x39.to, true, A122, n123, c124, (fun iU9 => lk [(0, .agg #[.int .i64 m, .slice A n c]), (1, .int .i64 v), (2, .pointer (some ⟨b2, 0, none⟩)), (4, .slice none 0 0), (5, .slice A122 n123 c124), (6, .bool true), (7, .int .i64 ((i + 1 : Nat) : Int)), (8, .bool false), (9, .bool true), (12, .bool true), (17, .bool true), (38, .bool false)] iU9 (U139 iU9)), (by kernel_rfl), rfl, (by omega), (Fnd.put hf2 hx40 (by rw [q52, q102]; decide)), (by have h9 := put2_len (ys := ys) (a := x39.fr) (c := x39.to) (by rw [q52, q102]; decide); omega), (fun _ => by have h9 := put2_len (ys := ys) (a := x39.fr) (c := x39.to) (by rw [q52, q102]; decide); omega), (fun e => by cases e), hfp130, x6, fm126, rd125, c136⟩
        · rw [q102]
          refine F.as (v := .bool false) (h := ?_)
          refine F.as (v := .bool false) (h := ?_)
          refine F.endF [(0, .agg #[.int .i64 m, .slice A n c]), (1, .int .i64 v), (2, .pointer (some ⟨b2, 0, none⟩)), (4, .slice none 0 0), (5, .slice A1_5 n1_5 c1_5), (6, .bool mo2), (7, .int .i64 ((i : Nat) : Int)), (8, .bool false), (9, .bool false), (12, .bool true), (17, .bool true)] (fun U140 => ?_)
          have x6 := SG.blk s101 x6 (Option.some_ne_none _)
          have c141 := (SG.belowR c33 s101 (fun kq e => by cases e))
          have rd142 := Rd.kept rd1_5 (SG.below s101)
          refine h14 _ _ ?_
          refine wp_seq_k (fun K23 h23 => ?_)
          refine wp_seq_k (fun K24 h24 => ?_)
          refine W.region_quiet [(0, false), (1, false), (2, false)] (by kernel_rfl) ?_
          refine F.mv (v := .bool false) (h := ?_)
          refine F.mv (v := .bool false) (h := ?_)
          refine F.q (v := .bool true) (hr := (r_eqlB (m := false) (n := false) rfl (ev_any (by kernel_rfl)) (ev_any (by kernel_rfl)) (by kernel_rfl) rfl)) (h := ?_)
          refine F.endF [(0, .agg #[.int .i64 m, .slice A n c]), (1, .int .i64 v), (2, .pointer (some ⟨b2, 0, none⟩)), (4, .slice none 0 0), (5, .slice A1_5 n1_5 c1_5), (6, .bool mo2), (7, .int .i64 ((i : Nat) : Int)), (8, .bool false), (9, .bool false), (12, .bool true), (17, .bool true), (38, .bool true)] (fun U143 => ?_)
          refine h24 _ _ ?_
          refine wp_cond_true (by kernel_rfl) ?_
          refine wp_exit ?_
          refine h13 _ _ ?_
          refine W.region_quiet [(0, false), (1, false), (2, false)] (by kernel_rfl) ?_
          refine F.mv (v := .int .i64 ((i : Nat) : Int)) (h := ?_)
          refine F.q (v := .int .i64 ((i + 1 : Nat) : Int)) (hr := (r_add (m := ((i : Nat) : Int)) (n := 1) (z := ((i + 1 : Nat) : Int)) rfl (ev_any (by kernel_rfl)) (ev_any (by kernel_rfl)) (by omega) (by omega))) (h := ?_)
          refine F.as (v := .int .i64 ((i + 1 : Nat) : Int)) (h := ?_)
          refine F.endF [(0, .agg #[.int .i64 m, .slice A n c]), (1, .int .i64 v), (2, .pointer (some ⟨b2, 0, none⟩)), (4, .slice none 0 0), (5, .slice A1_5 n1_5 c1_5), (6, .bool mo2), (7, .int .i64 ((i + 1 : Nat) : Int)), (8, .bool false), (9, .bool false), (12, .bool true), (17, .bool true), (38, .bool true)] (fun U144 => ?_)
          exact h10 _ _ _ (by omega : (n - (i + 1)) < _) ⟨i + 1, ys, mo2, A1_5, n1_5, c1_5, (fun iU9 => lk [(0, .agg #[.int .i64 m, .slice A n c]), (1, .int .i64 v), (2, .pointer (some ⟨b2, 0, none⟩)), (4, .slice none 0 0), (5, .slice A1_5 n1_5 c1_5), (6, .bool mo2), (7, .int .i64 ((i + 1 : Nat) : Int)), (8, .bool false), (9, .bool false), (12, .bool true), (17, .bool true), (38, .bool true)] iU9 (U144 iU9)), (by kernel_rfl), rfl, (by omega), hf2, hle, hmt, (fun e => ⟨(hmf e).1, shutTo.next (hmf e).2 hx40 (by rw [q52, q102])⟩), hfr2, x6, fm1_5, rd142, c141⟩
    · refine F.q (v := .bool false) (hr := (r_lss (m := ((i : Nat) : Int)) (n := ((n : Nat) : Int)) rfl (ev_any (by kernel_rfl)) (ev_any (by kernel_rfl)) (decide_eq_false q34))) (h := ?_)
      refine F.endF [(0, .agg #[.int .i64 m, .slice A n c]), (1, .int .i64 v), (2, .pointer (some ⟨b2, 0, none⟩)), (4, .slice none 0 0), (5, .slice A1_5 n1_5 c1_5), (6, .bool mo2), (7, .int .i64 ((i : Nat) : Int)), (12, .bool true), (17, .bool false)] (fun U145 => ?_)
      refine h12 _ _ ?_
      refine wp_cond_false (by kernel_rfl) ?_
      refine wp_exit ?_
      exact h5 _ _ _ (by rcases Bool.eq_false_or_eq_true mo2 with e | e <;> rw [e] <;> simp only [Bool.toNat_true, Bool.toNat_false, qmo] <;> first | (have h9 := hmt e; have h8 := hf2.len hp hv; omega) | (rw [(hmf e).1]; omega) : (2 * (9 - ys.length) + mo2.toNat) < _) ⟨ys, mo2, A1_5, n1_5, c1_5, (fun iU9 => lk [(0, .agg #[.int .i64 m, .slice A n c]), (1, .int .i64 v), (2, .pointer (some ⟨b2, 0, none⟩)), (4, .slice none 0 0), (5, .slice A1_5 n1_5 c1_5), (6, .bool mo2), (7, .int .i64 ((i : Nat) : Int)), (12, .bool true), (17, .bool false)] iU9 (U145 iU9)), (by kernel_rfl), rfl, hf2, (fun e => (hmf e).2 |> fun h => (by have hi := (by omega : i = n); subst hi; rw [← hl] at h; exact h)), hfr2, x6, fm1_5, rd1_5, c33⟩
  · rw [q30]
    have qmo := q30
    refine wp_cond_false (by kernel_rfl) ?_
    refine wp_exit ?_
    refine h3 _ _ ?_
    refine wp_seq_k (fun K25 h25 => ?_)
    refine W.region_quiet [(0, false), (1, false)] (by kernel_rfl) ?_
    refine F.mv (v := .slice A0_5 n0_5 c0_5) (h := ?_)
    refine F.as (v := .slice A0_5 n0_5 c0_5) (h := ?_)
    refine F.endF [(0, .agg #[.int .i64 m, .slice A n c]), (1, .int .i64 v), (2, .pointer (some ⟨b2, 0, none⟩)), (4, .slice A0_5 n0_5 c0_5), (5, .slice A0_5 n0_5 c0_5), (6, .bool false), (12, .bool false)] (fun U146 => ?_)
    refine h25 _ _ ?_
    refine wp_ret ?_
    try simp only [Exit.then]
    refine ret1 (v := .slice A0_5 n0_5 c0_5) rfl (by kernel_rfl) ?_
    have e9 := Fnd.fin hf hp hv (hsh q30)
    exact ⟨_, _, _, rfl, (by rw [← e9]; exact rd0_5), fm0_5, hfr, c28⟩

end Go.Proofs.Ytdlcldaogcbnlaa
