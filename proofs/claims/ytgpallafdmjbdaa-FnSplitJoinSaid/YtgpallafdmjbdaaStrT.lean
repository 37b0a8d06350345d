/- Rows of texts: the laws' helpers: size, copy. -/
import Derived.Test.YtgpallafdmjbdaaProg
import Derived.Test.YtgpallafdmjbdaaJoinP
namespace Go.Proofs.Ytgpallafdmjbdaa
open Go.RowKit
set_option linter.unusedVariables false
set_option linter.unusedSimpArgs false

/-- What is left of a bound behind a row of texts, -1 where nothing is. -/
def szT (left : Int) (zs : List ByteArray) : Int := if (zs.length : Int) + (lenSum zs : Int) ≤ left then left - zs.length - lenSum zs else -1
def fillS (zs : List ByteArray) (n k : Nat) : List ByteArray := zs.take k ++ List.replicate (n - k) ⟨#[]⟩
theorem fillS_zero (zs : List ByteArray) (n : Nat) : fillS zs n 0 = List.replicate n ⟨#[]⟩ := by simp [fillS]
theorem fillS_set {zs : List ByteArray} {n k : Nat} {x : ByteArray} (hl : zs.length = n) (hx : zs[k]? = some x) : fillS zs n (k + 1) = (fillS zs n k).set k x := by
  have hk := (List.getElem?_eq_some_iff.1 hx).1
  have hlen : (zs.take k).length = k := by simp; omega
  unfold fillS
  rw [List.set_append_right _ _ (by omega), hlen, Nat.sub_self, List.take_add_one, hx, List.append_assoc]
  obtain ⟨m, hm⟩ : ∃ m, n - k = m + 1 := ⟨n - k - 1, by omega⟩
  rw [hm, show n - (k + 1) = m by omega, List.replicate_succ]; rfl
theorem fillS_all {zs : List ByteArray} {n k : Nat} (hl : zs.length = n) (hk : k = n) : fillS zs n k = zs := by
  subst hk; unfold fillS; rw [List.take_of_length_le (by omega), Nat.sub_self]; simp

set_option maxRecDepth 100000 in
set_option maxHeartbeats 1000000 in
theorem szStringS_any (A : Option Addr) (n c : Nat) (zs : List ByteArray) (left : Int) (w : World) (ha : Rd w 1 A n (strsV zs)) (h0 : 0 ≤ left) (h1 : left ≤ 1048576) (hn : n ≤ 9223372036854775807) (hx : ∀ x ∈ zs, x.size ≤ 9223372036854775807) :
    Calls Try.prog 18 #[.slice A n c, .int .i64 left] w fun e w' => e = .returned (.int .i64 (szT left zs)) ∧ Below w.heap.size w w' := by
  have hl := rd_strs_len ha
  go_enter Try.func18, Try.ntmps18
  refine wp_seq_k (fun K1 h1 => ?_)
  refine W.region_quiet [(0, false)] (by kernel_rfl) ?_
  refine W.as (v := .int .i64 0) (h := ?_)
  refine W.endF 28 [(0, .slice A n c), (1, .int .i64 left), (4, .int .i64 0)] (fun U1 => ?_)
  refine h1 _ _ ?_
  refine wp_seq_k (fun K2 h2 => ?_)
  refine W.region_quiet [(0, false), (1, false), (2, false), (3, false), (4, false)] (by kernel_rfl) ?_
  refine W.mv (v := .int .i64 left) (h := ?_)
  refine W.mv (v := .slice A n c) (h := ?_)
  refine W.q (v := .int .i64 ((n : Nat) : Int)) (hr := (r_len (A := A) (n := n) (c := c) rfl (by kernel_rfl) (by kernel_rfl))) (h := ?_)
  refine W.q (v := .int .i64 (left - ((n : Nat) : Int))) (hr := (r_sub (m := left) (n := ((n : Nat) : Int)) (z := left - ((n : Nat) : Int)) rfl (by kernel_rfl) (by kernel_rfl) (rfl) (by omega))) (h := ?_)
  refine W.as (v := .int .i64 (left - ((n : Nat) : Int))) (h := ?_)
  refine W.endF 28 [(0, .slice A n c), (1, .int .i64 (left - ((n : Nat) : Int))), (4, .int .i64 0)] (fun U2 => ?_)
  refine h2 _ _ ?_
  refine wp_seq_k (fun K3 h3 => ?_)
  refine wp_seq_k (fun K4 h4 => ?_)
  refine W.region_quiet [(0, false), (1, false)] (by kernel_rfl) ?_
  refine W.mv (v := .int .i64 (left - ((n : Nat) : Int))) (h := ?_)
  by_cases q3 : (left - ((n : Nat) : Int) : Int) < (0 : Int)
  · refine W.q (v := .bool true) (hr := (r_lss (m := left - ((n : Nat) : Int)) (n := 0) rfl (by kernel_rfl) (by kernel_rfl) (decide_eq_true q3))) (h := ?_)
    refine W.endF 28 [(0, .slice A n c), (1, .int .i64 (left - ((n : Nat) : Int))), (4, .int .i64 0), (11, .bool true)] (fun U4 => ?_)
    refine h4 _ _ ?_
    refine wp_cond_true (by kernel_rfl) ?_
    refine wp_seq_k (fun K5 h5 => ?_)
    refine W.region_quiet [(0, false)] (by kernel_rfl) ?_
    refine W.as (v := .int .i64 (-1)) (h := ?_)
    refine W.endF 28 [(0, .slice A n c), (1, .int .i64 (left - ((n : Nat) : Int))), (4, .int .i64 (-1)), (11, .bool true)] (fun U5 => ?_)
    refine h5 _ _ ?_
    refine wp_ret ?_
    try simp only [Exit.then]
    refine ret1 (v := .int .i64 (-1)) rfl (by kernel_rfl) ?_
    exact ⟨by unfold szT; rw [if_neg (by omega)], (Below.refl _ _)⟩
  · refine W.q (v := .bool false) (hr := (r_lss (m := left - ((n : Nat) : Int)) (n := 0) rfl (by kernel_rfl) (by kernel_rfl) (decide_eq_false q3))) (h := ?_)
    refine W.endF 28 [(0, .slice A n c), (1, .int .i64 (left - ((n : Nat) : Int))), (4, .int .i64 0), (11, .bool false)] (fun U6 => ?_)
    refine h4 _ _ ?_
    refine wp_cond_false (by kernel_rfl) ?_
    refine wp_skip ?_
    refine h3 _ _ ?_
    refine wp_seq_k (fun K6 h6 => ?_)
    refine wp_seq_k (fun K7 h7 => ?_)
    refine W.region_quiet [(0, false)] (by kernel_rfl) ?_
    refine W.as (v := .int .i64 0) (h := ?_)
    refine W.endF 28 [(0, .slice A n c), (1, .int .i64 (left - ((n : Nat) : Int))), (4, .int .i64 0), (5, .int .i64 0), (11, .bool false)] (fun U7 => ?_)
    refine h7 _ _ ?_
    refine wp_block ?_
    refine loopK (fun am0 aa0 wl0 => ∃ (k : Nat) (z : Int) (U0 : Nat → Value), aa0 = ⟨(fr U0 [(0, .slice A n c), (1, .int .i64 z), (4, .int .i64 0), (5, .int .i64 ((k : Nat) : Int)), (11, .bool false)] 28 0).toArray, []⟩ ∧ (am0 = n - k) ∧ (k ≤ n) ∧ (z = left - n - lenSum (zs.take k)) ∧ (0 ≤ z) ∧ (Below w.heap.size w wl0)) (n - 0) ?_ ?_
    · exact ⟨0, left - (n : Int), (fun iU9 => lk [(0, .slice A n c), (1, .int .i64 (left - ((n : Nat) : Int))), (4, .int .i64 0), (5, .int .i64 0), (11, .bool false)] iU9 (U7 iU9)), (by kernel_rfl), rfl, (Nat.zero_le _), (by simp [lenSum]), (by omega), (Below.refl _ _)⟩
    rintro am0 aa0 wl0 K8 h8 ⟨k, z, U0, rfl, rfl, hk, hz, hzn, c8⟩
    refine wp_seq_k (fun K9 h9 => ?_)
    refine wp_seq_k (fun K10 h10 => ?_)
    refine W.region_quiet [(0, false), (1, false), (2, false), (3, false)] (by kernel_rfl) ?_
    refine W.mv (v := .int .i64 ((k : Nat) : Int)) (h := ?_)
    refine W.mv (v := .slice A n c) (h := ?_)
    refine W.q (v := .int .i64 ((n : Nat) : Int)) (hr := (r_len (A := A) (n := n) (c := c) rfl (by kernel_rfl) (by kernel_rfl))) (h := ?_)
    by_cases q9 : (((k : Nat) : Int) : Int) < (((n : Nat) : Int) : Int)
    · refine W.q (v := .bool true) (hr := (r_lss (m := ((k : Nat) : Int)) (n := ((n : Nat) : Int)) rfl (by kernel_rfl) (by kernel_rfl) (decide_eq_true q9))) (h := ?_)
      refine W.endF 28 [(0, .slice A n c), (1, .int .i64 z), (4, .int .i64 0), (5, .int .i64 ((k : Nat) : Int)), (11, .bool false), (15, .bool true)] (fun U10 => ?_)
      refine h10 _ _ ?_
      refine wp_cond_true (by kernel_rfl) ?_
      refine wp_skip ?_
      refine h9 _ _ ?_
      refine wp_seq_k (fun K11 h11 => ?_)
      refine wp_block ?_
      refine wp_seq_k (fun K12 h12 => ?_)
      refine W.region_quiet [(0, false), (1, false), (2, false), (3, false), (4, false), (5, false), (6, false), (7, false)] (by kernel_rfl) ?_
      refine W.mv (v := .int .i64 z) (h := ?_)
      refine W.mv (v := .slice A n c) (h := ?_)
      refine W.mv (v := .int .i64 ((k : Nat) : Int)) (h := ?_)
      obtain ⟨x11, hx12⟩ := get_of (zs := zs) (k := k) (by have := hl; omega)
      obtain ⟨b13, o14, hA15, hb16, hc17⟩ := Rd.elStr ha hx12
      refine W.q (v := .pointer (some ⟨b13, o14 + k, none⟩)) (hr := (r_idx1 (n := n) (c := c) (k := k) rfl (by kernel_rfl) hA15 (by kernel_rfl) (by kernel_rfl) (by have := hl; omega))) (h := ?_)
      refine W.ld (v := .string x11) (hc := (eqS (later c8 hc17))) (h := ?_)
      refine W.q (v := .int .i64 ((x11.size : Nat) : Int)) (hr := (r_lenS (s := x11) rfl (by kernel_rfl) (by kernel_rfl))) (h := ?_)
      have hxs := hx _ (List.mem_of_getElem? hx12)
      refine W.q (v := .int .i64 (z - ((x11.size : Nat) : Int))) (hr := (r_sub (m := z) (n := ((x11.size : Nat) : Int)) (z := (z - ((x11.size : Nat) : Int))) rfl (by kernel_rfl) (by kernel_rfl) (rfl) (by omega))) (h := ?_)
      refine W.as (v := .int .i64 (z - ((x11.size : Nat) : Int))) (h := ?_)
      refine W.endF 28 [(0, .slice A n c), (1, .int .i64 (z - ((x11.size : Nat) : Int))), (4, .int .i64 0), (5, .int .i64 ((k : Nat) : Int)), (11, .bool false), (15, .bool true)] (fun U18 => ?_)
      refine h12 _ _ ?_
      refine wp_seq_k (fun K13 h13 => ?_)
      refine W.region_quiet [(0, false), (1, false)] (by kernel_rfl) ?_
      refine W.mv (v := .int .i64 (z - ((x11.size : Nat) : Int))) (h := ?_)
      by_cases q19 : ((z - ((x11.size : Nat) : Int)) : Int) < (0 : Int)
      · refine W.q (v := .bool true) (hr := (r_lss (m := (z - ((x11.size : Nat) : Int))) (n := 0) rfl (by kernel_rfl) (by kernel_rfl) (decide_eq_true q19))) (h := ?_)
        refine W.endF 28 [(0, .slice A n c), (1, .int .i64 (z - ((x11.size : Nat) : Int))), (4, .int .i64 0), (5, .int .i64 ((k : Nat) : Int)), (11, .bool false), (15, .bool true), (26, .bool true)] (fun U20 => ?_)
        refine h13 _ _ ?_
        refine wp_cond_true (by kernel_rfl) ?_
        refine wp_seq_k (fun K14 h14 => ?_)
        refine W.region_quiet [(0, false)] (by kernel_rfl) ?_
        refine W.as (v := .int .i64 (-1)) (h := ?_)
        refine W.endF 28 [(0, .slice A n c), (1, .int .i64 (z - ((x11.size : Nat) : Int))), (4, .int .i64 (-1)), (5, .int .i64 ((k : Nat) : Int)), (11, .bool false), (15, .bool true), (26, .bool true)] (fun U21 => ?_)
        refine h14 _ _ ?_
        refine wp_ret ?_
        try simp only [Exit.then, Exit.inBlock]
        refine ret1 (v := .int .i64 (-1)) rfl (by kernel_rfl) ?_
        have ge8 := lenSum_take hx12
        have ge9 := lenSum_take_le zs (k + 1)
        exact ⟨by unfold szT; rw [if_neg (by omega)], c8⟩
      · refine W.q (v := .bool false) (hr := (r_lss (m := (z - ((x11.size : Nat) : Int))) (n := 0) rfl (by kernel_rfl) (by kernel_rfl) (decide_eq_false q19))) (h := ?_)
        refine W.endF 28 [(0, .slice A n c), (1, .int .i64 (z - ((x11.size : Nat) : Int))), (4, .int .i64 0), (5, .int .i64 ((k : Nat) : Int)), (11, .bool false), (15, .bool true), (26, .bool false)] (fun U22 => ?_)
        refine h13 _ _ ?_
        refine wp_cond_false (by kernel_rfl) ?_
        refine wp_skip ?_
        refine h11 _ _ ?_
        refine W.region_quiet [(0, false), (1, false), (2, false)] (by kernel_rfl) ?_
        refine W.mv (v := .int .i64 ((k : Nat) : Int)) (h := ?_)
        refine W.q (v := .int .i64 ((k + 1 : Nat) : Int)) (hr := (r_add (m := ((k : Nat) : Int)) (n := 1) (z := ((k + 1 : Nat) : Int)) rfl (by kernel_rfl) (by kernel_rfl) (by omega) (by omega))) (h := ?_)
        refine W.as (v := .int .i64 ((k + 1 : Nat) : Int)) (h := ?_)
        refine W.endF 28 [(0, .slice A n c), (1, .int .i64 (z - ((x11.size : Nat) : Int))), (4, .int .i64 0), (5, .int .i64 ((k + 1 : Nat) : Int)), (11, .bool false), (15, .bool true), (26, .bool false)] (fun U23 => ?_)
        have ge8 := lenSum_take hx12
        exact h8 _ _ _ (by omega : (n - (k + 1)) < _) ⟨k + 1, (z - ((x11.size : Nat) : Int)), (fun iU9 => lk [(0, .slice A n c), (1, .int .i64 (z - ((x11.size : Nat) : Int))), (4, .int .i64 0), (5, .int .i64 ((k + 1 : Nat) : Int)), (11, .bool false), (15, .bool true), (26, .bool false)] iU9 (U23 iU9)), (by kernel_rfl), rfl, (by omega), (by rw [ge8]; omega), (by omega), c8⟩
    · refine W.q (v := .bool false) (hr := (r_lss (m := ((k : Nat) : Int)) (n := ((n : Nat) : Int)) rfl (by kernel_rfl) (by kernel_rfl) (decide_eq_false q9))) (h := ?_)
      refine W.endF 28 [(0, .slice A n c), (1, .int .i64 z), (4, .int .i64 0), (5, .int .i64 ((k : Nat) : Int)), (11, .bool false), (15, .bool false)] (fun U24 => ?_)
      refine h10 _ _ ?_
      refine wp_cond_false (by kernel_rfl) ?_
      refine wp_exit ?_
      refine h6 _ _ ?_
      refine wp_seq_k (fun K15 h15 => ?_)
      refine W.region_quiet [(0, false), (1, false)] (by kernel_rfl) ?_
      refine W.mv (v := .int .i64 z) (h := ?_)
      refine W.as (v := .int .i64 z) (h := ?_)
      refine W.endF 28 [(0, .slice A n c), (1, .int .i64 z), (4, .int .i64 z), (5, .int .i64 ((k : Nat) : Int)), (11, .bool false), (15, .bool false)] (fun U25 => ?_)
      refine h15 _ _ ?_
      refine wp_ret ?_
      try simp only [Exit.then]
      refine ret1 (v := .int .i64 z) rfl (by kernel_rfl) ?_
      rw [show k = zs.length by omega, List.take_length] at hz
      exact ⟨by unfold szT; rw [if_pos (by omega), hl, hz], c8⟩

theorem szT_pos {left : Int} {zs : List ByteArray} (h : (zs.length : Int) + (lenSum zs : Int) ≤ left) : szT left zs = left - zs.length - lenSum zs := if_pos h
theorem szT_neg {left : Int} {zs : List ByteArray} (h : ¬ (zs.length : Int) + (lenSum zs : Int) ≤ left) : szT left zs = -1 := if_neg h

set_option maxRecDepth 100000 in
set_option maxHeartbeats 1000000 in
theorem toStringS_any (A : Option Addr) (n c : Nat) (zs : List ByteArray) (w : World) (ha : Rd w 1 A n (strsV zs)) (hn : n ≤ 1048576) :
    Calls Try.prog 20 #[.slice A n c] w fun e w' => ∃ A' n' c', e = .returned (.slice A' n' c') ∧ w'.ownsRow w.heap.size 9 1 (.slice A' n' c') n' (strsV zs) ∧ Below w.heap.size w w' := by
  have hl := rd_strs_len ha
  go_enter Try.func20, Try.ntmps20
  refine wp_seq_k (fun K1 h1 => ?_)
  refine W.region_quiet [(0, false)] (by kernel_rfl) ?_
  refine W.as (v := .slice none 0 0) (h := ?_)
  refine W.endF 22 [(0, .slice A n c), (2, .slice none 0 0)] (fun U1 => ?_)
  refine h1 _ _ ?_
  refine wp_seq_k (fun K2 h2 => ?_)
  refine W.region_plain (row := none) [(0, false), (1, false), (2, true), (3, false)] (by kernel_rfl) ?_
  have s2 := SG.self w none
  refine W.mv (v := .slice A n c) (h := ?_)
  refine W.q (v := .int .i64 ((n : Nat) : Int)) (hr := (r_len (A := A) (n := n) (c := c) rfl (by kernel_rfl) (by kernel_rfl))) (h := ?_)
  refine W.smZ (e := 9) (n := n) (.string ⟨#[]⟩) w.heap.size s2 rfl (by kernel_rfl) rfl rfl (by kernel_rfl) (by kernel_rfl) (by kernel_rfl) ⟨_, rfl, by kernel_rfl⟩ rfl (by omega) (by have := ((SG.belowR (Below.refl _ _) s2 (fun kq e => by cases e))).size; omega) (fun b3 w4 hb5 k6 ho7 s8 => ?_)
  replace ho7 := own_reps ho7
  refine W.as (v := .slice (some ⟨b3, 0, none⟩) n n) (h := ?_)
  refine W.endF 22 [(0, .slice A n c), (2, .slice none 0 0), (3, .slice (some ⟨b3, 0, none⟩) n n)] (fun U9 => ?_)
  have c10 := (SG.belowR (Below.refl _ _) s8 (fun kq e => by cases e))
  refine h2 _ _ ?_
  refine wp_seq_k (fun K3 h3 => ?_)
  refine wp_seq_k (fun K4 h4 => ?_)
  refine W.region_quiet [(0, false)] (by kernel_rfl) ?_
  refine W.as (v := .int .i64 0) (h := ?_)
  refine W.endF 22 [(0, .slice A n c), (2, .slice none 0 0), (3, .slice (some ⟨b3, 0, none⟩) n n), (4, .int .i64 0)] (fun U11 => ?_)
  refine h4 _ _ ?_
  refine wp_block ?_
  refine loopK (fun am0 aa0 wl0 => ∃ (k : Nat) (U0 : Nat → Value), aa0 = ⟨(fr U0 [(0, .slice A n c), (2, .slice none 0 0), (3, .slice (some ⟨b3, 0, none⟩) n n), (4, .int .i64 ((k : Nat) : Int))] 22 0).toArray, []⟩ ∧ (am0 = n - k) ∧ (k ≤ n) ∧ (wl0.ownsRow w.heap.size 9 1 (.slice (some ⟨b3, 0, none⟩) n n) n (strsV (fillS zs n k))) ∧ (Below w.heap.size w wl0)) (n - 0) ?_ ?_
  · exact ⟨0, (fun iU9 => lk [(0, .slice A n c), (2, .slice none 0 0), (3, .slice (some ⟨b3, 0, none⟩) n n), (4, .int .i64 0)] iU9 (U11 iU9)), (by kernel_rfl), rfl, (Nat.zero_le _), (by rw [fillS_zero]; exact ho7), c10⟩
  rintro am0 aa0 wl0 K5 h5 ⟨k, U0, rfl, rfl, hk, ho0_3, c12⟩
  refine wp_seq_k (fun K6 h6 => ?_)
  refine wp_seq_k (fun K7 h7 => ?_)
  refine W.region_quiet [(0, false), (1, false), (2, false), (3, false)] (by kernel_rfl) ?_
  refine W.mv (v := .int .i64 ((k : Nat) : Int)) (h := ?_)
  refine W.mv (v := .slice A n c) (h := ?_)
  refine W.q (v := .int .i64 ((n : Nat) : Int)) (hr := (r_len (A := A) (n := n) (c := c) rfl (by kernel_rfl) (by kernel_rfl))) (h := ?_)
  by_cases q13 : (((k : Nat) : Int) : Int) < (((n : Nat) : Int) : Int)
  · refine W.q (v := .bool true) (hr := (r_lss (m := ((k : Nat) : Int)) (n := ((n : Nat) : Int)) rfl (by kernel_rfl) (by kernel_rfl) (decide_eq_true q13))) (h := ?_)
    refine W.endF 22 [(0, .slice A n c), (2, .slice none 0 0), (3, .slice (some ⟨b3, 0, none⟩) n n), (4, .int .i64 ((k : Nat) : Int)), (11, .bool true)] (fun U14 => ?_)
    refine h7 _ _ ?_
    refine wp_cond_true (by kernel_rfl) ?_
    refine wp_skip ?_
    refine h6 _ _ ?_
    refine wp_seq_k (fun K8 h8 => ?_)
    refine wp_block ?_
    refine W.region_plain (row := (Value.ownBlock (.slice (some ⟨b3, 0, none⟩) n n))) [(0, false), (1, false), (2, false), (3, false), (4, false), (5, false), (6, false), (7, true)] (by kernel_rfl) ?_
    have s15 := SG.self wl0 (Value.ownBlock (.slice (some ⟨b3, 0, none⟩) n n))
    refine W.mv (v := .slice (some ⟨b3, 0, none⟩) n n) (h := ?_)
    refine W.mv (v := .int .i64 ((k : Nat) : Int)) (h := ?_)
    refine W.mv (v := .slice A n c) (h := ?_)
    refine W.mv (v := .int .i64 ((k : Nat) : Int)) (h := ?_)
    obtain ⟨x16, hx17⟩ := get_of (zs := zs) (k := k) (by have := hl; omega)
    obtain ⟨b18, o19, hA20, hb21, hc22⟩ := Rd.elStr ha hx17
    refine W.q (v := .pointer (some ⟨b18, o19 + k, none⟩)) (hr := (r_idx1 (n := n) (c := c) (k := k) rfl (by kernel_rfl) hA20 (by kernel_rfl) (by kernel_rfl) (by have := hl; omega))) (h := ?_)
    refine W.ld (v := .string x16) (hc := (sgS (later c12 hc22) (nb_lo ho0_3 hb21))) (h := ?_)
    refine W.q (v := .pointer (some ⟨b3, k, none⟩)) (hr := (r_idx0 (n := n) (c := n) (k := k) rfl (by kernel_rfl) (by kernel_rfl) (by kernel_rfl) (by omega))) (h := ?_)
    refine W.ssr (base := w.heap.size) (e := 9) (j := k) (u := .string x16) s15 rfl (by kernel_rfl) rfl rfl (by kernel_rfl) (by kernel_rfl) ho0_3 (by kernel_rfl) (by kernel_rfl) (by kernel_rfl) (by omega) (.inl rfl) (fun w23 ho24 g25 s26 => ?_)
    have ho24 := own_setS ho24
    refine W.endF 22 [(0, .slice A n c), (2, .slice none 0 0), (3, .slice (some ⟨b3, 0, none⟩) n n), (4, .int .i64 ((k : Nat) : Int)), (11, .bool true)] (fun U27 => ?_)
    have c28 := (SG.belowR c12 s26 (fun kq e => (World.ownsRow.lt ho0_3 kq e).1))
    refine h8 _ _ ?_
    refine W.region_quiet [(0, false), (1, false), (2, false)] (by kernel_rfl) ?_
    refine W.mv (v := .int .i64 ((k : Nat) : Int)) (h := ?_)
    refine W.q (v := .int .i64 ((k + 1 : Nat) : Int)) (hr := (r_add (m := ((k : Nat) : Int)) (n := 1) (z := ((k + 1 : Nat) : Int)) rfl (by kernel_rfl) (by kernel_rfl) (by omega) (by omega))) (h := ?_)
    refine W.as (v := .int .i64 ((k + 1 : Nat) : Int)) (h := ?_)
    refine W.endF 22 [(0, .slice A n c), (2, .slice none 0 0), (3, .slice (some ⟨b3, 0, none⟩) n n), (4, .int .i64 ((k + 1 : Nat) : Int)), (11, .bool true)] (fun U29 => ?_)
    exact h5 _ _ _ (by omega : (n - (k + 1)) < _) ⟨k + 1, (fun iU9 => lk [(0, .slice A n c), (2, .slice none 0 0), (3, .slice (some ⟨b3, 0, none⟩) n n), (4, .int .i64 ((k + 1 : Nat) : Int)), (11, .bool true)] iU9 (U29 iU9)), (by kernel_rfl), rfl, (by omega), (by rw [fillS_set hl hx17]; exact ho24), c28⟩
  · refine W.q (v := .bool false) (hr := (r_lss (m := ((k : Nat) : Int)) (n := ((n : Nat) : Int)) rfl (by kernel_rfl) (by kernel_rfl) (decide_eq_false q13))) (h := ?_)
    refine W.endF 22 [(0, .slice A n c), (2, .slice none 0 0), (3, .slice (some ⟨b3, 0, none⟩) n n), (4, .int .i64 ((k : Nat) : Int)), (11, .bool false)] (fun U30 => ?_)
    refine h7 _ _ ?_
    refine wp_cond_false (by kernel_rfl) ?_
    refine wp_exit ?_
    refine h3 _ _ ?_
    refine wp_seq_k (fun K9 h9 => ?_)
    refine W.region_quiet [(0, false), (1, false)] (by kernel_rfl) ?_
    refine W.mv (v := .slice (some ⟨b3, 0, none⟩) n n) (h := ?_)
    refine W.as (v := .slice (some ⟨b3, 0, none⟩) n n) (h := ?_)
    refine W.endF 22 [(0, .slice A n c), (2, .slice (some ⟨b3, 0, none⟩) n n), (3, .slice (some ⟨b3, 0, none⟩) n n), (4, .int .i64 ((k : Nat) : Int)), (11, .bool false)] (fun U31 => ?_)
    refine h9 _ _ ?_
    refine wp_ret ?_
    try simp only [Exit.then]
    refine ret1 (v := .slice (some ⟨b3, 0, none⟩) n n) rfl (by kernel_rfl) ?_
    exact ⟨_, _, _, rfl, (by have ge9 := ho0_3; rw [fillS_all hl (by omega)] at ge9; exact ge9), c12⟩

end Go.Proofs.Ytgpallafdmjbdaa
