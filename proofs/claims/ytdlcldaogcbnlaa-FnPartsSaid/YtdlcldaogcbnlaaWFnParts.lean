/- The walk of the law FnParts. -/
import Derived.Test.YtdlcldaogcbnlaaVLib
import Derived.Test.YtdlcldaogcbnlaaDrawN
import Derived.Test.YtdlcldaogcbnlaaParts
import Derived.Test.YtdlcldaogcbnlaaPipesAt
import Derived.Test.YtdlcldaogcbnlaaFinN
import Derived.Test.YtdlcldaogcbnlaaRows
import Derived.Test.YtdlcldaogcbnlaaFr
namespace Go.Proofs.Ytdlcldaogcbnlaa
open Go.RowKit
set_option linter.unusedVariables false
set_option linter.unusedSimpArgs false

theorem RdT.atv {w : World} {A : Option Addr} {n : Nat} {vs : List Sv} {zss : List (List Int)} (h : RdT w A n vs zss) {i : Nat} (hi : i < n) : ∃ v, vs[i]? = some v := ⟨_, List.getElem?_eq_getElem (by have := h.size; omega)⟩
theorem vInts_same2 (A B : Option Addr) (n n2 c d : Nat) (zs : List Int) (w : World) (ha : Rd w 1 A n (intsV zs)) (hb : Rd w 1 B n2 (intsV zs)) (hn : n ≤ 9223372036854775807) :
    Calls Try.prog 19 #[.slice A n c, .slice B n2 d] w fun e w' => e = .returned (.bool true) ∧ Below w.heap.size w w' := by
  obtain rfl : n2 = n := by have := rd_ints_len ha; have := rd_ints_len hb; omega
  exact vInts_same A B n2 c d zs w ha hb hn
theorem parts_fact {m : Int} {ps : List Pp} {i k : Nat} {z : List Int} {x : Int} (hz : (NetworkParts_v0 m ps)[i]? = some z) (hx : z[k]? = some x) : ReachedFrom_v1 m ps x = true ∧ ReachedFrom_v0 m ps x = z := by
  by_cases h : goodN m ps = true
  · have hg := good_of h
    have e : NetworkParts_v0 m ps = partsTo (joined ps) m.toNat m.toNat := by unfold NetworkParts_v0; rw [if_pos h]
    rw [e] at hz
    obtain ⟨h1, h2⟩ := part_all (joined_symm ps) (List.mem_of_getElem? hz) (List.mem_of_getElem? hx)
    have hm := hg.lo
    have h3 : ReachedFrom_v1 m ps x = true := by unfold ReachedFrom_v1; rw [h, inB_iff.2 (by omega)]; rfl
    have e3 : ReachedFrom_v0 m ps x = reachList (joined ps) m.toNat x := if_pos h3
    exact ⟨h3, e3.trans h2⟩
  · have e : NetworkParts_v0 m ps = [] := by unfold NetworkParts_v0; rw [if_neg h]
    rw [e] at hz; simp at hz
theorem parts_sum {m : Int} {ps : List Pp} (h : goodN m ps = true) : ((lensOf (NetworkParts_v0 m ps) : Nat) : Int) = m := by
  have hg := good_of h
  have e : NetworkParts_v0 m ps = partsTo (joined ps) m.toNat m.toNat := by unfold NetworkParts_v0; rw [if_pos h]
  rw [e, parts_all (joined_symm ps)]
  have := hg.lo; omega
theorem parts_bd (m : Int) (ps : List Pp) (i : Nat) : lensOf ((NetworkParts_v0 m ps).take i) ≤ 64 := by
  have h := NetworkParts_bd m ps
  have h2 := lensOf_le (zss := (NetworkParts_v0 m ps).take i) (m := 8) (fun zs hz => h.2 zs (List.mem_of_mem_take hz))
  rw [List.length_take] at h2
  have : min i (NetworkParts_v0 m ps).length * 8 ≤ 8 * 8 := Nat.mul_le_mul_right 8 (by omega)
  omega

set_option maxRecDepth 100000 in
set_option maxHeartbeats 8000000 in
theorem vTable_same (A B : Option Addr) (n c d : Nat) (vs us : List Sv) (zss : List (List Int)) (w : World) (ha : RdT w A n vs zss) (hb : RdT w B n us zss) (hn : n ≤ 9223372036854775807) (hz8 : ∀ zs ∈ zss, zs.length ≤ 8) :
    Calls Try.prog 17 #[.slice A n c, .slice B n d] w fun e w' => e = .returned (.bool true) ∧ Below w.heap.size w w' := by
  go_enter Try.func17, Try.ntmps17
  refine wp_seq_k (fun K1 h1 => ?_)
  refine W.region_quiet [(0, false)] (by kernel_rfl) ?_
  refine W.as (v := .bool false) (h := ?_)
  refine W.endF 27 [(0, .slice A n c), (1, .slice B n d), (4, .bool false)] (fun U1 => ?_)
  refine h1 _ _ ?_
  refine wp_seq_k (fun K2 h2 => ?_)
  refine wp_seq_k (fun K3 h3 => ?_)
  refine W.region_quiet [(0, false), (1, false), (2, false), (3, false), (4, false)] (by kernel_rfl) ?_
  refine F.mv (v := .slice A n c) (h := ?_)
  refine F.q (v := .int .i64 ((n : Nat) : Int)) (hr := (r_len (A := A) (n := n) (c := c) rfl (ev_any (by kernel_rfl)) (by kernel_rfl))) (h := ?_)
  refine F.mv (v := .slice B n d) (h := ?_)
  refine F.q (v := .int .i64 ((n : Nat) : Int)) (hr := (r_len (A := B) (n := n) (c := d) rfl (ev_any (by kernel_rfl)) (by kernel_rfl))) (h := ?_)
  refine F.q (v := .bool false) (hr := (r_neq (m := ((n : Nat) : Int)) (n := ((n : Nat) : Int)) rfl (ev_any (by kernel_rfl)) (ev_any (by kernel_rfl)) (decide_eq_false (by omega)))) (h := ?_)
  refine F.endF [(0, .slice A n c), (1, .slice B n d), (4, .bool false), (10, .bool false)] (fun U2 => ?_)
  refine h3 _ _ ?_
  refine wp_cond_false (by kernel_rfl) ?_
  refine wp_skip ?_
  refine h2 _ _ ?_
  refine wp_seq_k (fun K4 h4 => ?_)
  refine wp_seq_k (fun K5 h5 => ?_)
  refine W.region_quiet [(0, false)] (by kernel_rfl) ?_
  refine F.as (v := .int .i64 0) (h := ?_)
  refine F.endF [(0, .slice A n c), (1, .slice B n d), (4, .bool false), (5, .int .i64 0), (10, .bool false)] (fun U3 => ?_)
  refine h5 _ _ ?_
  refine wp_block ?_
  refine loopK (fun am0 aa0 wl0 => ∃ (i : Nat) (U0 : Nat → Value), aa0 = ⟨(fr U0 [(0, .slice A n c), (1, .slice B n d), (4, .bool false), (5, .int .i64 ((i : Nat) : Int)), (10, .bool false)] 27 0).toArray, []⟩ ∧ (am0 = n - i) ∧ (i ≤ n) ∧ (RdT wl0 A n vs zss) ∧ (RdT wl0 B n us zss) ∧ (Below w.heap.size w wl0)) (n - 0) ?_ ?_
  · exact ⟨0, (fun iU9 => lk [(0, .slice A n c), (1, .slice B n d), (4, .bool false), (5, .int .i64 0), (10, .bool false)] iU9 (U3 iU9)), (by kernel_rfl), rfl, (Nat.zero_le _), ha, hb, (Below.refl _ _)⟩
  rintro am0 aa0 wl0 K6 h6 ⟨i, U0, rfl, rfl, hi, kl0_0, kl0_1, c4⟩
  refine wp_seq_k (fun K7 h7 => ?_)
  refine wp_seq_k (fun K8 h8 => ?_)
  refine W.region_quiet [(0, false), (1, false), (2, false), (3, false)] (by kernel_rfl) ?_
  refine F.mv (v := .int .i64 ((i : Nat) : Int)) (h := ?_)
  refine F.mv (v := .slice A n c) (h := ?_)
  refine F.q (v := .int .i64 ((n : Nat) : Int)) (hr := (r_len (A := A) (n := n) (c := c) rfl (ev_any (by kernel_rfl)) (by kernel_rfl))) (h := ?_)
  by_cases q5 : (((i : Nat) : Int) : Int) < (((n : Nat) : Int) : Int)
  · refine F.q (v := .bool true) (hr := (r_lss (m := ((i : Nat) : Int)) (n := ((n : Nat) : Int)) rfl (ev_any (by kernel_rfl)) (ev_any (by kernel_rfl)) (decide_eq_true q5))) (h := ?_)
    refine F.endF [(0, .slice A n c), (1, .slice B n d), (4, .bool false), (5, .int .i64 ((i : Nat) : Int)), (10, .bool false), (14, .bool true)] (fun U6 => ?_)
    refine h8 _ _ ?_
    refine wp_cond_true (by kernel_rfl) ?_
    refine wp_skip ?_
    refine h7 _ _ ?_
    refine wp_seq_k (fun K9 h9 => ?_)
    refine wp_block ?_
    refine wp_seq_k (fun K10 h10 => ?_)
    refine W.region_sch (row := none) (Sch.of [(0, false), (1, false), (2, false), (3, false), (4, false), (5, false), (6, false), (7, false), (8, true), (9, false)]) (by kernel_rfl) (by kernel_rfl) (fun _ d _ _ _ h => by cases d <;> exact h) (by kernel_rfl) (fun w7 e8 s9 => ?_)
    refine F.mv (v := .slice A n c) (h := ?_)
    refine F.mv (v := .int .i64 ((i : Nat) : Int)) (h := ?_)
    obtain ⟨tv10, tz11, hv12, hz13⟩ := RdT.at kl0_0 (i := i) (by omega)
    have hz9 := hz8 tz11 (List.mem_of_getElem? hz13)
    obtain ⟨b14, o15, hA16, hb17, hc18⟩ := Rd.elSv (kl0_0).out hv12
    have rd19 := (kl0_0).inn _ _ _ hv12 hz13
    have hl20 := rd_ints_len rd19
    refine F.q (v := .pointer (some ⟨b14, o15 + i, none⟩)) (hr := (r_idx1 (n := n) (c := c) (k := i) rfl (ev_any (by kernel_rfl)) hA16 (by kernel_rfl) (by kernel_rfl) (by omega))) (h := ?_)
    refine F.ld (v := .slice tv10.A tv10.n tv10.c) (hc := (sgS hc18 (by simp))) (h := ?_)
    refine F.mv (v := .slice B n d) (h := ?_)
    refine F.mv (v := .int .i64 ((i : Nat) : Int)) (h := ?_)
    obtain ⟨tv22, hv24⟩ := RdT.atv kl0_1 (i := i) (by omega)
    obtain ⟨b26, o27, hA28, hb29, hc30⟩ := Rd.elSv (kl0_1).out hv24
    have rd31 := (kl0_1).inn _ _ _ hv24 hz13
    have hl32 := rd_ints_len rd31
    refine F.q (v := .pointer (some ⟨b26, o27 + i, none⟩)) (hr := (r_idx1 (n := n) (c := d) (k := i) rfl (ev_any (by kernel_rfl)) hA28 (by kernel_rfl) (by kernel_rfl) (by omega))) (h := ?_)
    refine F.ld (v := .slice tv22.A tv22.n tv22.c) (hc := (sgS hc30 (by simp))) (h := ?_)
    refine W.sc (vs := [.slice tv10.A tv10.n tv10.c, .slice tv22.A tv22.n tv22.c]) rfl rfl (by kernel_rfl) (by kernel_rfl) (by kernel_rfl) rfl (vInts_same2 tv10.A tv22.A tv10.n tv22.n tv10.c tv22.c tz11 _ (Rd.kept rd19 (SG.below s9)) (Rd.kept rd31 (SG.below s9)) (by omega)) ?_
    rintro e w35 ⟨rfl, b34⟩
    have s36 := SG.of_below s9 b34
    refine ⟨_, rfl, s36, ?_⟩
    refine F.nx ?_
    refine F.q (v := .bool false) (hr := (r_not (b := true) rfl (ev_any (by kernel_rfl)) rfl)) (h := ?_)
    refine F.endF [(0, .slice A n c), (1, .slice B n d), (4, .bool false), (5, .int .i64 ((i : Nat) : Int)), (10, .bool false), (14, .bool true), (26, .bool false)] (fun U37 => ?_)
    have c38 := (SG.belowR c4 s36 (fun kq e => by cases e))
    have rd39 := RdT.kept kl0_0 (SG.below s36)
    have rd40 := RdT.kept kl0_1 (SG.below s36)
    have rd41 := Rd.kept rd19 (SG.below s36)
    have rd42 := Rd.kept rd31 (SG.below s36)
    refine h10 _ _ ?_
    refine wp_cond_false (by kernel_rfl) ?_
    refine wp_skip ?_
    refine h9 _ _ ?_
    refine W.region_quiet [(0, false), (1, false), (2, false)] (by kernel_rfl) ?_
    refine F.mv (v := .int .i64 ((i : Nat) : Int)) (h := ?_)
    refine F.q (v := .int .i64 ((i + 1 : Nat) : Int)) (hr := (r_add (m := ((i : Nat) : Int)) (n := 1) (z := ((i + 1 : Nat) : Int)) rfl (ev_any (by kernel_rfl)) (ev_any (by kernel_rfl)) (by omega) (by omega))) (h := ?_)
    refine F.as (v := .int .i64 ((i + 1 : Nat) : Int)) (h := ?_)
    refine F.endF [(0, .slice A n c), (1, .slice B n d), (4, .bool false), (5, .int .i64 ((i + 1 : Nat) : Int)), (10, .bool false), (14, .bool true), (26, .bool false)] (fun U43 => ?_)
    exact h6 _ _ _ (by omega : (n - (i + 1)) < _) ⟨i + 1, (fun iU9 => lk [(0, .slice A n c), (1, .slice B n d), (4, .bool false), (5, .int .i64 ((i + 1 : Nat) : Int)), (10, .bool false), (14, .bool true), (26, .bool false)] iU9 (U43 iU9)), (by kernel_rfl), rfl, (by omega), rd39, rd40, c38⟩
  · refine F.q (v := .bool false) (hr := (r_lss (m := ((i : Nat) : Int)) (n := ((n : Nat) : Int)) rfl (ev_any (by kernel_rfl)) (ev_any (by kernel_rfl)) (decide_eq_false q5))) (h := ?_)
    refine F.endF [(0, .slice A n c), (1, .slice B n d), (4, .bool false), (5, .int .i64 ((i : Nat) : Int)), (10, .bool false), (14, .bool false)] (fun U44 => ?_)
    refine h8 _ _ ?_
    refine wp_cond_false (by kernel_rfl) ?_
    refine wp_exit ?_
    refine h4 _ _ ?_
    refine wp_seq_k (fun K11 h11 => ?_)
    refine W.region_quiet [(0, false)] (by kernel_rfl) ?_
    refine F.as (v := .bool true) (h := ?_)
    refine F.endF [(0, .slice A n c), (1, .slice B n d), (4, .bool true), (5, .int .i64 ((i : Nat) : Int)), (10, .bool false), (14, .bool false)] (fun U45 => ?_)
    refine h11 _ _ ?_
    refine wp_ret ?_
    try simp only [Exit.then]
    refine ret1 (v := .bool true) rfl (by kernel_rfl) ?_
    exact ⟨rfl, c4⟩

set_option maxRecDepth 100000 in
set_option maxHeartbeats 8000000 in
theorem wi_FnParts (A : Option Addr) (n c : Nat) (zs : List Int) (w : World) (hcode : Rd w 1 A n (bytesV zs)) (hz : ∀ z ∈ zs, 0 ≤ z ∧ z < 256) (hn : n ≤ 9223372036854775807) :
    Calls Try.prog 4 #[.slice A n c] w fun e w' => e = .returned (.bool true) ∧ Below w.heap.size w w' := by
  have hl := rd_bytes_len hcode
  go_enter Try.func4, Try.ntmps4
  refine wp_seq_k (fun K1 h1 => ?_)
  refine W.region_quiet [(0, false)] (by kernel_rfl) ?_
  refine W.as (v := .bool false) (h := ?_)
  refine W.endF 144 [(0, .slice A n c), (2, .bool false)] (fun U1 => ?_)
  refine h1 _ _ ?_
  refine wp_seq_k (fun K2 h2 => ?_)
  refine wp_seq_k (fun K3 h3 => ?_)
  refine W.region_plain (row := none) [(0, false), (1, true)] (by kernel_rfl) ?_
  have s2 := SG.self w none
  refine F.mv (v := .slice A n c) (h := ?_)
  refine W.sc (vs := [.slice A n c]) rfl rfl (by kernel_rfl) (by kernel_rfl) (by kernel_rfl) rfl (vBig_any A n c zs _ (Rd.kept hcode (SG.belowR (Below.refl _ _) s2 (fun kq e => by cases e))) hz hn) ?_
  rintro e w4 ⟨rfl, b3⟩
  have s5 := SG.of_below s2 b3
  refine ⟨_, rfl, s5, ?_⟩
  refine F.nx ?_
  rcases Bool.eq_false_or_eq_true (decide (65536 < n)) with q6 | q6
  · rw [q6]
    refine F.endF [(0, .slice A n c), (2, .bool false), (24, .bool true)] (fun U7 => ?_)
    have c8 := (SG.belowR (Below.refl _ _) s5 (fun kq e => by cases e))
    refine h3 _ _ ?_
    refine wp_cond_true (by kernel_rfl) ?_
    refine wp_seq_k (fun K4 h4 => ?_)
    refine W.region_quiet [(0, false)] (by kernel_rfl) ?_
    refine F.as (v := .bool true) (h := ?_)
    refine F.endF [(0, .slice A n c), (2, .bool true), (24, .bool true)] (fun U9 => ?_)
    refine h4 _ _ ?_
    refine wp_ret ?_
    try simp only [Exit.then]
    refine ret1 (v := .bool true) rfl (by kernel_rfl) ?_
    exact ⟨rfl, c8⟩
  · rw [q6]
    refine F.endF [(0, .slice A n c), (2, .bool false), (24, .bool false)] (fun U10 => ?_)
    have c11 := (SG.belowR (Below.refl _ _) s5 (fun kq e => by cases e))
    refine h3 _ _ ?_
    refine wp_cond_false (by kernel_rfl) ?_
    refine wp_skip ?_
    refine h2 _ _ ?_
    refine wp_seq_k (fun K5 h5 => ?_)
    refine W.region_plain (row := none) [(0, false), (1, true), (2, true), (3, true)] (by kernel_rfl) ?_
    have s12 := SG.self w4 none
    refine F.mv (v := .slice A n c) (h := ?_)
    refine W.sc (vs := [.slice A n c]) rfl rfl (by kernel_rfl) (by kernel_rfl) (by kernel_rfl) rfl (DrawNetworkParts_any A n c zs _ (Rd.kept hcode (SG.belowR c11 s12 (fun kq e => by cases e))) hz (by have h9 := of_decide_eq_false q6; omega)) ?_
    rintro e w25 ⟨m13, A14, n15, c16, ps17, rfl, ho18, hsm19, b24⟩
    have s26 := SG.of_below s12 b24
    refine ⟨_, rfl, s26, ?_⟩
    refine F.nx ?_
    have rd20 := own_rd ho18
    have fm21 := own_fm ho18
    have hl22 := rd_pipes_len rd20
    have hsm19n := hsm19.2.1
    refine W.sn (fun b => .pointer (some ⟨b, 0, none⟩)) #[.int .i64 0, .slice none 0 0] 31 s26 rfl (by kernel_rfl) rfl (fun _ => by kernel_rfl) (fun b27 w28 hb29 k30 x31 s32 => ?_)
    refine F.nx ?_
    have lo33 : w.heap.size ≤ b27 := Nat.le_trans ((SG.belowR c11 s26 (fun kq e => by cases e))).size (Nat.le_of_eq hb29)
    have sp34 : Sp A14 n15 (some b27) := sp_new rd20 (by have := hb29; omega)
    have rd35 := Rd.kept rd20 k30
    refine W.ss (v := .agg #[.int .i64 m13, .slice A14 n15 c16]) (j := 0) (news := [.int .i64 m13, .slice A14 n15 c16]) (cs' := #[.int .i64 m13, .slice A14 n15 c16]) s32 rfl (by kernel_rfl) rfl rfl (by kernel_rfl) (by kernel_rfl) x31 (by kernel_rfl) (by kernel_rfl) (by simp) (by kernel_rfl) (by kernel_rfl) (.inr (Nat.le_trans (s26).size (Nat.le_of_eq hb29))) (fun w36 g37 x38 s39 => ?_)
    have rd40 := rd_sepG rd35 g37 sp34
    refine F.endF [(0, .slice A n c), (2, .bool false), (3, .pointer (some ⟨b27, 0, none⟩)), (24, .bool false)] (fun U41 => ?_)
    have c42 := (SG.belowR c11 s39 (fun kq e => by cases e))
    refine h5 _ _ ?_
    as_aux_lemma =>
      refine wp_seq_k (fun K6 h6 => ?_)
      refine W.region_plain (row := none) [(0, false), (1, true), (2, false), (3, false), (4, false), (5, false), (6, false)] (by kernel_rfl) ?_
      have s43 := SG.self w36 none
      refine F.q (v := .agg #[.int .i64 m13, .slice A14 n15 c16]) (hr := (r_load2 rfl (ev_any (by kernel_rfl)) (by kernel_rfl) (by kernel_rfl) (sgS (blk_cell (j := 0) x38 (by kernel_rfl)) (Option.some_ne_none _)) (sgS (blk_cell (j := 1) x38 (by kernel_rfl)) (Option.some_ne_none _)))) (h := ?_)
      refine W.sc (vs := [.agg #[.int .i64 m13, .slice A14 n15 c16]]) rfl rfl (by kernel_rfl) (by kernel_rfl) (by kernel_rfl) rfl (NetworkParts_impl m13 A14 n15 c16 ps17 _ (Rd.kept rd40 (SG.below s43)) (by omega)) ?_
      rintro e w51 ⟨A44, d45, vs46, rfl, t47, b50⟩
      have s52 := SG.of_below s43 b50
      refine ⟨_, rfl, s52, ?_⟩
      refine F.nx ?_
      have rt48 := Tab.rd t47
      have hbd9 := NetworkParts_bd m13 ps17
      rcases Bool.eq_false_or_eq_true (NetworkParts_v1 m13 ps17) with q53 | q53
      · rw [q53]
        refine F.mv (v := .tuple #[.slice A44 ((NetworkParts_v0 m13 ps17).length) d45, .bool true]) (h := ?_)
        refine F.q (v := .slice A44 ((NetworkParts_v0 m13 ps17).length) d45) (hr := (r_extract (vs := #[.slice A44 ((NetworkParts_v0 m13 ps17).length) d45, .bool true]) rfl (ev_any (by kernel_rfl)) (by kernel_rfl))) (h := ?_)
        refine F.q (v := .bool true) (hr := (r_extract (vs := #[.slice A44 ((NetworkParts_v0 m13 ps17).length) d45, .bool true]) rfl (ev_any (by kernel_rfl)) (by kernel_rfl))) (h := ?_)
        refine F.as (v := .slice A44 ((NetworkParts_v0 m13 ps17).length) d45) (h := ?_)
        refine F.as (v := .bool true) (h := ?_)
        refine F.endF [(0, .slice A n c), (2, .bool false), (3, .pointer (some ⟨b27, 0, none⟩)), (4, .slice A44 ((NetworkParts_v0 m13 ps17).length) d45), (5, .bool true), (24, .bool false)] (fun U54 => ?_)
        have x38 := SG.blk s52 x38 (Option.some_ne_none _)
        have c55 := (SG.belowR c42 s52 (fun kq e => by cases e))
        have rd56 := Rd.kept rd40 (SG.below s52)
        refine h6 _ _ ?_
        refine wp_seq_k (fun K7 h7 => ?_)
        refine wp_seq_k (fun K8 h8 => ?_)
        refine W.region_plain (row := none) [(0, false), (1, true), (2, false), (3, false), (4, false), (5, false), (6, false)] (by kernel_rfl) ?_
        have s57 := SG.self w51 none
        refine F.q (v := .agg #[.int .i64 m13, .slice A14 n15 c16]) (hr := (r_load2 rfl (ev_any (by kernel_rfl)) (by kernel_rfl) (by kernel_rfl) (sgS (blk_cell (j := 0) x38 (by kernel_rfl)) (Option.some_ne_none _)) (sgS (blk_cell (j := 1) x38 (by kernel_rfl)) (Option.some_ne_none _)))) (h := ?_)
        refine W.sc (vs := [.agg #[.int .i64 m13, .slice A14 n15 c16]]) rfl rfl (by kernel_rfl) (by kernel_rfl) (by kernel_rfl) rfl (NetworkParts_spec m13 A14 n15 c16 ps17 _ (Rd.kept rd56 (SG.below s57)) (by omega)) ?_
        rintro e w65 ⟨A58, d59, vs60, rfl, t61, b64⟩
        have s66 := SG.of_below s57 b64
        refine ⟨_, rfl, s66, ?_⟩
        refine F.nx ?_
        rw [q53]
        refine F.mv (v := .tuple #[.slice A58 ((NetworkParts_v0 m13 ps17).length) d59, .bool true]) (h := ?_)
        refine F.q (v := .slice A58 ((NetworkParts_v0 m13 ps17).length) d59) (hr := (r_extract (vs := #[.slice A58 ((NetworkParts_v0 m13 ps17).length) d59, .bool true]) rfl (ev_any (by kernel_rfl)) (by kernel_rfl))) (h := ?_)
        refine F.q (v := .bool true) (hr := (r_extract (vs := #[.slice A58 ((NetworkParts_v0 m13 ps17).length) d59, .bool true]) rfl (ev_any (by kernel_rfl)) (by kernel_rfl))) (h := ?_)
        refine F.as (v := .slice A58 ((NetworkParts_v0 m13 ps17).length) d59) (h := ?_)
        refine F.as (v := .bool true) (h := ?_)
        refine F.endF [(0, .slice A n c), (2, .bool false), (3, .pointer (some ⟨b27, 0, none⟩)), (4, .slice A44 ((NetworkParts_v0 m13 ps17).length) d45), (5, .bool true), (6, .slice A58 ((NetworkParts_v0 m13 ps17).length) d59), (7, .bool true), (24, .bool false)] (fun U68 => ?_)
        have x38 := SG.blk s66 x38 (Option.some_ne_none _)
        have c69 := (SG.belowR c55 s66 (fun kq e => by cases e))
        have rd70 := Rd.kept rd56 (SG.below s66)
        have rd71 := RdT.kept rt48 (SG.below s66)
        refine h8 _ _ ?_
        refine wp_seq_k (fun K9 h9 => ?_)
        refine W.region_plain (row := none) [(0, false), (1, false), (2, false), (3, false), (4, false), (5, false), (6, true), (7, false), (8, false)] (by kernel_rfl) ?_
        have s72 := SG.self w65 none
        refine F.mv (v := .bool true) (h := ?_)
        refine F.mv (v := .bool true) (h := ?_)
        refine F.q (v := .bool false) (hr := (r_neqB (m := true) (n := true) rfl (ev_any (by kernel_rfl)) (ev_any (by kernel_rfl)) (by kernel_rfl) rfl)) (h := ?_)
        refine F.mv (v := .bool false) (h := ?_)
        refine F.mv (v := .slice A44 ((NetworkParts_v0 m13 ps17).length) d45) (h := ?_)
        refine F.mv (v := .slice A58 ((NetworkParts_v0 m13 ps17).length) d59) (h := ?_)
        refine W.sc (vs := [.slice A44 ((NetworkParts_v0 m13 ps17).length) d45, .slice A58 ((NetworkParts_v0 m13 ps17).length) d59]) rfl rfl (by kernel_rfl) (by kernel_rfl) (by kernel_rfl) rfl (vTable_same A44 A58 ((NetworkParts_v0 m13 ps17).length) d45 d59 vs46 vs60 (NetworkParts_v0 m13 ps17) _ (RdT.kept rd71 (SG.below s72)) (RdT.kept t61 (SG.below s72)) (by omega) hbd9.2) ?_
        rintro e w74 ⟨rfl, b73⟩
        have s75 := SG.of_below s72 b73
        refine ⟨_, rfl, s75, ?_⟩
        refine F.nx ?_
        refine F.q (v := .bool false) (hr := (r_not (b := true) rfl (ev_any (by kernel_rfl)) rfl)) (h := ?_)
        refine F.q (v := .bool false) (hr := (r_pick (b := false) rfl (ev_any (by kernel_rfl)) (ev_any (by kernel_rfl)))) (h := ?_)
        refine F.endF [(0, .slice A n c), (2, .bool false), (3, .pointer (some ⟨b27, 0, none⟩)), (4, .slice A44 ((NetworkParts_v0 m13 ps17).length) d45), (5, .bool true), (6, .slice A58 ((NetworkParts_v0 m13 ps17).length) d59), (7, .bool true), (24, .bool false), (45, .bool false)] (fun U76 => ?_)
        have x38 := SG.blk s75 x38 (Option.some_ne_none _)
        have c77 := (SG.belowR c69 s75 (fun kq e => by cases e))
        have rd78 := Rd.kept rd70 (SG.below s75)
        have rd79 := RdT.kept rd71 (SG.below s75)
        have rd80 := RdT.kept t61 (SG.below s75)
        refine h9 _ _ ?_
        as_aux_lemma =>
          refine wp_cond_false (by kernel_rfl) ?_
          refine wp_skip ?_
          refine h7 _ _ ?_
          refine wp_seq_k (fun K10 h10 => ?_)
          refine W.region_quiet [(0, false)] (by kernel_rfl) ?_
          refine F.as (v := .int .i64 0) (h := ?_)
          refine F.endF [(0, .slice A n c), (2, .bool false), (3, .pointer (some ⟨b27, 0, none⟩)), (4, .slice A44 ((NetworkParts_v0 m13 ps17).length) d45), (5, .bool true), (6, .slice A58 ((NetworkParts_v0 m13 ps17).length) d59), (7, .bool true), (8, .int .i64 0), (24, .bool false), (45, .bool false)] (fun U81 => ?_)
          refine h10 _ _ ?_
          refine wp_seq_k (fun K11 h11 => ?_)
          refine wp_seq_k (fun K12 h12 => ?_)
          refine W.region_quiet [(0, false)] (by kernel_rfl) ?_
          refine F.as (v := .int .i64 0) (h := ?_)
          refine F.endF [(0, .slice A n c), (2, .bool false), (3, .pointer (some ⟨b27, 0, none⟩)), (4, .slice A44 ((NetworkParts_v0 m13 ps17).length) d45), (5, .bool true), (6, .slice A58 ((NetworkParts_v0 m13 ps17).length) d59), (7, .bool true), (8, .int .i64 0), (9, .int .i64 0), (24, .bool false), (45, .bool false)] (fun U82 => ?_)
          refine h12 _ _ ?_
          refine wp_block ?_
          refine loopK (fun am0 aa0 wl0 => ∃ (i : Nat) (U0 : Nat → Value), aa0 = ⟨(fr U0 [(0, .slice A n c), (2, .bool false), (3, .pointer (some ⟨b27, 0, none⟩)), (4, .slice A44 ((NetworkParts_v0 m13 ps17).length) d45), (5, .bool true), (6, .slice A58 ((NetworkParts_v0 m13 ps17).length) d59), (7, .bool true), (8, .int .i64 (((lensOf ((NetworkParts_v0 m13 ps17).take i)) : Nat) : Int)), (9, .int .i64 ((i : Nat) : Int)), (24, .bool false), (45, .bool false)] 144 0).toArray, []⟩ ∧ (am0 = (NetworkParts_v0 m13 ps17).length - i) ∧ (i ≤ (NetworkParts_v0 m13 ps17).length) ∧ (wl0.heap[b27]? = some (.cells #[.int .i64 m13, .slice A14 n15 c16] 31 (0, 0))) ∧ (RdT wl0 A44 ((NetworkParts_v0 m13 ps17).length) vs46 (NetworkParts_v0 m13 ps17)) ∧ (RdT wl0 A58 ((NetworkParts_v0 m13 ps17).length) vs60 (NetworkParts_v0 m13 ps17)) ∧ (Rd wl0 4 A14 n15 (pipesV ps17)) ∧ (Below w.heap.size w wl0)) ((NetworkParts_v0 m13 ps17).length - 0) ?_ ?_
          · exact ⟨0, (fun iU9 => lk [(0, .slice A n c), (2, .bool false), (3, .pointer (some ⟨b27, 0, none⟩)), (4, .slice A44 ((NetworkParts_v0 m13 ps17).length) d45), (5, .bool true), (6, .slice A58 ((NetworkParts_v0 m13 ps17).length) d59), (7, .bool true), (8, .int .i64 0), (9, .int .i64 0), (24, .bool false), (45, .bool false)] iU9 (U82 iU9)), (by kernel_rfl), rfl, (Nat.zero_le _), x38, rd79, rd80, rd78, c77⟩
          rintro am0 aa0 wl0 K13 h13 ⟨i, U0, rfl, rfl, hi, x38, kl0_0, kl0_1, kl0_2, c83⟩
          refine wp_seq_k (fun K14 h14 => ?_)
          refine wp_seq_k (fun K15 h15 => ?_)
          refine W.region_quiet [(0, false), (1, false), (2, false), (3, false)] (by kernel_rfl) ?_
          refine F.mv (v := .int .i64 ((i : Nat) : Int)) (h := ?_)
          refine F.mv (v := .slice A44 ((NetworkParts_v0 m13 ps17).length) d45) (h := ?_)
          refine F.q (v := .int .i64 (((NetworkParts_v0 m13 ps17).length : Nat) : Int)) (hr := (r_len (A := A44) (n := (NetworkParts_v0 m13 ps17).length) (c := d45) rfl (ev_any (by kernel_rfl)) (by kernel_rfl))) (h := ?_)
          by_cases q84 : (((i : Nat) : Int) : Int) < ((((NetworkParts_v0 m13 ps17).length : Nat) : Int) : Int)
          · refine F.q (v := .bool true) (hr := (r_lss (m := ((i : Nat) : Int)) (n := (((NetworkParts_v0 m13 ps17).length : Nat) : Int)) rfl (ev_any (by kernel_rfl)) (ev_any (by kernel_rfl)) (decide_eq_true q84))) (h := ?_)
            refine F.endF [(0, .slice A n c), (2, .bool false), (3, .pointer (some ⟨b27, 0, none⟩)), (4, .slice A44 ((NetworkParts_v0 m13 ps17).length) d45), (5, .bool true), (6, .slice A58 ((NetworkParts_v0 m13 ps17).length) d59), (7, .bool true), (8, .int .i64 (((lensOf ((NetworkParts_v0 m13 ps17).take i)) : Nat) : Int)), (9, .int .i64 ((i : Nat) : Int)), (24, .bool false), (45, .bool false), (49, .bool true)] (fun U85 => ?_)
            refine h15 _ _ ?_
            refine wp_cond_true (by kernel_rfl) ?_
            refine wp_skip ?_
            refine h14 _ _ ?_
            refine wp_seq_k (fun K16 h16 => ?_)
            refine wp_block ?_
            refine wp_seq_k (fun K17 h17 => ?_)
            refine W.region_quiet [(0, false), (1, false), (2, false), (3, false), (4, false), (5, false), (6, false), (7, false)] (by kernel_rfl) ?_
            refine F.mv (v := .int .i64 (((lensOf ((NetworkParts_v0 m13 ps17).take i)) : Nat) : Int)) (h := ?_)
            refine F.mv (v := .slice A44 ((NetworkParts_v0 m13 ps17).length) d45) (h := ?_)
            refine F.mv (v := .int .i64 ((i : Nat) : Int)) (h := ?_)
            obtain ⟨tv86, tz87, hv88, hz89⟩ := RdT.at kl0_0 (i := i) (by omega)
            obtain ⟨b90, o91, hA92, hb93, hc94⟩ := Rd.elSv (kl0_0).out hv88
            have rd95 := (kl0_0).inn _ _ _ hv88 hz89
            have hl96 := rd_ints_len rd95
            refine F.q (v := .pointer (some ⟨b90, o91 + i, none⟩)) (hr := (r_idx1 (n := (NetworkParts_v0 m13 ps17).length) (c := d45) (k := i) rfl (ev_any (by kernel_rfl)) hA92 (by kernel_rfl) (by kernel_rfl) (by omega))) (h := ?_)
            refine F.ld (v := .slice tv86.A tv86.n tv86.c) (hc := (eqS hc94)) (h := ?_)
            refine F.q (v := .int .i64 ((tv86.n : Nat) : Int)) (hr := (r_len (A := tv86.A) (n := tv86.n) (c := tv86.c) rfl (ev_any (by kernel_rfl)) (by kernel_rfl))) (h := ?_)
            have hpb := parts_bd m13 ps17 (i + 1)
            have hlt9 := lensOf_take hz89
            have hrl9 := rd_ints_len ((kl0_0).inn _ _ _ hv88 hz89)
            refine F.q (v := .int .i64 (((lensOf ((NetworkParts_v0 m13 ps17).take (i + 1))) : Nat) : Int)) (hr := (r_add (m := (((lensOf ((NetworkParts_v0 m13 ps17).take i)) : Nat) : Int)) (n := ((tv86.n : Nat) : Int)) (z := (((lensOf ((NetworkParts_v0 m13 ps17).take (i + 1))) : Nat) : Int)) rfl (ev_any (by kernel_rfl)) (ev_any (by kernel_rfl)) (by rw [hlt9]; omega) (by omega))) (h := ?_)
            refine F.as (v := .int .i64 (((lensOf ((NetworkParts_v0 m13 ps17).take (i + 1))) : Nat) : Int)) (h := ?_)
            refine F.endF [(0, .slice A n c), (2, .bool false), (3, .pointer (some ⟨b27, 0, none⟩)), (4, .slice A44 ((NetworkParts_v0 m13 ps17).length) d45), (5, .bool true), (6, .slice A58 ((NetworkParts_v0 m13 ps17).length) d59), (7, .bool true), (8, .int .i64 (((lensOf ((NetworkParts_v0 m13 ps17).take (i + 1))) : Nat) : Int)), (9, .int .i64 ((i : Nat) : Int)), (24, .bool false), (45, .bool false), (49, .bool true)] (fun U98 => ?_)
            refine h17 _ _ ?_
            refine wp_seq_k (fun K18 h18 => ?_)
            refine W.region_quiet [(0, false)] (by kernel_rfl) ?_
            refine F.as (v := .int .i64 0) (h := ?_)
            refine F.endF [(0, .slice A n c), (2, .bool false), (3, .pointer (some ⟨b27, 0, none⟩)), (4, .slice A44 ((NetworkParts_v0 m13 ps17).length) d45), (5, .bool true), (6, .slice A58 ((NetworkParts_v0 m13 ps17).length) d59), (7, .bool true), (8, .int .i64 (((lensOf ((NetworkParts_v0 m13 ps17).take (i + 1))) : Nat) : Int)), (9, .int .i64 ((i : Nat) : Int)), (10, .int .i64 0), (24, .bool false), (45, .bool false), (49, .bool true)] (fun U99 => ?_)
            refine h18 _ _ ?_
            refine wp_block ?_
            refine loopK (fun am1 aa1 wl1 => ∃ (k : Nat) (U1 : Nat → Value), aa1 = ⟨(fr U1 [(0, .slice A n c), (2, .bool false), (3, .pointer (some ⟨b27, 0, none⟩)), (4, .slice A44 ((NetworkParts_v0 m13 ps17).length) d45), (5, .bool true), (6, .slice A58 ((NetworkParts_v0 m13 ps17).length) d59), (7, .bool true), (8, .int .i64 (((lensOf ((NetworkParts_v0 m13 ps17).take (i + 1))) : Nat) : Int)), (9, .int .i64 ((i : Nat) : Int)), (10, .int .i64 ((k : Nat) : Int)), (24, .bool false), (45, .bool false), (49, .bool true)] 144 0).toArray, []⟩ ∧ (am1 = tv86.n - k) ∧ (k ≤ tv86.n) ∧ (wl1.heap[b27]? = some (.cells #[.int .i64 m13, .slice A14 n15 c16] 31 (0, 0))) ∧ (RdT wl1 A44 ((NetworkParts_v0 m13 ps17).length) vs46 (NetworkParts_v0 m13 ps17)) ∧ (RdT wl1 A58 ((NetworkParts_v0 m13 ps17).length) vs60 (NetworkParts_v0 m13 ps17)) ∧ (Rd wl1 4 A14 n15 (pipesV ps17)) ∧ (Below w.heap.size w wl1)) (tv86.n - 0) ?_ ?_
            · exact ⟨0, (fun iU9 => lk [(0, .slice A n c), (2, .bool false), (3, .pointer (some ⟨b27, 0, none⟩)), (4, .slice A44 ((NetworkParts_v0 m13 ps17).length) d45), (5, .bool true), (6, .slice A58 ((NetworkParts_v0 m13 ps17).length) d59), (7, .bool true), (8, .int .i64 (((lensOf ((NetworkParts_v0 m13 ps17).take (i + 1))) : Nat) : Int)), (9, .int .i64 ((i : Nat) : Int)), (10, .int .i64 0), (24, .bool false), (45, .bool false), (49, .bool true)] iU9 (U99 iU9)), (by kernel_rfl), rfl, (Nat.zero_le _), x38, kl0_0, kl0_1, kl0_2, c83⟩
            rintro am1 aa1 wl1 K19 h19 ⟨k, U1, rfl, rfl, hk, x38, kl1_0, kl1_1, kl1_2, c100⟩
            refine wp_seq_k (fun K20 h20 => ?_)
            refine wp_seq_k (fun K21 h21 => ?_)
            refine W.region_quiet [(0, false), (1, false), (2, false), (3, false), (4, false), (5, false), (6, false)] (by kernel_rfl) ?_
            refine F.mv (v := .int .i64 ((k : Nat) : Int)) (h := ?_)
            refine F.mv (v := .slice A44 ((NetworkParts_v0 m13 ps17).length) d45) (h := ?_)
            refine F.mv (v := .int .i64 ((i : Nat) : Int)) (h := ?_)
            obtain ⟨b101, o102, hA103, hb104, hc105⟩ := Rd.elSv (kl1_0).out hv88
            have rd106 := (kl1_0).inn _ _ _ hv88 hz89
            have hl107 := rd_ints_len rd106
            refine F.q (v := .pointer (some ⟨b101, o102 + i, none⟩)) (hr := (r_idx1 (n := (NetworkParts_v0 m13 ps17).length) (c := d45) (k := i) rfl (ev_any (by kernel_rfl)) hA103 (by kernel_rfl) (by kernel_rfl) (by omega))) (h := ?_)
            refine F.ld (v := .slice tv86.A tv86.n tv86.c) (hc := (eqS hc105)) (h := ?_)
            refine F.q (v := .int .i64 ((tv86.n : Nat) : Int)) (hr := (r_len (A := tv86.A) (n := tv86.n) (c := tv86.c) rfl (ev_any (by kernel_rfl)) (by kernel_rfl))) (h := ?_)
            by_cases q109 : (((k : Nat) : Int) : Int) < (((tv86.n : Nat) : Int) : Int)
            · refine F.q (v := .bool true) (hr := (r_lss (m := ((k : Nat) : Int)) (n := ((tv86.n : Nat) : Int)) rfl (ev_any (by kernel_rfl)) (ev_any (by kernel_rfl)) (decide_eq_true q109))) (h := ?_)
              refine F.endF [(0, .slice A n c), (2, .bool false), (3, .pointer (some ⟨b27, 0, none⟩)), (4, .slice A44 ((NetworkParts_v0 m13 ps17).length) d45), (5, .bool true), (6, .slice A58 ((NetworkParts_v0 m13 ps17).length) d59), (7, .bool true), (8, .int .i64 (((lensOf ((NetworkParts_v0 m13 ps17).take (i + 1))) : Nat) : Int)), (9, .int .i64 ((i : Nat) : Int)), (10, .int .i64 ((k : Nat) : Int)), (24, .bool false), (45, .bool false), (49, .bool true), (65, .bool true)] (fun U110 => ?_)
              refine h21 _ _ ?_
              as_aux_lemma =>
                refine wp_cond_true (by kernel_rfl) ?_
                refine wp_skip ?_
                refine h20 _ _ ?_
                refine wp_seq_k (fun K22 h22 => ?_)
                refine wp_block ?_
                refine wp_seq_k (fun K23 h23 => ?_)
                refine W.region_sch (row := none) (Sch.of [(0, false), (1, false), (2, false), (3, false), (4, false), (5, false), (6, false), (7, false), (8, true), (9, false), (10, false), (11, false), (12, false), (13, false)]) (by kernel_rfl) (by kernel_rfl) (fun _ d _ _ _ h => by cases d <;> exact h) (by kernel_rfl) (fun w111 e112 s113 => ?_)
                refine F.q (v := .agg #[.int .i64 m13, .slice A14 n15 c16]) (hr := (r_load2 rfl (ev_any (by kernel_rfl)) (by kernel_rfl) (by kernel_rfl) (sgS (blk_cell (j := 0) x38 (by kernel_rfl)) (Option.some_ne_none _)) (sgS (blk_cell (j := 1) x38 (by kernel_rfl)) (Option.some_ne_none _)))) (h := ?_)
                refine F.mv (v := .slice A44 ((NetworkParts_v0 m13 ps17).length) d45) (h := ?_)
                refine F.mv (v := .int .i64 ((i : Nat) : Int)) (h := ?_)
                obtain ⟨b114, o115, hA116, hb117, hc118⟩ := Rd.elSv (kl1_0).out hv88
                have rd119 := (kl1_0).inn _ _ _ hv88 hz89
                have hl120 := rd_ints_len rd119
                refine F.q (v := .pointer (some ⟨b114, o115 + i, none⟩)) (hr := (r_idx1 (n := (NetworkParts_v0 m13 ps17).length) (c := d45) (k := i) rfl (ev_any (by kernel_rfl)) hA116 (by kernel_rfl) (by kernel_rfl) (by omega))) (h := ?_)
                refine F.ld (v := .slice tv86.A tv86.n tv86.c) (hc := (sgS hc118 (by simp))) (h := ?_)
                refine F.mv (v := .int .i64 ((k : Nat) : Int)) (h := ?_)
                obtain ⟨x122, hx123⟩ := get_of (zs := tz87) (k := k) (by have := hl120; omega)
                obtain ⟨b124, o125, hA126, hb127, hc128⟩ := Rd.elInt rd119 hx123
                refine F.q (v := .pointer (some ⟨b124, o125 + k, none⟩)) (hr := (r_idx1 (n := tv86.n) (c := tv86.c) (k := k) rfl (ev_any (by kernel_rfl)) hA126 (by kernel_rfl) (by kernel_rfl) (by have := hl120; omega))) (h := ?_)
                refine F.ld (v := .int .i64 x122) (hc := (sgS hc128 (by simp))) (h := ?_)
                have hpf := parts_fact hz89 hx123
                have hc129 := ReachedFrom_impl m13 A14 n15 c16 ps17 x122 w111 (Rd.kept kl1_2 (SG.below s113)) (by omega)
                rw [hpf.1, hpf.2] at hc129
                refine W.sc (vs := [.agg #[.int .i64 m13, .slice A14 n15 c16], .int .i64 x122]) rfl rfl (by kernel_rfl) (by kernel_rfl) (by kernel_rfl) rfl (hc129) ?_
                rintro e w138 ⟨A130, d131, rfl, r132, b137⟩
                have s139 := SG.of_below s113 b137
                refine ⟨_, rfl, s139, ?_⟩
                refine F.nx ?_
                have rd133 := own_rd r132
                have fm134 := own_fm r132
                have hl135 : tz87.length = tz87.length := rfl
                refine F.mv (v := .tuple #[.slice A130 tz87.length d131, .bool true]) (h := ?_)
                refine F.q (v := .slice A130 tz87.length d131) (hr := (r_extract (vs := #[.slice A130 tz87.length d131, .bool true]) rfl (ev_any (by kernel_rfl)) (by kernel_rfl))) (h := ?_)
                refine F.q (v := .bool true) (hr := (r_extract (vs := #[.slice A130 tz87.length d131, .bool true]) rfl (ev_any (by kernel_rfl)) (by kernel_rfl))) (h := ?_)
                refine F.as (v := .slice A130 tz87.length d131) (h := ?_)
                refine F.as (v := .bool true) (h := ?_)
                refine F.endF [(0, .slice A n c), (2, .bool false), (3, .pointer (some ⟨b27, 0, none⟩)), (4, .slice A44 ((NetworkParts_v0 m13 ps17).length) d45), (5, .bool true), (6, .slice A58 ((NetworkParts_v0 m13 ps17).length) d59), (7, .bool true), (8, .int .i64 (((lensOf ((NetworkParts_v0 m13 ps17).take (i + 1))) : Nat) : Int)), (9, .int .i64 ((i : Nat) : Int)), (10, .int .i64 ((k : Nat) : Int)), (11, .slice A130 tz87.length d131), (12, .bool true), (24, .bool false), (45, .bool false), (49, .bool true), (65, .bool true)] (fun U140 => ?_)
                have x38 := SG.blk s139 x38 (Option.some_ne_none _)
                have c141 := (SG.belowR c100 s139 (fun kq e => by cases e))
                have rd142 := Rd.kept kl1_2 (SG.below s139)
                have rd143 := RdT.kept kl1_0 (SG.below s139)
                have rd144 := RdT.kept kl1_1 (SG.below s139)
                have rd145 := Rd.kept rd106 (SG.below s139)
                have rd146 := Rd.kept rd119 (SG.below s139)
                refine h23 _ _ ?_
                refine wp_seq_k (fun K24 h24 => ?_)
                refine W.region_plain (row := none) [(0, false), (1, false), (2, false), (3, false), (4, false), (5, false), (6, false), (7, false), (8, true), (9, false), (10, false)] (by kernel_rfl) ?_
                have s147 := SG.self w138 none
                refine F.mv (v := .bool true) (h := ?_)
                refine F.q (v := .bool false) (hr := (r_not (b := true) rfl (ev_any (by kernel_rfl)) rfl)) (h := ?_)
                refine F.mv (v := .bool false) (h := ?_)
                refine F.mv (v := .slice A130 tz87.length d131) (h := ?_)
                refine F.mv (v := .slice A44 ((NetworkParts_v0 m13 ps17).length) d45) (h := ?_)
                refine F.mv (v := .int .i64 ((i : Nat) : Int)) (h := ?_)
                obtain ⟨b148, o149, hA150, hb151, hc152⟩ := Rd.elSv (rd143).out hv88
                have rd153 := (rd143).inn _ _ _ hv88 hz89
                have hl154 := rd_ints_len rd153
                refine F.q (v := .pointer (some ⟨b148, o149 + i, none⟩)) (hr := (r_idx1 (n := (NetworkParts_v0 m13 ps17).length) (c := d45) (k := i) rfl (ev_any (by kernel_rfl)) hA150 (by kernel_rfl) (by kernel_rfl) (by omega))) (h := ?_)
                refine F.ld (v := .slice tv86.A tv86.n tv86.c) (hc := (sgS hc152 (by simp))) (h := ?_)
                refine W.sc (vs := [.slice A130 tz87.length d131, .slice tv86.A tv86.n tv86.c]) rfl rfl (by kernel_rfl) (by kernel_rfl) (by kernel_rfl) rfl (vInts_same2 A130 tv86.A tz87.length tv86.n d131 tv86.c tz87 _ (Rd.kept rd133 (SG.below s147)) (Rd.kept rd153 (SG.below s147)) (by omega)) ?_
                rintro e w157 ⟨rfl, b156⟩
                have s158 := SG.of_below s147 b156
                refine ⟨_, rfl, s158, ?_⟩
                refine F.nx ?_
                refine F.q (v := .bool false) (hr := (r_not (b := true) rfl (ev_any (by kernel_rfl)) rfl)) (h := ?_)
                refine F.q (v := .bool false) (hr := (r_pick (b := false) rfl (ev_any (by kernel_rfl)) (ev_any (by kernel_rfl)))) (h := ?_)
                refine F.endF [(0, .slice A n c), (2, .bool false), (3, .pointer (some ⟨b27, 0, none⟩)), (4, .slice A44 ((NetworkParts_v0 m13 ps17).length) d45), (5, .bool true), (6, .slice A58 ((NetworkParts_v0 m13 ps17).length) d59), (7, .bool true), (8, .int .i64 (((lensOf ((NetworkParts_v0 m13 ps17).take (i + 1))) : Nat) : Int)), (9, .int .i64 ((i : Nat) : Int)), (10, .int .i64 ((k : Nat) : Int)), (11, .slice A130 tz87.length d131), (12, .bool true), (24, .bool false), (45, .bool false), (49, .bool true), (65, .bool true), (90, .bool false)] (fun U159 => ?_)
                have x38 := SG.blk s158 x38 (Option.some_ne_none _)
                have c160 := (SG.belowR c141 s158 (fun kq e => by cases e))
                have rd161 := Rd.kept rd142 (SG.below s158)
                have rd162 := RdT.kept rd143 (SG.below s158)
                have rd163 := RdT.kept rd144 (SG.below s158)
                have rd164 := Rd.kept rd145 (SG.below s158)
                have rd165 := Rd.kept rd146 (SG.below s158)
                have rd166 := Rd.kept rd133 (SG.below s158)
                have rd167 := Rd.kept rd153 (SG.below s158)
                refine h24 _ _ ?_
                as_aux_lemma =>
                  refine wp_cond_false (by kernel_rfl) ?_
                  refine wp_skip ?_
                  refine h22 _ _ ?_
                  refine W.region_quiet [(0, false), (1, false), (2, false)] (by kernel_rfl) ?_
                  refine F.mv (v := .int .i64 ((k : Nat) : Int)) (h := ?_)
                  refine F.q (v := .int .i64 ((k + 1 : Nat) : Int)) (hr := (r_add (m := ((k : Nat) : Int)) (n := 1) (z := ((k + 1 : Nat) : Int)) rfl (ev_any (by kernel_rfl)) (ev_any (by kernel_rfl)) (by omega) (by omega))) (h := ?_)
                  refine F.as (v := .int .i64 ((k + 1 : Nat) : Int)) (h := ?_)
                  refine F.endF [(0, .slice A n c), (2, .bool false), (3, .pointer (some ⟨b27, 0, none⟩)), (4, .slice A44 ((NetworkParts_v0 m13 ps17).length) d45), (5, .bool true), (6, .slice A58 ((NetworkParts_v0 m13 ps17).length) d59), (7, .bool true), (8, .int .i64 (((lensOf ((NetworkParts_v0 m13 ps17).take (i + 1))) : Nat) : Int)), (9, .int .i64 ((i : Nat) : Int)), (10, .int .i64 ((k + 1 : Nat) : Int)), (11, .slice A130 tz87.length d131), (12, .bool true), (24, .bool false), (45, .bool false), (49, .bool true), (65, .bool true), (90, .bool false)] (fun U168 => ?_)
                  exact h19 _ _ _ (by omega : (tv86.n - (k + 1)) < _) ⟨k + 1, (fun iU9 => lk [(0, .slice A n c), (2, .bool false), (3, .pointer (some ⟨b27, 0, none⟩)), (4, .slice A44 ((NetworkParts_v0 m13 ps17).length) d45), (5, .bool true), (6, .slice A58 ((NetworkParts_v0 m13 ps17).length) d59), (7, .bool true), (8, .int .i64 (((lensOf ((NetworkParts_v0 m13 ps17).take (i + 1))) : Nat) : Int)), (9, .int .i64 ((i : Nat) : Int)), (10, .int .i64 ((k + 1 : Nat) : Int)), (11, .slice A130 tz87.length d131), (12, .bool true), (24, .bool false), (45, .bool false), (49, .bool true), (65, .bool true), (90, .bool false)] iU9 (U168 iU9)), (by kernel_rfl), rfl, (by omega), x38, rd162, rd163, rd161, c160⟩
            · refine F.q (v := .bool false) (hr := (r_lss (m := ((k : Nat) : Int)) (n := ((tv86.n : Nat) : Int)) rfl (ev_any (by kernel_rfl)) (ev_any (by kernel_rfl)) (decide_eq_false q109))) (h := ?_)
              refine F.endF [(0, .slice A n c), (2, .bool false), (3, .pointer (some ⟨b27, 0, none⟩)), (4, .slice A44 ((NetworkParts_v0 m13 ps17).length) d45), (5, .bool true), (6, .slice A58 ((NetworkParts_v0 m13 ps17).length) d59), (7, .bool true), (8, .int .i64 (((lensOf ((NetworkParts_v0 m13 ps17).take (i + 1))) : Nat) : Int)), (9, .int .i64 ((i : Nat) : Int)), (10, .int .i64 ((k : Nat) : Int)), (24, .bool false), (45, .bool false), (49, .bool true), (65, .bool false)] (fun U169 => ?_)
              refine h21 _ _ ?_
              refine wp_cond_false (by kernel_rfl) ?_
              refine wp_exit ?_
              refine h16 _ _ ?_
              refine W.region_quiet [(0, false), (1, false), (2, false)] (by kernel_rfl) ?_
              refine F.mv (v := .int .i64 ((i : Nat) : Int)) (h := ?_)
              refine F.q (v := .int .i64 ((i + 1 : Nat) : Int)) (hr := (r_add (m := ((i : Nat) : Int)) (n := 1) (z := ((i + 1 : Nat) : Int)) rfl (ev_any (by kernel_rfl)) (ev_any (by kernel_rfl)) (by omega) (by omega))) (h := ?_)
              refine F.as (v := .int .i64 ((i + 1 : Nat) : Int)) (h := ?_)
              refine F.endF [(0, .slice A n c), (2, .bool false), (3, .pointer (some ⟨b27, 0, none⟩)), (4, .slice A44 ((NetworkParts_v0 m13 ps17).length) d45), (5, .bool true), (6, .slice A58 ((NetworkParts_v0 m13 ps17).length) d59), (7, .bool true), (8, .int .i64 (((lensOf ((NetworkParts_v0 m13 ps17).take (i + 1))) : Nat) : Int)), (9, .int .i64 ((i + 1 : Nat) : Int)), (10, .int .i64 ((k : Nat) : Int)), (24, .bool false), (45, .bool false), (49, .bool true), (65, .bool false)] (fun U170 => ?_)
              exact h13 _ _ _ (by omega : ((NetworkParts_v0 m13 ps17).length - (i + 1)) < _) ⟨i + 1, (fun iU9 => lk [(0, .slice A n c), (2, .bool false), (3, .pointer (some ⟨b27, 0, none⟩)), (4, .slice A44 ((NetworkParts_v0 m13 ps17).length) d45), (5, .bool true), (6, .slice A58 ((NetworkParts_v0 m13 ps17).length) d59), (7, .bool true), (8, .int .i64 (((lensOf ((NetworkParts_v0 m13 ps17).take (i + 1))) : Nat) : Int)), (9, .int .i64 ((i + 1 : Nat) : Int)), (10, .int .i64 ((k : Nat) : Int)), (24, .bool false), (45, .bool false), (49, .bool true), (65, .bool false)] iU9 (U170 iU9)), (by kernel_rfl), rfl, (by omega), x38, kl1_0, kl1_1, kl1_2, c100⟩
          · refine F.q (v := .bool false) (hr := (r_lss (m := ((i : Nat) : Int)) (n := (((NetworkParts_v0 m13 ps17).length : Nat) : Int)) rfl (ev_any (by kernel_rfl)) (ev_any (by kernel_rfl)) (decide_eq_false q84))) (h := ?_)
            refine F.endF [(0, .slice A n c), (2, .bool false), (3, .pointer (some ⟨b27, 0, none⟩)), (4, .slice A44 ((NetworkParts_v0 m13 ps17).length) d45), (5, .bool true), (6, .slice A58 ((NetworkParts_v0 m13 ps17).length) d59), (7, .bool true), (8, .int .i64 (((lensOf ((NetworkParts_v0 m13 ps17).take i)) : Nat) : Int)), (9, .int .i64 ((i : Nat) : Int)), (24, .bool false), (45, .bool false), (49, .bool false)] (fun U171 => ?_)
            refine h15 _ _ ?_
            refine wp_cond_false (by kernel_rfl) ?_
            refine wp_exit ?_
            refine h11 _ _ ?_
            refine wp_seq_k (fun K25 h25 => ?_)
            refine wp_seq_k (fun K26 h26 => ?_)
            refine W.region_quiet [(0, false), (1, false), (2, false), (3, false), (4, false), (5, false), (6, false)] (by kernel_rfl) ?_
            refine F.mv (v := .bool true) (h := ?_)
            refine F.mv (v := .bool true) (h := ?_)
            refine F.mv (v := .int .i64 (((lensOf ((NetworkParts_v0 m13 ps17).take i)) : Nat) : Int)) (h := ?_)
            refine F.q (v := .pointer (some ⟨b27, 0, none⟩)) (hr := (r_field0 rfl (ev_any (by kernel_rfl)) (by kernel_rfl))) (h := ?_)
            refine F.ld (v := .int .i64 m13) (hc := (eqS (blk_cell (j := 0) x38 (by kernel_rfl)))) (h := ?_)
            refine F.q (v := .bool false) (hr := (r_neq (m := (((lensOf ((NetworkParts_v0 m13 ps17).take i)) : Nat) : Int)) (n := m13) rfl (ev_any (by kernel_rfl)) (ev_any (by kernel_rfl)) (decide_eq_false (by rw [List.take_of_length_le (by omega), parts_sum (show goodN _ _ = true from q53)]; exact fun h9 => h9 rfl)))) (h := ?_)
            refine F.q (v := .bool false) (hr := (r_pick (b := true) rfl (ev_any (by kernel_rfl)) (ev_any (by kernel_rfl)))) (h := ?_)
            refine F.endF [(0, .slice A n c), (2, .bool false), (3, .pointer (some ⟨b27, 0, none⟩)), (4, .slice A44 ((NetworkParts_v0 m13 ps17).length) d45), (5, .bool true), (6, .slice A58 ((NetworkParts_v0 m13 ps17).length) d59), (7, .bool true), (8, .int .i64 (((lensOf ((NetworkParts_v0 m13 ps17).take i)) : Nat) : Int)), (9, .int .i64 ((i : Nat) : Int)), (24, .bool false), (45, .bool false), (49, .bool false), (97, .bool false)] (fun U172 => ?_)
            refine h26 _ _ ?_
            refine wp_cond_false (by kernel_rfl) ?_
            refine wp_skip ?_
            refine h25 _ _ ?_
            refine wp_seq_k (fun K27 h27 => ?_)
            refine W.region_plain (row := none) [(0, false), (1, true), (2, false), (3, false), (4, false), (5, true), (6, true), (7, false)] (by kernel_rfl) ?_
            have s173 := SG.self wl0 none
            refine F.mv (v := .slice A n c) (h := ?_)
            refine W.sc (vs := [.slice A n c]) rfl rfl (by kernel_rfl) (by kernel_rfl) (by kernel_rfl) rfl (DrawPipesAt_any A n c zs _ (Rd.kept hcode (SG.belowR c83 s173 (fun kq e => by cases e))) hz (by have h9 := of_decide_eq_false q6; omega)) ?_
            rintro e w187 ⟨m174, A175, n176, c177, ps178, x185, rfl, ho179, hsm180, b186⟩
            have s188 := SG.of_below s173 b186
            refine ⟨_, rfl, s188, ?_⟩
            refine F.nx ?_
            have rd181 := own_rd ho179
            have fm182 := own_fm ho179
            have hl183 := rd_pipes_len rd181
            have hsm180n := hsm180.2.1
            refine F.mv (v := .tuple #[.agg #[.int .i64 m174, .slice A175 n176 c177], .int .i64 x185]) (h := ?_)
            refine F.q (v := .agg #[.int .i64 m174, .slice A175 n176 c177]) (hr := (r_extract (vs := #[.agg #[.int .i64 m174, .slice A175 n176 c177], .int .i64 x185]) rfl (ev_any (by kernel_rfl)) (by kernel_rfl))) (h := ?_)
            refine F.q (v := .int .i64 x185) (hr := (r_extract (vs := #[.agg #[.int .i64 m174, .slice A175 n176 c177], .int .i64 x185]) rfl (ev_any (by kernel_rfl)) (by kernel_rfl))) (h := ?_)
            refine W.sn (fun b => .pointer (some ⟨b, 0, none⟩)) #[.int .i64 0, .slice none 0 0] 31 s188 rfl (by kernel_rfl) rfl (fun _ => by kernel_rfl) (fun b189 w190 hb191 k192 x193 s194 => ?_)
            refine F.nx ?_
            have lo195 : w.heap.size ≤ b189 := Nat.le_trans ((SG.belowR c83 s188 (fun kq e => by cases e))).size (Nat.le_of_eq hb191)
            have sp196 : Sp A44 ((NetworkParts_v0 m13 ps17).length) (some b189) := sp_new (kl0_0).out (by have := (s188).size; have := hb191; omega)
            have sp197 : Sp A58 ((NetworkParts_v0 m13 ps17).length) (some b189) := sp_new (kl0_1).out (by have := (s188).size; have := hb191; omega)
            have sp198 : Sp A175 n176 (some b189) := sp_new rd181 (by have := hb191; omega)
            have sp199 : Sp A14 n15 (some b189) := sp_new kl0_2 (by have := (s188).size; have := hb191; omega)
            have ne200 : b27 ≠ b189 := Nat.ne_of_lt (Nat.lt_of_lt_of_eq (Nat.lt_of_lt_of_le (blk_lt x38) (s188).size) hb191)
            have rd201 := Rd.kept rd181 k192
            refine W.ss (v := .agg #[.int .i64 m174, .slice A175 n176 c177]) (j := 0) (news := [.int .i64 m174, .slice A175 n176 c177]) (cs' := #[.int .i64 m174, .slice A175 n176 c177]) s194 rfl (by kernel_rfl) rfl rfl (by kernel_rfl) (by kernel_rfl) x193 (by kernel_rfl) (by kernel_rfl) (by simp) (by kernel_rfl) (by kernel_rfl) (.inr (Nat.le_trans (s188).size (Nat.le_of_eq hb191))) (fun w202 g203 x204 s205 => ?_)
            have rd206 := rd_sepG rd201 g203 sp198
            refine F.as (v := .int .i64 x185) (h := ?_)
            refine F.endF [(0, .slice A n c), (2, .bool false), (3, .pointer (some ⟨b27, 0, none⟩)), (4, .slice A44 ((NetworkParts_v0 m13 ps17).length) d45), (5, .bool true), (6, .slice A58 ((NetworkParts_v0 m13 ps17).length) d59), (7, .bool true), (8, .int .i64 (((lensOf ((NetworkParts_v0 m13 ps17).take i)) : Nat) : Int)), (9, .int .i64 ((i : Nat) : Int)), (13, .pointer (some ⟨b189, 0, none⟩)), (14, .int .i64 x185), (24, .bool false), (45, .bool false), (49, .bool false), (97, .bool false)] (fun U207 => ?_)
            have x38 := SG.blk s205 x38 (Option.some_ne_none _)
            have c208 := (SG.belowR c83 s205 (fun kq e => by cases e))
            have rd209 := Rd.kept kl0_2 (SG.below s205)
            have rd210 := RdT.kept kl0_0 (SG.below s205)
            have rd211 := RdT.kept kl0_1 (SG.below s205)
            refine h27 _ _ ?_
            as_aux_lemma =>
              refine wp_seq_k (fun K28 h28 => ?_)
              refine W.region_plain (row := none) [(0, false), (1, false), (2, true), (3, false), (4, false), (5, false), (6, false), (7, false)] (by kernel_rfl) ?_
              have s212 := SG.self w202 none
              refine F.q (v := .agg #[.int .i64 m174, .slice A175 n176 c177]) (hr := (r_load2 rfl (ev_any (by kernel_rfl)) (by kernel_rfl) (by kernel_rfl) (sgS (blk_cell (j := 0) x204 (by kernel_rfl)) (Option.some_ne_none _)) (sgS (blk_cell (j := 1) x204 (by kernel_rfl)) (Option.some_ne_none _)))) (h := ?_)
              refine F.mv (v := .int .i64 x185) (h := ?_)
              refine W.sc (vs := [.agg #[.int .i64 m174, .slice A175 n176 c177], .int .i64 x185]) rfl rfl (by kernel_rfl) (by kernel_rfl) (by kernel_rfl) rfl (PipesAt_impl m174 A175 n176 c177 ps178 x185 _ (Rd.kept rd206 (SG.below s212)) (by omega)) ?_
              rintro e w221 ⟨A213, d214, rfl, r215, b220⟩
              have s222 := SG.of_below s212 b220
              refine ⟨_, rfl, s222, ?_⟩
              refine F.nx ?_
              have rd216 := own_rd r215
              have fm217 := own_fm r215
              have hl218 : (PipesAt_v0 m174 ps178 x185).length = (PipesAt_v0 m174 ps178 x185).length := rfl
              have hb223 := PipesAt_len m174 ps178 x185
              refine F.mv (v := .tuple #[.slice A213 ((PipesAt_v0 m174 ps178 x185).length) d214, .bool (PipesAt_v1 m174 ps178 x185)]) (h := ?_)
              refine F.q (v := .slice A213 ((PipesAt_v0 m174 ps178 x185).length) d214) (hr := (r_extract (vs := #[.slice A213 ((PipesAt_v0 m174 ps178 x185).length) d214, .bool (PipesAt_v1 m174 ps178 x185)]) rfl (ev_any (by kernel_rfl)) (by kernel_rfl))) (h := ?_)
              refine F.q (v := .bool (PipesAt_v1 m174 ps178 x185)) (hr := (r_extract (vs := #[.slice A213 ((PipesAt_v0 m174 ps178 x185).length) d214, .bool (PipesAt_v1 m174 ps178 x185)]) rfl (ev_any (by kernel_rfl)) (by kernel_rfl))) (h := ?_)
              refine F.as (v := .slice A213 ((PipesAt_v0 m174 ps178 x185).length) d214) (h := ?_)
              refine F.as (v := .bool (PipesAt_v1 m174 ps178 x185)) (h := ?_)
              refine F.endF [(0, .slice A n c), (2, .bool false), (3, .pointer (some ⟨b27, 0, none⟩)), (4, .slice A44 ((NetworkParts_v0 m13 ps17).length) d45), (5, .bool true), (6, .slice A58 ((NetworkParts_v0 m13 ps17).length) d59), (7, .bool true), (8, .int .i64 (((lensOf ((NetworkParts_v0 m13 ps17).take i)) : Nat) : Int)), (9, .int .i64 ((i : Nat) : Int)), (13, .pointer (some ⟨b189, 0, none⟩)), (14, .int .i64 x185), (15, .slice A213 ((PipesAt_v0 m174 ps178 x185).length) d214), (16, .bool (PipesAt_v1 m174 ps178 x185)), (24, .bool false), (45, .bool false), (49, .bool false), (97, .bool false)] (fun U224 => ?_)
              have x38 := SG.blk s222 x38 (Option.some_ne_none _)
              have x204 := SG.blk s222 x204 (Option.some_ne_none _)
              have c225 := (SG.belowR c208 s222 (fun kq e => by cases e))
              have rd226 := Rd.kept rd209 (SG.below s222)
              have rd227 := RdT.kept rd210 (SG.below s222)
              have rd228 := RdT.kept rd211 (SG.below s222)
              have rd229 := Rd.kept rd206 (SG.below s222)
              refine h28 _ _ ?_
              refine wp_seq_k (fun K29 h29 => ?_)
              refine wp_seq_k (fun K30 h30 => ?_)
              refine W.region_plain (row := none) [(0, false), (1, false), (2, true), (3, false), (4, false), (5, false), (6, false), (7, false)] (by kernel_rfl) ?_
              have s230 := SG.self w221 none
              refine F.q (v := .agg #[.int .i64 m174, .slice A175 n176 c177]) (hr := (r_load2 rfl (ev_any (by kernel_rfl)) (by kernel_rfl) (by kernel_rfl) (sgS (blk_cell (j := 0) x204 (by kernel_rfl)) (Option.some_ne_none _)) (sgS (blk_cell (j := 1) x204 (by kernel_rfl)) (Option.some_ne_none _)))) (h := ?_)
              refine F.mv (v := .int .i64 x185) (h := ?_)
              refine W.sc (vs := [.agg #[.int .i64 m174, .slice A175 n176 c177], .int .i64 x185]) rfl rfl (by kernel_rfl) (by kernel_rfl) (by kernel_rfl) rfl (PipesAt_spec m174 A175 n176 c177 ps178 x185 _ (Rd.kept rd229 (SG.below s230)) (by omega)) ?_
              rintro e w239 ⟨A231, d232, rfl, r233, b238⟩
              have s240 := SG.of_below s230 b238
              refine ⟨_, rfl, s240, ?_⟩
              refine F.nx ?_
              have rd234 := own_rd r233
              have fm235 := own_fm r233
              have hl236 : (PipesAt_v0 m174 ps178 x185).length = (PipesAt_v0 m174 ps178 x185).length := rfl
              have hb241 := PipesAt_len m174 ps178 x185
              refine F.mv (v := .tuple #[.slice A231 ((PipesAt_v0 m174 ps178 x185).length) d232, .bool (PipesAt_v1 m174 ps178 x185)]) (h := ?_)
              refine F.q (v := .slice A231 ((PipesAt_v0 m174 ps178 x185).length) d232) (hr := (r_extract (vs := #[.slice A231 ((PipesAt_v0 m174 ps178 x185).length) d232, .bool (PipesAt_v1 m174 ps178 x185)]) rfl (ev_any (by kernel_rfl)) (by kernel_rfl))) (h := ?_)
              refine F.q (v := .bool (PipesAt_v1 m174 ps178 x185)) (hr := (r_extract (vs := #[.slice A231 ((PipesAt_v0 m174 ps178 x185).length) d232, .bool (PipesAt_v1 m174 ps178 x185)]) rfl (ev_any (by kernel_rfl)) (by kernel_rfl))) (h := ?_)
              refine F.as (v := .slice A231 ((PipesAt_v0 m174 ps178 x185).length) d232) (h := ?_)
              refine F.as (v := .bool (PipesAt_v1 m174 ps178 x185)) (h := ?_)
              refine F.endF [(0, .slice A n c), (2, .bool false), (3, .pointer (some ⟨b27, 0, none⟩)), (4, .slice A44 ((NetworkParts_v0 m13 ps17).length) d45), (5, .bool true), (6, .slice A58 ((NetworkParts_v0 m13 ps17).length) d59), (7, .bool true), (8, .int .i64 (((lensOf ((NetworkParts_v0 m13 ps17).take i)) : Nat) : Int)), (9, .int .i64 ((i : Nat) : Int)), (13, .pointer (some ⟨b189, 0, none⟩)), (14, .int .i64 x185), (15, .slice A213 ((PipesAt_v0 m174 ps178 x185).length) d214), (16, .bool (PipesAt_v1 m174 ps178 x185)), (17, .slice A231 ((PipesAt_v0 m174 ps178 x185).length) d232), (18, .bool (PipesAt_v1 m174 ps178 x185)), (24, .bool false), (45, .bool false), (49, .bool false), (97, .bool false)] (fun U242 => ?_)
              have x38 := SG.blk s240 x38 (Option.some_ne_none _)
              have x204 := SG.blk s240 x204 (Option.some_ne_none _)
              have c243 := (SG.belowR c225 s240 (fun kq e => by cases e))
              have rd244 := Rd.kept rd226 (SG.below s240)
              have rd245 := RdT.kept rd227 (SG.below s240)
              have rd246 := RdT.kept rd228 (SG.below s240)
              have rd247 := Rd.kept rd229 (SG.below s240)
              have rd248 := Rd.kept rd216 (SG.below s240)
              refine h30 _ _ ?_
              refine wp_seq_k (fun K31 h31 => ?_)
              refine W.region_plain (row := none) [(0, false), (1, false), (2, false), (3, false), (4, false), (5, false), (6, true), (7, false), (8, false)] (by kernel_rfl) ?_
              have s249 := SG.self w239 none
              refine F.mv (v := .bool (PipesAt_v1 m174 ps178 x185)) (h := ?_)
              refine F.mv (v := .bool (PipesAt_v1 m174 ps178 x185)) (h := ?_)
              refine F.q (v := .bool false) (hr := (r_neqB (m := (PipesAt_v1 m174 ps178 x185)) (n := (PipesAt_v1 m174 ps178 x185)) rfl (ev_any (by kernel_rfl)) (ev_any (by kernel_rfl)) (by kernel_rfl) (by rw [show ((PipesAt_v1 m174 ps178 x185) == (PipesAt_v1 m174 ps178 x185)) = true from beq_iff_eq.2 rfl]; rfl))) (h := ?_)
              refine F.mv (v := .bool false) (h := ?_)
              refine F.mv (v := .slice A213 ((PipesAt_v0 m174 ps178 x185).length) d214) (h := ?_)
              refine F.mv (v := .slice A231 ((PipesAt_v0 m174 ps178 x185).length) d232) (h := ?_)
              refine W.sc (vs := [.slice A213 ((PipesAt_v0 m174 ps178 x185).length) d214, .slice A231 ((PipesAt_v0 m174 ps178 x185).length) d232]) rfl rfl (by kernel_rfl) (by kernel_rfl) (by kernel_rfl) rfl (vInts_same2 A213 A231 ((PipesAt_v0 m174 ps178 x185).length) ((PipesAt_v0 m174 ps178 x185).length) d214 d232 (PipesAt_v0 m174 ps178 x185) _ (Rd.kept rd248 (SG.below s249)) (Rd.kept rd234 (SG.below s249)) (by omega)) ?_
              rintro e w251 ⟨rfl, b250⟩
              have s252 := SG.of_below s249 b250
              refine ⟨_, rfl, s252, ?_⟩
              refine F.nx ?_
              refine F.q (v := .bool false) (hr := (r_not (b := true) rfl (ev_any (by kernel_rfl)) rfl)) (h := ?_)
              refine F.q (v := .bool false) (hr := (r_pick (b := false) rfl (ev_any (by kernel_rfl)) (ev_any (by kernel_rfl)))) (h := ?_)
              refine F.endF [(0, .slice A n c), (2, .bool false), (3, .pointer (some ⟨b27, 0, none⟩)), (4, .slice A44 ((NetworkParts_v0 m13 ps17).length) d45), (5, .bool true), (6, .slice A58 ((NetworkParts_v0 m13 ps17).length) d59), (7, .bool true), (8, .int .i64 (((lensOf ((NetworkParts_v0 m13 ps17).take i)) : Nat) : Int)), (9, .int .i64 ((i : Nat) : Int)), (13, .pointer (some ⟨b189, 0, none⟩)), (14, .int .i64 x185), (15, .slice A213 ((PipesAt_v0 m174 ps178 x185).length) d214), (16, .bool (PipesAt_v1 m174 ps178 x185)), (17, .slice A231 ((PipesAt_v0 m174 ps178 x185).length) d232), (18, .bool (PipesAt_v1 m174 ps178 x185)), (24, .bool false), (45, .bool false), (49, .bool false), (97, .bool false), (123, .bool false)] (fun U253 => ?_)
              have x38 := SG.blk s252 x38 (Option.some_ne_none _)
              have x204 := SG.blk s252 x204 (Option.some_ne_none _)
              have c254 := (SG.belowR c243 s252 (fun kq e => by cases e))
              have rd255 := Rd.kept rd244 (SG.below s252)
              have rd256 := RdT.kept rd245 (SG.below s252)
              have rd257 := RdT.kept rd246 (SG.below s252)
              have rd258 := Rd.kept rd247 (SG.below s252)
              have rd259 := Rd.kept rd248 (SG.below s252)
              have rd260 := Rd.kept rd234 (SG.below s252)
              refine h31 _ _ ?_
              as_aux_lemma =>
                refine wp_cond_false (by kernel_rfl) ?_
                refine wp_skip ?_
                refine h29 _ _ ?_
                refine wp_seq_k (fun K32 h32 => ?_)
                refine W.region_plain (row := none) [(0, false), (1, false), (2, true), (3, false), (4, false), (5, false), (6, false), (7, false)] (by kernel_rfl) ?_
                have s261 := SG.self w251 none
                refine F.q (v := .agg #[.int .i64 m174, .slice A175 n176 c177]) (hr := (r_load2 rfl (ev_any (by kernel_rfl)) (by kernel_rfl) (by kernel_rfl) (sgS (blk_cell (j := 0) x204 (by kernel_rfl)) (Option.some_ne_none _)) (sgS (blk_cell (j := 1) x204 (by kernel_rfl)) (Option.some_ne_none _)))) (h := ?_)
                refine F.mv (v := .int .i64 x185) (h := ?_)
                refine W.sc (vs := [.agg #[.int .i64 m174, .slice A175 n176 c177], .int .i64 x185]) rfl rfl (by kernel_rfl) (by kernel_rfl) (by kernel_rfl) rfl (ReachedFrom_impl m174 A175 n176 c177 ps178 x185 _ (Rd.kept rd258 (SG.below s261)) (by omega)) ?_
                rintro e w270 ⟨A262, d263, rfl, r264, b269⟩
                have s271 := SG.of_below s261 b269
                refine ⟨_, rfl, s271, ?_⟩
                refine F.nx ?_
                have rd265 := own_rd r264
                have fm266 := own_fm r264
                have hl267 : (ReachedFrom_v0 m174 ps178 x185).length = (ReachedFrom_v0 m174 ps178 x185).length := rfl
                have hb272 := ReachedFrom_len m174 ps178 x185
                refine F.mv (v := .tuple #[.slice A262 ((ReachedFrom_v0 m174 ps178 x185).length) d263, .bool (ReachedFrom_v1 m174 ps178 x185)]) (h := ?_)
                refine F.q (v := .slice A262 ((ReachedFrom_v0 m174 ps178 x185).length) d263) (hr := (r_extract (vs := #[.slice A262 ((ReachedFrom_v0 m174 ps178 x185).length) d263, .bool (ReachedFrom_v1 m174 ps178 x185)]) rfl (ev_any (by kernel_rfl)) (by kernel_rfl))) (h := ?_)
                refine F.q (v := .bool (ReachedFrom_v1 m174 ps178 x185)) (hr := (r_extract (vs := #[.slice A262 ((ReachedFrom_v0 m174 ps178 x185).length) d263, .bool (ReachedFrom_v1 m174 ps178 x185)]) rfl (ev_any (by kernel_rfl)) (by kernel_rfl))) (h := ?_)
                refine F.as (v := .slice A262 ((ReachedFrom_v0 m174 ps178 x185).length) d263) (h := ?_)
                refine F.as (v := .bool (ReachedFrom_v1 m174 ps178 x185)) (h := ?_)
                refine F.endF [(0, .slice A n c), (2, .bool false), (3, .pointer (some ⟨b27, 0, none⟩)), (4, .slice A44 ((NetworkParts_v0 m13 ps17).length) d45), (5, .bool true), (6, .slice A58 ((NetworkParts_v0 m13 ps17).length) d59), (7, .bool true), (8, .int .i64 (((lensOf ((NetworkParts_v0 m13 ps17).take i)) : Nat) : Int)), (9, .int .i64 ((i : Nat) : Int)), (13, .pointer (some ⟨b189, 0, none⟩)), (14, .int .i64 x185), (15, .slice A213 ((PipesAt_v0 m174 ps178 x185).length) d214), (16, .bool (PipesAt_v1 m174 ps178 x185)), (17, .slice A231 ((PipesAt_v0 m174 ps178 x185).length) d232), (18, .bool (PipesAt_v1 m174 ps178 x185)), (19, .slice A262 ((ReachedFrom_v0 m174 ps178 x185).length) d263), (20, .bool (ReachedFrom_v1 m174 ps178 x185)), (24, .bool false), (45, .bool false), (49, .bool false), (97, .bool false), (123, .bool false)] (fun U273 => ?_)
                have x38 := SG.blk s271 x38 (Option.some_ne_none _)
                have x204 := SG.blk s271 x204 (Option.some_ne_none _)
                have c274 := (SG.belowR c254 s271 (fun kq e => by cases e))
                have rd275 := Rd.kept rd255 (SG.below s271)
                have rd276 := RdT.kept rd256 (SG.below s271)
                have rd277 := RdT.kept rd257 (SG.below s271)
                have rd278 := Rd.kept rd258 (SG.below s271)
                have rd279 := Rd.kept rd259 (SG.below s271)
                have rd280 := Rd.kept rd260 (SG.below s271)
                refine h32 _ _ ?_
                refine wp_seq_k (fun K33 h33 => ?_)
                refine W.region_plain (row := none) [(0, false), (1, false), (2, true), (3, false), (4, false), (5, false), (6, false), (7, false)] (by kernel_rfl) ?_
                have s281 := SG.self w270 none
                refine F.q (v := .agg #[.int .i64 m174, .slice A175 n176 c177]) (hr := (r_load2 rfl (ev_any (by kernel_rfl)) (by kernel_rfl) (by kernel_rfl) (sgS (blk_cell (j := 0) x204 (by kernel_rfl)) (Option.some_ne_none _)) (sgS (blk_cell (j := 1) x204 (by kernel_rfl)) (Option.some_ne_none _)))) (h := ?_)
                refine F.mv (v := .int .i64 x185) (h := ?_)
                refine W.sc (vs := [.agg #[.int .i64 m174, .slice A175 n176 c177], .int .i64 x185]) rfl rfl (by kernel_rfl) (by kernel_rfl) (by kernel_rfl) rfl (ReachedFrom_spec m174 A175 n176 c177 ps178 x185 _ (Rd.kept rd278 (SG.below s281)) (by omega)) ?_
                rintro e w290 ⟨A282, d283, rfl, r284, b289⟩
                have s291 := SG.of_below s281 b289
                refine ⟨_, rfl, s291, ?_⟩
                refine F.nx ?_
                have hl287 : (ReachedFrom_v0 m174 ps178 x185).length = (ReachedFrom_v0 m174 ps178 x185).length := rfl
                have hb292 := ReachedFrom_len m174 ps178 x185
                refine F.mv (v := .tuple #[.slice A282 ((ReachedFrom_v0 m174 ps178 x185).length) d283, .bool (ReachedFrom_v1 m174 ps178 x185)]) (h := ?_)
                refine F.q (v := .slice A282 ((ReachedFrom_v0 m174 ps178 x185).length) d283) (hr := (r_extract (vs := #[.slice A282 ((ReachedFrom_v0 m174 ps178 x185).length) d283, .bool (ReachedFrom_v1 m174 ps178 x185)]) rfl (ev_any (by kernel_rfl)) (by kernel_rfl))) (h := ?_)
                refine F.q (v := .bool (ReachedFrom_v1 m174 ps178 x185)) (hr := (r_extract (vs := #[.slice A282 ((ReachedFrom_v0 m174 ps178 x185).length) d283, .bool (ReachedFrom_v1 m174 ps178 x185)]) rfl (ev_any (by kernel_rfl)) (by kernel_rfl))) (h := ?_)
                refine F.as (v := .slice A282 ((ReachedFrom_v0 m174 ps178 x185).length) d283) (h := ?_)
                refine F.as (v := .bool (ReachedFrom_v1 m174 ps178 x185)) (h := ?_)
                refine F.endF [(0, .slice A n c), (2, .bool false), (3, .pointer (some ⟨b27, 0, none⟩)), (4, .slice A44 ((NetworkParts_v0 m13 ps17).length) d45), (5, .bool true), (6, .slice A58 ((NetworkParts_v0 m13 ps17).length) d59), (7, .bool true), (8, .int .i64 (((lensOf ((NetworkParts_v0 m13 ps17).take i)) : Nat) : Int)), (9, .int .i64 ((i : Nat) : Int)), (13, .pointer (some ⟨b189, 0, none⟩)), (14, .int .i64 x185), (15, .slice A213 ((PipesAt_v0 m174 ps178 x185).length) d214), (16, .bool (PipesAt_v1 m174 ps178 x185)), (17, .slice A231 ((PipesAt_v0 m174 ps178 x185).length) d232), (18, .bool (PipesAt_v1 m174 ps178 x185)), (19, .slice A262 ((ReachedFrom_v0 m174 ps178 x185).length) d263), (20, .bool (ReachedFrom_v1 m174 ps178 x185)), (21, .slice A282 ((ReachedFrom_v0 m174 ps178 x185).length) d283), (22, .bool (ReachedFrom_v1 m174 ps178 x185)), (24, .bool false), (45, .bool false), (49, .bool false), (97, .bool false), (123, .bool false)] (fun U293 => ?_)
                have x38 := SG.blk s291 x38 (Option.some_ne_none _)
                have x204 := SG.blk s291 x204 (Option.some_ne_none _)
                have c294 := (SG.belowR c274 s291 (fun kq e => by cases e))
                have rd295 := Rd.kept rd275 (SG.below s291)
                have rd296 := RdT.kept rd276 (SG.below s291)
                have rd297 := RdT.kept rd277 (SG.below s291)
                have rd298 := Rd.kept rd278 (SG.below s291)
                have rd299 := Rd.kept rd279 (SG.below s291)
                have rd300 := Rd.kept rd280 (SG.below s291)
                have rd301 := Rd.kept rd265 (SG.below s291)
                refine h33 _ _ ?_
                as_aux_lemma =>
                  refine wp_seq_k (fun K34 h34 => ?_)
                  refine W.region_plain (row := none) [(0, false), (1, false), (2, false), (3, false), (4, false), (5, false), (6, true), (7, false), (8, false)] (by kernel_rfl) ?_
                  have s302 := SG.self w290 none
                  refine F.mv (v := .bool (ReachedFrom_v1 m174 ps178 x185)) (h := ?_)
                  refine F.mv (v := .bool (ReachedFrom_v1 m174 ps178 x185)) (h := ?_)
                  refine F.q (v := .bool true) (hr := (r_eqlB (m := (ReachedFrom_v1 m174 ps178 x185)) (n := (ReachedFrom_v1 m174 ps178 x185)) rfl (ev_any (by kernel_rfl)) (ev_any (by kernel_rfl)) (by kernel_rfl) (beq_iff_eq.2 rfl))) (h := ?_)
                  refine F.mv (v := .bool true) (h := ?_)
                  refine F.mv (v := .slice A262 ((ReachedFrom_v0 m174 ps178 x185).length) d263) (h := ?_)
                  refine F.mv (v := .slice A282 ((ReachedFrom_v0 m174 ps178 x185).length) d283) (h := ?_)
                  refine W.sc (vs := [.slice A262 ((ReachedFrom_v0 m174 ps178 x185).length) d263, .slice A282 ((ReachedFrom_v0 m174 ps178 x185).length) d283]) rfl rfl (by kernel_rfl) (by kernel_rfl) (by kernel_rfl) rfl (vInts_same2 A262 A282 ((ReachedFrom_v0 m174 ps178 x185).length) ((ReachedFrom_v0 m174 ps178 x185).length) d263 d283 (ReachedFrom_v0 m174 ps178 x185) _ (Rd.kept rd301 (SG.below s302)) (Rd.kept r284 (SG.below s302)) (by omega)) ?_
                  rintro e w304 ⟨rfl, b303⟩
                  have s305 := SG.of_below s302 b303
                  refine ⟨_, rfl, s305, ?_⟩
                  refine F.nx ?_
                  refine F.q (v := .bool true) (hr := (r_pick (b := true) rfl (ev_any (by kernel_rfl)) (ev_any (by kernel_rfl)))) (h := ?_)
                  refine F.as (v := .bool true) (h := ?_)
                  refine F.endF [(0, .slice A n c), (2, .bool true), (3, .pointer (some ⟨b27, 0, none⟩)), (4, .slice A44 ((NetworkParts_v0 m13 ps17).length) d45), (5, .bool true), (6, .slice A58 ((NetworkParts_v0 m13 ps17).length) d59), (7, .bool true), (8, .int .i64 (((lensOf ((NetworkParts_v0 m13 ps17).take i)) : Nat) : Int)), (9, .int .i64 ((i : Nat) : Int)), (13, .pointer (some ⟨b189, 0, none⟩)), (14, .int .i64 x185), (15, .slice A213 ((PipesAt_v0 m174 ps178 x185).length) d214), (16, .bool (PipesAt_v1 m174 ps178 x185)), (17, .slice A231 ((PipesAt_v0 m174 ps178 x185).length) d232), (18, .bool (PipesAt_v1 m174 ps178 x185)), (19, .slice A262 ((ReachedFrom_v0 m174 ps178 x185).length) d263), (20, .bool (ReachedFrom_v1 m174 ps178 x185)), (21, .slice A282 ((ReachedFrom_v0 m174 ps178 x185).length) d283), (22, .bool (ReachedFrom_v1 m174 ps178 x185)), (24, .bool false), (45, .bool false), (49, .bool false), (97, .bool false), (123, .bool false)] (fun U306 => ?_)
                  have x38 := SG.blk s305 x38 (Option.some_ne_none _)
                  have x204 := SG.blk s305 x204 (Option.some_ne_none _)
                  have c307 := (SG.belowR c294 s305 (fun kq e => by cases e))
                  have rd308 := Rd.kept rd295 (SG.below s305)
                  have rd309 := RdT.kept rd296 (SG.below s305)
                  have rd310 := RdT.kept rd297 (SG.below s305)
                  have rd311 := Rd.kept rd298 (SG.below s305)
                  have rd312 := Rd.kept rd299 (SG.below s305)
                  have rd313 := Rd.kept rd300 (SG.below s305)
                  have rd314 := Rd.kept rd301 (SG.below s305)
                  have rd315 := Rd.kept r284 (SG.below s305)
                  refine h34 _ _ ?_
                  refine wp_ret ?_
                  try simp only [Exit.then]
                  refine ret1 (v := .bool true) rfl (by kernel_rfl) ?_
                  exact ⟨rfl, c307⟩
      · rw [q53]
        refine F.mv (v := .tuple #[.slice A44 ((NetworkParts_v0 m13 ps17).length) d45, .bool false]) (h := ?_)
        refine F.q (v := .slice A44 ((NetworkParts_v0 m13 ps17).length) d45) (hr := (r_extract (vs := #[.slice A44 ((NetworkParts_v0 m13 ps17).length) d45, .bool false]) rfl (ev_any (by kernel_rfl)) (by kernel_rfl))) (h := ?_)
        refine F.q (v := .bool false) (hr := (r_extract (vs := #[.slice A44 ((NetworkParts_v0 m13 ps17).length) d45, .bool false]) rfl (ev_any (by kernel_rfl)) (by kernel_rfl))) (h := ?_)
        refine F.as (v := .slice A44 ((NetworkParts_v0 m13 ps17).length) d45) (h := ?_)
        refine F.as (v := .bool false) (h := ?_)
        refine F.endF [(0, .slice A n c), (2, .bool false), (3, .pointer (some ⟨b27, 0, none⟩)), (4, .slice A44 ((NetworkParts_v0 m13 ps17).length) d45), (5, .bool false), (24, .bool false)] (fun U316 => ?_)
        have x38 := SG.blk s52 x38 (Option.some_ne_none _)
        have c317 := (SG.belowR c42 s52 (fun kq e => by cases e))
        have rd318 := Rd.kept rd40 (SG.below s52)
        refine h6 _ _ ?_
        refine wp_seq_k (fun K35 h35 => ?_)
        refine wp_seq_k (fun K36 h36 => ?_)
        refine W.region_plain (row := none) [(0, false), (1, true), (2, false), (3, false), (4, false), (5, false), (6, false)] (by kernel_rfl) ?_
        have s319 := SG.self w51 none
        refine F.q (v := .agg #[.int .i64 m13, .slice A14 n15 c16]) (hr := (r_load2 rfl (ev_any (by kernel_rfl)) (by kernel_rfl) (by kernel_rfl) (sgS (blk_cell (j := 0) x38 (by kernel_rfl)) (Option.some_ne_none _)) (sgS (blk_cell (j := 1) x38 (by kernel_rfl)) (Option.some_ne_none _)))) (h := ?_)
        refine W.sc (vs := [.agg #[.int .i64 m13, .slice A14 n15 c16]]) rfl rfl (by kernel_rfl) (by kernel_rfl) (by kernel_rfl) rfl (NetworkParts_spec m13 A14 n15 c16 ps17 _ (Rd.kept rd318 (SG.below s319)) (by omega)) ?_
        rintro e w327 ⟨A320, d321, vs322, rfl, t323, b326⟩
        have s328 := SG.of_below s319 b326
        refine ⟨_, rfl, s328, ?_⟩
        refine F.nx ?_
        rw [q53]
        refine F.mv (v := .tuple #[.slice A320 ((NetworkParts_v0 m13 ps17).length) d321, .bool false]) (h := ?_)
        refine F.q (v := .slice A320 ((NetworkParts_v0 m13 ps17).length) d321) (hr := (r_extract (vs := #[.slice A320 ((NetworkParts_v0 m13 ps17).length) d321, .bool false]) rfl (ev_any (by kernel_rfl)) (by kernel_rfl))) (h := ?_)
        refine F.q (v := .bool false) (hr := (r_extract (vs := #[.slice A320 ((NetworkParts_v0 m13 ps17).length) d321, .bool false]) rfl (ev_any (by kernel_rfl)) (by kernel_rfl))) (h := ?_)
        refine F.as (v := .slice A320 ((NetworkParts_v0 m13 ps17).length) d321) (h := ?_)
        refine F.as (v := .bool false) (h := ?_)
        refine F.endF [(0, .slice A n c), (2, .bool false), (3, .pointer (some ⟨b27, 0, none⟩)), (4, .slice A44 ((NetworkParts_v0 m13 ps17).length) d45), (5, .bool false), (6, .slice A320 ((NetworkParts_v0 m13 ps17).length) d321), (7, .bool false), (24, .bool false)] (fun U330 => ?_)
        have x38 := SG.blk s328 x38 (Option.some_ne_none _)
        have c331 := (SG.belowR c317 s328 (fun kq e => by cases e))
        have rd332 := Rd.kept rd318 (SG.below s328)
        have rd333 := RdT.kept rt48 (SG.below s328)
        refine h36 _ _ ?_
        as_aux_lemma =>
          refine wp_seq_k (fun K37 h37 => ?_)
          refine W.region_plain (row := none) [(0, false), (1, false), (2, false), (3, false), (4, false), (5, false), (6, true), (7, false), (8, false)] (by kernel_rfl) ?_
          have s334 := SG.self w327 none
          refine F.mv (v := .bool false) (h := ?_)
          refine F.mv (v := .bool false) (h := ?_)
          refine F.q (v := .bool false) (hr := (r_neqB (m := false) (n := false) rfl (ev_any (by kernel_rfl)) (ev_any (by kernel_rfl)) (by kernel_rfl) rfl)) (h := ?_)
          refine F.mv (v := .bool false) (h := ?_)
          refine F.mv (v := .slice A44 ((NetworkParts_v0 m13 ps17).length) d45) (h := ?_)
          refine F.mv (v := .slice A320 ((NetworkParts_v0 m13 ps17).length) d321) (h := ?_)
          refine W.sc (vs := [.slice A44 ((NetworkParts_v0 m13 ps17).length) d45, .slice A320 ((NetworkParts_v0 m13 ps17).length) d321]) rfl rfl (by kernel_rfl) (by kernel_rfl) (by kernel_rfl) rfl (vTable_same A44 A320 ((NetworkParts_v0 m13 ps17).length) d45 d321 vs46 vs322 (NetworkParts_v0 m13 ps17) _ (RdT.kept rd333 (SG.below s334)) (RdT.kept t323 (SG.below s334)) (by omega) hbd9.2) ?_
          rintro e w336 ⟨rfl, b335⟩
          have s337 := SG.of_below s334 b335
          refine ⟨_, rfl, s337, ?_⟩
          refine F.nx ?_
          refine F.q (v := .bool false) (hr := (r_not (b := true) rfl (ev_any (by kernel_rfl)) rfl)) (h := ?_)
          refine F.q (v := .bool false) (hr := (r_pick (b := false) rfl (ev_any (by kernel_rfl)) (ev_any (by kernel_rfl)))) (h := ?_)
          refine F.endF [(0, .slice A n c), (2, .bool false), (3, .pointer (some ⟨b27, 0, none⟩)), (4, .slice A44 ((NetworkParts_v0 m13 ps17).length) d45), (5, .bool false), (6, .slice A320 ((NetworkParts_v0 m13 ps17).length) d321), (7, .bool false), (24, .bool false), (45, .bool false)] (fun U338 => ?_)
          have x38 := SG.blk s337 x38 (Option.some_ne_none _)
          have c339 := (SG.belowR c331 s337 (fun kq e => by cases e))
          have rd340 := Rd.kept rd332 (SG.below s337)
          have rd341 := RdT.kept rd333 (SG.below s337)
          have rd342 := RdT.kept t323 (SG.below s337)
          refine h37 _ _ ?_
          refine wp_cond_false (by kernel_rfl) ?_
          refine wp_skip ?_
          refine h35 _ _ ?_
          refine wp_seq_k (fun K38 h38 => ?_)
          refine W.region_quiet [(0, false)] (by kernel_rfl) ?_
          refine F.as (v := .int .i64 0) (h := ?_)
          refine F.endF [(0, .slice A n c), (2, .bool false), (3, .pointer (some ⟨b27, 0, none⟩)), (4, .slice A44 ((NetworkParts_v0 m13 ps17).length) d45), (5, .bool false), (6, .slice A320 ((NetworkParts_v0 m13 ps17).length) d321), (7, .bool false), (8, .int .i64 0), (24, .bool false), (45, .bool false)] (fun U343 => ?_)
          refine h38 _ _ ?_
          refine wp_seq_k (fun K39 h39 => ?_)
          refine wp_seq_k (fun K40 h40 => ?_)
          refine W.region_quiet [(0, false)] (by kernel_rfl) ?_
          refine F.as (v := .int .i64 0) (h := ?_)
          refine F.endF [(0, .slice A n c), (2, .bool false), (3, .pointer (some ⟨b27, 0, none⟩)), (4, .slice A44 ((NetworkParts_v0 m13 ps17).length) d45), (5, .bool false), (6, .slice A320 ((NetworkParts_v0 m13 ps17).length) d321), (7, .bool false), (8, .int .i64 0), (9, .int .i64 0), (24, .bool false), (45, .bool false)] (fun U344 => ?_)
          refine h40 _ _ ?_
          refine wp_block ?_
          refine loopK (fun am0 aa0 wl0 => ∃ (i : Nat) (U0 : Nat → Value), aa0 = ⟨(fr U0 [(0, .slice A n c), (2, .bool false), (3, .pointer (some ⟨b27, 0, none⟩)), (4, .slice A44 ((NetworkParts_v0 m13 ps17).length) d45), (5, .bool false), (6, .slice A320 ((NetworkParts_v0 m13 ps17).length) d321), (7, .bool false), (8, .int .i64 (((lensOf ((NetworkParts_v0 m13 ps17).take i)) : Nat) : Int)), (9, .int .i64 ((i : Nat) : Int)), (24, .bool false), (45, .bool false)] 144 0).toArray, []⟩ ∧ (am0 = (NetworkParts_v0 m13 ps17).length - i) ∧ (i ≤ (NetworkParts_v0 m13 ps17).length) ∧ (wl0.heap[b27]? = some (.cells #[.int .i64 m13, .slice A14 n15 c16] 31 (0, 0))) ∧ (RdT wl0 A44 ((NetworkParts_v0 m13 ps17).length) vs46 (NetworkParts_v0 m13 ps17)) ∧ (RdT wl0 A320 ((NetworkParts_v0 m13 ps17).length) vs322 (NetworkParts_v0 m13 ps17)) ∧ (Rd wl0 4 A14 n15 (pipesV ps17)) ∧ (Below w.heap.size w wl0)) ((NetworkParts_v0 m13 ps17).length - 0) ?_ ?_
          · exact ⟨0, (fun iU9 => lk [(0, .slice A n c), (2, .bool false), (3, .pointer (some ⟨b27, 0, none⟩)), (4, .slice A44 ((NetworkParts_v0 m13 ps17).length) d45), (5, .bool false), (6, .slice A320 ((NetworkParts_v0 m13 ps17).length) d321), (7, .bool false), (8, .int .i64 0), (9, .int .i64 0), (24, .bool false), (45, .bool false)] iU9 (U344 iU9)), (by kernel_rfl), rfl, (Nat.zero_le _), x38, rd341, rd342, rd340, c339⟩
          rintro am0 aa0 wl0 K41 h41 ⟨i, U0, rfl, rfl, hi, x38, kl0_0, kl0_1, kl0_2, c345⟩
          refine wp_seq_k (fun K42 h42 => ?_)
          refine wp_seq_k (fun K43 h43 => ?_)
          refine W.region_quiet [(0, false), (1, false), (2, false), (3, false)] (by kernel_rfl) ?_
          refine F.mv (v := .int .i64 ((i : Nat) : Int)) (h := ?_)
          refine F.mv (v := .slice A44 ((NetworkParts_v0 m13 ps17).length) d45) (h := ?_)
          refine F.q (v := .int .i64 (((NetworkParts_v0 m13 ps17).length : Nat) : Int)) (hr := (r_len (A := A44) (n := (NetworkParts_v0 m13 ps17).length) (c := d45) rfl (ev_any (by kernel_rfl)) (by kernel_rfl))) (h := ?_)
          by_cases q346 : (((i : Nat) : Int) : Int) < ((((NetworkParts_v0 m13 ps17).length : Nat) : Int) : Int)
          · refine F.q (v := .bool true) (hr := (r_lss (m := ((i : Nat) : Int)) (n := (((NetworkParts_v0 m13 ps17).length : Nat) : Int)) rfl (ev_any (by kernel_rfl)) (ev_any (by kernel_rfl)) (decide_eq_true q346))) (h := ?_)
            refine F.endF [(0, .slice A n c), (2, .bool false), (3, .pointer (some ⟨b27, 0, none⟩)), (4, .slice A44 ((NetworkParts_v0 m13 ps17).length) d45), (5, .bool false), (6, .slice A320 ((NetworkParts_v0 m13 ps17).length) d321), (7, .bool false), (8, .int .i64 (((lensOf ((NetworkParts_v0 m13 ps17).take i)) : Nat) : Int)), (9, .int .i64 ((i : Nat) : Int)), (24, .bool false), (45, .bool false), (49, .bool true)] (fun U347 => ?_)
            refine h43 _ _ ?_
            refine wp_cond_true (by kernel_rfl) ?_
            refine wp_skip ?_
            refine h42 _ _ ?_
            refine wp_seq_k (fun K44 h44 => ?_)
            refine wp_block ?_
            refine wp_seq_k (fun K45 h45 => ?_)
            refine W.region_quiet [(0, false), (1, false), (2, false), (3, false), (4, false), (5, false), (6, false), (7, false)] (by kernel_rfl) ?_
            refine F.mv (v := .int .i64 (((lensOf ((NetworkParts_v0 m13 ps17).take i)) : Nat) : Int)) (h := ?_)
            refine F.mv (v := .slice A44 ((NetworkParts_v0 m13 ps17).length) d45) (h := ?_)
            refine F.mv (v := .int .i64 ((i : Nat) : Int)) (h := ?_)
            obtain ⟨tv348, tz349, hv350, hz351⟩ := RdT.at kl0_0 (i := i) (by omega)
            obtain ⟨b352, o353, hA354, hb355, hc356⟩ := Rd.elSv (kl0_0).out hv350
            have rd357 := (kl0_0).inn _ _ _ hv350 hz351
            have hl358 := rd_ints_len rd357
            refine F.q (v := .pointer (some ⟨b352, o353 + i, none⟩)) (hr := (r_idx1 (n := (NetworkParts_v0 m13 ps17).length) (c := d45) (k := i) rfl (ev_any (by kernel_rfl)) hA354 (by kernel_rfl) (by kernel_rfl) (by omega))) (h := ?_)
            refine F.ld (v := .slice tv348.A tv348.n tv348.c) (hc := (eqS hc356)) (h := ?_)
            refine F.q (v := .int .i64 ((tv348.n : Nat) : Int)) (hr := (r_len (A := tv348.A) (n := tv348.n) (c := tv348.c) rfl (ev_any (by kernel_rfl)) (by kernel_rfl))) (h := ?_)
            have hpb := parts_bd m13 ps17 (i + 1)
            have hlt9 := lensOf_take hz351
            have hrl9 := rd_ints_len ((kl0_0).inn _ _ _ hv350 hz351)
            refine F.q (v := .int .i64 (((lensOf ((NetworkParts_v0 m13 ps17).take (i + 1))) : Nat) : Int)) (hr := (r_add (m := (((lensOf ((NetworkParts_v0 m13 ps17).take i)) : Nat) : Int)) (n := ((tv348.n : Nat) : Int)) (z := (((lensOf ((NetworkParts_v0 m13 ps17).take (i + 1))) : Nat) : Int)) rfl (ev_any (by kernel_rfl)) (ev_any (by kernel_rfl)) (by rw [hlt9]; omega) (by omega))) (h := ?_)
            refine F.as (v := .int .i64 (((lensOf ((NetworkParts_v0 m13 ps17).take (i + 1))) : Nat) : Int)) (h := ?_)
            refine F.endF [(0, .slice A n c), (2, .bool false), (3, .pointer (some ⟨b27, 0, none⟩)), (4, .slice A44 ((NetworkParts_v0 m13 ps17).length) d45), (5, .bool false), (6, .slice A320 ((NetworkParts_v0 m13 ps17).length) d321), (7, .bool false), (8, .int .i64 (((lensOf ((NetworkParts_v0 m13 ps17).take (i + 1))) : Nat) : Int)), (9, .int .i64 ((i : Nat) : Int)), (24, .bool false), (45, .bool false), (49, .bool true)] (fun U360 => ?_)
            refine h45 _ _ ?_
            as_aux_lemma =>
              refine wp_seq_k (fun K46 h46 => ?_)
              refine W.region_quiet [(0, false)] (by kernel_rfl) ?_
              refine F.as (v := .int .i64 0) (h := ?_)
              refine F.endF [(0, .slice A n c), (2, .bool false), (3, .pointer (some ⟨b27, 0, none⟩)), (4, .slice A44 ((NetworkParts_v0 m13 ps17).length) d45), (5, .bool false), (6, .slice A320 ((NetworkParts_v0 m13 ps17).length) d321), (7, .bool false), (8, .int .i64 (((lensOf ((NetworkParts_v0 m13 ps17).take (i + 1))) : Nat) : Int)), (9, .int .i64 ((i : Nat) : Int)), (10, .int .i64 0), (24, .bool false), (45, .bool false), (49, .bool true)] (fun U361 => ?_)
              refine h46 _ _ ?_
              refine wp_block ?_
              refine loopK (fun am1 aa1 wl1 => ∃ (k : Nat) (U1 : Nat → Value), aa1 = ⟨(fr U1 [(0, .slice A n c), (2, .bool false), (3, .pointer (some ⟨b27, 0, none⟩)), (4, .slice A44 ((NetworkParts_v0 m13 ps17).length) d45), (5, .bool false), (6, .slice A320 ((NetworkParts_v0 m13 ps17).length) d321), (7, .bool false), (8, .int .i64 (((lensOf ((NetworkParts_v0 m13 ps17).take (i + 1))) : Nat) : Int)), (9, .int .i64 ((i : Nat) : Int)), (10, .int .i64 ((k : Nat) : Int)), (24, .bool false), (45, .bool false), (49, .bool true)] 144 0).toArray, []⟩ ∧ (am1 = tv348.n - k) ∧ (k ≤ tv348.n) ∧ (wl1.heap[b27]? = some (.cells #[.int .i64 m13, .slice A14 n15 c16] 31 (0, 0))) ∧ (RdT wl1 A44 ((NetworkParts_v0 m13 ps17).length) vs46 (NetworkParts_v0 m13 ps17)) ∧ (RdT wl1 A320 ((NetworkParts_v0 m13 ps17).length) vs322 (NetworkParts_v0 m13 ps17)) ∧ (Rd wl1 4 A14 n15 (pipesV ps17)) ∧ (Below w.heap.size w wl1)) (tv348.n - 0) ?_ ?_
              · exact ⟨0, (fun iU9 => lk [(0, .slice A n c), (2, .bool false), (3, .pointer (some ⟨b27, 0, none⟩)), (4, .slice A44 ((NetworkParts_v0 m13 ps17).length) d45), (5, .bool false), (6, .slice A320 ((NetworkParts_v0 m13 ps17).length) d321), (7, .bool false), (8, .int .i64 (((lensOf ((NetworkParts_v0 m13 ps17).take (i + 1))) : Nat) : Int)), (9, .int .i64 ((i : Nat) : Int)), (10, .int .i64 0), (24, .bool false), (45, .bool false), (49, .bool true)] iU9 (U361 iU9)), (by kernel_rfl), rfl, (Nat.zero_le _), x38, kl0_0, kl0_1, kl0_2, c345⟩
              rintro am1 aa1 wl1 K47 h47 ⟨k, U1, rfl, rfl, hk, x38, kl1_0, kl1_1, kl1_2, c362⟩
              refine wp_seq_k (fun K48 h48 => ?_)
              refine wp_seq_k (fun K49 h49 => ?_)
              refine W.region_quiet [(0, false), (1, false), (2, false), (3, false), (4, false), (5, false), (6, false)] (by kernel_rfl) ?_
              refine F.mv (v := .int .i64 ((k : Nat) : Int)) (h := ?_)
              refine F.mv (v := .slice A44 ((NetworkParts_v0 m13 ps17).length) d45) (h := ?_)
              refine F.mv (v := .int .i64 ((i : Nat) : Int)) (h := ?_)
              obtain ⟨b363, o364, hA365, hb366, hc367⟩ := Rd.elSv (kl1_0).out hv350
              have rd368 := (kl1_0).inn _ _ _ hv350 hz351
              have hl369 := rd_ints_len rd368
              refine F.q (v := .pointer (some ⟨b363, o364 + i, none⟩)) (hr := (r_idx1 (n := (NetworkParts_v0 m13 ps17).length) (c := d45) (k := i) rfl (ev_any (by kernel_rfl)) hA365 (by kernel_rfl) (by kernel_rfl) (by omega))) (h := ?_)
              refine F.ld (v := .slice tv348.A tv348.n tv348.c) (hc := (eqS hc367)) (h := ?_)
              refine F.q (v := .int .i64 ((tv348.n : Nat) : Int)) (hr := (r_len (A := tv348.A) (n := tv348.n) (c := tv348.c) rfl (ev_any (by kernel_rfl)) (by kernel_rfl))) (h := ?_)
              by_cases q371 : (((k : Nat) : Int) : Int) < (((tv348.n : Nat) : Int) : Int)
              · refine F.q (v := .bool true) (hr := (r_lss (m := ((k : Nat) : Int)) (n := ((tv348.n : Nat) : Int)) rfl (ev_any (by kernel_rfl)) (ev_any (by kernel_rfl)) (decide_eq_true q371))) (h := ?_)
                refine F.endF [(0, .slice A n c), (2, .bool false), (3, .pointer (some ⟨b27, 0, none⟩)), (4, .slice A44 ((NetworkParts_v0 m13 ps17).length) d45), (5, .bool false), (6, .slice A320 ((NetworkParts_v0 m13 ps17).length) d321), (7, .bool false), (8, .int .i64 (((lensOf ((NetworkParts_v0 m13 ps17).take (i + 1))) : Nat) : Int)), (9, .int .i64 ((i : Nat) : Int)), (10, .int .i64 ((k : Nat) : Int)), (24, .bool false), (45, .bool false), (49, .bool true), (65, .bool true)] (fun U372 => ?_)
                refine h49 _ _ ?_
                refine wp_cond_true (by kernel_rfl) ?_
                refine wp_skip ?_
                refine h48 _ _ ?_
                refine wp_seq_k (fun K50 h50 => ?_)
                refine wp_block ?_
                refine wp_seq_k (fun K51 h51 => ?_)
                refine W.region_sch (row := none) (Sch.of [(0, false), (1, false), (2, false), (3, false), (4, false), (5, false), (6, false), (7, false), (8, true), (9, false), (10, false), (11, false), (12, false), (13, false)]) (by kernel_rfl) (by kernel_rfl) (fun _ d _ _ _ h => by cases d <;> exact h) (by kernel_rfl) (fun w373 e374 s375 => ?_)
                refine F.q (v := .agg #[.int .i64 m13, .slice A14 n15 c16]) (hr := (r_load2 rfl (ev_any (by kernel_rfl)) (by kernel_rfl) (by kernel_rfl) (sgS (blk_cell (j := 0) x38 (by kernel_rfl)) (Option.some_ne_none _)) (sgS (blk_cell (j := 1) x38 (by kernel_rfl)) (Option.some_ne_none _)))) (h := ?_)
                refine F.mv (v := .slice A44 ((NetworkParts_v0 m13 ps17).length) d45) (h := ?_)
                refine F.mv (v := .int .i64 ((i : Nat) : Int)) (h := ?_)
                obtain ⟨b376, o377, hA378, hb379, hc380⟩ := Rd.elSv (kl1_0).out hv350
                have rd381 := (kl1_0).inn _ _ _ hv350 hz351
                have hl382 := rd_ints_len rd381
                refine F.q (v := .pointer (some ⟨b376, o377 + i, none⟩)) (hr := (r_idx1 (n := (NetworkParts_v0 m13 ps17).length) (c := d45) (k := i) rfl (ev_any (by kernel_rfl)) hA378 (by kernel_rfl) (by kernel_rfl) (by omega))) (h := ?_)
                refine F.ld (v := .slice tv348.A tv348.n tv348.c) (hc := (sgS hc380 (by simp))) (h := ?_)
                refine F.mv (v := .int .i64 ((k : Nat) : Int)) (h := ?_)
                obtain ⟨x384, hx385⟩ := get_of (zs := tz349) (k := k) (by have := hl382; omega)
                obtain ⟨b386, o387, hA388, hb389, hc390⟩ := Rd.elInt rd381 hx385
                refine F.q (v := .pointer (some ⟨b386, o387 + k, none⟩)) (hr := (r_idx1 (n := tv348.n) (c := tv348.c) (k := k) rfl (ev_any (by kernel_rfl)) hA388 (by kernel_rfl) (by kernel_rfl) (by have := hl382; omega))) (h := ?_)
                refine F.ld (v := .int .i64 x384) (hc := (sgS hc390 (by simp))) (h := ?_)
                have hpf := parts_fact hz351 hx385
                have hc391 := ReachedFrom_impl m13 A14 n15 c16 ps17 x384 w373 (Rd.kept kl1_2 (SG.below s375)) (by omega)
                rw [hpf.1, hpf.2] at hc391
                refine W.sc (vs := [.agg #[.int .i64 m13, .slice A14 n15 c16], .int .i64 x384]) rfl rfl (by kernel_rfl) (by kernel_rfl) (by kernel_rfl) rfl (hc391) ?_
                rintro e w400 ⟨A392, d393, rfl, r394, b399⟩
                have s401 := SG.of_below s375 b399
                refine ⟨_, rfl, s401, ?_⟩
                refine F.nx ?_
                have rd395 := own_rd r394
                have fm396 := own_fm r394
                have hl397 : tz349.length = tz349.length := rfl
                refine F.mv (v := .tuple #[.slice A392 tz349.length d393, .bool true]) (h := ?_)
                refine F.q (v := .slice A392 tz349.length d393) (hr := (r_extract (vs := #[.slice A392 tz349.length d393, .bool true]) rfl (ev_any (by kernel_rfl)) (by kernel_rfl))) (h := ?_)
                refine F.q (v := .bool true) (hr := (r_extract (vs := #[.slice A392 tz349.length d393, .bool true]) rfl (ev_any (by kernel_rfl)) (by kernel_rfl))) (h := ?_)
                refine F.as (v := .slice A392 tz349.length d393) (h := ?_)
                refine F.as (v := .bool true) (h := ?_)
                refine F.endF [(0, .slice A n c), (2, .bool false), (3, .pointer (some ⟨b27, 0, none⟩)), (4, .slice A44 ((NetworkParts_v0 m13 ps17).length) d45), (5, .bool false), (6, .slice A320 ((NetworkParts_v0 m13 ps17).length) d321), (7, .bool false), (8, .int .i64 (((lensOf ((NetworkParts_v0 m13 ps17).take (i + 1))) : Nat) : Int)), (9, .int .i64 ((i : Nat) : Int)), (10, .int .i64 ((k : Nat) : Int)), (11, .slice A392 tz349.length d393), (12, .bool true), (24, .bool false), (45, .bool false), (49, .bool true), (65, .bool true)] (fun U402 => ?_)
                have x38 := SG.blk s401 x38 (Option.some_ne_none _)
                have c403 := (SG.belowR c362 s401 (fun kq e => by cases e))
                have rd404 := Rd.kept kl1_2 (SG.below s401)
                have rd405 := RdT.kept kl1_0 (SG.below s401)
                have rd406 := RdT.kept kl1_1 (SG.below s401)
                have rd407 := Rd.kept rd368 (SG.below s401)
                have rd408 := Rd.kept rd381 (SG.below s401)
                refine h51 _ _ ?_
                as_aux_lemma =>
                  refine wp_seq_k (fun K52 h52 => ?_)
                  refine W.region_plain (row := none) [(0, false), (1, false), (2, false), (3, false), (4, false), (5, false), (6, false), (7, false), (8, true), (9, false), (10, false)] (by kernel_rfl) ?_
                  have s409 := SG.self w400 none
                  refine F.mv (v := .bool true) (h := ?_)
                  refine F.q (v := .bool false) (hr := (r_not (b := true) rfl (ev_any (by kernel_rfl)) rfl)) (h := ?_)
                  refine F.mv (v := .bool false) (h := ?_)
                  refine F.mv (v := .slice A392 tz349.length d393) (h := ?_)
                  refine F.mv (v := .slice A44 ((NetworkParts_v0 m13 ps17).length) d45) (h := ?_)
                  refine F.mv (v := .int .i64 ((i : Nat) : Int)) (h := ?_)
                  obtain ⟨b410, o411, hA412, hb413, hc414⟩ := Rd.elSv (rd405).out hv350
                  have rd415 := (rd405).inn _ _ _ hv350 hz351
                  have hl416 := rd_ints_len rd415
                  refine F.q (v := .pointer (some ⟨b410, o411 + i, none⟩)) (hr := (r_idx1 (n := (NetworkParts_v0 m13 ps17).length) (c := d45) (k := i) rfl (ev_any (by kernel_rfl)) hA412 (by kernel_rfl) (by kernel_rfl) (by omega))) (h := ?_)
                  refine F.ld (v := .slice tv348.A tv348.n tv348.c) (hc := (sgS hc414 (by simp))) (h := ?_)
                  refine W.sc (vs := [.slice A392 tz349.length d393, .slice tv348.A tv348.n tv348.c]) rfl rfl (by kernel_rfl) (by kernel_rfl) (by kernel_rfl) rfl (vInts_same2 A392 tv348.A tz349.length tv348.n d393 tv348.c tz349 _ (Rd.kept rd395 (SG.below s409)) (Rd.kept rd415 (SG.below s409)) (by omega)) ?_
                  rintro e w419 ⟨rfl, b418⟩
                  have s420 := SG.of_below s409 b418
                  refine ⟨_, rfl, s420, ?_⟩
                  refine F.nx ?_
                  refine F.q (v := .bool false) (hr := (r_not (b := true) rfl (ev_any (by kernel_rfl)) rfl)) (h := ?_)
                  refine F.q (v := .bool false) (hr := (r_pick (b := false) rfl (ev_any (by kernel_rfl)) (ev_any (by kernel_rfl)))) (h := ?_)
                  refine F.endF [(0, .slice A n c), (2, .bool false), (3, .pointer (some ⟨b27, 0, none⟩)), (4, .slice A44 ((NetworkParts_v0 m13 ps17).length) d45), (5, .bool false), (6, .slice A320 ((NetworkParts_v0 m13 ps17).length) d321), (7, .bool false), (8, .int .i64 (((lensOf ((NetworkParts_v0 m13 ps17).take (i + 1))) : Nat) : Int)), (9, .int .i64 ((i : Nat) : Int)), (10, .int .i64 ((k : Nat) : Int)), (11, .slice A392 tz349.length d393), (12, .bool true), (24, .bool false), (45, .bool false), (49, .bool true), (65, .bool true), (90, .bool false)] (fun U421 => ?_)
                  have x38 := SG.blk s420 x38 (Option.some_ne_none _)
                  have c422 := (SG.belowR c403 s420 (fun kq e => by cases e))
                  have rd423 := Rd.kept rd404 (SG.below s420)
                  have rd424 := RdT.kept rd405 (SG.below s420)
                  have rd425 := RdT.kept rd406 (SG.below s420)
                  have rd426 := Rd.kept rd407 (SG.below s420)
                  have rd427 := Rd.kept rd408 (SG.below s420)
                  have rd428 := Rd.kept rd395 (SG.below s420)
                  have rd429 := Rd.kept rd415 (SG.below s420)
                  refine h52 _ _ ?_
                  refine wp_cond_false (by kernel_rfl) ?_
                  refine wp_skip ?_
                  refine h50 _ _ ?_
                  refine W.region_quiet [(0, false), (1, false), (2, false)] (by kernel_rfl) ?_
                  refine F.mv (v := .int .i64 ((k : Nat) : Int)) (h := ?_)
                  refine F.q (v := .int .i64 ((k + 1 : Nat) : Int)) (hr := (r_add (m := ((k : Nat) : Int)) (n := 1) (z := ((k + 1 : Nat) : Int)) rfl (ev_any (by kernel_rfl)) (ev_any (by kernel_rfl)) (by omega) (by omega))) (h := ?_)
                  refine F.as (v := .int .i64 ((k + 1 : Nat) : Int)) (h := ?_)
                  refine F.endF [(0, .slice A n c), (2, .bool false), (3, .pointer (some ⟨b27, 0, none⟩)), (4, .slice A44 ((NetworkParts_v0 m13 ps17).length) d45), (5, .bool false), (6, .slice A320 ((NetworkParts_v0 m13 ps17).length) d321), (7, .bool false), (8, .int .i64 (((lensOf ((NetworkParts_v0 m13 ps17).take (i + 1))) : Nat) : Int)), (9, .int .i64 ((i : Nat) : Int)), (10, .int .i64 ((k + 1 : Nat) : Int)), (11, .slice A392 tz349.length d393), (12, .bool true), (24, .bool false), (45, .bool false), (49, .bool true), (65, .bool true), (90, .bool false)] (fun U430 => ?_)
                  exact h47 _ _ _ (by omega : (tv348.n - (k + 1)) < _) ⟨k + 1, (fun iU9 => lk [(0, .slice A n c), (2, .bool false), (3, .pointer (some ⟨b27, 0, none⟩)), (4, .slice A44 ((NetworkParts_v0 m13 ps17).length) d45), (5, .bool false), (6, .slice A320 ((NetworkParts_v0 m13 ps17).length) d321), (7, .bool false), (8, .int .i64 (((lensOf ((NetworkParts_v0 m13 ps17).take (i + 1))) : Nat) : Int)), (9, .int .i64 ((i : Nat) : Int)), (10, .int .i64 ((k + 1 : Nat) : Int)), (11, .slice A392 tz349.length d393), (12, .bool true), (24, .bool false), (45, .bool false), (49, .bool true), (65, .bool true), (90, .bool false)] iU9 (U430 iU9)), (by kernel_rfl), rfl, (by omega), x38, rd424, rd425, rd423, c422⟩
              · refine F.q (v := .bool false) (hr := (r_lss (m := ((k : Nat) : Int)) (n := ((tv348.n : Nat) : Int)) rfl (ev_any (by kernel_rfl)) (ev_any (by kernel_rfl)) (decide_eq_false q371))) (h := ?_)
                refine F.endF [(0, .slice A n c), (2, .bool false), (3, .pointer (some ⟨b27, 0, none⟩)), (4, .slice A44 ((NetworkParts_v0 m13 ps17).length) d45), (5, .bool false), (6, .slice A320 ((NetworkParts_v0 m13 ps17).length) d321), (7, .bool false), (8, .int .i64 (((lensOf ((NetworkParts_v0 m13 ps17).take (i + 1))) : Nat) : Int)), (9, .int .i64 ((i : Nat) : Int)), (10, .int .i64 ((k : Nat) : Int)), (24, .bool false), (45, .bool false), (49, .bool true), (65, .bool false)] (fun U431 => ?_)
                refine h49 _ _ ?_
                refine wp_cond_false (by kernel_rfl) ?_
                refine wp_exit ?_
                refine h44 _ _ ?_
                refine W.region_quiet [(0, false), (1, false), (2, false)] (by kernel_rfl) ?_
                refine F.mv (v := .int .i64 ((i : Nat) : Int)) (h := ?_)
                refine F.q (v := .int .i64 ((i + 1 : Nat) : Int)) (hr := (r_add (m := ((i : Nat) : Int)) (n := 1) (z := ((i + 1 : Nat) : Int)) rfl (ev_any (by kernel_rfl)) (ev_any (by kernel_rfl)) (by omega) (by omega))) (h := ?_)
                refine F.as (v := .int .i64 ((i + 1 : Nat) : Int)) (h := ?_)
                refine F.endF [(0, .slice A n c), (2, .bool false), (3, .pointer (some ⟨b27, 0, none⟩)), (4, .slice A44 ((NetworkParts_v0 m13 ps17).length) d45), (5, .bool false), (6, .slice A320 ((NetworkParts_v0 m13 ps17).length) d321), (7, .bool false), (8, .int .i64 (((lensOf ((NetworkParts_v0 m13 ps17).take (i + 1))) : Nat) : Int)), (9, .int .i64 ((i + 1 : Nat) : Int)), (10, .int .i64 ((k : Nat) : Int)), (24, .bool false), (45, .bool false), (49, .bool true), (65, .bool false)] (fun U432 => ?_)
                exact h41 _ _ _ (by omega : ((NetworkParts_v0 m13 ps17).length - (i + 1)) < _) ⟨i + 1, (fun iU9 => lk [(0, .slice A n c), (2, .bool false), (3, .pointer (some ⟨b27, 0, none⟩)), (4, .slice A44 ((NetworkParts_v0 m13 ps17).length) d45), (5, .bool false), (6, .slice A320 ((NetworkParts_v0 m13 ps17).length) d321), (7, .bool false), (8, .int .i64 (((lensOf ((NetworkParts_v0 m13 ps17).take (i + 1))) : Nat) : Int)), (9, .int .i64 ((i + 1 : Nat) : Int)), (10, .int .i64 ((k : Nat) : Int)), (24, .bool false), (45, .bool false), (49, .bool true), (65, .bool false)] iU9 (U432 iU9)), (by kernel_rfl), rfl, (by omega), x38, kl1_0, kl1_1, kl1_2, c362⟩
          · refine F.q (v := .bool false) (hr := (r_lss (m := ((i : Nat) : Int)) (n := (((NetworkParts_v0 m13 ps17).length : Nat) : Int)) rfl (ev_any (by kernel_rfl)) (ev_any (by kernel_rfl)) (decide_eq_false q346))) (h := ?_)
            refine F.endF [(0, .slice A n c), (2, .bool false), (3, .pointer (some ⟨b27, 0, none⟩)), (4, .slice A44 ((NetworkParts_v0 m13 ps17).length) d45), (5, .bool false), (6, .slice A320 ((NetworkParts_v0 m13 ps17).length) d321), (7, .bool false), (8, .int .i64 (((lensOf ((NetworkParts_v0 m13 ps17).take i)) : Nat) : Int)), (9, .int .i64 ((i : Nat) : Int)), (24, .bool false), (45, .bool false), (49, .bool false)] (fun U433 => ?_)
            refine h43 _ _ ?_
            refine wp_cond_false (by kernel_rfl) ?_
            refine wp_exit ?_
            refine h39 _ _ ?_
            refine wp_seq_k (fun K53 h53 => ?_)
            refine wp_seq_k (fun K54 h54 => ?_)
            refine W.region_quiet [(0, false), (1, false), (2, false), (3, false), (4, false), (5, false), (6, false)] (by kernel_rfl) ?_
            refine F.mv (v := .bool false) (h := ?_)
            refine F.mv (v := .bool false) (h := ?_)
            refine F.sp rfl (h := ?_)
            refine F.sp rfl (h := ?_)
            refine F.sp rfl (h := ?_)
            refine F.sp rfl (h := ?_)
            refine F.q (v := .bool false) (hr := (r_pick (b := false) rfl (ev_any (by kernel_rfl)) (ev_any (by kernel_rfl)))) (h := ?_)
            refine F.endF [(0, .slice A n c), (2, .bool false), (3, .pointer (some ⟨b27, 0, none⟩)), (4, .slice A44 ((NetworkParts_v0 m13 ps17).length) d45), (5, .bool false), (6, .slice A320 ((NetworkParts_v0 m13 ps17).length) d321), (7, .bool false), (8, .int .i64 (((lensOf ((NetworkParts_v0 m13 ps17).take i)) : Nat) : Int)), (9, .int .i64 ((i : Nat) : Int)), (24, .bool false), (45, .bool false), (49, .bool false), (97, .bool false)] (fun U434 => ?_)
            refine h54 _ _ ?_
            as_aux_lemma =>
              refine wp_cond_false (by kernel_rfl) ?_
              refine wp_skip ?_
              refine h53 _ _ ?_
              refine wp_seq_k (fun K55 h55 => ?_)
              refine W.region_plain (row := none) [(0, false), (1, true), (2, false), (3, false), (4, false), (5, true), (6, true), (7, false)] (by kernel_rfl) ?_
              have s435 := SG.self wl0 none
              refine F.mv (v := .slice A n c) (h := ?_)
              refine W.sc (vs := [.slice A n c]) rfl rfl (by kernel_rfl) (by kernel_rfl) (by kernel_rfl) rfl (DrawPipesAt_any A n c zs _ (Rd.kept hcode (SG.belowR c345 s435 (fun kq e => by cases e))) hz (by have h9 := of_decide_eq_false q6; omega)) ?_
              rintro e w449 ⟨m436, A437, n438, c439, ps440, x447, rfl, ho441, hsm442, b448⟩
              have s450 := SG.of_below s435 b448
              refine ⟨_, rfl, s450, ?_⟩
              refine F.nx ?_
              have rd443 := own_rd ho441
              have fm444 := own_fm ho441
              have hl445 := rd_pipes_len rd443
              have hsm442n := hsm442.2.1
              refine F.mv (v := .tuple #[.agg #[.int .i64 m436, .slice A437 n438 c439], .int .i64 x447]) (h := ?_)
              refine F.q (v := .agg #[.int .i64 m436, .slice A437 n438 c439]) (hr := (r_extract (vs := #[.agg #[.int .i64 m436, .slice A437 n438 c439], .int .i64 x447]) rfl (ev_any (by kernel_rfl)) (by kernel_rfl))) (h := ?_)
              refine F.q (v := .int .i64 x447) (hr := (r_extract (vs := #[.agg #[.int .i64 m436, .slice A437 n438 c439], .int .i64 x447]) rfl (ev_any (by kernel_rfl)) (by kernel_rfl))) (h := ?_)
              refine W.sn (fun b => .pointer (some ⟨b, 0, none⟩)) #[.int .i64 0, .slice none 0 0] 31 s450 rfl (by kernel_rfl) rfl (fun _ => by kernel_rfl) (fun b451 w452 hb453 k454 x455 s456 => ?_)
              refine F.nx ?_
              have lo457 : w.heap.size ≤ b451 := Nat.le_trans ((SG.belowR c345 s450 (fun kq e => by cases e))).size (Nat.le_of_eq hb453)
              have sp458 : Sp A44 ((NetworkParts_v0 m13 ps17).length) (some b451) := sp_new (kl0_0).out (by have := (s450).size; have := hb453; omega)
              have sp459 : Sp A320 ((NetworkParts_v0 m13 ps17).length) (some b451) := sp_new (kl0_1).out (by have := (s450).size; have := hb453; omega)
              have sp460 : Sp A437 n438 (some b451) := sp_new rd443 (by have := hb453; omega)
              have sp461 : Sp A14 n15 (some b451) := sp_new kl0_2 (by have := (s450).size; have := hb453; omega)
              have ne462 : b27 ≠ b451 := Nat.ne_of_lt (Nat.lt_of_lt_of_eq (Nat.lt_of_lt_of_le (blk_lt x38) (s450).size) hb453)
              have rd463 := Rd.kept rd443 k454
              refine W.ss (v := .agg #[.int .i64 m436, .slice A437 n438 c439]) (j := 0) (news := [.int .i64 m436, .slice A437 n438 c439]) (cs' := #[.int .i64 m436, .slice A437 n438 c439]) s456 rfl (by kernel_rfl) rfl rfl (by kernel_rfl) (by kernel_rfl) x455 (by kernel_rfl) (by kernel_rfl) (by simp) (by kernel_rfl) (by kernel_rfl) (.inr (Nat.le_trans (s450).size (Nat.le_of_eq hb453))) (fun w464 g465 x466 s467 => ?_)
              have rd468 := rd_sepG rd463 g465 sp460
              refine F.as (v := .int .i64 x447) (h := ?_)
              refine F.endF [(0, .slice A n c), (2, .bool false), (3, .pointer (some ⟨b27, 0, none⟩)), (4, .slice A44 ((NetworkParts_v0 m13 ps17).length) d45), (5, .bool false), (6, .slice A320 ((NetworkParts_v0 m13 ps17).length) d321), (7, .bool false), (8, .int .i64 (((lensOf ((NetworkParts_v0 m13 ps17).take i)) : Nat) : Int)), (9, .int .i64 ((i : Nat) : Int)), (13, .pointer (some ⟨b451, 0, none⟩)), (14, .int .i64 x447), (24, .bool false), (45, .bool false), (49, .bool false), (97, .bool false)] (fun U469 => ?_)
              have x38 := SG.blk s467 x38 (Option.some_ne_none _)
              have c470 := (SG.belowR c345 s467 (fun kq e => by cases e))
              have rd471 := Rd.kept kl0_2 (SG.below s467)
              have rd472 := RdT.kept kl0_0 (SG.below s467)
              have rd473 := RdT.kept kl0_1 (SG.below s467)
              refine h55 _ _ ?_
              refine wp_seq_k (fun K56 h56 => ?_)
              refine W.region_plain (row := none) [(0, false), (1, false), (2, true), (3, false), (4, false), (5, false), (6, false), (7, false)] (by kernel_rfl) ?_
              have s474 := SG.self w464 none
              refine F.q (v := .agg #[.int .i64 m436, .slice A437 n438 c439]) (hr := (r_load2 rfl (ev_any (by kernel_rfl)) (by kernel_rfl) (by kernel_rfl) (sgS (blk_cell (j := 0) x466 (by kernel_rfl)) (Option.some_ne_none _)) (sgS (blk_cell (j := 1) x466 (by kernel_rfl)) (Option.some_ne_none _)))) (h := ?_)
              refine F.mv (v := .int .i64 x447) (h := ?_)
              refine W.sc (vs := [.agg #[.int .i64 m436, .slice A437 n438 c439], .int .i64 x447]) rfl rfl (by kernel_rfl) (by kernel_rfl) (by kernel_rfl) rfl (PipesAt_impl m436 A437 n438 c439 ps440 x447 _ (Rd.kept rd468 (SG.below s474)) (by omega)) ?_
              rintro e w483 ⟨A475, d476, rfl, r477, b482⟩
              have s484 := SG.of_below s474 b482
              refine ⟨_, rfl, s484, ?_⟩
              refine F.nx ?_
              have rd478 := own_rd r477
              have fm479 := own_fm r477
              have hl480 : (PipesAt_v0 m436 ps440 x447).length = (PipesAt_v0 m436 ps440 x447).length := rfl
              have hb485 := PipesAt_len m436 ps440 x447
              refine F.mv (v := .tuple #[.slice A475 ((PipesAt_v0 m436 ps440 x447).length) d476, .bool (PipesAt_v1 m436 ps440 x447)]) (h := ?_)
              refine F.q (v := .slice A475 ((PipesAt_v0 m436 ps440 x447).length) d476) (hr := (r_extract (vs := #[.slice A475 ((PipesAt_v0 m436 ps440 x447).length) d476, .bool (PipesAt_v1 m436 ps440 x447)]) rfl (ev_any (by kernel_rfl)) (by kernel_rfl))) (h := ?_)
              refine F.q (v := .bool (PipesAt_v1 m436 ps440 x447)) (hr := (r_extract (vs := #[.slice A475 ((PipesAt_v0 m436 ps440 x447).length) d476, .bool (PipesAt_v1 m436 ps440 x447)]) rfl (ev_any (by kernel_rfl)) (by kernel_rfl))) (h := ?_)
              refine F.as (v := .slice A475 ((PipesAt_v0 m436 ps440 x447).length) d476) (h := ?_)
              refine F.as (v := .bool (PipesAt_v1 m436 ps440 x447)) (h := ?_)
              refine F.endF [(0, .slice A n c), (2, .bool false), (3, .pointer (some ⟨b27, 0, none⟩)), (4, .slice A44 ((NetworkParts_v0 m13 ps17).length) d45), (5, .bool false), (6, .slice A320 ((NetworkParts_v0 m13 ps17).length) d321), (7, .bool false), (8, .int .i64 (((lensOf ((NetworkParts_v0 m13 ps17).take i)) : Nat) : Int)), (9, .int .i64 ((i : Nat) : Int)), (13, .pointer (some ⟨b451, 0, none⟩)), (14, .int .i64 x447), (15, .slice A475 ((PipesAt_v0 m436 ps440 x447).length) d476), (16, .bool (PipesAt_v1 m436 ps440 x447)), (24, .bool false), (45, .bool false), (49, .bool false), (97, .bool false)] (fun U486 => ?_)
              have x38 := SG.blk s484 x38 (Option.some_ne_none _)
              have x466 := SG.blk s484 x466 (Option.some_ne_none _)
              have c487 := (SG.belowR c470 s484 (fun kq e => by cases e))
              have rd488 := Rd.kept rd471 (SG.below s484)
              have rd489 := RdT.kept rd472 (SG.below s484)
              have rd490 := RdT.kept rd473 (SG.below s484)
              have rd491 := Rd.kept rd468 (SG.below s484)
              refine h56 _ _ ?_
              as_aux_lemma =>
                refine wp_seq_k (fun K57 h57 => ?_)
                refine wp_seq_k (fun K58 h58 => ?_)
                refine W.region_plain (row := none) [(0, false), (1, false), (2, true), (3, false), (4, false), (5, false), (6, false), (7, false)] (by kernel_rfl) ?_
                have s492 := SG.self w483 none
                refine F.q (v := .agg #[.int .i64 m436, .slice A437 n438 c439]) (hr := (r_load2 rfl (ev_any (by kernel_rfl)) (by kernel_rfl) (by kernel_rfl) (sgS (blk_cell (j := 0) x466 (by kernel_rfl)) (Option.some_ne_none _)) (sgS (blk_cell (j := 1) x466 (by kernel_rfl)) (Option.some_ne_none _)))) (h := ?_)
                refine F.mv (v := .int .i64 x447) (h := ?_)
                refine W.sc (vs := [.agg #[.int .i64 m436, .slice A437 n438 c439], .int .i64 x447]) rfl rfl (by kernel_rfl) (by kernel_rfl) (by kernel_rfl) rfl (PipesAt_spec m436 A437 n438 c439 ps440 x447 _ (Rd.kept rd491 (SG.below s492)) (by omega)) ?_
                rintro e w501 ⟨A493, d494, rfl, r495, b500⟩
                have s502 := SG.of_below s492 b500
                refine ⟨_, rfl, s502, ?_⟩
                refine F.nx ?_
                have rd496 := own_rd r495
                have fm497 := own_fm r495
                have hl498 : (PipesAt_v0 m436 ps440 x447).length = (PipesAt_v0 m436 ps440 x447).length := rfl
                have hb503 := PipesAt_len m436 ps440 x447
                refine F.mv (v := .tuple #[.slice A493 ((PipesAt_v0 m436 ps440 x447).length) d494, .bool (PipesAt_v1 m436 ps440 x447)]) (h := ?_)
                refine F.q (v := .slice A493 ((PipesAt_v0 m436 ps440 x447).length) d494) (hr := (r_extract (vs := #[.slice A493 ((PipesAt_v0 m436 ps440 x447).length) d494, .bool (PipesAt_v1 m436 ps440 x447)]) rfl (ev_any (by kernel_rfl)) (by kernel_rfl))) (h := ?_)
                refine F.q (v := .bool (PipesAt_v1 m436 ps440 x447)) (hr := (r_extract (vs := #[.slice A493 ((PipesAt_v0 m436 ps440 x447).length) d494, .bool (PipesAt_v1 m436 ps440 x447)]) rfl (ev_any (by kernel_rfl)) (by kernel_rfl))) (h := ?_)
                refine F.as (v := .slice A493 ((PipesAt_v0 m436 ps440 x447).length) d494) (h := ?_)
                refine F.as (v := .bool (PipesAt_v1 m436 ps440 x447)) (h := ?_)
                refine F.endF [(0, .slice A n c), (2, .bool false), (3, .pointer (some ⟨b27, 0, none⟩)), (4, .slice A44 ((NetworkParts_v0 m13 ps17).length) d45), (5, .bool false), (6, .slice A320 ((NetworkParts_v0 m13 ps17).length) d321), (7, .bool false), (8, .int .i64 (((lensOf ((NetworkParts_v0 m13 ps17).take i)) : Nat) : Int)), (9, .int .i64 ((i : Nat) : Int)), (13, .pointer (some ⟨b451, 0, none⟩)), (14, .int .i64 x447), (15, .slice A475 ((PipesAt_v0 m436 ps440 x447).length) d476), (16, .bool (PipesAt_v1 m436 ps440 x447)), (17, .slice A493 ((PipesAt_v0 m436 ps440 x447).length) d494), (18, .bool (PipesAt_v1 m436 ps440 x447)), (24, .bool false), (45, .bool false), (49, .bool false), (97, .bool false)] (fun U504 => ?_)
                have x38 := SG.blk s502 x38 (Option.some_ne_none _)
                have x466 := SG.blk s502 x466 (Option.some_ne_none _)
                have c505 := (SG.belowR c487 s502 (fun kq e => by cases e))
                have rd506 := Rd.kept rd488 (SG.below s502)
                have rd507 := RdT.kept rd489 (SG.below s502)
                have rd508 := RdT.kept rd490 (SG.below s502)
                have rd509 := Rd.kept rd491 (SG.below s502)
                have rd510 := Rd.kept rd478 (SG.below s502)
                refine h58 _ _ ?_
                refine wp_seq_k (fun K59 h59 => ?_)
                refine W.region_plain (row := none) [(0, false), (1, false), (2, false), (3, false), (4, false), (5, false), (6, true), (7, false), (8, false)] (by kernel_rfl) ?_
                have s511 := SG.self w501 none
                refine F.mv (v := .bool (PipesAt_v1 m436 ps440 x447)) (h := ?_)
                refine F.mv (v := .bool (PipesAt_v1 m436 ps440 x447)) (h := ?_)
                refine F.q (v := .bool false) (hr := (r_neqB (m := (PipesAt_v1 m436 ps440 x447)) (n := (PipesAt_v1 m436 ps440 x447)) rfl (ev_any (by kernel_rfl)) (ev_any (by kernel_rfl)) (by kernel_rfl) (by rw [show ((PipesAt_v1 m436 ps440 x447) == (PipesAt_v1 m436 ps440 x447)) = true from beq_iff_eq.2 rfl]; rfl))) (h := ?_)
                refine F.mv (v := .bool false) (h := ?_)
                refine F.mv (v := .slice A475 ((PipesAt_v0 m436 ps440 x447).length) d476) (h := ?_)
                refine F.mv (v := .slice A493 ((PipesAt_v0 m436 ps440 x447).length) d494) (h := ?_)
                refine W.sc (vs := [.slice A475 ((PipesAt_v0 m436 ps440 x447).length) d476, .slice A493 ((PipesAt_v0 m436 ps440 x447).length) d494]) rfl rfl (by kernel_rfl) (by kernel_rfl) (by kernel_rfl) rfl (vInts_same2 A475 A493 ((PipesAt_v0 m436 ps440 x447).length) ((PipesAt_v0 m436 ps440 x447).length) d476 d494 (PipesAt_v0 m436 ps440 x447) _ (Rd.kept rd510 (SG.below s511)) (Rd.kept rd496 (SG.below s511)) (by omega)) ?_
                rintro e w513 ⟨rfl, b512⟩
                have s514 := SG.of_below s511 b512
                refine ⟨_, rfl, s514, ?_⟩
                refine F.nx ?_
                refine F.q (v := .bool false) (hr := (r_not (b := true) rfl (ev_any (by kernel_rfl)) rfl)) (h := ?_)
                refine F.q (v := .bool false) (hr := (r_pick (b := false) rfl (ev_any (by kernel_rfl)) (ev_any (by kernel_rfl)))) (h := ?_)
                refine F.endF [(0, .slice A n c), (2, .bool false), (3, .pointer (some ⟨b27, 0, none⟩)), (4, .slice A44 ((NetworkParts_v0 m13 ps17).length) d45), (5, .bool false), (6, .slice A320 ((NetworkParts_v0 m13 ps17).length) d321), (7, .bool false), (8, .int .i64 (((lensOf ((NetworkParts_v0 m13 ps17).take i)) : Nat) : Int)), (9, .int .i64 ((i : Nat) : Int)), (13, .pointer (some ⟨b451, 0, none⟩)), (14, .int .i64 x447), (15, .slice A475 ((PipesAt_v0 m436 ps440 x447).length) d476), (16, .bool (PipesAt_v1 m436 ps440 x447)), (17, .slice A493 ((PipesAt_v0 m436 ps440 x447).length) d494), (18, .bool (PipesAt_v1 m436 ps440 x447)), (24, .bool false), (45, .bool false), (49, .bool false), (97, .bool false), (123, .bool false)] (fun U515 => ?_)
                have x38 := SG.blk s514 x38 (Option.some_ne_none _)
                have x466 := SG.blk s514 x466 (Option.some_ne_none _)
                have c516 := (SG.belowR c505 s514 (fun kq e => by cases e))
                have rd517 := Rd.kept rd506 (SG.below s514)
                have rd518 := RdT.kept rd507 (SG.below s514)
                have rd519 := RdT.kept rd508 (SG.below s514)
                have rd520 := Rd.kept rd509 (SG.below s514)
                have rd521 := Rd.kept rd510 (SG.below s514)
                have rd522 := Rd.kept rd496 (SG.below s514)
                refine h59 _ _ ?_
                refine wp_cond_false (by kernel_rfl) ?_
                refine wp_skip ?_
                refine h57 _ _ ?_
                refine wp_seq_k (fun K60 h60 => ?_)
                refine W.region_plain (row := none) [(0, false), (1, false), (2, true), (3, false), (4, false), (5, false), (6, false), (7, false)] (by kernel_rfl) ?_
                have s523 := SG.self w513 none
                refine F.q (v := .agg #[.int .i64 m436, .slice A437 n438 c439]) (hr := (r_load2 rfl (ev_any (by kernel_rfl)) (by kernel_rfl) (by kernel_rfl) (sgS (blk_cell (j := 0) x466 (by kernel_rfl)) (Option.some_ne_none _)) (sgS (blk_cell (j := 1) x466 (by kernel_rfl)) (Option.some_ne_none _)))) (h := ?_)
                refine F.mv (v := .int .i64 x447) (h := ?_)
                refine W.sc (vs := [.agg #[.int .i64 m436, .slice A437 n438 c439], .int .i64 x447]) rfl rfl (by kernel_rfl) (by kernel_rfl) (by kernel_rfl) rfl (ReachedFrom_impl m436 A437 n438 c439 ps440 x447 _ (Rd.kept rd520 (SG.below s523)) (by omega)) ?_
                rintro e w532 ⟨A524, d525, rfl, r526, b531⟩
                have s533 := SG.of_below s523 b531
                refine ⟨_, rfl, s533, ?_⟩
                refine F.nx ?_
                have rd527 := own_rd r526
                have fm528 := own_fm r526
                have hl529 : (ReachedFrom_v0 m436 ps440 x447).length = (ReachedFrom_v0 m436 ps440 x447).length := rfl
                have hb534 := ReachedFrom_len m436 ps440 x447
                refine F.mv (v := .tuple #[.slice A524 ((ReachedFrom_v0 m436 ps440 x447).length) d525, .bool (ReachedFrom_v1 m436 ps440 x447)]) (h := ?_)
                refine F.q (v := .slice A524 ((ReachedFrom_v0 m436 ps440 x447).length) d525) (hr := (r_extract (vs := #[.slice A524 ((ReachedFrom_v0 m436 ps440 x447).length) d525, .bool (ReachedFrom_v1 m436 ps440 x447)]) rfl (ev_any (by kernel_rfl)) (by kernel_rfl))) (h := ?_)
                refine F.q (v := .bool (ReachedFrom_v1 m436 ps440 x447)) (hr := (r_extract (vs := #[.slice A524 ((ReachedFrom_v0 m436 ps440 x447).length) d525, .bool (ReachedFrom_v1 m436 ps440 x447)]) rfl (ev_any (by kernel_rfl)) (by kernel_rfl))) (h := ?_)
                refine F.as (v := .slice A524 ((ReachedFrom_v0 m436 ps440 x447).length) d525) (h := ?_)
                refine F.as (v := .bool (ReachedFrom_v1 m436 ps440 x447)) (h := ?_)
                refine F.endF [(0, .slice A n c), (2, .bool false), (3, .pointer (some ⟨b27, 0, none⟩)), (4, .slice A44 ((NetworkParts_v0 m13 ps17).length) d45), (5, .bool false), (6, .slice A320 ((NetworkParts_v0 m13 ps17).length) d321), (7, .bool false), (8, .int .i64 (((lensOf ((NetworkParts_v0 m13 ps17).take i)) : Nat) : Int)), (9, .int .i64 ((i : Nat) : Int)), (13, .pointer (some ⟨b451, 0, none⟩)), (14, .int .i64 x447), (15, .slice A475 ((PipesAt_v0 m436 ps440 x447).length) d476), (16, .bool (PipesAt_v1 m436 ps440 x447)), (17, .slice A493 ((PipesAt_v0 m436 ps440 x447).length) d494), (18, .bool (PipesAt_v1 m436 ps440 x447)), (19, .slice A524 ((ReachedFrom_v0 m436 ps440 x447).length) d525), (20, .bool (ReachedFrom_v1 m436 ps440 x447)), (24, .bool false), (45, .bool false), (49, .bool false), (97, .bool false), (123, .bool false)] (fun U535 => ?_)
                have x38 := SG.blk s533 x38 (Option.some_ne_none _)
                have x466 := SG.blk s533 x466 (Option.some_ne_none _)
                have c536 := (SG.belowR c516 s533 (fun kq e => by cases e))
                have rd537 := Rd.kept rd517 (SG.below s533)
                have rd538 := RdT.kept rd518 (SG.below s533)
                have rd539 := RdT.kept rd519 (SG.below s533)
                have rd540 := Rd.kept rd520 (SG.below s533)
                have rd541 := Rd.kept rd521 (SG.below s533)
                have rd542 := Rd.kept rd522 (SG.below s533)
                refine h60 _ _ ?_
                as_aux_lemma =>
                  refine wp_seq_k (fun K61 h61 => ?_)
                  refine W.region_plain (row := none) [(0, false), (1, false), (2, true), (3, false), (4, false), (5, false), (6, false), (7, false)] (by kernel_rfl) ?_
                  have s543 := SG.self w532 none
                  refine F.q (v := .agg #[.int .i64 m436, .slice A437 n438 c439]) (hr := (r_load2 rfl (ev_any (by kernel_rfl)) (by kernel_rfl) (by kernel_rfl) (sgS (blk_cell (j := 0) x466 (by kernel_rfl)) (Option.some_ne_none _)) (sgS (blk_cell (j := 1) x466 (by kernel_rfl)) (Option.some_ne_none _)))) (h := ?_)
                  refine F.mv (v := .int .i64 x447) (h := ?_)
                  refine W.sc (vs := [.agg #[.int .i64 m436, .slice A437 n438 c439], .int .i64 x447]) rfl rfl (by kernel_rfl) (by kernel_rfl) (by kernel_rfl) rfl (ReachedFrom_spec m436 A437 n438 c439 ps440 x447 _ (Rd.kept rd540 (SG.below s543)) (by omega)) ?_
                  rintro e w552 ⟨A544, d545, rfl, r546, b551⟩
                  have s553 := SG.of_below s543 b551
                  refine ⟨_, rfl, s553, ?_⟩
                  refine F.nx ?_
                  have hl549 : (ReachedFrom_v0 m436 ps440 x447).length = (ReachedFrom_v0 m436 ps440 x447).length := rfl
                  have hb554 := ReachedFrom_len m436 ps440 x447
                  refine F.mv (v := .tuple #[.slice A544 ((ReachedFrom_v0 m436 ps440 x447).length) d545, .bool (ReachedFrom_v1 m436 ps440 x447)]) (h := ?_)
                  refine F.q (v := .slice A544 ((ReachedFrom_v0 m436 ps440 x447).length) d545) (hr := (r_extract (vs := #[.slice A544 ((ReachedFrom_v0 m436 ps440 x447).length) d545, .bool (ReachedFrom_v1 m436 ps440 x447)]) rfl (ev_any (by kernel_rfl)) (by kernel_rfl))) (h := ?_)
                  refine F.q (v := .bool (ReachedFrom_v1 m436 ps440 x447)) (hr := (r_extract (vs := #[.slice A544 ((ReachedFrom_v0 m436 ps440 x447).length) d545, .bool (ReachedFrom_v1 m436 ps440 x447)]) rfl (ev_any (by kernel_rfl)) (by kernel_rfl))) (h := ?_)
                  refine F.as (v := .slice A544 ((ReachedFrom_v0 m436 ps440 x447).length) d545) (h := ?_)
                  refine F.as (v := .bool (ReachedFrom_v1 m436 ps440 x447)) (h := ?_)
                  refine F.endF [(0, .slice A n c), (2, .bool false), (3, .pointer (some ⟨b27, 0, none⟩)), (4, .slice A44 ((NetworkParts_v0 m13 ps17).length) d45), (5, .bool false), (6, .slice A320 ((NetworkParts_v0 m13 ps17).length) d321), (7, .bool false), (8, .int .i64 (((lensOf ((NetworkParts_v0 m13 ps17).take i)) : Nat) : Int)), (9, .int .i64 ((i : Nat) : Int)), (13, .pointer (some ⟨b451, 0, none⟩)), (14, .int .i64 x447), (15, .slice A475 ((PipesAt_v0 m436 ps440 x447).length) d476), (16, .bool (PipesAt_v1 m436 ps440 x447)), (17, .slice A493 ((PipesAt_v0 m436 ps440 x447).length) d494), (18, .bool (PipesAt_v1 m436 ps440 x447)), (19, .slice A524 ((ReachedFrom_v0 m436 ps440 x447).length) d525), (20, .bool (ReachedFrom_v1 m436 ps440 x447)), (21, .slice A544 ((ReachedFrom_v0 m436 ps440 x447).length) d545), (22, .bool (ReachedFrom_v1 m436 ps440 x447)), (24, .bool false), (45, .bool false), (49, .bool false), (97, .bool false), (123, .bool false)] (fun U555 => ?_)
                  have x38 := SG.blk s553 x38 (Option.some_ne_none _)
                  have x466 := SG.blk s553 x466 (Option.some_ne_none _)
                  have c556 := (SG.belowR c536 s553 (fun kq e => by cases e))
                  have rd557 := Rd.kept rd537 (SG.below s553)
                  have rd558 := RdT.kept rd538 (SG.below s553)
                  have rd559 := RdT.kept rd539 (SG.below s553)
                  have rd560 := Rd.kept rd540 (SG.below s553)
                  have rd561 := Rd.kept rd541 (SG.below s553)
                  have rd562 := Rd.kept rd542 (SG.below s553)
                  have rd563 := Rd.kept rd527 (SG.below s553)
                  refine h61 _ _ ?_
                  refine wp_seq_k (fun K62 h62 => ?_)
                  refine W.region_plain (row := none) [(0, false), (1, false), (2, false), (3, false), (4, false), (5, false), (6, true), (7, false), (8, false)] (by kernel_rfl) ?_
                  have s564 := SG.self w552 none
                  refine F.mv (v := .bool (ReachedFrom_v1 m436 ps440 x447)) (h := ?_)
                  refine F.mv (v := .bool (ReachedFrom_v1 m436 ps440 x447)) (h := ?_)
                  refine F.q (v := .bool true) (hr := (r_eqlB (m := (ReachedFrom_v1 m436 ps440 x447)) (n := (ReachedFrom_v1 m436 ps440 x447)) rfl (ev_any (by kernel_rfl)) (ev_any (by kernel_rfl)) (by kernel_rfl) (beq_iff_eq.2 rfl))) (h := ?_)
                  refine F.mv (v := .bool true) (h := ?_)
                  refine F.mv (v := .slice A524 ((ReachedFrom_v0 m436 ps440 x447).length) d525) (h := ?_)
                  refine F.mv (v := .slice A544 ((ReachedFrom_v0 m436 ps440 x447).length) d545) (h := ?_)
                  refine W.sc (vs := [.slice A524 ((ReachedFrom_v0 m436 ps440 x447).length) d525, .slice A544 ((ReachedFrom_v0 m436 ps440 x447).length) d545]) rfl rfl (by kernel_rfl) (by kernel_rfl) (by kernel_rfl) rfl (vInts_same2 A524 A544 ((ReachedFrom_v0 m436 ps440 x447).length) ((ReachedFrom_v0 m436 ps440 x447).length) d525 d545 (ReachedFrom_v0 m436 ps440 x447) _ (Rd.kept rd563 (SG.below s564)) (Rd.kept r546 (SG.below s564)) (by omega)) ?_
                  rintro e w566 ⟨rfl, b565⟩
                  have s567 := SG.of_below s564 b565
                  refine ⟨_, rfl, s567, ?_⟩
                  refine F.nx ?_
                  refine F.q (v := .bool true) (hr := (r_pick (b := true) rfl (ev_any (by kernel_rfl)) (ev_any (by kernel_rfl)))) (h := ?_)
                  refine F.as (v := .bool true) (h := ?_)
                  refine F.endF [(0, .slice A n c), (2, .bool true), (3, .pointer (some ⟨b27, 0, none⟩)), (4, .slice A44 ((NetworkParts_v0 m13 ps17).length) d45), (5, .bool false), (6, .slice A320 ((NetworkParts_v0 m13 ps17).length) d321), (7, .bool false), (8, .int .i64 (((lensOf ((NetworkParts_v0 m13 ps17).take i)) : Nat) : Int)), (9, .int .i64 ((i : Nat) : Int)), (13, .pointer (some ⟨b451, 0, none⟩)), (14, .int .i64 x447), (15, .slice A475 ((PipesAt_v0 m436 ps440 x447).length) d476), (16, .bool (PipesAt_v1 m436 ps440 x447)), (17, .slice A493 ((PipesAt_v0 m436 ps440 x447).length) d494), (18, .bool (PipesAt_v1 m436 ps440 x447)), (19, .slice A524 ((ReachedFrom_v0 m436 ps440 x447).length) d525), (20, .bool (ReachedFrom_v1 m436 ps440 x447)), (21, .slice A544 ((ReachedFrom_v0 m436 ps440 x447).length) d545), (22, .bool (ReachedFrom_v1 m436 ps440 x447)), (24, .bool false), (45, .bool false), (49, .bool false), (97, .bool false), (123, .bool false)] (fun U568 => ?_)
                  have x38 := SG.blk s567 x38 (Option.some_ne_none _)
                  have x466 := SG.blk s567 x466 (Option.some_ne_none _)
                  have c569 := (SG.belowR c556 s567 (fun kq e => by cases e))
                  have rd570 := Rd.kept rd557 (SG.below s567)
                  have rd571 := RdT.kept rd558 (SG.below s567)
                  have rd572 := RdT.kept rd559 (SG.below s567)
                  have rd573 := Rd.kept rd560 (SG.below s567)
                  have rd574 := Rd.kept rd561 (SG.below s567)
                  have rd575 := Rd.kept rd562 (SG.below s567)
                  have rd576 := Rd.kept rd563 (SG.below s567)
                  have rd577 := Rd.kept r546 (SG.below s567)
                  refine h62 _ _ ?_
                  refine wp_ret ?_
                  try simp only [Exit.then]
                  refine ret1 (v := .bool true) rfl (by kernel_rfl) ?_
                  exact ⟨rfl, c569⟩

theorem byte_of {n : Int} (h : (Lit.int .u8 n).wf = true) : 0 ≤ n ∧ n < 256 := by
  have h2 : (decide ((0 : Int) ≤ n) && decide (n ≤ 255)) = true := h
  simp only [Bool.and_eq_true, decide_eq_true_eq] at h2
  omega
theorem w_FnParts (x0 : Option Addr) (n0 p0 : Nat) (a0 : List Int) (w : World) (H0 : a0.length = n0 ∧ Rd w 1 x0 n0 (a0.map (Value.int .u8)) ∧ n0 ≤ maxLen ∧ ∀ n ∈ a0, (Lit.int .u8 n).wf = true) :
    Calls Try.prog 4 #[.slice x0 n0 p0] w fun e w' => e = .returned (.bool true) ∧ Below w.heap.size w w' :=
  wi_FnParts x0 n0 p0 a0 w H0.2.1 (fun z hz => byte_of (H0.2.2.2 z hz)) (by have := H0.2.2.1; unfold maxLen at this; omega)

end Go.Proofs.Ytdlcldaogcbnlaa
