/- The parts of a text between bytes: both packages. -/
import Derived.Test.YtdlcldaogcbnlaaDoorProg
import Derived.Test.YtdlcldaogcbnlaaDoorTxt
namespace Go.Proofs.YtdlcldaogcbnlaaDoor
open Go.RowKit
set_option linter.unusedVariables false
set_option linter.unusedSimpArgs false

/-- The parts of a text as far as byte i: those that are whole, and where the one at hand begins. -/
def splitTo (s : ByteArray) (c : Nat) : Nat → List ByteArray × Nat
  | 0 => ([], 0)
  | i + 1 => if bAt s i = c then ((splitTo s c i).1 ++ [s.extract (splitTo s c i).2 i], i + 1) else splitTo s c i
def splitL (s : ByteArray) (c : Nat) : List ByteArray := (splitTo s c s.size).1 ++ [s.extract (splitTo s c s.size).2 s.size]
theorem splitTo_le (s : ByteArray) (c : Nat) : ∀ i, (splitTo s c i).1.length ≤ i ∧ (splitTo s c i).2 ≤ i
  | 0 => ⟨Nat.le_refl _, Nat.le_refl _⟩
  | i + 1 => by
    have := splitTo_le s c i
    unfold splitTo
    split
    · exact ⟨by rw [List.length_append, List.length_singleton]; omega, Nat.le_refl _⟩
    · omega
theorem splitTo_yes {s : ByteArray} {c i : Nat} (h : bAt s i = c) : splitTo s c (i + 1) = ((splitTo s c i).1 ++ [s.extract (splitTo s c i).2 i], i + 1) := by rw [splitTo, if_pos h]
theorem splitTo_no {s : ByteArray} {c i : Nat} (h : ¬ bAt s i = c) : splitTo s c (i + 1) = splitTo s c i := by rw [splitTo, if_neg h]
theorem splitL_len (s : ByteArray) (c : Nat) : (splitL s c).length ≤ s.size + 1 := by
  have := (splitTo_le s c s.size).1
  unfold splitL; rw [List.length_append, List.length_singleton]; omega
def SplitString_v1 (s sep : ByteArray) : Bool := decide (s.size ≤ 4000) && decide (sep.size = 1)
def SplitString_v0 (s sep : ByteArray) : List ByteArray := if SplitString_v1 s sep = true then splitL s (bAt sep 0) else []
theorem SplitString_len (s sep : ByteArray) : (SplitString_v0 s sep).length ≤ 1048576 := by
  unfold SplitString_v0
  split
  · rename_i h
    have h1 := splitL_len s (bAt sep 0)
    unfold SplitString_v1 at h
    simp only [Bool.and_eq_true, decide_eq_true_eq] at h
    omega
  · simp

set_option maxRecDepth 100000 in
set_option maxHeartbeats 1000000 in
theorem l1Split_any (s : ByteArray) (c : Nat) (w : World) (hs : s.size ≤ 1048576) :
    Calls Tryd.prog 78 #[.string s, .int .u8 ((c : Nat) : Int)] w fun e w' => ∃ A' n' c', e = .returned (.slice A' n' c') ∧ w'.ownsRow w.heap.size 9 1 (.slice A' n' c') n' (strsV (splitL s c)) ∧ Below w.heap.size w w' := by
  go_enter Tryd.func78, Tryd.ntmps78
  refine wp_seq_k (fun K1 h1 => ?_)
  refine W.region_quiet [(0, false)] (by kernel_rfl) ?_
  refine W.as (v := .slice none 0 0) (h := ?_)
  refine W.endF 35 [(0, .string s), (1, .int .u8 ((c : Nat) : Int)), (4, .slice none 0 0)] (fun U1 => ?_)
  refine h1 _ _ ?_
  refine wp_seq_k (fun K2 h2 => ?_)
  refine W.region_plain (row := none) [(0, true), (1, false)] (by kernel_rfl) ?_
  have s2 := SG.self w none
  refine W.sn (fun b => .slice (some ⟨b, 0, none⟩) 0 0) #[] 9 s2 rfl (by kernel_rfl) rfl (fun _ => by kernel_rfl) (fun b3 w4 hb5 k6 x7 s8 => ?_)
  have lo9 : w.heap.size ≤ b3 := by have := ((SG.belowR (Below.refl _ _) s2 (fun kq e => by cases e))).size; omega
  refine W.as (v := .slice (some ⟨b3, 0, none⟩) 0 0) (h := ?_)
  refine W.endF 35 [(0, .string s), (1, .int .u8 ((c : Nat) : Int)), (4, .slice none 0 0), (5, .slice (some ⟨b3, 0, none⟩) 0 0)] (fun U10 => ?_)
  have c11 := (SG.belowR (Below.refl _ _) s8 (fun kq e => by cases e))
  refine h2 _ _ ?_
  refine wp_seq_k (fun K3 h3 => ?_)
  refine W.region_quiet [(0, false)] (by kernel_rfl) ?_
  refine W.as (v := .int .i64 0) (h := ?_)
  refine W.endF 35 [(0, .string s), (1, .int .u8 ((c : Nat) : Int)), (4, .slice none 0 0), (5, .slice (some ⟨b3, 0, none⟩) 0 0), (6, .int .i64 0)] (fun U12 => ?_)
  refine h3 _ _ ?_
  refine wp_seq_k (fun K4 h4 => ?_)
  refine wp_seq_k (fun K5 h5 => ?_)
  refine W.region_quiet [(0, false)] (by kernel_rfl) ?_
  refine W.as (v := .int .i64 0) (h := ?_)
  refine W.endF 35 [(0, .string s), (1, .int .u8 ((c : Nat) : Int)), (4, .slice none 0 0), (5, .slice (some ⟨b3, 0, none⟩) 0 0), (6, .int .i64 0), (7, .int .i64 0)] (fun U13 => ?_)
  refine h5 _ _ ?_
  refine wp_block ?_
  have ho14 := own_empty (base := w.heap.size) (size := 1) x7 lo9
  replace ho14 : World.ownsRow _ _ _ _ _ _ (strsV []) := ho14
  refine loopK (fun am0 aa0 wl0 => ∃ (i : Nat) (f : Nat) (A0_5 : Option Addr) (n0_5 : Nat) (c0_5 : Nat) (U0 : Nat → Value), aa0 = ⟨(fr U0 [(0, .string s), (1, .int .u8 ((c : Nat) : Int)), (4, .slice none 0 0), (5, .slice A0_5 n0_5 c0_5), (6, .int .i64 ((f : Nat) : Int)), (7, .int .i64 ((i : Nat) : Int))] 35 0).toArray, []⟩ ∧ (am0 = s.size - i) ∧ (i ≤ s.size) ∧ (f = (splitTo s c i).2) ∧ (n0_5 ≤ i) ∧ (wl0.ownsRow w.heap.size 9 1 (.slice A0_5 n0_5 c0_5) n0_5 (strsV ((splitTo s c i).1))) ∧ (Below w.heap.size w wl0)) (s.size - 0) ?_ ?_
  · exact ⟨0, 0, (some ⟨b3, 0, none⟩), 0, 0, (fun iU9 => lk [(0, .string s), (1, .int .u8 ((c : Nat) : Int)), (4, .slice none 0 0), (5, .slice (some ⟨b3, 0, none⟩) 0 0), (6, .int .i64 0), (7, .int .i64 0)] iU9 (U13 iU9)), (by kernel_rfl), rfl, (Nat.zero_le _), rfl, (Nat.zero_le _), ho14, c11⟩
  rintro am0 aa0 wl0 K6 h6 ⟨i, f, A0_5, n0_5, c0_5, U0, rfl, rfl, hi, hf, hn9, ho0_5, c15⟩
  have hle := splitTo_le s c i
  refine wp_seq_k (fun K7 h7 => ?_)
  refine wp_seq_k (fun K8 h8 => ?_)
  refine W.region_quiet [(0, false), (1, false), (2, false), (3, false)] (by kernel_rfl) ?_
  refine W.mv (v := .int .i64 ((i : Nat) : Int)) (h := ?_)
  refine W.mv (v := .string s) (h := ?_)
  refine W.q (v := .int .i64 ((s.size : Nat) : Int)) (hr := (r_lenS (s := s) rfl (by kernel_rfl) (by kernel_rfl))) (h := ?_)
  by_cases q16 : (((i : Nat) : Int) : Int) < (((s.size : Nat) : Int) : Int)
  · refine W.q (v := .bool true) (hr := (r_lss (m := ((i : Nat) : Int)) (n := ((s.size : Nat) : Int)) rfl (by kernel_rfl) (by kernel_rfl) (decide_eq_true q16))) (h := ?_)
    refine W.endF 35 [(0, .string s), (1, .int .u8 ((c : Nat) : Int)), (4, .slice none 0 0), (5, .slice A0_5 n0_5 c0_5), (6, .int .i64 ((f : Nat) : Int)), (7, .int .i64 ((i : Nat) : Int)), (12, .bool true)] (fun U17 => ?_)
    refine h8 _ _ ?_
    refine wp_cond_true (by kernel_rfl) ?_
    refine wp_skip ?_
    refine h7 _ _ ?_
    refine wp_seq_k (fun K9 h9 => ?_)
    refine wp_block ?_
    refine wp_seq_k (fun K10 h10 => ?_)
    refine W.region_quiet [(0, false), (1, false), (2, false), (3, false), (4, false)] (by kernel_rfl) ?_
    refine W.mv (v := .string s) (h := ?_)
    refine W.mv (v := .int .i64 ((i : Nat) : Int)) (h := ?_)
    refine W.q (v := .int .u8 ((bAt s i : Nat) : Int)) (hr := (r_indexS (s := s) (k := i) rfl (by kernel_rfl) (by kernel_rfl) (by kernel_rfl) (by omega))) (h := ?_)
    refine W.mv (v := .int .u8 ((c : Nat) : Int)) (h := ?_)
    by_cases q18 : (((bAt s i : Nat) : Int) : Int) = (((c : Nat) : Int) : Int)
    · refine W.q (v := .bool true) (hr := (r_eqlK (k := .u8) (m := ((bAt s i : Nat) : Int)) (n := ((c : Nat) : Int)) rfl (by kernel_rfl) (by kernel_rfl) (decide_eq_true q18))) (h := ?_)
      refine W.endF 35 [(0, .string s), (1, .int .u8 ((c : Nat) : Int)), (4, .slice none 0 0), (5, .slice A0_5 n0_5 c0_5), (6, .int .i64 ((f : Nat) : Int)), (7, .int .i64 ((i : Nat) : Int)), (12, .bool true), (19, .bool true)] (fun U19 => ?_)
      refine h10 _ _ ?_
      refine wp_cond_true (by kernel_rfl) ?_
      refine wp_seq_k (fun K11 h11 => ?_)
      refine W.region_plain (row := (Value.ownBlock (.slice A0_5 n0_5 c0_5))) [(0, false), (1, false), (2, false), (3, false), (4, false), (5, true), (6, true), (7, false)] (by kernel_rfl) ?_
      have s20 := SG.self wl0 (Value.ownBlock (.slice A0_5 n0_5 c0_5))
      refine W.mv (v := .slice A0_5 n0_5 c0_5) (h := ?_)
      refine W.mv (v := .string s) (h := ?_)
      refine W.mv (v := .int .i64 ((f : Nat) : Int)) (h := ?_)
      refine W.mv (v := .int .i64 ((i : Nat) : Int)) (h := ?_)
      refine W.q (v := .string (s.extract f i)) (hr := (r_cutS (s := s) (l := f) (h := i) rfl (by kernel_rfl) (by kernel_rfl) (by kernel_rfl) (by kernel_rfl) (by omega) (by omega))) (h := ?_)
      refine W.sn (fun b => .slice (some ⟨b, 0, none⟩) 1 1) #[.string (s.extract f i)] 9 s20 rfl (by kernel_rfl) rfl (fun _ => by kernel_rfl) (fun b21 w22 hb23 k24 x25 s26 => ?_)
      have lo27 : w.heap.size ≤ b21 := by have := ((SG.belowR c15 s20 (fun kq e => (World.ownsRow.lt ho0_5 kq e).1))).size; omega
      have nb28 : Nb b21 (.slice A0_5 n0_5 c0_5) := nb_hi ho0_5 (Nat.le_of_eq hb23)
      have ho29 := own_kept ho0_5 k24
      refine W.sap (e := 9) (size := 1) (base := w.heap.size) (m := 1) (v := .slice A0_5 n0_5 c0_5) (c := 1) s26 rfl rfl rfl rfl (by kernel_rfl) (by kernel_rfl) (by kernel_rfl) ho29 x25 (by kernel_rfl) (by kernel_rfl) (by omega) (by omega) (by have := ((SG.belowR c15 s26 (fun kq e => (World.ownsRow.lt ho0_5 kq e).1))).size; omega) (.inl rfl) (fun g30 cap31 w32 ho33 hg34 hat35 hlt36 s37 => ?_)
      have nb38 : Nb b21 (.slice (some ⟨g30, 0, none⟩) (n0_5 + 1) cap31) := nb_app nb28 (blk_lt x25) hat35
      have x25 := (hg34.block _ (blk_lt x25) nb28).trans x25
      have ho33 := own_snocS ho33
      refine W.as (v := .slice (some ⟨g30, 0, none⟩) (n0_5 + 1) cap31) (h := ?_)
      refine W.endF 35 [(0, .string s), (1, .int .u8 ((c : Nat) : Int)), (4, .slice none 0 0), (5, .slice (some ⟨g30, 0, none⟩) (n0_5 + 1) cap31), (6, .int .i64 ((f : Nat) : Int)), (7, .int .i64 ((i : Nat) : Int)), (12, .bool true), (19, .bool true)] (fun U39 => ?_)
      have c40 := (SG.belowR c15 s37 (fun kq e => (World.ownsRow.lt ho0_5 kq e).1))
      refine h11 _ _ ?_
      refine W.region_quiet [(0, false), (1, false), (2, false)] (by kernel_rfl) ?_
      refine W.mv (v := .int .i64 ((i : Nat) : Int)) (h := ?_)
      refine W.q (v := .int .i64 ((i + 1 : Nat) : Int)) (hr := (r_add (m := ((i : Nat) : Int)) (n := 1) (z := ((i + 1 : Nat) : Int)) rfl (by kernel_rfl) (by kernel_rfl) (by omega) (by omega))) (h := ?_)
      refine W.as (v := .int .i64 ((i + 1 : Nat) : Int)) (h := ?_)
      refine W.endF 35 [(0, .string s), (1, .int .u8 ((c : Nat) : Int)), (4, .slice none 0 0), (5, .slice (some ⟨g30, 0, none⟩) (n0_5 + 1) cap31), (6, .int .i64 ((i + 1 : Nat) : Int)), (7, .int .i64 ((i : Nat) : Int)), (12, .bool true), (19, .bool true)] (fun U41 => ?_)
      refine h9 _ _ ?_
      refine W.region_quiet [(0, false), (1, false), (2, false)] (by kernel_rfl) ?_
      refine W.mv (v := .int .i64 ((i : Nat) : Int)) (h := ?_)
      refine W.q (v := .int .i64 ((i + 1 : Nat) : Int)) (hr := (r_add (m := ((i : Nat) : Int)) (n := 1) (z := ((i + 1 : Nat) : Int)) rfl (by kernel_rfl) (by kernel_rfl) (by omega) (by omega))) (h := ?_)
      refine W.as (v := .int .i64 ((i + 1 : Nat) : Int)) (h := ?_)
      refine W.endF 35 [(0, .string s), (1, .int .u8 ((c : Nat) : Int)), (4, .slice none 0 0), (5, .slice (some ⟨g30, 0, none⟩) (n0_5 + 1) cap31), (6, .int .i64 ((i + 1 : Nat) : Int)), (7, .int .i64 ((i + 1 : Nat) : Int)), (12, .bool true), (19, .bool true)] (fun U42 => ?_)
      have hst := splitTo_yes (s := s) (c := c) (i := i) (by omega)
      have hle9 := splitTo_le s c (i + 1)
      have hfr : i + 1 = (splitTo s c (i + 1)).2 := by rw [hst]
      exact h6 _ _ _ (by omega : (s.size - (i + 1)) < _) ⟨i + 1, i + 1, (some ⟨g30, 0, none⟩), (n0_5 + 1), cap31, (fun iU9 => lk [(0, .string s), (1, .int .u8 ((c : Nat) : Int)), (4, .slice none 0 0), (5, .slice (some ⟨g30, 0, none⟩) (n0_5 + 1) cap31), (6, .int .i64 ((i + 1 : Nat) : Int)), (7, .int .i64 ((i + 1 : Nat) : Int)), (12, .bool true), (19, .bool true)] iU9 (U42 iU9)), (by kernel_rfl), rfl, (by omega), (by rw [hst]), (by omega), (by rw [(show (splitTo s c (i + 1)).1 = ((splitTo s c i).1 ++ [(s.extract f i)]) from by rw [hst, ← hf])]; exact ho33), c40⟩
    · refine W.q (v := .bool false) (hr := (r_eqlK (k := .u8) (m := ((bAt s i : Nat) : Int)) (n := ((c : Nat) : Int)) rfl (by kernel_rfl) (by kernel_rfl) (decide_eq_false q18))) (h := ?_)
      refine W.endF 35 [(0, .string s), (1, .int .u8 ((c : Nat) : Int)), (4, .slice none 0 0), (5, .slice A0_5 n0_5 c0_5), (6, .int .i64 ((f : Nat) : Int)), (7, .int .i64 ((i : Nat) : Int)), (12, .bool true), (19, .bool false)] (fun U43 => ?_)
      refine h10 _ _ ?_
      refine wp_cond_false (by kernel_rfl) ?_
      refine wp_skip ?_
      refine h9 _ _ ?_
      refine W.region_quiet [(0, false), (1, false), (2, false)] (by kernel_rfl) ?_
      refine W.mv (v := .int .i64 ((i : Nat) : Int)) (h := ?_)
      refine W.q (v := .int .i64 ((i + 1 : Nat) : Int)) (hr := (r_add (m := ((i : Nat) : Int)) (n := 1) (z := ((i + 1 : Nat) : Int)) rfl (by kernel_rfl) (by kernel_rfl) (by omega) (by omega))) (h := ?_)
      refine W.as (v := .int .i64 ((i + 1 : Nat) : Int)) (h := ?_)
      refine W.endF 35 [(0, .string s), (1, .int .u8 ((c : Nat) : Int)), (4, .slice none 0 0), (5, .slice A0_5 n0_5 c0_5), (6, .int .i64 ((f : Nat) : Int)), (7, .int .i64 ((i + 1 : Nat) : Int)), (12, .bool true), (19, .bool false)] (fun U44 => ?_)
      have hst := splitTo_no (s := s) (c := c) (i := i) (by omega)
      have hle9 := splitTo_le s c (i + 1)
      exact h6 _ _ _ (by omega : (s.size - (i + 1)) < _) ⟨i + 1, f, A0_5, n0_5, c0_5, (fun iU9 => lk [(0, .string s), (1, .int .u8 ((c : Nat) : Int)), (4, .slice none 0 0), (5, .slice A0_5 n0_5 c0_5), (6, .int .i64 ((f : Nat) : Int)), (7, .int .i64 ((i + 1 : Nat) : Int)), (12, .bool true), (19, .bool false)] iU9 (U44 iU9)), (by kernel_rfl), rfl, (by omega), (by rw [hst]; exact hf), (by omega), (by rw [(show (splitTo s c (i + 1)).1 = (splitTo s c i).1 from by rw [hst])]; exact ho0_5), c15⟩
  · refine W.q (v := .bool false) (hr := (r_lss (m := ((i : Nat) : Int)) (n := ((s.size : Nat) : Int)) rfl (by kernel_rfl) (by kernel_rfl) (decide_eq_false q16))) (h := ?_)
    refine W.endF 35 [(0, .string s), (1, .int .u8 ((c : Nat) : Int)), (4, .slice none 0 0), (5, .slice A0_5 n0_5 c0_5), (6, .int .i64 ((f : Nat) : Int)), (7, .int .i64 ((i : Nat) : Int)), (12, .bool false)] (fun U45 => ?_)
    refine h8 _ _ ?_
    refine wp_cond_false (by kernel_rfl) ?_
    refine wp_exit ?_
    refine h4 _ _ ?_
    refine wp_seq_k (fun K12 h12 => ?_)
    refine W.region_plain (row := (Value.ownBlock (.slice A0_5 n0_5 c0_5))) [(0, false), (1, false), (2, false), (3, false), (4, true), (5, true), (6, false)] (by kernel_rfl) ?_
    have s46 := SG.self wl0 (Value.ownBlock (.slice A0_5 n0_5 c0_5))
    refine W.mv (v := .slice A0_5 n0_5 c0_5) (h := ?_)
    refine W.mv (v := .string s) (h := ?_)
    refine W.mv (v := .int .i64 ((f : Nat) : Int)) (h := ?_)
    refine W.q (v := .string (s.extract f s.size)) (hr := (r_fromS (s := s) (l := f) rfl (by kernel_rfl) (by kernel_rfl) (by kernel_rfl) (by omega))) (h := ?_)
    refine W.sn (fun b => .slice (some ⟨b, 0, none⟩) 1 1) #[.string (s.extract f s.size)] 9 s46 rfl (by kernel_rfl) rfl (fun _ => by kernel_rfl) (fun b47 w48 hb49 k50 x51 s52 => ?_)
    have lo53 : w.heap.size ≤ b47 := by have := ((SG.belowR c15 s46 (fun kq e => (World.ownsRow.lt ho0_5 kq e).1))).size; omega
    have nb54 : Nb b47 (.slice A0_5 n0_5 c0_5) := nb_hi ho0_5 (Nat.le_of_eq hb49)
    have ho55 := own_kept ho0_5 k50
    refine W.sap (e := 9) (size := 1) (base := w.heap.size) (m := 1) (v := .slice A0_5 n0_5 c0_5) (c := 1) s52 rfl rfl rfl rfl (by kernel_rfl) (by kernel_rfl) (by kernel_rfl) ho55 x51 (by kernel_rfl) (by kernel_rfl) (by omega) (by omega) (by have := ((SG.belowR c15 s52 (fun kq e => (World.ownsRow.lt ho0_5 kq e).1))).size; omega) (.inl rfl) (fun g56 cap57 w58 ho59 hg60 hat61 hlt62 s63 => ?_)
    have nb64 : Nb b47 (.slice (some ⟨g56, 0, none⟩) (n0_5 + 1) cap57) := nb_app nb54 (blk_lt x51) hat61
    have x51 := (hg60.block _ (blk_lt x51) nb54).trans x51
    have ho59 := own_snocS ho59
    refine W.as (v := .slice (some ⟨g56, 0, none⟩) (n0_5 + 1) cap57) (h := ?_)
    refine W.endF 35 [(0, .string s), (1, .int .u8 ((c : Nat) : Int)), (4, .slice (some ⟨g56, 0, none⟩) (n0_5 + 1) cap57), (5, .slice A0_5 n0_5 c0_5), (6, .int .i64 ((f : Nat) : Int)), (7, .int .i64 ((i : Nat) : Int)), (12, .bool false)] (fun U65 => ?_)
    have c66 := (SG.belowR c15 s63 (fun kq e => (World.ownsRow.lt ho0_5 kq e).1))
    refine h12 _ _ ?_
    refine wp_ret ?_
    try simp only [Exit.then]
    refine ret1 (v := .slice (some ⟨g56, 0, none⟩) (n0_5 + 1) cap57) rfl (by kernel_rfl) ?_
    have e8 : i = s.size := by omega
    have e9 : splitL s c = ((splitTo s c i).1 ++ [(s.extract f s.size)]) := by unfold splitL; rw [← e8, ← hf]
    exact ⟨_, _, _, rfl, (by rw [e9]; exact ho59), c66⟩

/-- Does a byte stand in a text? -/
def standsTo (s : ByteArray) (c i : Nat) : Prop := ∃ j, j < i ∧ bAt s j = c
instance (s : ByteArray) (c i : Nat) : Decidable (standsTo s c i) := inferInstanceAs (Decidable (∃ j, j < i ∧ bAt s j = c))
def standsB (s : ByteArray) (c : Nat) : Bool := decide (standsTo s c s.size)
theorem stands_no {s : ByteArray} {c i : Nat} (h : ¬ standsTo s c i) (h2 : ¬ bAt s i = c) : ¬ standsTo s c (i + 1) := fun ⟨j, h3, h4⟩ => by
  rcases Nat.lt_succ_iff_lt_or_eq.1 h3 with h5 | rfl
  · exact h ⟨j, h5, h4⟩
  · exact h2 h4

set_option maxRecDepth 100000 in
set_option maxHeartbeats 1000000 in
theorem l1Stands_any (s : ByteArray) (c : Nat) (w : World) (hs : s.size ≤ 1048576) :
    Calls Tryd.prog 75 #[.string s, .int .u8 ((c : Nat) : Int)] w fun e w' => e = .returned (.bool (standsB s c)) ∧ Below w.heap.size w w' := by
  go_enter Tryd.func75, Tryd.ntmps75
  refine wp_seq_k (fun K1 h1 => ?_)
  refine W.region_quiet [(0, false)] (by kernel_rfl) ?_
  refine W.as (v := .bool false) (h := ?_)
  refine W.endF 17 [(0, .string s), (1, .int .u8 ((c : Nat) : Int)), (4, .bool false)] (fun U1 => ?_)
  refine h1 _ _ ?_
  refine wp_seq_k (fun K2 h2 => ?_)
  refine wp_seq_k (fun K3 h3 => ?_)
  refine W.region_quiet [(0, false)] (by kernel_rfl) ?_
  refine W.as (v := .int .i64 0) (h := ?_)
  refine W.endF 17 [(0, .string s), (1, .int .u8 ((c : Nat) : Int)), (4, .bool false), (5, .int .i64 0)] (fun U2 => ?_)
  refine h3 _ _ ?_
  refine wp_block ?_
  refine loopK (fun am0 aa0 wl0 => ∃ (i : Nat) (U0 : Nat → Value), aa0 = ⟨(fr U0 [(0, .string s), (1, .int .u8 ((c : Nat) : Int)), (4, .bool false), (5, .int .i64 ((i : Nat) : Int))] 17 0).toArray, []⟩ ∧ (am0 = s.size - i) ∧ (i ≤ s.size) ∧ (¬ standsTo s c i) ∧ (Below w.heap.size w wl0)) (s.size - 0) ?_ ?_
  · exact ⟨0, (fun iU9 => lk [(0, .string s), (1, .int .u8 ((c : Nat) : Int)), (4, .bool false), (5, .int .i64 0)] iU9 (U2 iU9)), (by kernel_rfl), rfl, (Nat.zero_le _), (fun ⟨j, h, _⟩ => by omega), (Below.refl _ _)⟩
  rintro am0 aa0 wl0 K4 h4 ⟨i, U0, rfl, rfl, hi, hno, c3⟩
  refine wp_seq_k (fun K5 h5 => ?_)
  refine wp_seq_k (fun K6 h6 => ?_)
  refine W.region_quiet [(0, false), (1, false), (2, false), (3, false)] (by kernel_rfl) ?_
  refine W.mv (v := .int .i64 ((i : Nat) : Int)) (h := ?_)
  refine W.mv (v := .string s) (h := ?_)
  refine W.q (v := .int .i64 ((s.size : Nat) : Int)) (hr := (r_lenS (s := s) rfl (by kernel_rfl) (by kernel_rfl))) (h := ?_)
  by_cases q4 : (((i : Nat) : Int) : Int) < (((s.size : Nat) : Int) : Int)
  · refine W.q (v := .bool true) (hr := (r_lss (m := ((i : Nat) : Int)) (n := ((s.size : Nat) : Int)) rfl (by kernel_rfl) (by kernel_rfl) (decide_eq_true q4))) (h := ?_)
    refine W.endF 17 [(0, .string s), (1, .int .u8 ((c : Nat) : Int)), (4, .bool false), (5, .int .i64 ((i : Nat) : Int)), (9, .bool true)] (fun U5 => ?_)
    refine h6 _ _ ?_
    refine wp_cond_true (by kernel_rfl) ?_
    refine wp_skip ?_
    refine h5 _ _ ?_
    refine wp_seq_k (fun K7 h7 => ?_)
    refine wp_block ?_
    refine wp_seq_k (fun K8 h8 => ?_)
    refine W.region_quiet [(0, false), (1, false), (2, false), (3, false), (4, false)] (by kernel_rfl) ?_
    refine W.mv (v := .string s) (h := ?_)
    refine W.mv (v := .int .i64 ((i : Nat) : Int)) (h := ?_)
    refine W.q (v := .int .u8 ((bAt s i : Nat) : Int)) (hr := (r_indexS (s := s) (k := i) rfl (by kernel_rfl) (by kernel_rfl) (by kernel_rfl) (by omega))) (h := ?_)
    refine W.mv (v := .int .u8 ((c : Nat) : Int)) (h := ?_)
    by_cases q6 : (((bAt s i : Nat) : Int) : Int) = (((c : Nat) : Int) : Int)
    · refine W.q (v := .bool true) (hr := (r_eqlK (k := .u8) (m := ((bAt s i : Nat) : Int)) (n := ((c : Nat) : Int)) rfl (by kernel_rfl) (by kernel_rfl) (decide_eq_true q6))) (h := ?_)
      refine W.endF 17 [(0, .string s), (1, .int .u8 ((c : Nat) : Int)), (4, .bool false), (5, .int .i64 ((i : Nat) : Int)), (9, .bool true), (16, .bool true)] (fun U7 => ?_)
      refine h8 _ _ ?_
      refine wp_cond_true (by kernel_rfl) ?_
      refine wp_seq_k (fun K9 h9 => ?_)
      refine W.region_quiet [(0, false)] (by kernel_rfl) ?_
      refine W.as (v := .bool true) (h := ?_)
      refine W.endF 17 [(0, .string s), (1, .int .u8 ((c : Nat) : Int)), (4, .bool true), (5, .int .i64 ((i : Nat) : Int)), (9, .bool true), (16, .bool true)] (fun U8 => ?_)
      refine h9 _ _ ?_
      refine wp_ret ?_
      try simp only [Exit.then, Exit.inBlock]
      refine ret1 (v := .bool true) rfl (by kernel_rfl) ?_
      exact ⟨by rw [show standsB s c = true from decide_eq_true ⟨i, by omega, by omega⟩], c3⟩
    · refine W.q (v := .bool false) (hr := (r_eqlK (k := .u8) (m := ((bAt s i : Nat) : Int)) (n := ((c : Nat) : Int)) rfl (by kernel_rfl) (by kernel_rfl) (decide_eq_false q6))) (h := ?_)
      refine W.endF 17 [(0, .string s), (1, .int .u8 ((c : Nat) : Int)), (4, .bool false), (5, .int .i64 ((i : Nat) : Int)), (9, .bool true), (16, .bool false)] (fun U9 => ?_)
      refine h8 _ _ ?_
      refine wp_cond_false (by kernel_rfl) ?_
      refine wp_skip ?_
      refine h7 _ _ ?_
      refine W.region_quiet [(0, false), (1, false), (2, false)] (by kernel_rfl) ?_
      refine W.mv (v := .int .i64 ((i : Nat) : Int)) (h := ?_)
      refine W.q (v := .int .i64 ((i + 1 : Nat) : Int)) (hr := (r_add (m := ((i : Nat) : Int)) (n := 1) (z := ((i + 1 : Nat) : Int)) rfl (by kernel_rfl) (by kernel_rfl) (by omega) (by omega))) (h := ?_)
      refine W.as (v := .int .i64 ((i + 1 : Nat) : Int)) (h := ?_)
      refine W.endF 17 [(0, .string s), (1, .int .u8 ((c : Nat) : Int)), (4, .bool false), (5, .int .i64 ((i + 1 : Nat) : Int)), (9, .bool true), (16, .bool false)] (fun U10 => ?_)
      exact h4 _ _ _ (by omega : (s.size - (i + 1)) < _) ⟨i + 1, (fun iU9 => lk [(0, .string s), (1, .int .u8 ((c : Nat) : Int)), (4, .bool false), (5, .int .i64 ((i + 1 : Nat) : Int)), (9, .bool true), (16, .bool false)] iU9 (U10 iU9)), (by kernel_rfl), rfl, (by omega), (stands_no hno (by omega)), c3⟩
  · refine W.q (v := .bool false) (hr := (r_lss (m := ((i : Nat) : Int)) (n := ((s.size : Nat) : Int)) rfl (by kernel_rfl) (by kernel_rfl) (decide_eq_false q4))) (h := ?_)
    refine W.endF 17 [(0, .string s), (1, .int .u8 ((c : Nat) : Int)), (4, .bool false), (5, .int .i64 ((i : Nat) : Int)), (9, .bool false)] (fun U11 => ?_)
    refine h6 _ _ ?_
    refine wp_cond_false (by kernel_rfl) ?_
    refine wp_exit ?_
    refine h2 _ _ ?_
    refine wp_seq_k (fun K10 h10 => ?_)
    refine W.region_quiet [(0, false)] (by kernel_rfl) ?_
    refine W.as (v := .bool false) (h := ?_)
    refine W.endF 17 [(0, .string s), (1, .int .u8 ((c : Nat) : Int)), (4, .bool false), (5, .int .i64 ((i : Nat) : Int)), (9, .bool false)] (fun U12 => ?_)
    refine h10 _ _ ?_
    refine wp_ret ?_
    try simp only [Exit.then]
    refine ret1 (v := .bool false) rfl (by kernel_rfl) ?_
    exact ⟨by rw [show standsB s c = false from decide_eq_false (by rw [show s.size = i by omega]; exact hno)], c3⟩

end Go.Proofs.YtdlcldaogcbnlaaDoor
