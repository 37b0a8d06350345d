/- What the texts behind it build on; conditions: none. -/
import Derived.Test.YtdbgfejeleafgaaPs8
namespace Go.Proofs.Ytdbgfejeleafgaa
open Go.RowKit
set_option linter.unusedVariables false
set_option linter.unusedSimpArgs false
def SegmentOfPipe_v2 (m : Int) (ps : List Pp) (vs : List Vv) (a : Int) : Bool := goodV m ps vs && decide (0 ≤ findL ps a)
noncomputable def SegmentOfPipe_v0 (m : Int) (ps : List Pp) (vs : List Vv) (a : Int) : List Int := if SegmentOfPipe_v2 m ps vs a = true then nodesL (linked ps (openQ vs false)) m.toNat (9 + findL ps a) true else []
theorem SegmentOfPipe_len (m : Int) (ps : List Pp) (vs : List Vv) (a : Int) : (SegmentOfPipe_v0 m ps vs a).length ≤ 1048576 := by
  unfold SegmentOfPipe_v0
  split
  · rename_i h
    have hg : goodV m ps vs = true := by unfold SegmentOfPipe_v2 at h; rw [Bool.and_eq_true] at h; exact h.1
    have hv := goodV_of hg
    have h1 := hv.net.hi
    have h2 := hv.net.len
    skip
    have := nodesL_len (linked ps (openQ vs false)) m.toNat (9 + findL ps a) true
    omega
  · simp
noncomputable def SegmentOfPipe_v1 (m : Int) (ps : List Pp) (vs : List Vv) (a : Int) : List Int := if SegmentOfPipe_v2 m ps vs a = true then idsAt ps (idxL (linked ps (openQ vs false)) ps.length (9 + findL ps a) true) else []
theorem SegmentOfPipe_len1 (m : Int) (ps : List Pp) (vs : List Vv) (a : Int) : (SegmentOfPipe_v1 m ps vs a).length ≤ 1048576 := by
  unfold SegmentOfPipe_v1
  split
  · rename_i h
    have hg : goodV m ps vs = true := by unfold SegmentOfPipe_v2 at h; rw [Bool.and_eq_true] at h; exact h.1
    have hv := goodV_of hg
    have h1 := hv.net.hi
    have h2 := hv.net.len
    rw [idsAt_len]
    have := idxL_len (linked ps (openQ vs false)) ps.length (9 + findL ps a) true
    omega
  · simp
set_option maxRecDepth 100000 in
set_option maxHeartbeats 8000000 in
theorem SegmentOfPipe_spec (m : Int) (A : Option Addr) (n c : Nat) (ps : List Pp) (A2 : Option Addr) (n2 c2 : Nat) (vs : List Vv) (a : Int) (w : World) (ha : Rd w 4 A n (pipesV ps)) (hb : Rd w 4 A2 n2 (valvesV vs)) (hn : n ≤ 1048576) (hn2 : n2 ≤ 1048576) (hfm : Fm A n c) (hfm2 : Fm A2 n2 c2) :
    Calls Try.prog 11 #[.agg #[.int .i64 m, .slice A n c], .slice A2 n2 c2, .int .i64 a] w fun e w' => ∃ A0 d0 A1 d1, e = .returned (.tuple #[.slice A0 (SegmentOfPipe_v0 m ps vs a).length d0, .slice A1 (SegmentOfPipe_v1 m ps vs a).length d1, .bool (SegmentOfPipe_v2 m ps vs a)]) ∧ Rd w' 1 A0 (SegmentOfPipe_v0 m ps vs a).length (intsV (SegmentOfPipe_v0 m ps vs a)) ∧ Rd w' 1 A1 (SegmentOfPipe_v1 m ps vs a).length (intsV (SegmentOfPipe_v1 m ps vs a)) ∧ Below w.heap.size w w' := by
 have hl := rd_pipes_len ha
 have hl2 := rd_valves_len hb
 have hfl := findL_lt ps a
 go_enter Try.func11, Try.ntmps11
 refine F.begin 38 [(0, .agg #[.int .i64 m, .slice A n c]), (1, .slice A2 n2 c2), (2, .int .i64 a)] (fun U0 => ?_)
 refine wk fun K1 h1 => ?_
 refine W.region_plain (row := none) [(0, true), (1, false), (2, false), (3, false)] kk ?_
 have s1 := SG.self w none
 refine W.sn (fun b => .pointer (some ⟨b, 0, none⟩)) #[.int .i64 m, .slice A n c] 26 s1 rfl kk rfl (fun _ => by kernel_rfl) (fun b2 w3 hb4 k5 x6 s7 => ?_)
 refine F.nx ?_
 have lo8 : w.heap.size ≤ b2 := Nat.le_trans ((SG.belowR (Below.refl _ _) s1 (fun kq e => by cases e))).size (Nat.le_of_eq hb4)
 refine Fa (.slice none 0 0) ?_
 refine Fa (.slice none 0 0) ?_
 refine Fa (.bool false) ?_
 refine F.es ?_
 have c9 := (SG.belowR (Below.refl _ _) s7 (fun kq e => by cases e))
 refine h1 _ _ ?_
 refine wk fun K2 h2 => ?_
 refine W.region_plain (row := none) [(0, false), (1, false), (2, true), (3, false)] kk ?_
 have s10 := SG.self w3 none
 refine Fq (.agg #[.int .i64 m, .slice A n c]) (r_load2 rfl ek kk kk (sgS (blk_cell (j := 0) x6 kk) (Option.some_ne_none _)) (sgS (blk_cell (j := 1) x6 kk) (Option.some_ne_none _))) ?_
 refine Fv (.int .i64 a) ?_
 refine Fc [.agg #[.int .i64 m, .slice A n c], .int .i64 a] (l2Find_any m A n c ps a _ (Rd.kept ha (SG.belowR c9 s10 (fun kq e => by cases e))) (by omega)) ?_
 rintro e w12 ⟨rfl, b11⟩
 have s13 := SG.of_below s10 b11
 refine ⟨_, rfl, s13, ?_⟩
 refine F.nx ?_
 refine Fa (.int .i64 (findL ps a)) ?_
 refine F.es ?_
 have x6 := SG.blk s13 x6 (Option.some_ne_none _)
 have c14 := (SG.belowR c9 s13 (fun kq e => by cases e))
 refine h2 _ _ ?_
 refine wk fun K3 h3 => ?_
 refine wk fun K4 h4 => ?_
 refine W.region_plain (row := none) [(0, false), (1, false), (2, true), (3, false), (4, false), (5, false), (6, false), (7, false)] kk ?_
 have s15 := SG.self w12 none
 refine Fq (.agg #[.int .i64 m, .slice A n c]) (r_load2 rfl ek kk kk (sgS (blk_cell (j := 0) x6 kk) (Option.some_ne_none _)) (sgS (blk_cell (j := 1) x6 kk) (Option.some_ne_none _))) ?_
 refine Fv (.slice A2 n2 c2) ?_
 refine Fc [.agg #[.int .i64 m, .slice A n c], .slice A2 n2 c2] (l4Good_any m A n c ps A2 n2 c2 vs _ (Rd.kept ha (SG.belowR c14 s15 (fun kq e => by cases e))) (Rd.kept hb (SG.belowR c14 s15 (fun kq e => by cases e))) (by omega) (by omega)) ?_
 rintro e w17 ⟨rfl, b16⟩
 have s18 := SG.of_below s15 b16
 refine ⟨_, rfl, s18, ?_⟩
 refine F.nx ?_
 rcases Bool.eq_false_or_eq_true (goodV m ps vs) with q19 | q19
 ·rw [q19]
  have hv9 := goodV_of q19
  have hg := hv9.net
  have hgl := hg.lo
  have hgh := hg.hi
  have hp := hg.pipesIn
  have hlen10 := hg.len
  have hu := hv9.uniq
  have hvl := hv9.len
  refine Fq (.bool false) (r_not (b := true) rfl ek rfl) ?_
  refine Fv (.bool false) ?_
  refine Fv (.int .i64 (findL ps a)) ?_
  by_cases q20 : (findL ps a : Int) < (0 : Int)
  ·refine Fq (.bool true) (r_lss (m := findL ps a) (n := 0) rfl ek ek (decide_eq_true q20)) ?_
   refine Fq (.bool true) (r_pick (b := false) rfl ek ek) ?_
   refine F.es ?_
   have x6 := SG.blk s18 x6 (Option.some_ne_none _)
   have c21 := (SG.belowR c14 s18 (fun kq e => by cases e))
   refine h4 _ _ ?_
   refine wp_cond_true ek ?_
   refine wk fun K5 h5 => ?_
   refine W.region_plain (row := none) [(0, true), (1, true), (2, false), (3, false), (4, false)] kk ?_
   have s22 := SG.self w17 none
   refine W.sn (fun b => .slice (some ⟨b, 0, none⟩) 0 0) #[] 3 s22 rfl kk rfl (fun _ => by kernel_rfl) (fun b23 w24 hb25 k26 x27 s28 => ?_)
   refine F.nx ?_
   have lo29 : w.heap.size ≤ b23 := Nat.le_trans ((SG.belowR c21 s22 (fun kq e => by cases e))).size (Nat.le_of_eq hb25)
   refine W.sn (fun b => .slice (some ⟨b, 0, none⟩) 0 0) #[] 3 s28 rfl kk rfl (fun _ => by kernel_rfl) (fun b31 w32 hb33 k34 x35 s36 => ?_)
   refine F.nx ?_
   have lo37 : w.heap.size ≤ b31 := Nat.le_trans ((SG.belowR c21 s28 (fun kq e => by cases e))).size (Nat.le_of_eq hb33)
   have x27 := (k34.block _ (blk_lt x27)).trans x27
   refine Fa (.slice (some ⟨b23, 0, none⟩) 0 0) ?_
   refine Fa (.slice (some ⟨b31, 0, none⟩) 0 0) ?_
   refine Fa (.bool false) ?_
   refine F.es ?_
   have x6 := SG.blk s36 x6 (Option.some_ne_none _)
   have c40 := (SG.belowR c21 s36 (fun kq e => by cases e))
   refine h5 _ _ ?_
   refine wp_ret ?_
   try simp only [Exit.then]
   refine ret3 (v := .slice (some ⟨b23, 0, none⟩) 0 0) (x := .slice (some ⟨b31, 0, none⟩) 0 0) (y := .bool false) rfl kk kk kk ?_
   have ok41 : SegmentOfPipe_v2 m ps vs a = false := by unfold SegmentOfPipe_v2; rw [decide_eq_false (by omega), Bool.and_false]
   have ho42 := own_empty (base := w.heap.size) (size := 1) x27 lo29
   replace ho42 : World.ownsRow _ _ _ _ _ _ (intsV []) := ho42
   have ho45 := own_empty (base := w.heap.size) (size := 1) x35 lo37
   replace ho45 : World.ownsRow _ _ _ _ _ _ (intsV []) := ho45
   exact fin_rd2 (zs := []) (zs' := []) (own_rd ho42) (own_rd ho45) (by unfold SegmentOfPipe_v0; rw [if_neg (by rw [ok41]; simp)]) (by unfold SegmentOfPipe_v1; rw [if_neg (by rw [ok41]; simp)]) ok41.symm c40
  refine Fq (.bool false) (r_lss (m := findL ps a) (n := 0) rfl ek ek (decide_eq_false q20)) ?_
  refine Fq (.bool false) (r_pick (b := false) rfl ek ek) ?_
  refine F.es ?_
  have x6 := SG.blk s18 x6 (Option.some_ne_none _)
  have c48 := (SG.belowR c14 s18 (fun kq e => by cases e))
  refine h4 _ _ ?_
  refine wp_cond_false ek ?_
  refine wp_skip ?_
  refine h3 _ _ ?_
  refine wk fun K6 h6 => ?_
  refine W.region_plain (row := none) [(0, false), (1, false), (2, true), (3, false), (4, true), (5, true), (6, false), (7, false), (8, false), (9, false), (10, false)] kk ?_
  have s49 := SG.self w17 none
  refine Fq (.agg #[.int .i64 m, .slice A n c]) (r_load2 rfl ek kk kk (sgS (blk_cell (j := 0) x6 kk) (Option.some_ne_none _)) (sgS (blk_cell (j := 1) x6 kk) (Option.some_ne_none _))) ?_
  refine Fv (.slice A2 n2 c2) ?_
  refine W.sn (fun b => .slice (some ⟨b, 0, none⟩) 0 0) #[] 3 s49 rfl kk rfl (fun _ => by kernel_rfl) (fun b50 w51 hb52 k53 x54 s55 => ?_)
  refine F.nx ?_
  have lo56 : w.heap.size ≤ b50 := Nat.le_trans ((SG.belowR c48 s49 (fun kq e => by cases e))).size (Nat.le_of_eq hb52)
  refine Fv (.int .i64 (findL ps a)) ?_
  refine W.sn (fun b => .slice (some ⟨b, 0, none⟩) 1 1) #[.int .i64 (findL ps a)] 3 s55 rfl kk rfl (fun _ => by kernel_rfl) (fun b58 w59 hb60 k61 x62 s63 => ?_)
  refine F.nx ?_
  have lo64 : w.heap.size ≤ b58 := Nat.le_trans ((SG.belowR c48 s55 (fun kq e => by cases e))).size (Nat.le_of_eq hb60)
  have x54 := (k61.block _ (blk_lt x54)).trans x54
  have ho67 := own_empty (base := w.heap.size) (size := 1) x54 lo56
  replace ho67 : World.ownsRow _ _ _ _ _ _ (intsV []) := ho67
  have rd71 := own_rd ho67
  have hl72 := rd_ints_len rd71
  have ho73 := own_blk (base := w.heap.size) (size := 1) (n := 1) x62 lo64 rfl (by omega)
  replace ho73 : World.ownsRow _ _ _ _ _ _ (intsV [findL ps a]) := ho73
  have rd76 := own_rd ho73
  have hl77 := rd_ints_len rd76
  refine Fc [.agg #[.int .i64 m, .slice A n c], .slice A2 n2 c2, .bool false, .slice (some ⟨b50, 0, none⟩) 0 0, .slice (some ⟨b58, 0, none⟩) 1 1] (l4Spread_false m A n c ps A2 n2 c2 vs (9 + (findL ps a)) (some ⟨b50, 0, none⟩) 0 0 ([]) (some ⟨b58, 0, none⟩) 1 1 ([findL ps a]) _ (Rd.kept ha (SG.belowR c48 s63 (fun kq e => by cases e))) (Rd.kept hb (SG.belowR c48 s63 (fun kq e => by cases e))) (by omega) (by omega) hp (by omega) (by omega) rd71 (own_fm ho67) rd76 (own_fm ho73) (FndQ.startP _ (by omega))) ?_
  rintro e w93 ⟨A78, n79, c80, A81, n82, c83, rfl, rd84, fm85, rd86, fm87, b92⟩
  have s94 := SG.of_below s63 b92
  refine ⟨_, rfl, s94, ?_⟩
  refine F.nx ?_
  have hl90 := rd_ints_len rd84
  have hl91 := rd_ints_len rd86
  have := nodesL_len (linked ps (openQ vs false)) m.toNat (9 + (findL ps a)) true
  have := idxL_len (linked ps (openQ vs false)) ps.length (9 + (findL ps a)) true
  refine Fv (.tuple #[.slice A78 n79 c80, .slice A81 n82 c83]) ?_
  refine Fq (.slice A78 n79 c80) (r_extract (vs := #[.slice A78 n79 c80, .slice A81 n82 c83]) rfl ek kk) ?_
  refine Fq (.slice A81 n82 c83) (r_extract (vs := #[.slice A78 n79 c80, .slice A81 n82 c83]) rfl ek kk) ?_
  refine Fa (.slice A78 n79 c80) ?_
  refine Fa (.slice A81 n82 c83) ?_
  refine F.es ?_
  have x6 := SG.blk s94 x6 (Option.some_ne_none _)
  have c97 := (SG.belowR c48 s94 (fun kq e => by cases e))
  refine h6 _ _ ?_
  refine wk fun K7 h7 => ?_
  refine W.region_plain (row := none) [(0, false), (1, false), (2, false), (3, true), (4, false), (5, false), (6, false)] kk ?_
  have s98 := SG.self w93 none
  refine Fv (.slice A78 n79 c80) ?_
  refine Fq (.agg #[.int .i64 m, .slice A n c]) (r_load2 rfl ek kk kk (sgS (blk_cell (j := 0) x6 kk) (Option.some_ne_none _)) (sgS (blk_cell (j := 1) x6 kk) (Option.some_ne_none _))) ?_
  refine Fv (.slice A81 n82 c83) ?_
  refine Fc [.agg #[.int .i64 m, .slice A n c], .slice A81 n82 c83] (l4Ids_any m A n c ps A81 n82 c83 (idxL (linked ps (openQ vs false)) ps.length (9 + (findL ps a)) true) _ (Rd.kept ha (SG.belowR c97 s98 (fun kq e => by cases e))) (by omega) (Rd.kept rd86 (SG.below s98)) (by omega) (fun y hy => (mem_idxL.1 hy).1)) ?_
  rintro e w107 ⟨A99, n100, c101, rfl, rd102, fm103, b106⟩
  have s108 := SG.of_below s98 b106
  refine ⟨_, rfl, s108, ?_⟩
  refine F.nx ?_
  have hl104 := rd_ints_len rd102
  refine Fa (.slice A78 n79 c80) ?_
  refine Fa (.slice A99 n100 c101) ?_
  refine Fa (.bool true) ?_
  refine F.es ?_
  have c109 := (SG.belowR c97 s108 (fun kq e => by cases e))
  have rd112 := Rd.kept rd84 (SG.below s108)
  refine h7 _ _ ?_
  refine wp_ret ?_
  try simp only [Exit.then]
  refine ret3 (v := .slice A78 n79 c80) (x := .slice A99 n100 c101) (y := .bool true) rfl kk kk kk ?_
  have ok114 : SegmentOfPipe_v2 m ps vs a = true := by unfold SegmentOfPipe_v2; rw [q19, decide_eq_true (by omega)]; try rfl
  exact fin_rd2  rd112 rd102 (by unfold SegmentOfPipe_v0; rw [if_pos ok114]) (by unfold SegmentOfPipe_v1; rw [if_pos ok114]) ok114.symm c109
 rw [q19]
 refine Fq (.bool true) (r_not (b := false) rfl ek rfl) ?_
 refine Fv (.bool true) ?_
 refine Fs s18 ?_
 refine Fs s18 ?_
 refine Fq (.bool true) (r_pick (b := true) rfl ek ek) ?_
 refine F.es ?_
 have c115 := (SG.belowR c14 s18 (fun kq e => by cases e))
 refine h4 _ _ ?_
 refine wp_cond_true ek ?_
 refine wk fun K8 h8 => ?_
 refine W.region_plain (row := none) [(0, true), (1, true), (2, false), (3, false), (4, false)] kk ?_
 have s116 := SG.self w17 none
 refine W.sn (fun b => .slice (some ⟨b, 0, none⟩) 0 0) #[] 3 s116 rfl kk rfl (fun _ => by kernel_rfl) (fun b117 w118 hb119 k120 x121 s122 => ?_)
 refine F.nx ?_
 have lo123 : w.heap.size ≤ b117 := Nat.le_trans ((SG.belowR c115 s116 (fun kq e => by cases e))).size (Nat.le_of_eq hb119)
 refine W.sn (fun b => .slice (some ⟨b, 0, none⟩) 0 0) #[] 3 s122 rfl kk rfl (fun _ => by kernel_rfl) (fun b125 w126 hb127 k128 x129 s130 => ?_)
 refine F.nx ?_
 have lo131 : w.heap.size ≤ b125 := Nat.le_trans ((SG.belowR c115 s122 (fun kq e => by cases e))).size (Nat.le_of_eq hb127)
 have x121 := (k128.block _ (blk_lt x121)).trans x121
 refine Fa (.slice (some ⟨b117, 0, none⟩) 0 0) ?_
 refine Fa (.slice (some ⟨b125, 0, none⟩) 0 0) ?_
 refine Fa (.bool false) ?_
 refine F.es ?_
 have c134 := (SG.belowR c115 s130 (fun kq e => by cases e))
 refine h8 _ _ ?_
 refine wp_ret ?_
 try simp only [Exit.then]
 refine ret3 (v := .slice (some ⟨b117, 0, none⟩) 0 0) (x := .slice (some ⟨b125, 0, none⟩) 0 0) (y := .bool false) rfl kk kk kk ?_
 have ok135 : SegmentOfPipe_v2 m ps vs a = false := by unfold SegmentOfPipe_v2; rw [q19]; try rfl
 have ho136 := own_empty (base := w.heap.size) (size := 1) x121 lo123
 replace ho136 : World.ownsRow _ _ _ _ _ _ (intsV []) := ho136
 have ho139 := own_empty (base := w.heap.size) (size := 1) x129 lo131
 replace ho139 : World.ownsRow _ _ _ _ _ _ (intsV []) := ho139
 exact fin_rd2 (zs := []) (zs' := []) (own_rd ho136) (own_rd ho139) (by unfold SegmentOfPipe_v0; rw [if_neg (by rw [ok135]; simp)]) (by unfold SegmentOfPipe_v1; rw [if_neg (by rw [ok135]; simp)]) ok135.symm c134
set_option maxRecDepth 100000 in
set_option maxHeartbeats 8000000 in
theorem SegmentOfPipe_impl (m : Int) (A : Option Addr) (n c : Nat) (ps : List Pp) (A2 : Option Addr) (n2 c2 : Nat) (vs : List Vv) (a : Int) (w : World) (ha : Rd w 4 A n (pipesV ps)) (hb : Rd w 4 A2 n2 (valvesV vs)) (hn : n ≤ 1048576) (hn2 : n2 ≤ 1048576) (hfm : Fm A n c) (hfm2 : Fm A2 n2 c2) :
    Calls Try.prog 10 #[.agg #[.int .i64 m, .slice A n c], .slice A2 n2 c2, .int .i64 a] w fun e w' => ∃ A0 d0 A1 d1, e = .returned (.tuple #[.slice A0 (SegmentOfPipe_v0 m ps vs a).length d0, .slice A1 (SegmentOfPipe_v1 m ps vs a).length d1, .bool (SegmentOfPipe_v2 m ps vs a)]) ∧ w'.ownsRow w.heap.size 3 1 (.slice A0 (SegmentOfPipe_v0 m ps vs a).length d0) (SegmentOfPipe_v0 m ps vs a).length (intsV (SegmentOfPipe_v0 m ps vs a)) ∧ w'.ownsRow w.heap.size 3 1 (.slice A1 (SegmentOfPipe_v1 m ps vs a).length d1) (SegmentOfPipe_v1 m ps vs a).length (intsV (SegmentOfPipe_v1 m ps vs a)) ∧ NbR (.slice A0 (SegmentOfPipe_v0 m ps vs a).length d0) (.slice A1 (SegmentOfPipe_v1 m ps vs a).length d1) ∧ Below w.heap.size w w' := by
 have hl := rd_pipes_len ha
 have hl2 := rd_valves_len hb
 have hfl := findL_lt ps a
 go_enter Try.func10, Try.ntmps10
 refine F.begin 35 [(0, .agg #[.int .i64 m, .slice A n c]), (1, .slice A2 n2 c2), (2, .int .i64 a)] (fun U0 => ?_)
 refine wk fun K1 h1 => ?_
 refine W.region_plain (row := none) [(0, true), (1, false), (2, false), (3, false)] kk ?_
 have s1 := SG.self w none
 refine W.sn (fun b => .pointer (some ⟨b, 0, none⟩)) #[.int .i64 m, .slice A n c] 26 s1 rfl kk rfl (fun _ => by kernel_rfl) (fun b2 w3 hb4 k5 x6 s7 => ?_)
 refine F.nx ?_
 have lo8 : w.heap.size ≤ b2 := Nat.le_trans ((SG.belowR (Below.refl _ _) s1 (fun kq e => by cases e))).size (Nat.le_of_eq hb4)
 refine Fa (.slice none 0 0) ?_
 refine Fa (.slice none 0 0) ?_
 refine Fa (.bool false) ?_
 refine F.es ?_
 have c9 := (SG.belowR (Below.refl _ _) s7 (fun kq e => by cases e))
 refine h1 _ _ ?_
 refine wk fun K2 h2 => ?_
 refine wk fun K3 h3 => ?_
 refine W.region_plain (row := none) [(0, false), (1, false), (2, true), (3, false), (4, false), (5, false), (6, false), (7, true), (8, false), (9, false)] kk ?_
 have s10 := SG.self w3 none
 refine Fq (.agg #[.int .i64 m, .slice A n c]) (r_load2 rfl ek kk kk (sgS (blk_cell (j := 0) x6 kk) (Option.some_ne_none _)) (sgS (blk_cell (j := 1) x6 kk) (Option.some_ne_none _))) ?_
 refine Fv (.slice A2 n2 c2) ?_
 refine Fc [.agg #[.int .i64 m, .slice A n c], .slice A2 n2 c2] (IsValidValves_any m A n c ps A2 n2 c2 vs _ (Rd.kept ha (SG.belowR c9 s10 (fun kq e => by cases e))) (Rd.kept hb (SG.belowR c9 s10 (fun kq e => by cases e))) (by omega) (by omega) hfm2) ?_
 rintro e w12 ⟨rfl, b11⟩
 have s13 := SG.of_below s10 b11
 refine ⟨_, rfl, s13, ?_⟩
 refine F.nx ?_
 rcases Bool.eq_false_or_eq_true (goodV m ps vs) with q14 | q14
 ·rw [q14]
  have hv9 := goodV_of q14
  have hg := hv9.net
  have hgl := hg.lo
  have hgh := hg.hi
  have hp := hg.pipesIn
  have hlen10 := hg.len
  have hu := hv9.uniq
  have hvl := hv9.len
  refine Fq (.bool false) (r_not (b := true) rfl ek rfl) ?_
  refine Fv (.bool false) ?_
  refine Fq (.agg #[.int .i64 m, .slice A n c]) (r_load2 rfl ek kk kk (sgS (blk_cell (j := 0) x6 kk) (Option.some_ne_none _)) (sgS (blk_cell (j := 1) x6 kk) (Option.some_ne_none _))) ?_
  refine Fv (.int .i64 a) ?_
  refine Fc [.agg #[.int .i64 m, .slice A n c], .int .i64 a] (pipeIndex_any m A n c ps a _ (Rd.kept ha (SG.belowR c9 s13 (fun kq e => by cases e))) (by omega)) ?_
  rintro e w16 ⟨rfl, b15⟩
  have s17 := SG.of_below s13 b15
  refine ⟨_, rfl, s17, ?_⟩
  refine F.nx ?_
  by_cases q18 : (findL ps a : Int) < (0 : Int)
  ·refine Fq (.bool true) (r_lss (m := findL ps a) (n := 0) rfl ek ek (decide_eq_true q18)) ?_
   refine Fq (.bool true) (r_pick (b := false) rfl ek ek) ?_
   refine F.es ?_
   have x6 := SG.blk s17 x6 (Option.some_ne_none _)
   have c19 := (SG.belowR c9 s17 (fun kq e => by cases e))
   refine h3 _ _ ?_
   refine wp_cond_true ek ?_
   refine wk fun K4 h4 => ?_
   refine W.region_quiet [(0, false), (1, false), (2, false)] kk ?_
   refine Fa (.slice none 0 0) ?_
   refine Fa (.slice none 0 0) ?_
   refine Fa (.bool false) ?_
   refine F.es ?_
   refine h4 _ _ ?_
   refine wp_ret ?_
   try simp only [Exit.then]
   refine ret3 (v := .slice none 0 0) (x := .slice none 0 0) (y := .bool false) rfl kk kk kk ?_
   have ok20 : SegmentOfPipe_v2 m ps vs a = false := by unfold SegmentOfPipe_v2; rw [decide_eq_false (by omega), Bool.and_false]
   exact fin_ints2 (zs := []) (zs' := []) (World.ownsRow_nil _ _ _ _) (World.ownsRow_nil _ _ _ _) (by unfold SegmentOfPipe_v0; rw [if_neg (by rw [ok20]; simp)]) (by unfold SegmentOfPipe_v1; rw [if_neg (by rw [ok20]; simp)]) ok20.symm nbr_nil c19
  refine Fq (.bool false) (r_lss (m := findL ps a) (n := 0) rfl ek ek (decide_eq_false q18)) ?_
  refine Fq (.bool false) (r_pick (b := false) rfl ek ek) ?_
  refine F.es ?_
  have x6 := SG.blk s17 x6 (Option.some_ne_none _)
  have c21 := (SG.belowR c9 s17 (fun kq e => by cases e))
  refine h3 _ _ ?_
  refine wp_cond_false ek ?_
  refine wp_skip ?_
  refine h2 _ _ ?_
  refine wk fun K5 h5 => ?_
  refine W.region_sch (row := none) (Sch.of [(0, false), (1, false), (2, false), (3, false), (4, false), (5, true), (6, true), (7, true), (8, true), (9, false), (10, false), (11, false), (12, false), (13, false)]) kk kk (fun _ d _ _ _ h => by cases d <;> exact h) kk (fun w22 e23 s24 => ?_)
  refine Fq (.agg #[.int .i64 m, .slice A n c]) (r_load2 rfl ek kk kk (sgS (blk_cell (j := 0) x6 kk) (Option.some_ne_none _)) (sgS (blk_cell (j := 1) x6 kk) (Option.some_ne_none _))) ?_
  refine Fq (.agg #[.int .i64 m, .slice A n c]) (r_load2 rfl ek kk kk (sgS (blk_cell (j := 0) x6 kk) (Option.some_ne_none _)) (sgS (blk_cell (j := 1) x6 kk) (Option.some_ne_none _))) ?_
  refine Fv (.slice A2 n2 c2) ?_
  refine Fq (.agg #[.int .i64 m, .slice A n c]) (r_load2 rfl ek kk kk (sgS (blk_cell (j := 0) x6 kk) (Option.some_ne_none _)) (sgS (blk_cell (j := 1) x6 kk) (Option.some_ne_none _))) ?_
  refine Fv (.int .i64 a) ?_
  refine Fc [.agg #[.int .i64 m, .slice A n c], .int .i64 a] (pipeIndex_any m A n c ps a _ (Rd.kept ha (SG.belowR c21 s24 (fun kq e => by cases e))) (by omega)) ?_
  rintro e w26 ⟨rfl, b25⟩
  have s27 := SG.of_below s24 b25
  refine ⟨_, rfl, s27, ?_⟩
  refine F.nx ?_
  refine Fc [.int .i64 (findL ps a)] (element_any (findL ps a) _ (by omega)) ?_
  rintro e w' ⟨rfl, rfl⟩
  refine ⟨_, rfl, s27, ?_⟩
  refine F.nx ?_
  refine Fc [.agg #[.int .i64 m, .slice A n c], .slice A2 n2 c2, .int .i64 (9 + (findL ps a))] (segmentOf_any m A n c ps A2 n2 c2 vs (9 + (findL ps a)) (9 + (findL ps a)).toNat _ (Rd.kept ha (SG.belowR c21 s27 (fun kq e => by cases e))) (Rd.kept hb (SG.belowR c21 s27 (fun kq e => by cases e))) (by omega) (by omega) hp (by omega) (by omega) (by omega) (by omega)) ?_
  rintro e w36 ⟨pb30, rfl, lo34, rd31, b35⟩
  have s37 := SG.of_below s27 b35
  refine ⟨_, rfl, s37, ?_⟩
  refine F.nx ?_
  have hl32 := rd_bools_len rd31
  rw [wetL_len] at hl32
  have hl32 : (wetL (linked ps (openQ vs false)) (9 + (findL ps a))).length = 19 := wetL_len _ _
  have z49 := ((SG.belowR c21 s37 (fun kq e => by cases e))).size
  refine Fc [.agg #[.int .i64 m, .slice A n c], .pointer (some ⟨pb30, 0, none⟩), .bool true] (nodesAndPipes_any m A n c ps pb30 true (linked ps (openQ vs false)) (9 + (findL ps a)) _ (Rd.kept ha (SG.belowR c21 s37 (fun kq e => by cases e))) (by omega) (by omega) (by omega) rd31) ?_
  rintro e w53 ⟨A38, n39, c40, A41, n42, c43, rfl, ho44, ho45, nr46, b52⟩
  have s54 := SG.of_below s37 b52
  refine ⟨_, rfl, s54, ?_⟩
  refine F.nx ?_
  have ho47 := own_base (base' := w.heap.size) ho44 z49
  have hlr50 := rd_ints_len (own_rd ho47)
  have ho48 := own_base (base' := w.heap.size) ho45 z49
  have hlr51 := rd_ints_len (own_rd ho48)
  refine Fv (.tuple #[.slice A38 n39 c40, .slice A41 n42 c43]) ?_
  refine Fq (.slice A38 n39 c40) (r_extract (vs := #[.slice A38 n39 c40, .slice A41 n42 c43]) rfl ek kk) ?_
  refine Fq (.slice A41 n42 c43) (r_extract (vs := #[.slice A38 n39 c40, .slice A41 n42 c43]) rfl ek kk) ?_
  refine Fa (.slice A38 n39 c40) ?_
  refine Fa (.slice A41 n42 c43) ?_
  refine F.es ?_
  have c58 := (SG.belowR c21 s54 (fun kq e => by cases e))
  refine h5 _ _ ?_
  refine wk fun K6 h6 => ?_
  refine W.region_quiet [(0, false), (1, false), (2, false), (3, false), (4, false)] kk ?_
  refine Fv (.slice A38 n39 c40) ?_
  refine Fv (.slice A41 n42 c43) ?_
  refine Fa (.slice A38 n39 c40) ?_
  refine Fa (.slice A41 n42 c43) ?_
  refine Fa (.bool true) ?_
  refine F.es ?_
  refine h6 _ _ ?_
  refine wp_ret ?_
  try simp only [Exit.then]
  refine ret3 (v := .slice A38 n39 c40) (x := .slice A41 n42 c43) (y := .bool true) rfl kk kk kk ?_
  have ok59 : SegmentOfPipe_v2 m ps vs a = true := by unfold SegmentOfPipe_v2; rw [q14, decide_eq_true (by omega)]; try rfl
  exact fin_ints2  ho47 ho48 (by unfold SegmentOfPipe_v0; rw [if_pos ok59]) (by unfold SegmentOfPipe_v1; rw [if_pos ok59]) ok59.symm nr46 c58
 rw [q14]
 refine Fq (.bool true) (r_not (b := false) rfl ek rfl) ?_
 refine Fv (.bool true) ?_
 refine Fs s13 ?_
 refine Fs s13 ?_
 refine Fs s13 ?_
 refine Fs s13 ?_
 refine Fq (.bool true) (r_pick (b := true) rfl ek ek) ?_
 refine F.es ?_
 have c60 := (SG.belowR c9 s13 (fun kq e => by cases e))
 refine h3 _ _ ?_
 refine wp_cond_true ek ?_
 refine wk fun K7 h7 => ?_
 refine W.region_quiet [(0, false), (1, false), (2, false)] kk ?_
 refine Fa (.slice none 0 0) ?_
 refine Fa (.slice none 0 0) ?_
 refine Fa (.bool false) ?_
 refine F.es ?_
 refine h7 _ _ ?_
 refine wp_ret ?_
 try simp only [Exit.then]
 refine ret3 (v := .slice none 0 0) (x := .slice none 0 0) (y := .bool false) rfl kk kk kk ?_
 have ok61 : SegmentOfPipe_v2 m ps vs a = false := by unfold SegmentOfPipe_v2; rw [q14]; try rfl
 exact fin_ints2 (zs := []) (zs' := []) (World.ownsRow_nil _ _ _ _) (World.ownsRow_nil _ _ _ _) (by unfold SegmentOfPipe_v0; rw [if_neg (by rw [ok61]; simp)]) (by unfold SegmentOfPipe_v1; rw [if_neg (by rw [ok61]; simp)]) ok61.symm nbr_nil c60
def SegmentOfNode_v2 (m : Int) (ps : List Pp) (vs : List Vv) (a : Int) : Bool := goodV m ps vs && inB a 1 m
noncomputable def SegmentOfNode_v0 (m : Int) (ps : List Pp) (vs : List Vv) (a : Int) : List Int := if SegmentOfNode_v2 m ps vs a = true then nodesL (linked ps (openQ vs false)) m.toNat a true else []
theorem SegmentOfNode_len (m : Int) (ps : List Pp) (vs : List Vv) (a : Int) : (SegmentOfNode_v0 m ps vs a).length ≤ 1048576 := by
  unfold SegmentOfNode_v0
  split
  · rename_i h
    have hg : goodV m ps vs = true := by unfold SegmentOfNode_v2 at h; rw [Bool.and_eq_true] at h; exact h.1
    have hv := goodV_of hg
    have h1 := hv.net.hi
    have h2 := hv.net.len
    skip
    have := nodesL_len (linked ps (openQ vs false)) m.toNat a true
    omega
  · simp
noncomputable def SegmentOfNode_v1 (m : Int) (ps : List Pp) (vs : List Vv) (a : Int) : List Int := if SegmentOfNode_v2 m ps vs a = true then idsAt ps (idxL (linked ps (openQ vs false)) ps.length a true) else []
theorem SegmentOfNode_len1 (m : Int) (ps : List Pp) (vs : List Vv) (a : Int) : (SegmentOfNode_v1 m ps vs a).length ≤ 1048576 := by
  unfold SegmentOfNode_v1
  split
  · rename_i h
    have hg : goodV m ps vs = true := by unfold SegmentOfNode_v2 at h; rw [Bool.and_eq_true] at h; exact h.1
    have hv := goodV_of hg
    have h1 := hv.net.hi
    have h2 := hv.net.len
    rw [idsAt_len]
    have := idxL_len (linked ps (openQ vs false)) ps.length a true
    omega
  · simp
set_option maxRecDepth 100000 in
set_option maxHeartbeats 8000000 in
theorem SegmentOfNode_spec (m : Int) (A : Option Addr) (n c : Nat) (ps : List Pp) (A2 : Option Addr) (n2 c2 : Nat) (vs : List Vv) (a : Int) (w : World) (ha : Rd w 4 A n (pipesV ps)) (hb : Rd w 4 A2 n2 (valvesV vs)) (hn : n ≤ 1048576) (hn2 : n2 ≤ 1048576) (hfm : Fm A n c) (hfm2 : Fm A2 n2 c2) :
    Calls Try.prog 23 #[.agg #[.int .i64 m, .slice A n c], .slice A2 n2 c2, .int .i64 a] w fun e w' => ∃ A0 d0 A1 d1, e = .returned (.tuple #[.slice A0 (SegmentOfNode_v0 m ps vs a).length d0, .slice A1 (SegmentOfNode_v1 m ps vs a).length d1, .bool (SegmentOfNode_v2 m ps vs a)]) ∧ Rd w' 1 A0 (SegmentOfNode_v0 m ps vs a).length (intsV (SegmentOfNode_v0 m ps vs a)) ∧ Rd w' 1 A1 (SegmentOfNode_v1 m ps vs a).length (intsV (SegmentOfNode_v1 m ps vs a)) ∧ Below w.heap.size w w' := by
 have hl := rd_pipes_len ha
 have hl2 := rd_valves_len hb
 have hfl := findL_lt ps a
 go_enter Try.func23, Try.ntmps23
 refine F.begin 36 [(0, .agg #[.int .i64 m, .slice A n c]), (1, .slice A2 n2 c2), (2, .int .i64 a)] (fun U0 => ?_)
 refine wk fun K1 h1 => ?_
 refine W.region_plain (row := none) [(0, true), (1, false), (2, false), (3, false)] kk ?_
 have s1 := SG.self w none
 refine W.sn (fun b => .pointer (some ⟨b, 0, none⟩)) #[.int .i64 m, .slice A n c] 26 s1 rfl kk rfl (fun _ => by kernel_rfl) (fun b2 w3 hb4 k5 x6 s7 => ?_)
 refine F.nx ?_
 have lo8 : w.heap.size ≤ b2 := Nat.le_trans ((SG.belowR (Below.refl _ _) s1 (fun kq e => by cases e))).size (Nat.le_of_eq hb4)
 refine Fa (.slice none 0 0) ?_
 refine Fa (.slice none 0 0) ?_
 refine Fa (.bool false) ?_
 refine F.es ?_
 have c9 := (SG.belowR (Below.refl _ _) s7 (fun kq e => by cases e))
 refine h1 _ _ ?_
 refine wk fun K2 h2 => ?_
 refine wk fun K3 h3 => ?_
 refine W.region_plain (row := none) [(0, false), (1, false), (2, true), (3, false), (4, false), (5, false), (6, false), (7, true), (8, false), (9, false)] kk ?_
 have s10 := SG.self w3 none
 refine Fq (.agg #[.int .i64 m, .slice A n c]) (r_load2 rfl ek kk kk (sgS (blk_cell (j := 0) x6 kk) (Option.some_ne_none _)) (sgS (blk_cell (j := 1) x6 kk) (Option.some_ne_none _))) ?_
 refine Fv (.slice A2 n2 c2) ?_
 refine Fc [.agg #[.int .i64 m, .slice A n c], .slice A2 n2 c2] (l4Good_any m A n c ps A2 n2 c2 vs _ (Rd.kept ha (SG.belowR c9 s10 (fun kq e => by cases e))) (Rd.kept hb (SG.belowR c9 s10 (fun kq e => by cases e))) (by omega) (by omega)) ?_
 rintro e w12 ⟨rfl, b11⟩
 have s13 := SG.of_below s10 b11
 refine ⟨_, rfl, s13, ?_⟩
 refine F.nx ?_
 rcases Bool.eq_false_or_eq_true (goodV m ps vs) with q14 | q14
 ·rw [q14]
  have hv9 := goodV_of q14
  have hg := hv9.net
  have hgl := hg.lo
  have hgh := hg.hi
  have hp := hg.pipesIn
  have hlen10 := hg.len
  have hu := hv9.uniq
  have hvl := hv9.len
  refine Fq (.bool false) (r_not (b := true) rfl ek rfl) ?_
  refine Fv (.bool false) ?_
  refine Fq (.agg #[.int .i64 m, .slice A n c]) (r_load2 rfl ek kk kk (sgS (blk_cell (j := 0) x6 kk) (Option.some_ne_none _)) (sgS (blk_cell (j := 1) x6 kk) (Option.some_ne_none _))) ?_
  refine Fv (.int .i64 a) ?_
  refine Fc [.agg #[.int .i64 m, .slice A n c], .int .i64 a] (l2Node_any m A n c ps a _ (Rd.kept ha (SG.belowR c9 s13 (fun kq e => by cases e))) (by omega)) ?_
  rintro e w16 ⟨rfl, b15⟩
  have s17 := SG.of_below s13 b15
  refine ⟨_, rfl, s17, ?_⟩
  refine F.nx ?_
  rcases Bool.eq_false_or_eq_true (goodN m ps && inB a 1 m) with q18 | q18
  ·rw [q18]
   have q19 : inB a 1 m = true := (Bool.and_eq_true_iff.1 q18).2
   have ha9 := inB_iff.1 q19
   refine Fq (.bool false) (r_not (b := true) rfl ek rfl) ?_
   refine Fq (.bool false) (r_pick (b := false) rfl ek ek) ?_
   refine F.es ?_
   have x6 := SG.blk s17 x6 (Option.some_ne_none _)
   have c20 := (SG.belowR c9 s17 (fun kq e => by cases e))
   refine h3 _ _ ?_
   refine wp_cond_false ek ?_
   refine wp_skip ?_
   refine h2 _ _ ?_
   refine wk fun K4 h4 => ?_
   refine W.region_plain (row := none) [(0, false), (1, false), (2, false), (3, true), (4, true), (5, true), (6, false), (7, false), (8, false), (9, false), (10, false)] kk ?_
   have s21 := SG.self w16 none
   refine Fq (.agg #[.int .i64 m, .slice A n c]) (r_load2 rfl ek kk kk (sgS (blk_cell (j := 0) x6 kk) (Option.some_ne_none _)) (sgS (blk_cell (j := 1) x6 kk) (Option.some_ne_none _))) ?_
   refine Fv (.slice A2 n2 c2) ?_
   refine Fv (.int .i64 a) ?_
   refine W.sn (fun b => .slice (some ⟨b, 0, none⟩) 1 1) #[.int .i64 a] 3 s21 rfl kk rfl (fun _ => by kernel_rfl) (fun b22 w23 hb24 k25 x26 s27 => ?_)
   refine F.nx ?_
   have lo28 : w.heap.size ≤ b22 := Nat.le_trans ((SG.belowR c20 s21 (fun kq e => by cases e))).size (Nat.le_of_eq hb24)
   refine W.sn (fun b => .slice (some ⟨b, 0, none⟩) 0 0) #[] 3 s27 rfl kk rfl (fun _ => by kernel_rfl) (fun b30 w31 hb32 k33 x34 s35 => ?_)
   refine F.nx ?_
   have lo36 : w.heap.size ≤ b30 := Nat.le_trans ((SG.belowR c20 s27 (fun kq e => by cases e))).size (Nat.le_of_eq hb32)
   have x26 := (k33.block _ (blk_lt x26)).trans x26
   have ho39 := own_blk (base := w.heap.size) (size := 1) (n := 1) x26 lo28 rfl (by omega)
   replace ho39 : World.ownsRow _ _ _ _ _ _ (intsV [a]) := ho39
   have rd43 := own_rd ho39
   have hl44 := rd_ints_len rd43
   have ho45 := own_empty (base := w.heap.size) (size := 1) x34 lo36
   replace ho45 : World.ownsRow _ _ _ _ _ _ (intsV []) := ho45
   have rd48 := own_rd ho45
   have hl49 := rd_ints_len rd48
   refine Fc [.agg #[.int .i64 m, .slice A n c], .slice A2 n2 c2, .bool false, .slice (some ⟨b22, 0, none⟩) 1 1, .slice (some ⟨b30, 0, none⟩) 0 0] (l4Spread_false m A n c ps A2 n2 c2 vs (a) (some ⟨b22, 0, none⟩) 1 1 ([a]) (some ⟨b30, 0, none⟩) 0 0 ([]) _ (Rd.kept ha (SG.belowR c20 s35 (fun kq e => by cases e))) (Rd.kept hb (SG.belowR c20 s35 (fun kq e => by cases e))) (by omega) (by omega) hp (by omega) (by omega) rd43 (own_fm ho39) rd48 (own_fm ho45) (FndQ.startN _ (by omega))) ?_
   rintro e w65 ⟨A50, n51, c52, A53, n54, c55, rfl, rd56, fm57, rd58, fm59, b64⟩
   have s66 := SG.of_below s35 b64
   refine ⟨_, rfl, s66, ?_⟩
   refine F.nx ?_
   have hl62 := rd_ints_len rd56
   have hl63 := rd_ints_len rd58
   have := nodesL_len (linked ps (openQ vs false)) m.toNat (a) true
   have := idxL_len (linked ps (openQ vs false)) ps.length (a) true
   refine Fv (.tuple #[.slice A50 n51 c52, .slice A53 n54 c55]) ?_
   refine Fq (.slice A50 n51 c52) (r_extract (vs := #[.slice A50 n51 c52, .slice A53 n54 c55]) rfl ek kk) ?_
   refine Fq (.slice A53 n54 c55) (r_extract (vs := #[.slice A50 n51 c52, .slice A53 n54 c55]) rfl ek kk) ?_
   refine Fa (.slice A50 n51 c52) ?_
   refine Fa (.slice A53 n54 c55) ?_
   refine F.es ?_
   have x6 := SG.blk s66 x6 (Option.some_ne_none _)
   have c69 := (SG.belowR c20 s66 (fun kq e => by cases e))
   refine h4 _ _ ?_
   refine wk fun K5 h5 => ?_
   refine W.region_plain (row := none) [(0, false), (1, false), (2, false), (3, true), (4, false), (5, false), (6, false)] kk ?_
   have s70 := SG.self w65 none
   refine Fv (.slice A50 n51 c52) ?_
   refine Fq (.agg #[.int .i64 m, .slice A n c]) (r_load2 rfl ek kk kk (sgS (blk_cell (j := 0) x6 kk) (Option.some_ne_none _)) (sgS (blk_cell (j := 1) x6 kk) (Option.some_ne_none _))) ?_
   refine Fv (.slice A53 n54 c55) ?_
   refine Fc [.agg #[.int .i64 m, .slice A n c], .slice A53 n54 c55] (l4Ids_any m A n c ps A53 n54 c55 (idxL (linked ps (openQ vs false)) ps.length (a) true) _ (Rd.kept ha (SG.belowR c69 s70 (fun kq e => by cases e))) (by omega) (Rd.kept rd58 (SG.below s70)) (by omega) (fun y hy => (mem_idxL.1 hy).1)) ?_
   rintro e w79 ⟨A71, n72, c73, rfl, rd74, fm75, b78⟩
   have s80 := SG.of_below s70 b78
   refine ⟨_, rfl, s80, ?_⟩
   refine F.nx ?_
   have hl76 := rd_ints_len rd74
   refine Fa (.slice A50 n51 c52) ?_
   refine Fa (.slice A71 n72 c73) ?_
   refine Fa (.bool true) ?_
   refine F.es ?_
   have c81 := (SG.belowR c69 s80 (fun kq e => by cases e))
   have rd84 := Rd.kept rd56 (SG.below s80)
   refine h5 _ _ ?_
   refine wp_ret ?_
   try simp only [Exit.then]
   refine ret3 (v := .slice A50 n51 c52) (x := .slice A71 n72 c73) (y := .bool true) rfl kk kk kk ?_
   have ok86 : SegmentOfNode_v2 m ps vs a = true := by unfold SegmentOfNode_v2; rw [q14, q19]; try rfl
   exact fin_rd2  rd84 rd74 (by unfold SegmentOfNode_v0; rw [if_pos ok86]) (by unfold SegmentOfNode_v1; rw [if_pos ok86]) ok86.symm c81
  rw [q18]
  have q87 : inB a 1 m = false := by have h9 := q18; rw [hv9.good, Bool.true_and] at h9; exact h9
  refine Fq (.bool true) (r_not (b := false) rfl ek rfl) ?_
  refine Fq (.bool true) (r_pick (b := false) rfl ek ek) ?_
  refine F.es ?_
  have c88 := (SG.belowR c9 s17 (fun kq e => by cases e))
  refine h3 _ _ ?_
  refine wp_cond_true ek ?_
  refine wk fun K6 h6 => ?_
  refine W.region_plain (row := none) [(0, true), (1, true), (2, false), (3, false), (4, false)] kk ?_
  have s89 := SG.self w16 none
  refine W.sn (fun b => .slice (some ⟨b, 0, none⟩) 0 0) #[] 3 s89 rfl kk rfl (fun _ => by kernel_rfl) (fun b90 w91 hb92 k93 x94 s95 => ?_)
  refine F.nx ?_
  have lo96 : w.heap.size ≤ b90 := Nat.le_trans ((SG.belowR c88 s89 (fun kq e => by cases e))).size (Nat.le_of_eq hb92)
  refine W.sn (fun b => .slice (some ⟨b, 0, none⟩) 0 0) #[] 3 s95 rfl kk rfl (fun _ => by kernel_rfl) (fun b98 w99 hb100 k101 x102 s103 => ?_)
  refine F.nx ?_
  have lo104 : w.heap.size ≤ b98 := Nat.le_trans ((SG.belowR c88 s95 (fun kq e => by cases e))).size (Nat.le_of_eq hb100)
  have x94 := (k101.block _ (blk_lt x94)).trans x94
  refine Fa (.slice (some ⟨b90, 0, none⟩) 0 0) ?_
  refine Fa (.slice (some ⟨b98, 0, none⟩) 0 0) ?_
  refine Fa (.bool false) ?_
  refine F.es ?_
  have c107 := (SG.belowR c88 s103 (fun kq e => by cases e))
  refine h6 _ _ ?_
  refine wp_ret ?_
  try simp only [Exit.then]
  refine ret3 (v := .slice (some ⟨b90, 0, none⟩) 0 0) (x := .slice (some ⟨b98, 0, none⟩) 0 0) (y := .bool false) rfl kk kk kk ?_
  have ok108 : SegmentOfNode_v2 m ps vs a = false := by unfold SegmentOfNode_v2; rw [q87, Bool.and_false]
  have ho109 := own_empty (base := w.heap.size) (size := 1) x94 lo96
  replace ho109 : World.ownsRow _ _ _ _ _ _ (intsV []) := ho109
  have ho112 := own_empty (base := w.heap.size) (size := 1) x102 lo104
  replace ho112 : World.ownsRow _ _ _ _ _ _ (intsV []) := ho112
  exact fin_rd2 (zs := []) (zs' := []) (own_rd ho109) (own_rd ho112) (by unfold SegmentOfNode_v0; rw [if_neg (by rw [ok108]; simp)]) (by unfold SegmentOfNode_v1; rw [if_neg (by rw [ok108]; simp)]) ok108.symm c107
 rw [q14]
 refine Fq (.bool true) (r_not (b := false) rfl ek rfl) ?_
 refine Fv (.bool true) ?_
 refine Fs s13 ?_
 refine Fs s13 ?_
 refine Fs s13 ?_
 refine Fs s13 ?_
 refine Fq (.bool true) (r_pick (b := true) rfl ek ek) ?_
 refine F.es ?_
 have c115 := (SG.belowR c9 s13 (fun kq e => by cases e))
 refine h3 _ _ ?_
 refine wp_cond_true ek ?_
 refine wk fun K7 h7 => ?_
 refine W.region_plain (row := none) [(0, true), (1, true), (2, false), (3, false), (4, false)] kk ?_
 have s116 := SG.self w12 none
 refine W.sn (fun b => .slice (some ⟨b, 0, none⟩) 0 0) #[] 3 s116 rfl kk rfl (fun _ => by kernel_rfl) (fun b117 w118 hb119 k120 x121 s122 => ?_)
 refine F.nx ?_
 have lo123 : w.heap.size ≤ b117 := Nat.le_trans ((SG.belowR c115 s116 (fun kq e => by cases e))).size (Nat.le_of_eq hb119)
 refine W.sn (fun b => .slice (some ⟨b, 0, none⟩) 0 0) #[] 3 s122 rfl kk rfl (fun _ => by kernel_rfl) (fun b125 w126 hb127 k128 x129 s130 => ?_)
 refine F.nx ?_
 have lo131 : w.heap.size ≤ b125 := Nat.le_trans ((SG.belowR c115 s122 (fun kq e => by cases e))).size (Nat.le_of_eq hb127)
 have x121 := (k128.block _ (blk_lt x121)).trans x121
 refine Fa (.slice (some ⟨b117, 0, none⟩) 0 0) ?_
 refine Fa (.slice (some ⟨b125, 0, none⟩) 0 0) ?_
 refine Fa (.bool false) ?_
 refine F.es ?_
 have c134 := (SG.belowR c115 s130 (fun kq e => by cases e))
 refine h7 _ _ ?_
 refine wp_ret ?_
 try simp only [Exit.then]
 refine ret3 (v := .slice (some ⟨b117, 0, none⟩) 0 0) (x := .slice (some ⟨b125, 0, none⟩) 0 0) (y := .bool false) rfl kk kk kk ?_
 have ok135 : SegmentOfNode_v2 m ps vs a = false := by unfold SegmentOfNode_v2; rw [q14]; try rfl
 have ho136 := own_empty (base := w.heap.size) (size := 1) x121 lo123
 replace ho136 : World.ownsRow _ _ _ _ _ _ (intsV []) := ho136
 have ho139 := own_empty (base := w.heap.size) (size := 1) x129 lo131
 replace ho139 : World.ownsRow _ _ _ _ _ _ (intsV []) := ho139
 exact fin_rd2 (zs := []) (zs' := []) (own_rd ho136) (own_rd ho139) (by unfold SegmentOfNode_v0; rw [if_neg (by rw [ok135]; simp)]) (by unfold SegmentOfNode_v1; rw [if_neg (by rw [ok135]; simp)]) ok135.symm c134
set_option maxRecDepth 100000 in
set_option maxHeartbeats 8000000 in
theorem SegmentOfNode_impl (m : Int) (A : Option Addr) (n c : Nat) (ps : List Pp) (A2 : Option Addr) (n2 c2 : Nat) (vs : List Vv) (a : Int) (w : World) (ha : Rd w 4 A n (pipesV ps)) (hb : Rd w 4 A2 n2 (valvesV vs)) (hn : n ≤ 1048576) (hn2 : n2 ≤ 1048576) (hfm : Fm A n c) (hfm2 : Fm A2 n2 c2) :
    Calls Try.prog 15 #[.agg #[.int .i64 m, .slice A n c], .slice A2 n2 c2, .int .i64 a] w fun e w' => ∃ A0 d0 A1 d1, e = .returned (.tuple #[.slice A0 (SegmentOfNode_v0 m ps vs a).length d0, .slice A1 (SegmentOfNode_v1 m ps vs a).length d1, .bool (SegmentOfNode_v2 m ps vs a)]) ∧ w'.ownsRow w.heap.size 3 1 (.slice A0 (SegmentOfNode_v0 m ps vs a).length d0) (SegmentOfNode_v0 m ps vs a).length (intsV (SegmentOfNode_v0 m ps vs a)) ∧ w'.ownsRow w.heap.size 3 1 (.slice A1 (SegmentOfNode_v1 m ps vs a).length d1) (SegmentOfNode_v1 m ps vs a).length (intsV (SegmentOfNode_v1 m ps vs a)) ∧ NbR (.slice A0 (SegmentOfNode_v0 m ps vs a).length d0) (.slice A1 (SegmentOfNode_v1 m ps vs a).length d1) ∧ Below w.heap.size w w' := by
 have hl := rd_pipes_len ha
 have hl2 := rd_valves_len hb
 have hfl := findL_lt ps a
 go_enter Try.func15, Try.ntmps15
 refine F.begin 32 [(0, .agg #[.int .i64 m, .slice A n c]), (1, .slice A2 n2 c2), (2, .int .i64 a)] (fun U0 => ?_)
 refine wk fun K1 h1 => ?_
 refine W.region_plain (row := none) [(0, true), (1, false), (2, false), (3, false)] kk ?_
 have s1 := SG.self w none
 refine W.sn (fun b => .pointer (some ⟨b, 0, none⟩)) #[.int .i64 m, .slice A n c] 26 s1 rfl kk rfl (fun _ => by kernel_rfl) (fun b2 w3 hb4 k5 x6 s7 => ?_)
 refine F.nx ?_
 have lo8 : w.heap.size ≤ b2 := Nat.le_trans ((SG.belowR (Below.refl _ _) s1 (fun kq e => by cases e))).size (Nat.le_of_eq hb4)
 refine Fa (.slice none 0 0) ?_
 refine Fa (.slice none 0 0) ?_
 refine Fa (.bool false) ?_
 refine F.es ?_
 have c9 := (SG.belowR (Below.refl _ _) s7 (fun kq e => by cases e))
 refine h1 _ _ ?_
 refine wk fun K2 h2 => ?_
 refine wk fun K3 h3 => ?_
 refine W.region_plain (row := none) [(0, false), (1, false), (2, true), (3, false), (4, false), (5, false), (6, false), (7, true), (8, false), (9, false)] kk ?_
 have s10 := SG.self w3 none
 refine Fq (.agg #[.int .i64 m, .slice A n c]) (r_load2 rfl ek kk kk (sgS (blk_cell (j := 0) x6 kk) (Option.some_ne_none _)) (sgS (blk_cell (j := 1) x6 kk) (Option.some_ne_none _))) ?_
 refine Fv (.slice A2 n2 c2) ?_
 refine Fc [.agg #[.int .i64 m, .slice A n c], .slice A2 n2 c2] (IsValidValves_any m A n c ps A2 n2 c2 vs _ (Rd.kept ha (SG.belowR c9 s10 (fun kq e => by cases e))) (Rd.kept hb (SG.belowR c9 s10 (fun kq e => by cases e))) (by omega) (by omega) hfm2) ?_
 rintro e w12 ⟨rfl, b11⟩
 have s13 := SG.of_below s10 b11
 refine ⟨_, rfl, s13, ?_⟩
 refine F.nx ?_
 rcases Bool.eq_false_or_eq_true (goodV m ps vs) with q14 | q14
 ·rw [q14]
  have hv9 := goodV_of q14
  have hg := hv9.net
  have hgl := hg.lo
  have hgh := hg.hi
  have hp := hg.pipesIn
  have hlen10 := hg.len
  have hu := hv9.uniq
  have hvl := hv9.len
  refine Fq (.bool false) (r_not (b := true) rfl ek rfl) ?_
  refine Fv (.bool false) ?_
  refine Fq (.agg #[.int .i64 m, .slice A n c]) (r_load2 rfl ek kk kk (sgS (blk_cell (j := 0) x6 kk) (Option.some_ne_none _)) (sgS (blk_cell (j := 1) x6 kk) (Option.some_ne_none _))) ?_
  refine Fv (.int .i64 a) ?_
  refine Fc [.agg #[.int .i64 m, .slice A n c], .int .i64 a] (has_any m A n c ps a _) ?_
  rintro e w16 ⟨rfl, b15⟩
  have s17 := SG.of_below s13 b15
  refine ⟨_, rfl, s17, ?_⟩
  refine F.nx ?_
  rcases Bool.eq_false_or_eq_true (inB a 1 m) with q18 | q18
  ·rw [q18]
   have ha9 := inB_iff.1 q18
   refine Fq (.bool false) (r_not (b := true) rfl ek rfl) ?_
   refine Fq (.bool false) (r_pick (b := false) rfl ek ek) ?_
   refine F.es ?_
   have x6 := SG.blk s17 x6 (Option.some_ne_none _)
   have c19 := (SG.belowR c9 s17 (fun kq e => by cases e))
   refine h3 _ _ ?_
   refine wp_cond_false ek ?_
   refine wp_skip ?_
   refine h2 _ _ ?_
   refine wk fun K4 h4 => ?_
   refine W.region_sch (row := none) (Sch.of [(0, false), (1, false), (2, false), (3, false), (4, true), (5, true), (6, false), (7, false), (8, false), (9, false), (10, false)]) kk kk (fun _ d _ _ _ h => by cases d <;> exact h) kk (fun w20 e21 s22 => ?_)
   refine Fq (.agg #[.int .i64 m, .slice A n c]) (r_load2 rfl ek kk kk (sgS (blk_cell (j := 0) x6 kk) (Option.some_ne_none _)) (sgS (blk_cell (j := 1) x6 kk) (Option.some_ne_none _))) ?_
   refine Fq (.agg #[.int .i64 m, .slice A n c]) (r_load2 rfl ek kk kk (sgS (blk_cell (j := 0) x6 kk) (Option.some_ne_none _)) (sgS (blk_cell (j := 1) x6 kk) (Option.some_ne_none _))) ?_
   refine Fv (.slice A2 n2 c2) ?_
   refine Fv (.int .i64 a) ?_
   refine Fc [.agg #[.int .i64 m, .slice A n c], .slice A2 n2 c2, .int .i64 a] (segmentOf_any m A n c ps A2 n2 c2 vs (a) (a).toNat _ (Rd.kept ha (SG.belowR c19 s22 (fun kq e => by cases e))) (Rd.kept hb (SG.belowR c19 s22 (fun kq e => by cases e))) (by omega) (by omega) hp (by omega) (by omega) (by omega) (by omega)) ?_
   rintro e w29 ⟨pb23, rfl, lo27, rd24, b28⟩
   have s30 := SG.of_below s22 b28
   refine ⟨_, rfl, s30, ?_⟩
   refine F.nx ?_
   have hl25 := rd_bools_len rd24
   rw [wetL_len] at hl25
   have hl25 : (wetL (linked ps (openQ vs false)) (a)).length = 19 := wetL_len _ _
   have z42 := ((SG.belowR c19 s30 (fun kq e => by cases e))).size
   refine Fc [.agg #[.int .i64 m, .slice A n c], .pointer (some ⟨pb23, 0, none⟩), .bool true] (nodesAndPipes_any m A n c ps pb23 true (linked ps (openQ vs false)) (a) _ (Rd.kept ha (SG.belowR c19 s30 (fun kq e => by cases e))) (by omega) (by omega) (by omega) rd24) ?_
   rintro e w46 ⟨A31, n32, c33, A34, n35, c36, rfl, ho37, ho38, nr39, b45⟩
   have s47 := SG.of_below s30 b45
   refine ⟨_, rfl, s47, ?_⟩
   refine F.nx ?_
   have ho40 := own_base (base' := w.heap.size) ho37 z42
   have hlr43 := rd_ints_len (own_rd ho40)
   have ho41 := own_base (base' := w.heap.size) ho38 z42
   have hlr44 := rd_ints_len (own_rd ho41)
   refine Fv (.tuple #[.slice A31 n32 c33, .slice A34 n35 c36]) ?_
   refine Fq (.slice A31 n32 c33) (r_extract (vs := #[.slice A31 n32 c33, .slice A34 n35 c36]) rfl ek kk) ?_
   refine Fq (.slice A34 n35 c36) (r_extract (vs := #[.slice A31 n32 c33, .slice A34 n35 c36]) rfl ek kk) ?_
   refine Fa (.slice A31 n32 c33) ?_
   refine Fa (.slice A34 n35 c36) ?_
   refine F.es ?_
   have c51 := (SG.belowR c19 s47 (fun kq e => by cases e))
   refine h4 _ _ ?_
   refine wk fun K5 h5 => ?_
   refine W.region_quiet [(0, false), (1, false), (2, false), (3, false), (4, false)] kk ?_
   refine Fv (.slice A31 n32 c33) ?_
   refine Fv (.slice A34 n35 c36) ?_
   refine Fa (.slice A31 n32 c33) ?_
   refine Fa (.slice A34 n35 c36) ?_
   refine Fa (.bool true) ?_
   refine F.es ?_
   refine h5 _ _ ?_
   refine wp_ret ?_
   try simp only [Exit.then]
   refine ret3 (v := .slice A31 n32 c33) (x := .slice A34 n35 c36) (y := .bool true) rfl kk kk kk ?_
   have ok52 : SegmentOfNode_v2 m ps vs a = true := by unfold SegmentOfNode_v2; rw [q14, q18]; try rfl
   exact fin_ints2  ho40 ho41 (by unfold SegmentOfNode_v0; rw [if_pos ok52]) (by unfold SegmentOfNode_v1; rw [if_pos ok52]) ok52.symm nr39 c51
  rw [q18]
  refine Fq (.bool true) (r_not (b := false) rfl ek rfl) ?_
  refine Fq (.bool true) (r_pick (b := false) rfl ek ek) ?_
  refine F.es ?_
  have c53 := (SG.belowR c9 s17 (fun kq e => by cases e))
  refine h3 _ _ ?_
  refine wp_cond_true ek ?_
  refine wk fun K6 h6 => ?_
  refine W.region_quiet [(0, false), (1, false), (2, false)] kk ?_
  refine Fa (.slice none 0 0) ?_
  refine Fa (.slice none 0 0) ?_
  refine Fa (.bool false) ?_
  refine F.es ?_
  refine h6 _ _ ?_
  refine wp_ret ?_
  try simp only [Exit.then]
  refine ret3 (v := .slice none 0 0) (x := .slice none 0 0) (y := .bool false) rfl kk kk kk ?_
  have ok54 : SegmentOfNode_v2 m ps vs a = false := by unfold SegmentOfNode_v2; rw [q18, Bool.and_false]
  exact fin_ints2 (zs := []) (zs' := []) (World.ownsRow_nil _ _ _ _) (World.ownsRow_nil _ _ _ _) (by unfold SegmentOfNode_v0; rw [if_neg (by rw [ok54]; simp)]) (by unfold SegmentOfNode_v1; rw [if_neg (by rw [ok54]; simp)]) ok54.symm nbr_nil c53
 rw [q14]
 refine Fq (.bool true) (r_not (b := false) rfl ek rfl) ?_
 refine Fv (.bool true) ?_
 refine Fs s13 ?_
 refine Fs s13 ?_
 refine Fs s13 ?_
 refine Fs s13 ?_
 refine Fq (.bool true) (r_pick (b := true) rfl ek ek) ?_
 refine F.es ?_
 have c55 := (SG.belowR c9 s13 (fun kq e => by cases e))
 refine h3 _ _ ?_
 refine wp_cond_true ek ?_
 refine wk fun K7 h7 => ?_
 refine W.region_quiet [(0, false), (1, false), (2, false)] kk ?_
 refine Fa (.slice none 0 0) ?_
 refine Fa (.slice none 0 0) ?_
 refine Fa (.bool false) ?_
 refine F.es ?_
 refine h7 _ _ ?_
 refine wp_ret ?_
 try simp only [Exit.then]
 refine ret3 (v := .slice none 0 0) (x := .slice none 0 0) (y := .bool false) rfl kk kk kk ?_
 have ok56 : SegmentOfNode_v2 m ps vs a = false := by unfold SegmentOfNode_v2; rw [q14]; try rfl
 exact fin_ints2 (zs := []) (zs' := []) (World.ownsRow_nil _ _ _ _) (World.ownsRow_nil _ _ _ _) (by unfold SegmentOfNode_v0; rw [if_neg (by rw [ok56]; simp)]) (by unfold SegmentOfNode_v1; rw [if_neg (by rw [ok56]; simp)]) ok56.symm nbr_nil c55
def DryNodes_v1 (m : Int) (ps : List Pp) (vs : List Vv) (a : Int) : Bool := goodV m ps vs && inB a 1 m
noncomputable def DryNodes_v0 (m : Int) (ps : List Pp) (vs : List Vv) (a : Int) : List Int := if DryNodes_v1 m ps vs a = true then nodesL (linked ps (openQ vs true)) m.toNat a false else []
theorem DryNodes_len (m : Int) (ps : List Pp) (vs : List Vv) (a : Int) : (DryNodes_v0 m ps vs a).length ≤ 1048576 := by
  unfold DryNodes_v0
  split
  · rename_i h
    have hg : goodV m ps vs = true := by unfold DryNodes_v1 at h; rw [Bool.and_eq_true] at h; exact h.1
    have hv := goodV_of hg
    have h1 := hv.net.hi
    have h2 := hv.net.len
    skip
    have := nodesL_len (linked ps (openQ vs true)) m.toNat a false
    omega
  · simp
set_option maxRecDepth 100000 in
set_option maxHeartbeats 8000000 in
theorem DryNodes_impl (m : Int) (A : Option Addr) (n c : Nat) (ps : List Pp) (A2 : Option Addr) (n2 c2 : Nat) (vs : List Vv) (a : Int) (w : World) (ha : Rd w 4 A n (pipesV ps)) (hb : Rd w 4 A2 n2 (valvesV vs)) (hn : n ≤ 1048576) (hn2 : n2 ≤ 1048576) (hfm : Fm A n c) (hfm2 : Fm A2 n2 c2) :
    Calls Try.prog 20 #[.agg #[.int .i64 m, .slice A n c], .slice A2 n2 c2, .int .i64 a] w fun e w' => ∃ A' d, e = .returned (.tuple #[.slice A' (DryNodes_v0 m ps vs a).length d, .bool (DryNodes_v1 m ps vs a)]) ∧ w'.ownsRow w.heap.size 3 1 (.slice A' (DryNodes_v0 m ps vs a).length d) (DryNodes_v0 m ps vs a).length (intsV (DryNodes_v0 m ps vs a)) ∧ Below w.heap.size w w' := by
 have hl := rd_pipes_len ha
 have hl2 := rd_valves_len hb
 go_enter Try.func20, Try.ntmps20
 refine F.begin 30 [(0, .agg #[.int .i64 m, .slice A n c]), (1, .slice A2 n2 c2), (2, .int .i64 a)] (fun U0 => ?_)
 refine wk fun K1 h1 => ?_
 refine W.region_plain (row := none) [(0, true), (1, false), (2, false)] kk ?_
 have s1 := SG.self w none
 refine W.sn (fun b => .pointer (some ⟨b, 0, none⟩)) #[.int .i64 m, .slice A n c] 26 s1 rfl kk rfl (fun _ => by kernel_rfl) (fun b2 w3 hb4 k5 x6 s7 => ?_)
 refine F.nx ?_
 have lo8 : w.heap.size ≤ b2 := Nat.le_trans ((SG.belowR (Below.refl _ _) s1 (fun kq e => by cases e))).size (Nat.le_of_eq hb4)
 refine Fa (.slice none 0 0) ?_
 refine Fa (.bool false) ?_
 refine F.es ?_
 have c9 := (SG.belowR (Below.refl _ _) s7 (fun kq e => by cases e))
 refine h1 _ _ ?_
 refine wk fun K2 h2 => ?_
 refine wk fun K3 h3 => ?_
 refine W.region_plain (row := none) [(0, false), (1, false), (2, true), (3, false), (4, false), (5, false), (6, false), (7, true), (8, false), (9, false)] kk ?_
 have s10 := SG.self w3 none
 refine Fq (.agg #[.int .i64 m, .slice A n c]) (r_load2 rfl ek kk kk (sgS (blk_cell (j := 0) x6 kk) (Option.some_ne_none _)) (sgS (blk_cell (j := 1) x6 kk) (Option.some_ne_none _))) ?_
 refine Fv (.slice A2 n2 c2) ?_
 refine Fc [.agg #[.int .i64 m, .slice A n c], .slice A2 n2 c2] (IsValidValves_any m A n c ps A2 n2 c2 vs _ (Rd.kept ha (SG.belowR c9 s10 (fun kq e => by cases e))) (Rd.kept hb (SG.belowR c9 s10 (fun kq e => by cases e))) (by omega) (by omega) hfm2) ?_
 rintro e w12 ⟨rfl, b11⟩
 have s13 := SG.of_below s10 b11
 refine ⟨_, rfl, s13, ?_⟩
 refine F.nx ?_
 rcases Bool.eq_false_or_eq_true (goodV m ps vs) with q14 | q14
 ·rw [q14]
  have hv9 := goodV_of q14
  have hg := hv9.net
  have hgl := hg.lo
  have hgh := hg.hi
  have hp := hg.pipesIn
  have hlen10 := hg.len
  have hu := hv9.uniq
  have hvl := hv9.len
  refine Fq (.bool false) (r_not (b := true) rfl ek rfl) ?_
  refine Fv (.bool false) ?_
  refine Fq (.agg #[.int .i64 m, .slice A n c]) (r_load2 rfl ek kk kk (sgS (blk_cell (j := 0) x6 kk) (Option.some_ne_none _)) (sgS (blk_cell (j := 1) x6 kk) (Option.some_ne_none _))) ?_
  refine Fv (.int .i64 a) ?_
  refine Fc [.agg #[.int .i64 m, .slice A n c], .int .i64 a] (has_any m A n c ps a _) ?_
  rintro e w16 ⟨rfl, b15⟩
  have s17 := SG.of_below s13 b15
  refine ⟨_, rfl, s17, ?_⟩
  refine F.nx ?_
  rcases Bool.eq_false_or_eq_true (inB a 1 m) with q18 | q18
  ·rw [q18]
   have ha9 := inB_iff.1 q18
   refine Fq (.bool false) (r_not (b := true) rfl ek rfl) ?_
   refine Fq (.bool false) (r_pick (b := false) rfl ek ek) ?_
   refine F.es ?_
   have x6 := SG.blk s17 x6 (Option.some_ne_none _)
   have c19 := (SG.belowR c9 s17 (fun kq e => by cases e))
   refine h3 _ _ ?_
   refine wp_cond_false ek ?_
   refine wp_skip ?_
   refine h2 _ _ ?_
   refine wk fun K4 h4 => ?_
   refine W.region_sch (row := none) (Sch.of [(0, false), (1, false), (2, false), (3, false), (4, true), (5, true), (6, false), (7, false), (8, false), (9, false), (10, false)]) kk kk (fun _ d _ _ _ h => by cases d <;> exact h) kk (fun w20 e21 s22 => ?_)
   refine Fq (.agg #[.int .i64 m, .slice A n c]) (r_load2 rfl ek kk kk (sgS (blk_cell (j := 0) x6 kk) (Option.some_ne_none _)) (sgS (blk_cell (j := 1) x6 kk) (Option.some_ne_none _))) ?_
   refine Fq (.agg #[.int .i64 m, .slice A n c]) (r_load2 rfl ek kk kk (sgS (blk_cell (j := 0) x6 kk) (Option.some_ne_none _)) (sgS (blk_cell (j := 1) x6 kk) (Option.some_ne_none _))) ?_
   refine Fv (.slice A2 n2 c2) ?_
   refine Fv (.int .i64 a) ?_
   refine Fc [.agg #[.int .i64 m, .slice A n c], .slice A2 n2 c2, .int .i64 a] (watered_any m A n c ps A2 n2 c2 vs (a) (a).toNat _ (Rd.kept ha (SG.belowR c19 s22 (fun kq e => by cases e))) (Rd.kept hb (SG.belowR c19 s22 (fun kq e => by cases e))) (by omega) (by omega) hp (by omega) (by omega) hu (by omega) (by omega)) ?_
   rintro e w29 ⟨pb23, rfl, lo27, rd24, b28⟩
   have s30 := SG.of_below s22 b28
   refine ⟨_, rfl, s30, ?_⟩
   refine F.nx ?_
   have hl25 := rd_bools_len rd24
   rw [wetL_len] at hl25
   have hl25 : (wetL (linked ps (openQ vs true)) (a)).length = 19 := wetL_len _ _
   have z42 := ((SG.belowR c19 s30 (fun kq e => by cases e))).size
   refine Fc [.agg #[.int .i64 m, .slice A n c], .pointer (some ⟨pb23, 0, none⟩), .bool false] (nodesAndPipes_any m A n c ps pb23 false (linked ps (openQ vs true)) (a) _ (Rd.kept ha (SG.belowR c19 s30 (fun kq e => by cases e))) (by omega) (by omega) (by omega) rd24) ?_
   rintro e w46 ⟨A31, n32, c33, A34, n35, c36, rfl, ho37, ho38, nr39, b45⟩
   have s47 := SG.of_below s30 b45
   refine ⟨_, rfl, s47, ?_⟩
   refine F.nx ?_
   have ho40 := own_base (base' := w.heap.size) ho37 z42
   have hlr43 := rd_ints_len (own_rd ho40)
   have ho41 := own_base (base' := w.heap.size) ho38 z42
   have hlr44 := rd_ints_len (own_rd ho41)
   refine Fv (.tuple #[.slice A31 n32 c33, .slice A34 n35 c36]) ?_
   refine Fq (.slice A31 n32 c33) (r_extract (vs := #[.slice A31 n32 c33, .slice A34 n35 c36]) rfl ek kk) ?_
   refine Fq (.slice A34 n35 c36) (r_extract (vs := #[.slice A31 n32 c33, .slice A34 n35 c36]) rfl ek kk) ?_
   refine Fa (.slice A31 n32 c33) ?_
   refine Fa (.slice A34 n35 c36) ?_
   refine F.es ?_
   have c51 := (SG.belowR c19 s47 (fun kq e => by cases e))
   refine h4 _ _ ?_
   refine wk fun K5 h5 => ?_
   refine W.region_quiet [(0, false), (1, false), (2, false)] kk ?_
   refine Fv (.slice A31 n32 c33) ?_
   refine Fa (.slice A31 n32 c33) ?_
   refine Fa (.bool true) ?_
   refine F.es ?_
   refine h5 _ _ ?_
   refine wp_ret ?_
   try simp only [Exit.then]
   refine ret2 (v := .slice A31 n32 c33) (x := .bool true) rfl kk kk ?_
   have ok52 : DryNodes_v1 m ps vs a = true := by unfold DryNodes_v1; rw [q14, q18]; try rfl
   exact fin_ints  ho40 (by unfold DryNodes_v0; rw [if_pos ok52]) ok52.symm c51
  rw [q18]
  refine Fq (.bool true) (r_not (b := false) rfl ek rfl) ?_
  refine Fq (.bool true) (r_pick (b := false) rfl ek ek) ?_
  refine F.es ?_
  have c53 := (SG.belowR c9 s17 (fun kq e => by cases e))
  refine h3 _ _ ?_
  refine wp_cond_true ek ?_
  refine wk fun K6 h6 => ?_
  refine W.region_quiet [(0, false), (1, false)] kk ?_
  refine Fa (.slice none 0 0) ?_
  refine Fa (.bool false) ?_
  refine F.es ?_
  refine h6 _ _ ?_
  refine wp_ret ?_
  try simp only [Exit.then]
  refine ret2 (v := .slice none 0 0) (x := .bool false) rfl kk kk ?_
  have ok54 : DryNodes_v1 m ps vs a = false := by unfold DryNodes_v1; rw [q18, Bool.and_false]
  exact fin_ints (zs := []) (World.ownsRow_nil _ _ _ _) (by unfold DryNodes_v0; rw [if_neg (by rw [ok54]; simp)]) ok54.symm c53
 rw [q14]
 refine Fq (.bool true) (r_not (b := false) rfl ek rfl) ?_
 refine Fv (.bool true) ?_
 refine Fs s13 ?_
 refine Fs s13 ?_
 refine Fs s13 ?_
 refine Fs s13 ?_
 refine Fq (.bool true) (r_pick (b := true) rfl ek ek) ?_
 refine F.es ?_
 have c55 := (SG.belowR c9 s13 (fun kq e => by cases e))
 refine h3 _ _ ?_
 refine wp_cond_true ek ?_
 refine wk fun K7 h7 => ?_
 refine W.region_quiet [(0, false), (1, false)] kk ?_
 refine Fa (.slice none 0 0) ?_
 refine Fa (.bool false) ?_
 refine F.es ?_
 refine h7 _ _ ?_
 refine wp_ret ?_
 try simp only [Exit.then]
 refine ret2 (v := .slice none 0 0) (x := .bool false) rfl kk kk ?_
 have ok56 : DryNodes_v1 m ps vs a = false := by unfold DryNodes_v1; rw [q14]; try rfl
 exact fin_ints (zs := []) (World.ownsRow_nil _ _ _ _) (by unfold DryNodes_v0; rw [if_neg (by rw [ok56]; simp)]) ok56.symm c55
def DryPipes_v1 (m : Int) (ps : List Pp) (vs : List Vv) (a : Int) : Bool := goodV m ps vs && inB a 1 m
noncomputable def DryPipes_v0 (m : Int) (ps : List Pp) (vs : List Vv) (a : Int) : List Int := if DryPipes_v1 m ps vs a = true then idsAt ps (idxL (linked ps (openQ vs true)) ps.length a false) else []
theorem DryPipes_len (m : Int) (ps : List Pp) (vs : List Vv) (a : Int) : (DryPipes_v0 m ps vs a).length ≤ 1048576 := by
  unfold DryPipes_v0
  split
  · rename_i h
    have hg : goodV m ps vs = true := by unfold DryPipes_v1 at h; rw [Bool.and_eq_true] at h; exact h.1
    have hv := goodV_of hg
    have h1 := hv.net.hi
    have h2 := hv.net.len
    rw [idsAt_len]
    have := idxL_len (linked ps (openQ vs true)) ps.length a false
    omega
  · simp
set_option maxRecDepth 100000 in
set_option maxHeartbeats 8000000 in
theorem DryPipes_impl (m : Int) (A : Option Addr) (n c : Nat) (ps : List Pp) (A2 : Option Addr) (n2 c2 : Nat) (vs : List Vv) (a : Int) (w : World) (ha : Rd w 4 A n (pipesV ps)) (hb : Rd w 4 A2 n2 (valvesV vs)) (hn : n ≤ 1048576) (hn2 : n2 ≤ 1048576) (hfm : Fm A n c) (hfm2 : Fm A2 n2 c2) :
    Calls Try.prog 21 #[.agg #[.int .i64 m, .slice A n c], .slice A2 n2 c2, .int .i64 a] w fun e w' => ∃ A' d, e = .returned (.tuple #[.slice A' (DryPipes_v0 m ps vs a).length d, .bool (DryPipes_v1 m ps vs a)]) ∧ w'.ownsRow w.heap.size 3 1 (.slice A' (DryPipes_v0 m ps vs a).length d) (DryPipes_v0 m ps vs a).length (intsV (DryPipes_v0 m ps vs a)) ∧ Below w.heap.size w w' := by
 have hl := rd_pipes_len ha
 have hl2 := rd_valves_len hb
 go_enter Try.func21, Try.ntmps21
 refine F.begin 30 [(0, .agg #[.int .i64 m, .slice A n c]), (1, .slice A2 n2 c2), (2, .int .i64 a)] (fun U0 => ?_)
 refine wk fun K1 h1 => ?_
 refine W.region_plain (row := none) [(0, true), (1, false), (2, false)] kk ?_
 have s1 := SG.self w none
 refine W.sn (fun b => .pointer (some ⟨b, 0, none⟩)) #[.int .i64 m, .slice A n c] 26 s1 rfl kk rfl (fun _ => by kernel_rfl) (fun b2 w3 hb4 k5 x6 s7 => ?_)
 refine F.nx ?_
 have lo8 : w.heap.size ≤ b2 := Nat.le_trans ((SG.belowR (Below.refl _ _) s1 (fun kq e => by cases e))).size (Nat.le_of_eq hb4)
 refine Fa (.slice none 0 0) ?_
 refine Fa (.bool false) ?_
 refine F.es ?_
 have c9 := (SG.belowR (Below.refl _ _) s7 (fun kq e => by cases e))
 refine h1 _ _ ?_
 refine wk fun K2 h2 => ?_
 refine wk fun K3 h3 => ?_
 refine W.region_plain (row := none) [(0, false), (1, false), (2, true), (3, false), (4, false), (5, false), (6, false), (7, true), (8, false), (9, false)] kk ?_
 have s10 := SG.self w3 none
 refine Fq (.agg #[.int .i64 m, .slice A n c]) (r_load2 rfl ek kk kk (sgS (blk_cell (j := 0) x6 kk) (Option.some_ne_none _)) (sgS (blk_cell (j := 1) x6 kk) (Option.some_ne_none _))) ?_
 refine Fv (.slice A2 n2 c2) ?_
 refine Fc [.agg #[.int .i64 m, .slice A n c], .slice A2 n2 c2] (IsValidValves_any m A n c ps A2 n2 c2 vs _ (Rd.kept ha (SG.belowR c9 s10 (fun kq e => by cases e))) (Rd.kept hb (SG.belowR c9 s10 (fun kq e => by cases e))) (by omega) (by omega) hfm2) ?_
 rintro e w12 ⟨rfl, b11⟩
 have s13 := SG.of_below s10 b11
 refine ⟨_, rfl, s13, ?_⟩
 refine F.nx ?_
 rcases Bool.eq_false_or_eq_true (goodV m ps vs) with q14 | q14
 ·rw [q14]
  have hv9 := goodV_of q14
  have hg := hv9.net
  have hgl := hg.lo
  have hgh := hg.hi
  have hp := hg.pipesIn
  have hlen10 := hg.len
  have hu := hv9.uniq
  have hvl := hv9.len
  refine Fq (.bool false) (r_not (b := true) rfl ek rfl) ?_
  refine Fv (.bool false) ?_
  refine Fq (.agg #[.int .i64 m, .slice A n c]) (r_load2 rfl ek kk kk (sgS (blk_cell (j := 0) x6 kk) (Option.some_ne_none _)) (sgS (blk_cell (j := 1) x6 kk) (Option.some_ne_none _))) ?_
  refine Fv (.int .i64 a) ?_
  refine Fc [.agg #[.int .i64 m, .slice A n c], .int .i64 a] (has_any m A n c ps a _) ?_
  rintro e w16 ⟨rfl, b15⟩
  have s17 := SG.of_below s13 b15
  refine ⟨_, rfl, s17, ?_⟩
  refine F.nx ?_
  rcases Bool.eq_false_or_eq_true (inB a 1 m) with q18 | q18
  ·rw [q18]
   have ha9 := inB_iff.1 q18
   refine Fq (.bool false) (r_not (b := true) rfl ek rfl) ?_
   refine Fq (.bool false) (r_pick (b := false) rfl ek ek) ?_
   refine F.es ?_
   have x6 := SG.blk s17 x6 (Option.some_ne_none _)
   have c19 := (SG.belowR c9 s17 (fun kq e => by cases e))
   refine h3 _ _ ?_
   refine wp_cond_false ek ?_
   refine wp_skip ?_
   refine h2 _ _ ?_
   refine wk fun K4 h4 => ?_
   refine W.region_sch (row := none) (Sch.of [(0, false), (1, false), (2, false), (3, false), (4, true), (5, true), (6, false), (7, false), (8, false), (9, false), (10, false)]) kk kk (fun _ d _ _ _ h => by cases d <;> exact h) kk (fun w20 e21 s22 => ?_)
   refine Fq (.agg #[.int .i64 m, .slice A n c]) (r_load2 rfl ek kk kk (sgS (blk_cell (j := 0) x6 kk) (Option.some_ne_none _)) (sgS (blk_cell (j := 1) x6 kk) (Option.some_ne_none _))) ?_
   refine Fq (.agg #[.int .i64 m, .slice A n c]) (r_load2 rfl ek kk kk (sgS (blk_cell (j := 0) x6 kk) (Option.some_ne_none _)) (sgS (blk_cell (j := 1) x6 kk) (Option.some_ne_none _))) ?_
   refine Fv (.slice A2 n2 c2) ?_
   refine Fv (.int .i64 a) ?_
   refine Fc [.agg #[.int .i64 m, .slice A n c], .slice A2 n2 c2, .int .i64 a] (watered_any m A n c ps A2 n2 c2 vs (a) (a).toNat _ (Rd.kept ha (SG.belowR c19 s22 (fun kq e => by cases e))) (Rd.kept hb (SG.belowR c19 s22 (fun kq e => by cases e))) (by omega) (by omega) hp (by omega) (by omega) hu (by omega) (by omega)) ?_
   rintro e w29 ⟨pb23, rfl, lo27, rd24, b28⟩
   have s30 := SG.of_below s22 b28
   refine ⟨_, rfl, s30, ?_⟩
   refine F.nx ?_
   have hl25 := rd_bools_len rd24
   rw [wetL_len] at hl25
   have hl25 : (wetL (linked ps (openQ vs true)) (a)).length = 19 := wetL_len _ _
   have z42 := ((SG.belowR c19 s30 (fun kq e => by cases e))).size
   refine Fc [.agg #[.int .i64 m, .slice A n c], .pointer (some ⟨pb23, 0, none⟩), .bool false] (nodesAndPipes_any m A n c ps pb23 false (linked ps (openQ vs true)) (a) _ (Rd.kept ha (SG.belowR c19 s30 (fun kq e => by cases e))) (by omega) (by omega) (by omega) rd24) ?_
   rintro e w46 ⟨A31, n32, c33, A34, n35, c36, rfl, ho37, ho38, nr39, b45⟩
   have s47 := SG.of_below s30 b45
   refine ⟨_, rfl, s47, ?_⟩
   refine F.nx ?_
   have ho40 := own_base (base' := w.heap.size) ho37 z42
   have hlr43 := rd_ints_len (own_rd ho40)
   have ho41 := own_base (base' := w.heap.size) ho38 z42
   have hlr44 := rd_ints_len (own_rd ho41)
   refine Fv (.tuple #[.slice A31 n32 c33, .slice A34 n35 c36]) ?_
   refine Fq (.slice A31 n32 c33) (r_extract (vs := #[.slice A31 n32 c33, .slice A34 n35 c36]) rfl ek kk) ?_
   refine Fq (.slice A34 n35 c36) (r_extract (vs := #[.slice A31 n32 c33, .slice A34 n35 c36]) rfl ek kk) ?_
   refine Fa (.slice A31 n32 c33) ?_
   refine Fa (.slice A34 n35 c36) ?_
   refine F.es ?_
   have c51 := (SG.belowR c19 s47 (fun kq e => by cases e))
   refine h4 _ _ ?_
   refine wk fun K5 h5 => ?_
   refine W.region_quiet [(0, false), (1, false), (2, false)] kk ?_
   refine Fv (.slice A34 n35 c36) ?_
   refine Fa (.slice A34 n35 c36) ?_
   refine Fa (.bool true) ?_
   refine F.es ?_
   refine h5 _ _ ?_
   refine wp_ret ?_
   try simp only [Exit.then]
   refine ret2 (v := .slice A34 n35 c36) (x := .bool true) rfl kk kk ?_
   have ok52 : DryPipes_v1 m ps vs a = true := by unfold DryPipes_v1; rw [q14, q18]; try rfl
   exact fin_ints  ho41 (by unfold DryPipes_v0; rw [if_pos ok52]) ok52.symm c51
  rw [q18]
  refine Fq (.bool true) (r_not (b := false) rfl ek rfl) ?_
  refine Fq (.bool true) (r_pick (b := false) rfl ek ek) ?_
  refine F.es ?_
  have c53 := (SG.belowR c9 s17 (fun kq e => by cases e))
  refine h3 _ _ ?_
  refine wp_cond_true ek ?_
  refine wk fun K6 h6 => ?_
  refine W.region_quiet [(0, false), (1, false)] kk ?_
  refine Fa (.slice none 0 0) ?_
  refine Fa (.bool false) ?_
  refine F.es ?_
  refine h6 _ _ ?_
  refine wp_ret ?_
  try simp only [Exit.then]
  refine ret2 (v := .slice none 0 0) (x := .bool false) rfl kk kk ?_
  have ok54 : DryPipes_v1 m ps vs a = false := by unfold DryPipes_v1; rw [q18, Bool.and_false]
  exact fin_ints (zs := []) (World.ownsRow_nil _ _ _ _) (by unfold DryPipes_v0; rw [if_neg (by rw [ok54]; simp)]) ok54.symm c53
 rw [q14]
 refine Fq (.bool true) (r_not (b := false) rfl ek rfl) ?_
 refine Fv (.bool true) ?_
 refine Fs s13 ?_
 refine Fs s13 ?_
 refine Fs s13 ?_
 refine Fs s13 ?_
 refine Fq (.bool true) (r_pick (b := true) rfl ek ek) ?_
 refine F.es ?_
 have c55 := (SG.belowR c9 s13 (fun kq e => by cases e))
 refine h3 _ _ ?_
 refine wp_cond_true ek ?_
 refine wk fun K7 h7 => ?_
 refine W.region_quiet [(0, false), (1, false)] kk ?_
 refine Fa (.slice none 0 0) ?_
 refine Fa (.bool false) ?_
 refine F.es ?_
 refine h7 _ _ ?_
 refine wp_ret ?_
 try simp only [Exit.then]
 refine ret2 (v := .slice none 0 0) (x := .bool false) rfl kk kk ?_
 have ok56 : DryPipes_v1 m ps vs a = false := by unfold DryPipes_v1; rw [q14]; try rfl
 exact fin_ints (zs := []) (World.ownsRow_nil _ _ _ _) (by unfold DryPipes_v0; rw [if_neg (by rw [ok56]; simp)]) ok56.symm c55
end Go.Proofs.Ytdbgfejeleafgaa
namespace Go.Proofs.Ytdbgfejeleafgaa
open Go.RowKit
set_option linter.unusedVariables false
def shutX (plan : List Int) (v : Vv) : Vv := { v with shut := v.shut || plan.contains v.id }
def shutV (vs : List Vv) (plan : List Int) : List Vv := vs.map (shutX plan)
theorem shutV_len (vs : List Vv) (plan : List Int) : (shutV vs plan).length = vs.length := by simp [shutV]
theorem shutV_at {vs : List Vv} {plan : List Int} {k : Nat} {x : Vv} (h : vs[k]? = some x) : (shutV vs plan)[k]? = some (shutX plan x) := by simp [shutV, h]
def mixV (vs : List Vv) (plan : List Int) (i : Nat) : List Vv := (shutV vs plan).take i ++ vs.drop i
theorem mixV_zero (vs : List Vv) (plan : List Int) : mixV vs plan 0 = vs := by simp [mixV]
theorem mixV_len (vs : List Vv) (plan : List Int) (i : Nat) : (mixV vs plan i).length = vs.length := by unfold mixV; rw [List.length_append, List.length_take, List.length_drop, shutV_len]; omega
theorem mixV_end {vs : List Vv} {plan : List Int} {i : Nat} (h : vs.length ≤ i) : mixV vs plan i = shutV vs plan := by
  unfold mixV; rw [List.take_of_length_le (by rw [shutV_len]; exact h), List.drop_eq_nil_of_le h, List.append_nil]
theorem mixV_at {vs : List Vv} {plan : List Int} {i : Nat} {x : Vv} (h : vs[i]? = some x) : (mixV vs plan i)[i]? = some x := by
  have hi := (List.getElem?_eq_some_iff.1 h).1
  unfold mixV
  rw [List.getElem?_append_right (by rw [List.length_take, shutV_len]; omega), List.length_take, shutV_len, show i - min i vs.length = 0 by omega, List.getElem?_drop, Nat.add_zero]; exact h
theorem mixV_next {vs : List Vv} {plan : List Int} {i : Nat} {x : Vv} (h : vs[i]? = some x) : mixV vs plan (i + 1) = (mixV vs plan i).set i (shutX plan x) := by
  have hi := (List.getElem?_eq_some_iff.1 h).1
  unfold mixV
  have hd : vs.drop i = x :: vs.drop (i + 1) := by rw [List.drop_eq_getElem_cons hi]; congr 1; exact (List.getElem?_eq_some_iff.1 h).2
  rw [List.take_add_one, shutV_at h, hd, List.set_append_right _ _ (by rw [List.length_take, shutV_len]; omega), List.length_take, shutV_len, show i - min i vs.length = 0 by omega]
  simp
theorem shutX_true {plan : List Int} {x : Vv} (h : x.shut = true ∨ plan.contains x.id = true) : shutX plan x = { x with shut := true } := by
  unfold shutX; rcases h with h | h <;> rw [h] <;> simp
theorem shutX_no {plan : List Int} {x : Vv} (h : plan.contains x.id = false) : shutX plan x = x := by unfold shutX; rw [h, Bool.or_false]
theorem mixV_skip {vs : List Vv} {plan : List Int} {i : Nat} {x : Vv} (h : vs[i]? = some x) (hc : plan.contains x.id = false) : mixV vs plan (i + 1) = mixV vs plan i := by
  rw [mixV_next h, shutX_no hc]
  apply List.ext_getElem?
  intro j
  have hi := (List.getElem?_eq_some_iff.1 h).1
  by_cases e : j = i
  · subst e; rw [List.getElem?_set_self (by rw [mixV_len]; exact hi), mixV_at h]
  · rw [List.getElem?_set_ne (by omega)]
theorem openQ_shut {vs : List Vv} {plan : List Int} {p : Pp} {v : Int} : openQ (shutV vs plan) true p v = true ↔ ∀ u, u ∈ vs → u.pipe = p.id → u.node = v → u.shut = false ∧ plan.contains u.id = false := by
  unfold openQ blocked shutV
  rw [Bool.not_eq_true', List.any_map]
  show (vs.any (fun u => decide (u.pipe = p.id) && decide (u.node = v) && (!true || (u.shut || plan.contains u.id)))) = false ↔ _
  rw [List.any_eq_false]
  constructor
  · intro h u hu e1 e2
    have := h u hu
    simp only [Bool.and_eq_true, decide_eq_true_eq, Bool.not_true, Bool.false_or, Bool.or_eq_true, not_and, not_or, Bool.not_eq_true] at this
    exact this ⟨e1, e2⟩
  · intro h u hu
    simp only [Bool.and_eq_true, decide_eq_true_eq, Bool.not_true, Bool.false_or, Bool.or_eq_true, not_and, not_or, Bool.not_eq_true]
    exact fun e => h u hu e.1 e.2
theorem above_at {ps : List Pp} {vs : List Vv} {k : Nat} {u v : Vv} (h : okVTo ps vs vs.length = true) (hu : vs[k]? = some u) (hv : vs[k + 1]? = some v) : u.id < v.id := by
  have h1 := okVTo_at h (List.getElem?_eq_some_iff.1 hv).1
  have := ((okV_iff hv).1 h1).1.2
  rw [above_next hu] at this
  exact of_decide_eq_true this
theorem vids_rise {m : Int} {ps : List Pp} {vs : List Vv} (h : GoodVal m ps vs) : ∀ d k (u v : Vv), vs[k]? = some u → vs[k + d + 1]? = some v → u.id < v.id
  | 0, k, u, v, hu, hv => above_at h.ok hu hv
  | d + 1, k, u, v, hu, hv => by
    have hl := (List.getElem?_eq_some_iff.1 hv).1
    have hm : vs[k + d + 1]? = some vs[k + d + 1] := List.getElem?_eq_getElem (by omega)
    exact Int.lt_trans (vids_rise h d k u _ hu hm) (above_at h.ok hm (by rw [show k + d + 1 + 1 = k + (d + 1) + 1 by omega]; exact hv))
end Go.Proofs.Ytdbgfejeleafgaa
namespace Go.Proofs.Ytdbgfejeleafgaa
open Go.RowKit
set_option linter.unusedVariables false
set_option linter.unusedSimpArgs false
def nzV (v : Vv) : Vv := { v with shut := false }
theorem okV_nz (ps : List Pp) (vs : List Vv) (i : Nat) : okV ps (vs.map nzV) i = okV ps vs i := by
  unfold okV
  rw [List.getElem?_map]
  cases h : vs[i]? with
  | none => rfl
  | some v =>
    show (inB v.id 1 99 && above (vs.map nzV) i (nzV v) && endAt ps (findL ps v.pipe) v.node && !placed ((vs.map nzV).take i) v.pipe v.node) = _
    have h1 : above (vs.map nzV) i (nzV v) = above vs i v := by
      unfold above
      split
      · rfl
      · rw [List.getElem?_map]
        cases vs[i - 1]? <;> rfl
    have h2 : placed ((vs.map nzV).take i) v.pipe v.node = placed (vs.take i) v.pipe v.node := by
      unfold placed
      rw [← List.map_take, List.any_map]; rfl
    rw [h1, h2]
theorem okVTo_nz (ps : List Pp) (vs : List Vv) : ∀ n, okVTo ps (vs.map nzV) n = okVTo ps vs n
  | 0 => rfl
  | n + 1 => by unfold okVTo; rw [okV_nz, okVTo_nz ps vs n]
theorem goodV_nz (m : Int) (ps : List Pp) (vs : List Vv) : goodV m ps (vs.map nzV) = goodV m ps vs := by
  unfold goodV; rw [List.length_map, okVTo_nz]
theorem goodV_same {m : Int} {ps : List Pp} {us vs : List Vv} (h : us.map nzV = vs.map nzV) : goodV m ps us = goodV m ps vs := by rw [← goodV_nz m ps us, h, goodV_nz]
theorem nz_shut (vs : List Vv) (plan : List Int) : (shutV vs plan).map nzV = vs.map nzV := by
  unfold shutV; rw [List.map_map]; rfl
theorem nz_mix (vs : List Vv) (plan : List Int) (i : Nat) : (mixV vs plan i).map nzV = vs.map nzV := by
  unfold mixV
  rw [List.map_append, List.map_take, nz_shut, List.map_drop, List.take_append_drop]
theorem goodV_mix {m : Int} {ps : List Pp} {vs : List Vv} (h : goodV m ps vs = true) (plan : List Int) (i : Nat) : goodV m ps (mixV vs plan i) = true := by rw [goodV_same (nz_mix vs plan i)]; exact h
theorem goodV_shutV {m : Int} {ps : List Pp} {vs : List Vv} (h : goodV m ps vs = true) (plan : List Int) : goodV m ps (shutV vs plan) = true := by rw [goodV_same (nz_shut vs plan)]; exact h
theorem idx_own {m : Int} {ps : List Pp} {vs : List Vv} (h : GoodVal m ps vs) {k : Nat} {x : Vv} (hx : vs[k]? = some x) : idxV (idQ x.id) vs = (k : Int) := by
  refine idxV_at (fun j z hj hz => decide_eq_false (fun e => ?_)) hx (decide_eq_true rfl)
  have := vids_rise h (k - j - 1) j z x hz (by rw [show j + (k - j - 1) + 1 = k by omega]; exact hx)
  omega
theorem mix_turn {m : Int} {ps : List Pp} {vs : List Vv} {plan : List Int} (hg : goodV m ps vs = true) {i : Nat} {x : Vv} (hx : vs[i]? = some x) :
    (TurnValve_v1 m ps (mixV vs plan i) x.id true = !x.shut) ∧
    (TurnValve_v1 m ps (mixV vs plan i) x.id true = true → plan.contains x.id = true → TurnValve_v0 m ps (mixV vs plan i) x.id true = mixV vs plan (i + 1)) ∧
    (¬ (TurnValve_v1 m ps (mixV vs plan i) x.id true = true ∧ plan.contains x.id = true) → mixV vs plan (i + 1) = mixV vs plan i) := by
  have hg2 := goodV_mix hg plan i
  have hx2 := mixV_at (plan := plan) hx
  have i2 := idx_own (goodV_of hg2) hx2
  have h1 : TurnValve_v1 m ps (mixV vs plan i) x.id true = !x.shut := by
    unfold TurnValve_v1
    rw [hg2, turnOk_at i2 hx2]
    cases x.shut <;> rfl
  refine ⟨h1, fun h2 h3 => ?_, fun h2 => ?_⟩
  · have e2 : TurnValve_v0 m ps (mixV vs plan i) x.id true = turned (mixV vs plan i) x.id true := if_pos h2
    rw [e2, turned_at i2 hx2, mixV_next hx, shutX_true (.inr h3)]
  · by_cases h3 : plan.contains x.id = true
    · have hs : x.shut = true := by
        cases hs : x.shut with
        | true => rfl
        | false => exact absurd ⟨by rw [h1, hs]; rfl, h3⟩ h2
      rw [mixV_next hx]
      have e : shutX plan x = x := congrArg (fun b => ({ x with shut := b } : Vv)) (show (x.shut || plan.contains x.id) = x.shut by rw [hs]; rfl)
      rw [e]
      apply List.ext_getElem?
      intro j
      have hi := (List.getElem?_eq_some_iff.1 hx).1
      by_cases e : j = i
      · subst e; rw [List.getElem?_set_self (by rw [mixV_len]; exact hi), mixV_at hx]
      · rw [List.getElem?_set_ne (by omega)]
    · exact mixV_skip hx (by simpa using h3)
theorem find_own {m : Int} {ps : List Pp} (h : GoodNet m ps) {i : Nat} {p : Pp} (hp : ps[i]? = some p) : findL ps p.id = (i : Int) := by
  refine findL_at (fun j z hj hz e => ?_) hp rfl
  have hlt := (List.getElem?_eq_some_iff.1 hp).1
  have h1 := List.pairwise_iff_getElem.1 h.rise j i (by omega) hlt hj
  rw [(List.getElem?_eq_some_iff.1 hz).2, (List.getElem?_eq_some_iff.1 hp).2] at h1
  omega
theorem around_mem {m : Int} {ps : List Pp} {vs : List Vv} {a : Int} {u : Vv} (hu : u ∈ vs) (h : rb (linked ps (openQ vs false)) a u.node ≠ rb (linked ps (openQ vs false)) a (9 + findL ps u.pipe)) : u.id ∈ idsV vs (aroundI ps vs a vs.length) := by
  obtain ⟨k, hk, e⟩ := List.getElem_of_mem hu
  have hx : vs[k]? = some u := by rw [List.getElem?_eq_getElem hk, e]
  unfold idsV
  refine List.mem_map.2 ⟨(k : Int), ?_, by rw [Int.toNat_natCast, hx]⟩
  unfold aroundI
  refine List.mem_filter.2 ⟨mem_upTo.2 ⟨by omega, by omega⟩, ?_⟩
  unfold arQ
  rw [Int.toNat_natCast, hx]; simpa using h
theorem seg_dry {m : Int} {ps : List Pp} {vs : List Vv} {a s b : Int} (h : GoodVal m ps vs) (hs : ¬ Reach (linked ps (openQ vs false)) a s) (hb : Reach (linked ps (openQ vs false)) a b) :
    ¬ Reach (linked ps (openQ (shutV vs (idsV vs (aroundI ps vs a vs.length))) true)) s b := by
  intro hr
  refine reach_closed (S := fun x => ¬ Reach (linked ps (openQ vs false)) a x) hs (fun x y hx hl hy => ?_) hr hb
  obtain ⟨i, p, v, hp, hv, hq, he⟩ := hl
  by_cases ho : openQ vs false p v = true
  · have hl2 : linked ps (openQ vs false) x y := ⟨i, p, v, hp, hv, ho, he⟩
    exact hx (reach_step hy (linked_symm ps _ _ _ hl2))
  · have ho' : blocked vs p.id v false = true := by unfold openQ at ho; simpa using ho
    unfold blocked at ho'
    obtain ⟨u, hu, h1⟩ := List.any_eq_true.1 ho'
    simp only [Bool.not_false, Bool.true_or, Bool.and_true, Bool.and_eq_true, decide_eq_true_eq] at h1
    have h2 := openQ_shut.1 hq u hu h1.1 h1.2
    have hi := find_own h.net hp
    have h3 : u.id ∈ idsV vs (aroundI ps vs a vs.length) := by
      refine around_mem (m := m) hu (fun e => ?_)
      rw [h1.1, h1.2, hi] at e
      rcases he with ⟨e1, e2⟩ | ⟨e1, e2⟩
      · subst e1 e2
        exact hx (rb_iff.1 (by rw [e]; exact rb_iff.2 hy))
      · subst e1 e2
        exact hx (rb_iff.1 (by rw [← e]; exact rb_iff.2 hy))
    rw [List.contains_iff_mem.2 h3] at h2
    exact absurd h2.2 (by simp)
theorem nodesL_same {ps : List Pp} {q : Pp → Int → Bool} {m : Nat} {a b : Int} (h : Reach (linked ps q) a b) : nodesL (linked ps q) m b true = nodesL (linked ps q) m a true := by
  unfold nodesL
  refine List.filter_congr (fun x _ => ?_)
  have : rb (linked ps q) b x = rb (linked ps q) a x := by
    rw [Bool.eq_iff_iff, rb_iff, rb_iff]
    exact ⟨fun h2 => reach_trans h h2, fun h2 => reach_trans (reach_symm (linked_symm ps q) h) h2⟩
  rw [this]
theorem idxL_same {ps : List Pp} {q : Pp → Int → Bool} {n : Nat} {a b : Int} (h : Reach (linked ps q) a b) : idxL (linked ps q) n b true = idxL (linked ps q) n a true := by
  unfold idxL
  refine List.filter_congr (fun x _ => ?_)
  have : rb (linked ps q) b (9 + x) = rb (linked ps q) a (9 + x) := by
    rw [Bool.eq_iff_iff, rb_iff, rb_iff]
    exact ⟨fun h2 => reach_trans h h2, fun h2 => reach_trans (reach_symm (linked_symm ps q) h) h2⟩
  rw [this]
theorem seg_node {m : Int} {ps : List Pp} {vs : List Vv} {a b : Int} (h : SegmentOfPipe_v2 m ps vs a = true) (hb : b ∈ SegmentOfPipe_v0 m ps vs a) :
    SegmentOfNode_v2 m ps vs b = true ∧ SegmentOfNode_v0 m ps vs b = SegmentOfPipe_v0 m ps vs a ∧ SegmentOfNode_v1 m ps vs b = SegmentOfPipe_v1 m ps vs a := by
  have e0 : SegmentOfPipe_v0 m ps vs a = nodesL (linked ps (openQ vs false)) m.toNat (9 + findL ps a) true := if_pos h
  have e1 : SegmentOfPipe_v1 m ps vs a = idsAt ps (idxL (linked ps (openQ vs false)) ps.length (9 + findL ps a) true) := if_pos h
  rw [e0] at hb
  obtain ⟨h1, h2⟩ := mem_nodesL.1 hb
  obtain ⟨hg, _⟩ := Bool.and_eq_true_iff.1 (show (goodV m ps vs && decide (0 ≤ findL ps a)) = true from h)
  have hm := (goodV_of hg).net.lo
  have h3 : SegmentOfNode_v2 m ps vs b = true := by unfold SegmentOfNode_v2; rw [hg, inB_iff.2 (by omega)]; rfl
  refine ⟨h3, ?_, ?_⟩
  · rw [e0]; unfold SegmentOfNode_v0; rw [if_pos h3, nodesL_same (rb_iff.1 h2)]
  · rw [e1]; unfold SegmentOfNode_v1; rw [if_pos h3, idxL_same (rb_iff.1 h2)]
theorem seg_has {m : Int} {ps : List Pp} {vs : List Vv} {b : Int} (h : SegmentOfNode_v2 m ps vs b = true) : (SegmentOfNode_v0 m ps vs b).contains b = true := by
  have e0 : SegmentOfNode_v0 m ps vs b = nodesL (linked ps (openQ vs false)) m.toNat b true := if_pos h
  obtain ⟨hg, h1⟩ := Bool.and_eq_true_iff.1 (show (goodV m ps vs && inB b 1 m) = true from h)
  have hm := (goodV_of hg).net.lo
  have h2 := inB_iff.1 h1
  rw [e0]
  exact List.contains_iff_mem.2 (mem_nodesL.2 ⟨by omega, rb_iff.2 (reach_refl _ _)⟩)
theorem findL_id : ∀ {ps : List Pp} {v : Int} {k : Nat} {p : Pp}, findL ps v = (k : Int) → ps[k]? = some p → p.id = v
  | [], _, _, _, _, hp => by simp at hp
  | q :: qs, v, k, p, h, hp => by
    unfold findL at h
    by_cases e : q.id = v
    · rw [if_pos e] at h
      obtain rfl : k = 0 := by omega
      simp at hp; subst hp; exact e
    · rw [if_neg e] at h
      split at h
      · omega
      · rename_i h2
        obtain ⟨j, rfl⟩ : ∃ j, k = j + 1 := ⟨k - 1, by omega⟩
        exact findL_id (ps := qs) (v := v) (k := j) (p := p) (by omega) (by simpa using hp)
theorem dry_pipe {m : Int} {ps : List Pp} {vs : List Vv} {a s : Int} (h : SegmentOfPipe_v2 m ps vs a = true) (hs : 1 ≤ s ∧ s ≤ m) (hn : (SegmentOfPipe_v0 m ps vs a).contains s = false) :
    (DryPipes_v0 m ps (shutV vs (ValvesAround_v0 m ps vs a)) s).contains a = true ∧ ∀ b, b ∈ SegmentOfPipe_v0 m ps vs a → (DryNodes_v0 m ps (shutV vs (ValvesAround_v0 m ps vs a)) s).contains b = true := by
  have e0 : SegmentOfPipe_v0 m ps vs a = nodesL (linked ps (openQ vs false)) m.toNat (9 + findL ps a) true := if_pos h
  have ea : ValvesAround_v0 m ps vs a = idsV vs (aroundI ps vs (9 + findL ps a) vs.length) := if_pos (show ValvesAround_v1 m ps vs a = true from h)
  obtain ⟨hg, hf⟩ := Bool.and_eq_true_iff.1 (show (goodV m ps vs && decide (0 ≤ findL ps a)) = true from h)
  have hf := of_decide_eq_true hf
  have hV := goodV_of hg
  have hm := hV.net.lo
  have hns : ¬ Reach (linked ps (openQ vs false)) (9 + findL ps a) s := fun hr => by
    have : s ∈ SegmentOfPipe_v0 m ps vs a := by rw [e0]; exact mem_nodesL.2 ⟨by omega, rb_iff.2 hr⟩
    rw [List.contains_iff_mem.2 this] at hn; cases hn
  have hg2 := goodV_shutV hg (ValvesAround_v0 m ps vs a)
  have hd : DryNodes_v1 m ps (shutV vs (ValvesAround_v0 m ps vs a)) s = true := by unfold DryNodes_v1; rw [hg2, inB_iff.2 hs]; rfl
  have ed : DryNodes_v0 m ps (shutV vs (ValvesAround_v0 m ps vs a)) s = nodesL (linked ps (openQ (shutV vs (ValvesAround_v0 m ps vs a)) true)) m.toNat s false := if_pos hd
  have ep : DryPipes_v0 m ps (shutV vs (ValvesAround_v0 m ps vs a)) s = idsAt ps (idxL (linked ps (openQ (shutV vs (ValvesAround_v0 m ps vs a)) true)) ps.length s false) := if_pos (show DryPipes_v1 m ps (shutV vs (ValvesAround_v0 m ps vs a)) s = true from hd)
  have key : ∀ b, Reach (linked ps (openQ vs false)) (9 + findL ps a) b → rb (linked ps (openQ (shutV vs (ValvesAround_v0 m ps vs a)) true)) s b = false := fun b hb => by
    rw [← Bool.not_eq_true, rb_iff, ea]
    exact seg_dry hV hns hb
  refine ⟨?_, fun b hb => ?_⟩
  · obtain ⟨k, hk⟩ := Int.eq_ofNat_of_zero_le hf
    have hfl := findL_lt ps a
    obtain ⟨p, hp⟩ : ∃ p, ps[k]? = some p := ⟨_, List.getElem?_eq_getElem (by omega)⟩
    have hid : p.id = a := findL_id hk hp
    rw [ep]
    refine List.contains_iff_mem.2 ?_
    unfold idsAt
    refine List.mem_map.2 ⟨(k : Int), mem_idxL.2 ⟨by omega, ?_⟩, by rw [Int.toNat_natCast, hp]; exact hid⟩
    have := key (9 + findL ps a) (reach_refl _ _)
    rw [hk] at this; exact this
  · rw [ed]
    rw [e0] at hb
    obtain ⟨h1, h2⟩ := mem_nodesL.1 hb
    exact List.contains_iff_mem.2 (mem_nodesL.2 ⟨h1, key b (rb_iff.1 h2)⟩)
end Go.Proofs.Ytdbgfejeleafgaa
namespace Go.Proofs.Ytdbgfejeleafgaa
open Go.RowKit
set_option linter.unusedVariables false
set_option linter.unusedSimpArgs false
def IsValidValves_v0 (m : Int) (ps : List Pp) (vs : List Vv) : Bool := goodV m ps vs
set_option maxRecDepth 100000 in
set_option maxHeartbeats 8000000 in
theorem IsValidValves_spec (m : Int) (A : Option Addr) (n c : Nat) (ps : List Pp) (A2 : Option Addr) (n2 c2 : Nat) (vs : List Vv) (w : World) (ha : Rd w 4 A n (pipesV ps)) (hb : Rd w 4 A2 n2 (valvesV vs)) (hn : n ≤ 1048576) (hn2 : n2 ≤ 1048576) (hfm : Fm A n c) (hfm2 : Fm A2 n2 c2) :
    Calls Try.prog 14 #[.agg #[.int .i64 m, .slice A n c], .slice A2 n2 c2] w fun e w' => e = .returned (.bool (IsValidValves_v0 m ps vs)) ∧ Below w.heap.size w w' := by
 have hl := rd_pipes_len ha
 have hl2 := rd_valves_len hb
 go_enter Try.func14, Try.ntmps14
 refine F.begin 8 [(0, .agg #[.int .i64 m, .slice A n c]), (1, .slice A2 n2 c2)] (fun U0 => ?_)
 refine wk fun K1 h1 => ?_
 refine W.region_plain (row := none) [(0, true), (1, false)] kk ?_
 have s1 := SG.self w none
 refine W.sn (fun b => .pointer (some ⟨b, 0, none⟩)) #[.int .i64 m, .slice A n c] 26 s1 rfl kk rfl (fun _ => by kernel_rfl) (fun b2 w3 hb4 k5 x6 s7 => ?_)
 refine F.nx ?_
 have lo8 : w.heap.size ≤ b2 := Nat.le_trans ((SG.belowR (Below.refl _ _) s1 (fun kq e => by cases e))).size (Nat.le_of_eq hb4)
 refine Fa (.bool false) ?_
 refine F.es ?_
 have c9 := (SG.belowR (Below.refl _ _) s7 (fun kq e => by cases e))
 refine h1 _ _ ?_
 refine wk fun K2 h2 => ?_
 refine W.region_plain (row := none) [(0, false), (1, false), (2, true), (3, false)] kk ?_
 have s10 := SG.self w3 none
 refine Fq (.agg #[.int .i64 m, .slice A n c]) (r_load2 rfl ek kk kk (sgS (blk_cell (j := 0) x6 kk) (Option.some_ne_none _)) (sgS (blk_cell (j := 1) x6 kk) (Option.some_ne_none _))) ?_
 refine Fv (.slice A2 n2 c2) ?_
 refine Fc [.agg #[.int .i64 m, .slice A n c], .slice A2 n2 c2] (l4Good_any m A n c ps A2 n2 c2 vs _ (Rd.kept ha (SG.belowR c9 s10 (fun kq e => by cases e))) (Rd.kept hb (SG.belowR c9 s10 (fun kq e => by cases e))) (by omega) (by omega)) ?_
 rintro e w12 ⟨rfl, b11⟩
 have s13 := SG.of_below s10 b11
 refine ⟨_, rfl, s13, ?_⟩
 refine F.nx ?_
 rcases Bool.eq_false_or_eq_true (goodV m ps vs) with q14 | q14
 ·rw [q14]
  refine Fa (.bool true) ?_
  refine F.es ?_
  have c15 := (SG.belowR c9 s13 (fun kq e => by cases e))
  refine h2 _ _ ?_
  refine wp_ret ?_
  try simp only [Exit.then]
  refine ret1 (v := .bool true) rfl kk ?_
  exact ⟨by unfold IsValidValves_v0; simp_all, c15⟩
 rw [q14]
 refine Fa (.bool false) ?_
 refine F.es ?_
 have c16 := (SG.belowR c9 s13 (fun kq e => by cases e))
 refine h2 _ _ ?_
 refine wp_ret ?_
 try simp only [Exit.then]
 refine ret1 (v := .bool false) rfl kk ?_
 exact ⟨by unfold IsValidValves_v0; simp_all, c16⟩
theorem IsValidValves_impl (m : Int) (A : Option Addr) (n c : Nat) (ps : List Pp) (A2 : Option Addr) (n2 c2 : Nat) (vs : List Vv) (w : World) (ha : Rd w 4 A n (pipesV ps)) (hb : Rd w 4 A2 n2 (valvesV vs)) (hn : n ≤ 1048576) (hn2 : n2 ≤ 1048576) (hfm : Fm A n c) (hfm2 : Fm A2 n2 c2) :
    Calls Try.prog 13 #[.agg #[.int .i64 m, .slice A n c], .slice A2 n2 c2] w fun e w' => e = .returned (.bool (IsValidValves_v0 m ps vs)) ∧ Below w.heap.size w w' := IsValidValves_any m A n c ps A2 n2 c2 vs w ha hb hn hn2 hfm2
end Go.Proofs.Ytdbgfejeleafgaa
