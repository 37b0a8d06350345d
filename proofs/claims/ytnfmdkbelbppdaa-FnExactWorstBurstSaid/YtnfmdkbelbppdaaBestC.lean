/- The best plans: what both packages lean on. -/
import Derived.Test.YtnfmdkbelbppdaaPlanP
import Derived.Test.YtnfmdkbelbppdaaVFin
import Derived.Test.YtnfmdkbelbppdaaBestI
import Derived.Test.YtnfmdkbelbppdaaBestS
namespace Go.Proofs.Ytnfmdkbelbppdaa
open Go.RowKit
set_option linter.unusedVariables false
set_option linter.unusedSimpArgs false

noncomputable def bestR (ps : List Pp) (vs : List Vv) (s id : Int) (cs : List Int) : Option (List Int × Int) := bestOf (cutB ps vs s id) (harmL ps vs s cs) (openIds vs)
theorem bp_none {r : Option (List Int × Int)} (h : r.isSome = false) : bpOf' r = [] := by
  cases r with
  | none => rfl
  | some b => cases h
theorem lt_some {r : Option (List Int × Int)} (h : r.isSome = true) : leastOf r = ltOf r := by
  cases r with
  | none => cases h
  | some b => rfl
theorem least_yes {r : Option (List Int × Int)} (h : 0 ≤ leastOf r) : r.isSome = true := by
  cases r with
  | none => exact absurd h (by show ¬ (0 : Int) ≤ -1; omega)
  | some b => rfl
theorem least_no {ps : List Pp} {vs : List Vv} {s id : Int} {cs : List Int} (hc : ∀ c, c ∈ cs → 0 ≤ c ∧ c ≤ 1000) (h : ¬ 0 ≤ leastOf (bestR ps vs s id cs)) : (bestR ps vs s id cs).isSome = false := by
  cases e : bestR ps vs s id cs with
  | none => rfl
  | some b =>
    unfold bestR at e
    obtain ⟨t, h1, h2, h3⟩ := bestOf_in e
    exfalso; apply h
    unfold bestR
    rw [e]
    show 0 ≤ b.2
    rw [h3]; exact harmL_nn hc

set_option maxRecDepth 100000 in
set_option maxHeartbeats 1000000 in
theorem gentF_any (m : Int) (A : Option Addr) (n c : Nat) (ps : List Pp) (A2 : Option Addr) (n2 c2 : Nat) (vs : List Vv) (s : Int) (A4 : Option Addr) (n4 c4 : Nat) (cs : List Int) (A3 : Option Addr) (n3 c3 : Nat) (pl : List Int) (B1 B2 B3 B4 : Nat) (w : World) (ha : Rd w 4 A n (pipesV ps)) (hb : Rd w 4 A2 n2 (valvesV vs)) (hn : n ≤ 1048576) (hn2 : n2 ≤ 1048576) (hfm2 : Fm A2 n2 c2) (hv9 : GoodVal m ps vs) (hs : 1 ≤ s ∧ s ≤ m) (hp3 : Rd w 1 A3 n3 (intsV pl)) (hn3 : n3 ≤ 1000000) (hc4 : Rd w 1 A4 n4 (intsV cs)) (hn4 : n4 ≤ 1048576) (hco : custOk m cs = true) (hB1 : w.heap[B1]? = some (.cells #[.int .i64 m, .slice A n c] 32 (0, 0))) (hB2 : w.heap[B2]? = some (.cells #[.slice A2 n2 c2] 34 (0, 0))) (hB3 : w.heap[B3]? = some (.cells #[.int .i64 s] 3 (0, 0))) (hB4 : w.heap[B4]? = some (.cells #[.slice A4 n4 c4] 26 (0, 0))) :
    Calls Try.prog 111 #[.slice A3 n3 c3, .pointer (some ⟨B1, 0, none⟩), .pointer (some ⟨B2, 0, none⟩), .pointer (some ⟨B3, 0, none⟩), .pointer (some ⟨B4, 0, none⟩)] w fun e w' => e = .returned (.int .i64 (harmL ps vs s cs pl)) ∧ Below w.heap.size w w' := by
  have hl := rd_pipes_len ha
  have hl2 := rd_valves_len hb
  have hl3 := rd_ints_len hp3
  have hl4 := rd_ints_len hc4
  go_enter Try.func111, Try.ntmps111
  refine wp_seq_k (fun K1 h1 => ?_)
  refine W.region_quiet [(0, false)] (by kernel_rfl) ?_
  refine W.as (v := .int .i64 0) (h := ?_)
  refine W.endF 13 [(0, .slice A3 n3 c3), (1, .pointer (some ⟨B1, 0, none⟩)), (2, .pointer (some ⟨B2, 0, none⟩)), (3, .pointer (some ⟨B3, 0, none⟩)), (4, .pointer (some ⟨B4, 0, none⟩)), (6, .int .i64 0)] (fun U1 => ?_)
  refine h1 _ _ ?_
  refine wp_seq_k (fun K2 h2 => ?_)
  refine W.region_plain (row := none) [(0, false), (1, false), (2, false), (3, false), (4, false), (5, true), (6, false)] (by kernel_rfl) ?_
  have s2 := SG.self w none
  refine W.q (v := .agg #[.int .i64 m, .slice A n c]) (hr := (r_load2 rfl (by kernel_rfl) (by kernel_rfl) (by kernel_rfl) (sgS (blk_cell (j := 0) hB1 (by kernel_rfl)) (by simp)) (sgS (blk_cell (j := 1) hB1 (by kernel_rfl)) (by simp)))) (h := ?_)
  refine W.ld (v := .slice A2 n2 c2) (hc := (sgS (blk_cell (j := 0) hB2 (by kernel_rfl)) (by simp))) (h := ?_)
  refine W.ld (v := .int .i64 s) (hc := (sgS (blk_cell (j := 0) hB3 (by kernel_rfl)) (by simp))) (h := ?_)
  refine W.mv (v := .slice A3 n3 c3) (h := ?_)
  refine W.ld (v := .slice A4 n4 c4) (hc := (sgS (blk_cell (j := 0) hB4 (by kernel_rfl)) (by simp))) (h := ?_)
  refine W.sc (vs := [.agg #[.int .i64 m, .slice A n c], .slice A2 n2 c2, .int .i64 s, .slice A3 n3 c3, .slice A4 n4 c4]) rfl rfl (by kernel_rfl) (by kernel_rfl) (by kernel_rfl) rfl (harmOf_any m A n c ps A2 n2 c2 vs s A3 n3 c3 pl A4 n4 c4 cs _ (Rd.kept ha (SG.belowR (Below.refl _ _) s2 (fun kq e => by cases e))) (Rd.kept hb (SG.belowR (Below.refl _ _) s2 (fun kq e => by cases e))) (by omega) (by omega) hfm2 hv9 hs (Rd.kept hp3 (SG.belowR (Below.refl _ _) s2 (fun kq e => by cases e))) (by omega) (Rd.kept hc4 (SG.belowR (Below.refl _ _) s2 (fun kq e => by cases e))) (by omega) hco) ?_
  rintro e w4 ⟨rfl, b3⟩
  have s5 := SG.of_below s2 b3
  refine ⟨_, rfl, s5, ?_⟩
  refine W.as (v := .int .i64 (harmL ps vs s cs pl)) (h := ?_)
  refine W.endF 13 [(0, .slice A3 n3 c3), (1, .pointer (some ⟨B1, 0, none⟩)), (2, .pointer (some ⟨B2, 0, none⟩)), (3, .pointer (some ⟨B3, 0, none⟩)), (4, .pointer (some ⟨B4, 0, none⟩)), (6, .int .i64 (harmL ps vs s cs pl))] (fun U6 => ?_)
  have hB1 := SG.blk s5 hB1 (by simp)
  have hB2 := SG.blk s5 hB2 (by simp)
  have hB3 := SG.blk s5 hB3 (by simp)
  have hB4 := SG.blk s5 hB4 (by simp)
  have c7 := (SG.belowR (Below.refl _ _) s5 (fun kq e => by cases e))
  refine h2 _ _ ?_
  refine wp_ret ?_
  try simp only [Exit.then]
  refine ret1 (v := .int .i64 (harmL ps vs s cs pl)) rfl (by kernel_rfl) ?_
  exact ⟨rfl, c7⟩

set_option maxRecDepth 100000 in
set_option maxHeartbeats 1000000 in
theorem gentlest_any (m : Int) (A : Option Addr) (n c : Nat) (ps : List Pp) (A2 : Option Addr) (n2 c2 : Nat) (vs : List Vv) (s id : Int) (A4 : Option Addr) (n4 c4 : Nat) (cs : List Int) (w : World) (ha : Rd w 4 A n (pipesV ps)) (hb : Rd w 4 A2 n2 (valvesV vs)) (hn : n ≤ 1048576) (hn2 : n2 ≤ 1048576) (hfm2 : Fm A2 n2 c2) (hv9 : GoodVal m ps vs) (hs : 1 ≤ s ∧ s ≤ m) (hfa : 0 ≤ findL ps id) (hc4 : Rd w 1 A4 n4 (intsV cs)) (hn4 : n4 ≤ 1048576) (hco : custOk m cs = true) :
    Calls Try.prog 71 #[.agg #[.int .i64 m, .slice A n c], .slice A2 n2 c2, .int .i64 s, .int .i64 id, .slice A4 n4 c4] w fun e w' => ∃ A' d, e = .returned (.tuple #[.slice A' (bpOf (bestR ps vs s id cs)).length d, .int .i64 (ltOf (bestR ps vs s id cs)), .bool (bestR ps vs s id cs).isSome]) ∧ w'.ownsRow w.heap.size 3 1 (.slice A' (bpOf (bestR ps vs s id cs)).length d) (bpOf (bestR ps vs s id cs)).length (intsV (bpOf (bestR ps vs s id cs))) ∧ Below w.heap.size w w' := by
  have hl := rd_pipes_len ha
  have hl2 := rd_valves_len hb
  have hl4 := rd_ints_len hc4
  have hfl := findL_lt ps id
  go_enter Try.func71, Try.ntmps71
  refine wp_seq_k (fun K1 h1 => ?_)
  refine W.region_plain (row := none) [(0, true), (1, true), (2, true), (3, true), (4, false), (5, false), (6, false)] (by kernel_rfl) ?_
  have s1 := SG.self w none
  refine W.sn (fun b => .pointer (some ⟨b, 0, none⟩)) #[.int .i64 m, .slice A n c] 32 s1 rfl (by kernel_rfl) rfl (fun _ => by kernel_rfl) (fun b2 w3 hb4 k5 x6 s7 => ?_)
  have lo8 : w.heap.size ≤ b2 := by have := ((SG.belowR (Below.refl _ _) s1 (fun kq e => by cases e))).size; omega
  refine W.sn (fun b => .pointer (some ⟨b, 0, none⟩)) #[.slice A2 n2 c2] 34 s7 rfl (by kernel_rfl) rfl (fun _ => by kernel_rfl) (fun b9 w10 hb11 k12 x13 s14 => ?_)
  have lo15 : w.heap.size ≤ b9 := by have := ((SG.belowR (Below.refl _ _) s7 (fun kq e => by cases e))).size; omega
  have ne16 : b2 ≠ b9 := by have := blk_lt x6; omega
  have x6 := (k12.block _ (blk_lt x6)).trans x6
  refine W.sn (fun b => .pointer (some ⟨b, 0, none⟩)) #[.int .i64 s] 3 s14 rfl (by kernel_rfl) rfl (fun _ => by kernel_rfl) (fun b17 w18 hb19 k20 x21 s22 => ?_)
  have lo23 : w.heap.size ≤ b17 := by have := ((SG.belowR (Below.refl _ _) s14 (fun kq e => by cases e))).size; omega
  have ne24 : b2 ≠ b17 := by have := blk_lt x6; omega
  have ne25 : b9 ≠ b17 := by have := blk_lt x13; omega
  have x6 := (k20.block _ (blk_lt x6)).trans x6
  have x13 := (k20.block _ (blk_lt x13)).trans x13
  refine W.sn (fun b => .pointer (some ⟨b, 0, none⟩)) #[.slice A4 n4 c4] 26 s22 rfl (by kernel_rfl) rfl (fun _ => by kernel_rfl) (fun b26 w27 hb28 k29 x30 s31 => ?_)
  have lo32 : w.heap.size ≤ b26 := by have := ((SG.belowR (Below.refl _ _) s22 (fun kq e => by cases e))).size; omega
  have ne33 : b2 ≠ b26 := by have := blk_lt x6; omega
  have ne34 : b9 ≠ b26 := by have := blk_lt x13; omega
  have ne35 : b17 ≠ b26 := by have := blk_lt x21; omega
  have x6 := (k29.block _ (blk_lt x6)).trans x6
  have x13 := (k29.block _ (blk_lt x13)).trans x13
  have x21 := (k29.block _ (blk_lt x21)).trans x21
  refine W.as (v := .slice none 0 0) (h := ?_)
  refine W.as (v := .int .i64 0) (h := ?_)
  refine W.as (v := .bool false) (h := ?_)
  refine W.endF 22 [(0, .agg #[.int .i64 m, .slice A n c]), (1, .slice A2 n2 c2), (2, .int .i64 s), (3, .int .i64 id), (4, .slice A4 n4 c4), (5, .pointer (some ⟨b2, 0, none⟩)), (6, .pointer (some ⟨b9, 0, none⟩)), (7, .pointer (some ⟨b17, 0, none⟩)), (9, .pointer (some ⟨b26, 0, none⟩)), (10, .slice none 0 0), (11, .int .i64 0), (12, .bool false)] (fun U36 => ?_)
  have c37 := (SG.belowR (Below.refl _ _) s31 (fun kq e => by cases e))
  refine h1 _ _ ?_
  refine wp_seq_k (fun K2 h2 => ?_)
  refine W.region_plain (row := none) [(0, false), (1, false), (2, false), (3, false), (4, false), (5, true), (6, false), (7, false), (8, false), (9, false), (10, false), (11, false)] (by kernel_rfl) ?_
  have s38 := SG.self w27 none
  refine W.q (v := .agg #[.int .i64 m, .slice A n c]) (hr := (r_load2 rfl (by kernel_rfl) (by kernel_rfl) (by kernel_rfl) (sgS (blk_cell (j := 0) x6 (by kernel_rfl)) (by simp)) (sgS (blk_cell (j := 1) x6 (by kernel_rfl)) (by simp)))) (h := ?_)
  refine W.ld (v := .slice A2 n2 c2) (hc := (sgS (blk_cell (j := 0) x13 (by kernel_rfl)) (by simp))) (h := ?_)
  refine W.ld (v := .int .i64 s) (hc := (sgS (blk_cell (j := 0) x21 (by kernel_rfl)) (by simp))) (h := ?_)
  refine W.mv (v := .int .i64 id) (h := ?_)
  refine W.q (v := .func (.func 111) #[] #[.pointer (some ⟨b2, 0, none⟩), .pointer (some ⟨b9, 0, none⟩), .pointer (some ⟨b17, 0, none⟩), .pointer (some ⟨b26, 0, none⟩)]) (hr := (r_makeFunc (vs := [.pointer (some ⟨b2, 0, none⟩), .pointer (some ⟨b9, 0, none⟩), .pointer (some ⟨b17, 0, none⟩), .pointer (some ⟨b26, 0, none⟩)]) rfl (by kernel_rfl))) (h := ?_)
  have z43 := ((SG.belowR c37 s38 (fun kq e => by cases e))).size
  refine W.sc (vs := [.agg #[.int .i64 m, .slice A n c], .slice A2 n2 c2, .int .i64 s, .int .i64 id, .func (.func 111) #[] #[.pointer (some ⟨b2, 0, none⟩), .pointer (some ⟨b9, 0, none⟩), .pointer (some ⟨b17, 0, none⟩), .pointer (some ⟨b26, 0, none⟩)]]) rfl rfl (by kernel_rfl) (by kernel_rfl) (by kernel_rfl) rfl (bestPlan_any m A n c ps A2 n2 c2 vs s id 111 #[.pointer (some ⟨b2, 0, none⟩), .pointer (some ⟨b9, 0, none⟩), .pointer (some ⟨b17, 0, none⟩), .pointer (some ⟨b26, 0, none⟩)] (harmL ps vs s cs) _ (Rd.kept ha (SG.belowR c37 s38 (fun kq e => by cases e))) (Rd.kept hb (SG.belowR c37 s38 (fun kq e => by cases e))) (by omega) (by omega) hfm2 hv9 hs hfa (by kernel_rfl) (fun W A9 n9 c9 pl9 hW hr9 hn9 => gentF_any m A n c ps A2 n2 c2 vs s A4 n4 c4 cs A9 n9 c9 pl9 b2 b9 b17 b26 W (Rd.kept (Rd.kept ha (SG.belowR c37 s38 (fun kq e => by cases e))) hW) (Rd.kept (Rd.kept hb (SG.belowR c37 s38 (fun kq e => by cases e))) hW) (by omega) (by omega) hfm2 hv9 hs hr9 hn9 (Rd.kept (Rd.kept hc4 (SG.belowR c37 s38 (fun kq e => by cases e))) hW) (by omega) hco ((hW.block _ (blk_lt x6)).trans x6) ((hW.block _ (blk_lt x13)).trans x13) ((hW.block _ (blk_lt x21)).trans x21) ((hW.block _ (blk_lt x30)).trans x30))) ?_
  rintro e w46 ⟨A39, c40, rfl, ho41, b45⟩
  have s47 := SG.of_below s38 b45
  refine ⟨_, rfl, s47, ?_⟩
  have nb48 : Nb b2 (.slice A39 ((bpOf (bestR ps vs s id cs)).length) c40) := nb_lo ho41 (Nat.lt_of_lt_of_le (blk_lt x6) (World.grownBy.size s38))
  have nb49 : Nb b9 (.slice A39 ((bpOf (bestR ps vs s id cs)).length) c40) := nb_lo ho41 (Nat.lt_of_lt_of_le (blk_lt x13) (World.grownBy.size s38))
  have nb50 : Nb b17 (.slice A39 ((bpOf (bestR ps vs s id cs)).length) c40) := nb_lo ho41 (Nat.lt_of_lt_of_le (blk_lt x21) (World.grownBy.size s38))
  have nb51 : Nb b26 (.slice A39 ((bpOf (bestR ps vs s id cs)).length) c40) := nb_lo ho41 (Nat.lt_of_lt_of_le (blk_lt x30) (World.grownBy.size s38))
  have ho42 := own_base (base' := w.heap.size) ho41 z43
  refine W.q (v := .slice A39 ((bpOf (bestR ps vs s id cs)).length) c40) (hr := (r_extract (vs := #[.slice A39 ((bpOf (bestR ps vs s id cs)).length) c40, .int .i64 (ltOf (bestR ps vs s id cs)), .bool ((bestR ps vs s id cs).isSome)]) rfl (by kernel_rfl) (by kernel_rfl))) (h := ?_)
  refine W.q (v := .int .i64 (ltOf (bestR ps vs s id cs))) (hr := (r_extract (vs := #[.slice A39 ((bpOf (bestR ps vs s id cs)).length) c40, .int .i64 (ltOf (bestR ps vs s id cs)), .bool ((bestR ps vs s id cs).isSome)]) rfl (by kernel_rfl) (by kernel_rfl))) (h := ?_)
  refine W.q (v := .bool ((bestR ps vs s id cs).isSome)) (hr := (r_extract (vs := #[.slice A39 ((bpOf (bestR ps vs s id cs)).length) c40, .int .i64 (ltOf (bestR ps vs s id cs)), .bool ((bestR ps vs s id cs).isSome)]) rfl (by kernel_rfl) (by kernel_rfl))) (h := ?_)
  refine W.as (v := .slice A39 ((bpOf (bestR ps vs s id cs)).length) c40) (h := ?_)
  refine W.as (v := .int .i64 (ltOf (bestR ps vs s id cs))) (h := ?_)
  refine W.as (v := .bool ((bestR ps vs s id cs).isSome)) (h := ?_)
  refine W.endF 22 [(0, .agg #[.int .i64 m, .slice A n c]), (1, .slice A2 n2 c2), (2, .int .i64 s), (3, .int .i64 id), (4, .slice A4 n4 c4), (5, .pointer (some ⟨b2, 0, none⟩)), (6, .pointer (some ⟨b9, 0, none⟩)), (7, .pointer (some ⟨b17, 0, none⟩)), (9, .pointer (some ⟨b26, 0, none⟩)), (10, .slice A39 ((bpOf (bestR ps vs s id cs)).length) c40), (11, .int .i64 (ltOf (bestR ps vs s id cs))), (12, .bool ((bestR ps vs s id cs).isSome))] (fun U52 => ?_)
  have x6 := SG.blk s47 x6 (by simp)
  have x13 := SG.blk s47 x13 (by simp)
  have x21 := SG.blk s47 x21 (by simp)
  have x30 := SG.blk s47 x30 (by simp)
  have c53 := (SG.belowR c37 s47 (fun kq e => by cases e))
  refine h2 _ _ ?_
  refine wp_ret ?_
  try simp only [Exit.then]
  refine ret3 (v := .slice A39 ((bpOf (bestR ps vs s id cs)).length) c40) (x := .int .i64 (ltOf (bestR ps vs s id cs))) (y := .bool ((bestR ps vs s id cs).isSome)) rfl (by kernel_rfl) (by kernel_rfl) (by kernel_rfl) ?_
  exact ⟨_, _, rfl, ho42, c53⟩

end Go.Proofs.Ytnfmdkbelbppdaa
