/- The best plan: the reference's search. -/
import Derived.Test.YtnfmdkbelbppdaaPlanP
import Derived.Test.YtnfmdkbelbppdaaSch8
namespace Go.Proofs.Ytnfmdkbelbppdaa
open Go.RowKit
set_option linter.unusedVariables false
set_option linter.unusedSimpArgs false

noncomputable def leastOf (r : Option (List Int × Int)) : Int := match r with | some b => b.2 | none => -1
def bpOf' (r : Option (List Int × Int)) : List Int := match r with | some b => b.1 | none => []
theorem sfd_some {fd : Bool} {b : List Int × Int} (h : fd = true) : (bif fd then some b else none) = some b := by rw [h]; rfl
theorem sfd_none {fd : Bool} {b : List Int × Int} (h : fd = false) : (bif fd then some b else none) = none := by rw [h]; rfl
theorem sbest_fin {r : Option (List Int × Int)} {fd : Bool} {bp : List Int} {lt : Int} (h : r = bif fd then some (bp, lt) else none) (hn : fd = false → bp = [] ∧ lt = -1) : bp = bpOf' r ∧ lt = leastOf r := by
  subst h
  cases fd with
  | true => exact ⟨rfl, rfl⟩
  | false => obtain ⟨rfl, rfl⟩ := hn rfl; exact ⟨rfl, rfl⟩
theorem fd_pos {fd : Bool} {bp : List Int} {lt : Int} (hn : fd = false → bp = [] ∧ lt = -1) (h : 0 ≤ lt) : fd = true := by
  cases fd with
  | true => rfl
  | false => have := (hn rfl).2; omega
theorem fd_neg {fd : Bool} {lt : Int} (hn : fd = true → 0 ≤ lt) (h : lt < 0) : fd = false := by
  cases fd with
  | false => rfl
  | true => have := hn rfl; omega
theorem better_lt {h : List Int → Int} {plan bp : List Int} {lt : Int} (e : h plan < lt) : better h plan (bp, lt) = true := by unfold better; rw [decide_eq_true e]; rfl
theorem better_less {h : List Int → Int} {plan bp : List Int} {lt : Int} (e : h plan = lt) (hl : lessL plan bp = true) : better h plan (bp, lt) = true := by unfold better; rw [decide_eq_true e, hl, Bool.true_and, Bool.or_true]
theorem better_gt {h : List Int → Int} {plan bp : List Int} {lt : Int} (e : ¬ h plan < lt) (e2 : ¬ h plan = lt) : better h plan (bp, lt) = false := by unfold better; rw [decide_eq_false e, decide_eq_false e2]; rfl
theorem better_ge {h : List Int → Int} {plan bp : List Int} {lt : Int} (e : ¬ h plan < lt) (hl : lessL plan bp = false) : better h plan (bp, lt) = false := by unfold better; rw [decide_eq_false e, hl, Bool.and_false]; rfl
theorem harmL_nil {ps : List Pp} {vs : List Vv} {s : Int} {cs plan : List Int} (h : cs.length = 0) : harmL ps vs s cs plan = 0 := by unfold harmL; rw [h]; rfl
theorem harmL_nn {ps : List Pp} {vs : List Vv} {s : Int} {cs plan : List Int} (h : ∀ c, c ∈ cs → 0 ≤ c ∧ c ≤ 1000) : 0 ≤ harmL ps vs s cs plan := (harmTo_bd h _ (Nat.le_refl _)).1
theorem bestOf_cutno {ps : List Pp} {vs : List Vv} {s id : Int} {h : List Int → Int} (e : cutB ps vs s id (openIds vs) = false) : bestOf (cutB ps vs s id) h (openIds vs) = none :=
  bestTo_none (fun t => by
    cases hc : cutB ps vs s id (choice (openIds vs) t) with
    | false => rfl
    | true => rw [cut_open hc] at e; cases e) _
theorem lessL_short {us ws : List Int} (h : us.length < ws.length) : lessL us ws = true := by unfold lessL; rw [if_neg (by omega), decide_eq_true h]
theorem lessL_long {us ws : List Int} (h : us.length ≠ ws.length) (h2 : ¬ us.length < ws.length) : lessL us ws = false := by unfold lessL; rw [if_neg h, decide_eq_false h2]
theorem lessL_lex {us ws : List Int} (h : us.length = ws.length) : lessL us ws = lexL us ws := by unfold lessL; rw [if_pos h]
theorem lexL_step {us ws : List Int} {i : Nat} {x y : Int} (hi : lexL (us.drop i) (ws.drop i) = lexL us ws) (hx : us[i]? = some x) (hy : ws[i]? = some y) (e : x = y) : lexL (us.drop (i + 1)) (ws.drop (i + 1)) = lexL us ws := by
  obtain ⟨h1, rfl⟩ := List.getElem?_eq_some_iff.1 hx
  obtain ⟨h2, rfl⟩ := List.getElem?_eq_some_iff.1 hy
  rw [List.drop_eq_getElem_cons h1, List.drop_eq_getElem_cons h2, lexL, if_pos e] at hi
  exact hi
theorem lexL_ne {us ws : List Int} {i : Nat} {x y : Int} (hi : lexL (us.drop i) (ws.drop i) = lexL us ws) (hx : us[i]? = some x) (hy : ws[i]? = some y) (e : x ≠ y) : lexL us ws = decide (x < y) := by
  obtain ⟨h1, rfl⟩ := List.getElem?_eq_some_iff.1 hx
  obtain ⟨h2, rfl⟩ := List.getElem?_eq_some_iff.1 hy
  rw [List.drop_eq_getElem_cons h1, List.drop_eq_getElem_cons h2, lexL, if_neg e] at hi
  exact hi.symm
theorem lexL_end {us ws : List Int} {i : Nat} (hi : lexL (us.drop i) (ws.drop i) = lexL us ws) (h : us.length ≤ i) : lexL us ws = false := by
  rw [List.drop_eq_nil_of_le h] at hi
  rw [← hi]; rfl

set_option maxRecDepth 100000 in
set_option maxHeartbeats 1000000 in
theorem l5Choice_any (A2 : Option Addr) (n2 c2 : Nat) (ol : List Int) (t : Nat) (w : World) (hb : Rd w 1 A2 n2 (intsV ol)) (hn2 : n2 ≤ 10) (ht : t ≤ 1024) :
    Calls Try.prog 87 #[.slice A2 n2 c2, .int .i64 ((t : Nat) : Int)] w fun e w' => ∃ A' n' c', e = .returned (.slice A' n' c') ∧ w'.ownsRow w.heap.size 3 1 (.slice A' n' c') n' (intsV (choice ol t)) ∧ Below w.heap.size w w' := by
  have hl2 := rd_ints_len hb
  go_enter Try.func87, Try.ntmps87
  refine wp_seq_k (fun K1 h1 => ?_)
  refine W.region_quiet [(0, false)] (by kernel_rfl) ?_
  refine W.as (v := .slice none 0 0) (h := ?_)
  refine W.endF 28 [(0, .slice A2 n2 c2), (1, .int .i64 ((t : Nat) : Int)), (4, .slice none 0 0)] (fun U1 => ?_)
  refine h1 _ _ ?_
  refine wp_seq_k (fun K2 h2 => ?_)
  refine W.region_plain (row := none) [(0, true), (1, false)] (by kernel_rfl) ?_
  have s2 := SG.self w none
  refine W.sn (fun b => .slice (some ⟨b, 0, none⟩) 0 0) #[] 3 s2 rfl (by kernel_rfl) rfl (fun _ => by kernel_rfl) (fun b3 w4 hb5 k6 x7 s8 => ?_)
  have lo9 : w.heap.size ≤ b3 := by have := ((SG.belowR (Below.refl _ _) s2 (fun kq e => by cases e))).size; omega
  refine W.as (v := .slice (some ⟨b3, 0, none⟩) 0 0) (h := ?_)
  refine W.endF 28 [(0, .slice A2 n2 c2), (1, .int .i64 ((t : Nat) : Int)), (4, .slice none 0 0), (5, .slice (some ⟨b3, 0, none⟩) 0 0)] (fun U10 => ?_)
  have c11 := (SG.belowR (Below.refl _ _) s8 (fun kq e => by cases e))
  refine h2 _ _ ?_
  refine wp_seq_k (fun K3 h3 => ?_)
  refine wp_seq_k (fun K4 h4 => ?_)
  refine W.region_quiet [(0, false)] (by kernel_rfl) ?_
  refine W.as (v := .int .i64 0) (h := ?_)
  refine W.endF 28 [(0, .slice A2 n2 c2), (1, .int .i64 ((t : Nat) : Int)), (4, .slice none 0 0), (5, .slice (some ⟨b3, 0, none⟩) 0 0), (6, .int .i64 0)] (fun U12 => ?_)
  refine h4 _ _ ?_
  refine wp_block ?_
  have ho13 := own_empty (base := w.heap.size) (size := 1) x7 lo9
  replace ho13 : World.ownsRow _ _ _ _ _ _ (intsV []) := ho13
  refine loopK (fun am0 aa0 wl0 => ∃ (i : Nat) (A0_5 : Option Addr) (n0_5 : Nat) (c0_5 : Nat) (U0 : Nat → Value), aa0 = ⟨(fr U0 [(0, .slice A2 n2 c2), (1, .int .i64 ((t : Nat) : Int)), (4, .slice none 0 0), (5, .slice A0_5 n0_5 c0_5), (6, .int .i64 ((i : Nat) : Int))] 28 0).toArray, []⟩ ∧ (am0 = n2 - i) ∧ (i ≤ n2) ∧ (n0_5 ≤ i) ∧ (wl0.ownsRow w.heap.size 3 1 (.slice A0_5 n0_5 c0_5) n0_5 (intsV (choiceTo ol t i))) ∧ (Below w.heap.size w wl0)) (n2 - 0) ?_ ?_
  · exact ⟨0, (some ⟨b3, 0, none⟩), 0, 0, (fun iU9 => lk [(0, .slice A2 n2 c2), (1, .int .i64 ((t : Nat) : Int)), (4, .slice none 0 0), (5, .slice (some ⟨b3, 0, none⟩) 0 0), (6, .int .i64 0)] iU9 (U12 iU9)), (by kernel_rfl), rfl, (Nat.zero_le _), (Nat.zero_le _), ho13, c11⟩
  rintro am0 aa0 wl0 K5 h5 ⟨i, A0_5, n0_5, c0_5, U0, rfl, rfl, hi, hb5, ho0_5, c14⟩
  refine wp_seq_k (fun K6 h6 => ?_)
  refine wp_seq_k (fun K7 h7 => ?_)
  refine W.region_quiet [(0, false), (1, false), (2, false), (3, false)] (by kernel_rfl) ?_
  refine W.mv (v := .int .i64 ((i : Nat) : Int)) (h := ?_)
  refine W.mv (v := .slice A2 n2 c2) (h := ?_)
  refine W.q (v := .int .i64 ((n2 : Nat) : Int)) (hr := (r_len (A := A2) (n := n2) (c := c2) rfl (by kernel_rfl) (by kernel_rfl))) (h := ?_)
  by_cases q15 : (((i : Nat) : Int) : Int) < (((n2 : Nat) : Int) : Int)
  · refine W.q (v := .bool true) (hr := (r_lss (m := ((i : Nat) : Int)) (n := ((n2 : Nat) : Int)) rfl (by kernel_rfl) (by kernel_rfl) (decide_eq_true q15))) (h := ?_)
    refine W.endF 28 [(0, .slice A2 n2 c2), (1, .int .i64 ((t : Nat) : Int)), (4, .slice none 0 0), (5, .slice A0_5 n0_5 c0_5), (6, .int .i64 ((i : Nat) : Int)), (11, .bool true)] (fun U16 => ?_)
    refine h7 _ _ ?_
    refine wp_cond_true (by kernel_rfl) ?_
    refine wp_skip ?_
    refine h6 _ _ ?_
    refine wp_seq_k (fun K8 h8 => ?_)
    refine wp_block ?_
    refine wp_seq_k (fun K9 h9 => ?_)
    refine W.region_quiet [(0, false), (1, false), (2, false), (3, false), (4, false), (5, false)] (by kernel_rfl) ?_
    refine W.mv (v := .int .i64 ((t : Nat) : Int)) (h := ?_)
    refine W.mv (v := .int .i64 ((i : Nat) : Int)) (h := ?_)
    refine W.q (v := .int .u64 ((i : Nat) : Int)) (hr := (r_convU (k := i) rfl (by kernel_rfl) (by kernel_rfl) (by kernel_rfl) (by omega))) (h := ?_)
    refine W.q (v := .int .i64 ((t / 2 ^ i : Nat) : Int)) (hr := (r_shr (q := t) (k := i) (yk := .u64) rfl (by kernel_rfl) (by kernel_rfl) (by omega))) (h := ?_)
    refine W.q (v := .int .i64 (((t / 2 ^ i) % 2 : Nat) : Int)) (hr := (r_and1 (q := t / 2 ^ i) rfl (by kernel_rfl) (by kernel_rfl) (by have h9 := Nat.div_le_self t (2 ^ i); have h8 : (2 : Nat) ^ 10 = 1024 := rfl; omega))) (h := ?_)
    by_cases q17 : ((((t / 2 ^ i) % 2 : Nat) : Int) : Int) = (1 : Int)
    · refine W.q (v := .bool true) (hr := (r_eql (m := (((t / 2 ^ i) % 2 : Nat) : Int)) (n := 1) rfl (by kernel_rfl) (by kernel_rfl) (decide_eq_true q17))) (h := ?_)
      refine W.endF 28 [(0, .slice A2 n2 c2), (1, .int .i64 ((t : Nat) : Int)), (4, .slice none 0 0), (5, .slice A0_5 n0_5 c0_5), (6, .int .i64 ((i : Nat) : Int)), (11, .bool true), (19, .bool true)] (fun U18 => ?_)
      refine h9 _ _ ?_
      refine wp_cond_true (by kernel_rfl) ?_
      refine W.region_plain (row := (Value.ownBlock (.slice A0_5 n0_5 c0_5))) [(0, false), (1, false), (2, false), (3, false), (4, false), (5, true), (6, true), (7, false)] (by kernel_rfl) ?_
      have s19 := SG.self wl0 (Value.ownBlock (.slice A0_5 n0_5 c0_5))
      refine W.mv (v := .slice A0_5 n0_5 c0_5) (h := ?_)
      refine W.mv (v := .slice A2 n2 c2) (h := ?_)
      refine W.mv (v := .int .i64 ((i : Nat) : Int)) (h := ?_)
      obtain ⟨x20, hx21⟩ := get_of (zs := ol) (k := i) (by have := hl2; omega)
      obtain ⟨b22, o23, hA24, hb25, hc26⟩ := Rd.elInt hb hx21
      refine W.q (v := .pointer (some ⟨b22, o23 + i, none⟩)) (hr := (r_idx1 (n := n2) (c := c2) (k := i) rfl (by kernel_rfl) hA24 (by kernel_rfl) (by kernel_rfl) (by have := hl2; omega))) (h := ?_)
      refine W.ld (v := .int .i64 x20) (hc := (sgS (later c14 hc26) (nb_lo ho0_5 hb25))) (h := ?_)
      refine W.sn (fun b => .slice (some ⟨b, 0, none⟩) 1 1) #[.int .i64 x20] 3 s19 rfl (by kernel_rfl) rfl (fun _ => by kernel_rfl) (fun b27 w28 hb29 k30 x31 s32 => ?_)
      have lo33 : w.heap.size ≤ b27 := by have := ((SG.belowR c14 s19 (fun kq e => (World.ownsRow.lt ho0_5 kq e).1))).size; omega
      have nb34 : Nb b27 (.slice A0_5 n0_5 c0_5) := nb_hi ho0_5 (Nat.le_of_eq hb29)
      have ho35 := own_kept ho0_5 k30
      refine W.sap (e := 3) (size := 1) (base := w.heap.size) (m := 1) (v := .slice A0_5 n0_5 c0_5) (c := 1) s32 rfl rfl rfl rfl (by kernel_rfl) (by kernel_rfl) (by kernel_rfl) ho35 x31 (by kernel_rfl) (by kernel_rfl) (by omega) (by omega) (by have := ((SG.belowR c14 s32 (fun kq e => (World.ownsRow.lt ho0_5 kq e).1))).size; omega) (.inl rfl) (fun g36 cap37 w38 ho39 hg40 hat41 hlt42 s43 => ?_)
      have nb44 : Nb b27 (.slice (some ⟨g36, 0, none⟩) (n0_5 + 1) cap37) := nb_app nb34 (blk_lt x31) hat41
      have x31 := (hg40.block _ (blk_lt x31) nb34).trans x31
      have ho39 := own_snoc ho39
      refine W.as (v := .slice (some ⟨g36, 0, none⟩) (n0_5 + 1) cap37) (h := ?_)
      refine W.endF 28 [(0, .slice A2 n2 c2), (1, .int .i64 ((t : Nat) : Int)), (4, .slice none 0 0), (5, .slice (some ⟨g36, 0, none⟩) (n0_5 + 1) cap37), (6, .int .i64 ((i : Nat) : Int)), (11, .bool true), (19, .bool true)] (fun U45 => ?_)
      have c46 := (SG.belowR c14 s43 (fun kq e => (World.ownsRow.lt ho0_5 kq e).1))
      refine h8 _ _ ?_
      refine W.region_quiet [(0, false), (1, false), (2, false)] (by kernel_rfl) ?_
      refine W.mv (v := .int .i64 ((i : Nat) : Int)) (h := ?_)
      refine W.q (v := .int .i64 ((i + 1 : Nat) : Int)) (hr := (r_add (m := ((i : Nat) : Int)) (n := 1) (z := ((i + 1 : Nat) : Int)) rfl (by kernel_rfl) (by kernel_rfl) (by omega) (by omega))) (h := ?_)
      refine W.as (v := .int .i64 ((i + 1 : Nat) : Int)) (h := ?_)
      refine W.endF 28 [(0, .slice A2 n2 c2), (1, .int .i64 ((t : Nat) : Int)), (4, .slice none 0 0), (5, .slice (some ⟨g36, 0, none⟩) (n0_5 + 1) cap37), (6, .int .i64 ((i + 1 : Nat) : Int)), (11, .bool true), (19, .bool true)] (fun U47 => ?_)
      exact h5 _ _ _ (by omega : (n2 - (i + 1)) < _) ⟨i + 1, (some ⟨g36, 0, none⟩), (n0_5 + 1), cap37, (fun iU9 => lk [(0, .slice A2 n2 c2), (1, .int .i64 ((t : Nat) : Int)), (4, .slice none 0 0), (5, .slice (some ⟨g36, 0, none⟩) (n0_5 + 1) cap37), (6, .int .i64 ((i + 1 : Nat) : Int)), (11, .bool true), (19, .bool true)] iU9 (U47 iU9)), (by kernel_rfl), rfl, (by omega), (by omega), (by rw [choiceTo_yes hx21 (by omega)]; exact ho39), c46⟩
    · refine W.q (v := .bool false) (hr := (r_eql (m := (((t / 2 ^ i) % 2 : Nat) : Int)) (n := 1) rfl (by kernel_rfl) (by kernel_rfl) (decide_eq_false q17))) (h := ?_)
      refine W.endF 28 [(0, .slice A2 n2 c2), (1, .int .i64 ((t : Nat) : Int)), (4, .slice none 0 0), (5, .slice A0_5 n0_5 c0_5), (6, .int .i64 ((i : Nat) : Int)), (11, .bool true), (19, .bool false)] (fun U48 => ?_)
      refine h9 _ _ ?_
      refine wp_cond_false (by kernel_rfl) ?_
      refine wp_skip ?_
      refine h8 _ _ ?_
      refine W.region_quiet [(0, false), (1, false), (2, false)] (by kernel_rfl) ?_
      refine W.mv (v := .int .i64 ((i : Nat) : Int)) (h := ?_)
      refine W.q (v := .int .i64 ((i + 1 : Nat) : Int)) (hr := (r_add (m := ((i : Nat) : Int)) (n := 1) (z := ((i + 1 : Nat) : Int)) rfl (by kernel_rfl) (by kernel_rfl) (by omega) (by omega))) (h := ?_)
      refine W.as (v := .int .i64 ((i + 1 : Nat) : Int)) (h := ?_)
      refine W.endF 28 [(0, .slice A2 n2 c2), (1, .int .i64 ((t : Nat) : Int)), (4, .slice none 0 0), (5, .slice A0_5 n0_5 c0_5), (6, .int .i64 ((i + 1 : Nat) : Int)), (11, .bool true), (19, .bool false)] (fun U49 => ?_)
      exact h5 _ _ _ (by omega : (n2 - (i + 1)) < _) ⟨i + 1, A0_5, n0_5, c0_5, (fun iU9 => lk [(0, .slice A2 n2 c2), (1, .int .i64 ((t : Nat) : Int)), (4, .slice none 0 0), (5, .slice A0_5 n0_5 c0_5), (6, .int .i64 ((i + 1 : Nat) : Int)), (11, .bool true), (19, .bool false)] iU9 (U49 iU9)), (by kernel_rfl), rfl, (by omega), (by omega), (by rw [choiceTo_no (by omega)]; exact ho0_5), c14⟩
  · refine W.q (v := .bool false) (hr := (r_lss (m := ((i : Nat) : Int)) (n := ((n2 : Nat) : Int)) rfl (by kernel_rfl) (by kernel_rfl) (decide_eq_false q15))) (h := ?_)
    refine W.endF 28 [(0, .slice A2 n2 c2), (1, .int .i64 ((t : Nat) : Int)), (4, .slice none 0 0), (5, .slice A0_5 n0_5 c0_5), (6, .int .i64 ((i : Nat) : Int)), (11, .bool false)] (fun U50 => ?_)
    refine h7 _ _ ?_
    refine wp_cond_false (by kernel_rfl) ?_
    refine wp_exit ?_
    refine h3 _ _ ?_
    refine wp_seq_k (fun K10 h10 => ?_)
    refine W.region_quiet [(0, false), (1, false)] (by kernel_rfl) ?_
    refine W.mv (v := .slice A0_5 n0_5 c0_5) (h := ?_)
    refine W.as (v := .slice A0_5 n0_5 c0_5) (h := ?_)
    refine W.endF 28 [(0, .slice A2 n2 c2), (1, .int .i64 ((t : Nat) : Int)), (4, .slice A0_5 n0_5 c0_5), (5, .slice A0_5 n0_5 c0_5), (6, .int .i64 ((i : Nat) : Int)), (11, .bool false)] (fun U51 => ?_)
    refine h10 _ _ ?_
    refine wp_ret ?_
    try simp only [Exit.then]
    refine ret1 (v := .slice A0_5 n0_5 c0_5) rfl (by kernel_rfl) ?_
    have e9 : choiceTo ol t i = choice ol t := by unfold choice; rw [show ol.length = i by omega]
    have h9 := ho0_5
    rw [e9] at h9
    exact ⟨_, _, _, rfl, h9, c14⟩

set_option maxRecDepth 100000 in
set_option maxHeartbeats 1000000 in
theorem l5Less_any (A2 : Option Addr) (n2 c2 : Nat) (us : List Int) (A3 : Option Addr) (n3 c3 : Nat) (ws : List Int) (w : World) (hb : Rd w 1 A2 n2 (intsV us)) (hp3 : Rd w 1 A3 n3 (intsV ws)) (hn2 : n2 ≤ 1000000) (hn3 : n3 ≤ 1000000) :
    Calls Try.prog 104 #[.slice A2 n2 c2, .slice A3 n3 c3] w fun e w' => e = .returned (.bool (lessL us ws)) ∧ Below w.heap.size w w' := by
  have hl2 := rd_ints_len hb
  have hl3 := rd_ints_len hp3
  go_enter Try.func104, Try.ntmps104
  refine wp_seq_k (fun K1 h1 => ?_)
  refine W.region_quiet [(0, false)] (by kernel_rfl) ?_
  refine W.as (v := .bool false) (h := ?_)
  refine W.endF 40 [(0, .slice A2 n2 c2), (1, .slice A3 n3 c3), (4, .bool false)] (fun U1 => ?_)
  refine h1 _ _ ?_
  refine wp_seq_k (fun K2 h2 => ?_)
  refine wp_seq_k (fun K3 h3 => ?_)
  refine W.region_quiet [(0, false), (1, false), (2, false), (3, false), (4, false)] (by kernel_rfl) ?_
  refine W.mv (v := .slice A2 n2 c2) (h := ?_)
  refine W.q (v := .int .i64 ((n2 : Nat) : Int)) (hr := (r_len (A := A2) (n := n2) (c := c2) rfl (by kernel_rfl) (by kernel_rfl))) (h := ?_)
  refine W.mv (v := .slice A3 n3 c3) (h := ?_)
  refine W.q (v := .int .i64 ((n3 : Nat) : Int)) (hr := (r_len (A := A3) (n := n3) (c := c3) rfl (by kernel_rfl) (by kernel_rfl))) (h := ?_)
  by_cases q2 : (((n2 : Nat) : Int) : Int) ≠ (((n3 : Nat) : Int) : Int)
  · refine W.q (v := .bool true) (hr := (r_neq (m := ((n2 : Nat) : Int)) (n := ((n3 : Nat) : Int)) rfl (by kernel_rfl) (by kernel_rfl) (decide_eq_true q2))) (h := ?_)
    refine W.endF 40 [(0, .slice A2 n2 c2), (1, .slice A3 n3 c3), (4, .bool false), (10, .bool true)] (fun U3 => ?_)
    refine h3 _ _ ?_
    refine wp_cond_true (by kernel_rfl) ?_
    refine wp_seq_k (fun K4 h4 => ?_)
    refine W.region_quiet [(0, false), (1, false), (2, false), (3, false), (4, false), (5, false)] (by kernel_rfl) ?_
    refine W.mv (v := .slice A2 n2 c2) (h := ?_)
    refine W.q (v := .int .i64 ((n2 : Nat) : Int)) (hr := (r_len (A := A2) (n := n2) (c := c2) rfl (by kernel_rfl) (by kernel_rfl))) (h := ?_)
    refine W.mv (v := .slice A3 n3 c3) (h := ?_)
    refine W.q (v := .int .i64 ((n3 : Nat) : Int)) (hr := (r_len (A := A3) (n := n3) (c := c3) rfl (by kernel_rfl) (by kernel_rfl))) (h := ?_)
    by_cases q4 : (((n2 : Nat) : Int) : Int) < (((n3 : Nat) : Int) : Int)
    · refine W.q (v := .bool true) (hr := (r_lss (m := ((n2 : Nat) : Int)) (n := ((n3 : Nat) : Int)) rfl (by kernel_rfl) (by kernel_rfl) (decide_eq_true q4))) (h := ?_)
      refine W.as (v := .bool true) (h := ?_)
      refine W.endF 40 [(0, .slice A2 n2 c2), (1, .slice A3 n3 c3), (4, .bool true), (10, .bool true)] (fun U5 => ?_)
      refine h4 _ _ ?_
      refine wp_ret ?_
      try simp only [Exit.then]
      refine ret1 (v := .bool true) rfl (by kernel_rfl) ?_
      exact ⟨ret_bool (show true = lessL us ws from (show lessL us ws = true from lessL_short (by omega)).symm), (Below.refl _ _)⟩
    · refine W.q (v := .bool false) (hr := (r_lss (m := ((n2 : Nat) : Int)) (n := ((n3 : Nat) : Int)) rfl (by kernel_rfl) (by kernel_rfl) (decide_eq_false q4))) (h := ?_)
      refine W.as (v := .bool false) (h := ?_)
      refine W.endF 40 [(0, .slice A2 n2 c2), (1, .slice A3 n3 c3), (4, .bool false), (10, .bool true)] (fun U6 => ?_)
      refine h4 _ _ ?_
      refine wp_ret ?_
      try simp only [Exit.then]
      refine ret1 (v := .bool false) rfl (by kernel_rfl) ?_
      exact ⟨ret_bool (show false = lessL us ws from (show lessL us ws = false from lessL_long (by omega) (by omega)).symm), (Below.refl _ _)⟩
  · refine W.q (v := .bool false) (hr := (r_neq (m := ((n2 : Nat) : Int)) (n := ((n3 : Nat) : Int)) rfl (by kernel_rfl) (by kernel_rfl) (decide_eq_false q2))) (h := ?_)
    refine W.endF 40 [(0, .slice A2 n2 c2), (1, .slice A3 n3 c3), (4, .bool false), (10, .bool false)] (fun U7 => ?_)
    refine h3 _ _ ?_
    refine wp_cond_false (by kernel_rfl) ?_
    refine wp_skip ?_
    refine h2 _ _ ?_
    refine wp_seq_k (fun K5 h5 => ?_)
    refine wp_seq_k (fun K6 h6 => ?_)
    refine W.region_quiet [(0, false)] (by kernel_rfl) ?_
    refine W.as (v := .int .i64 0) (h := ?_)
    refine W.endF 40 [(0, .slice A2 n2 c2), (1, .slice A3 n3 c3), (4, .bool false), (5, .int .i64 0), (10, .bool false)] (fun U8 => ?_)
    refine h6 _ _ ?_
    refine wp_block ?_
    refine loopK (fun am0 aa0 wl0 => ∃ (i : Nat) (U0 : Nat → Value), aa0 = ⟨(fr U0 [(0, .slice A2 n2 c2), (1, .slice A3 n3 c3), (4, .bool false), (5, .int .i64 ((i : Nat) : Int)), (10, .bool false)] 40 0).toArray, []⟩ ∧ (am0 = n2 - i) ∧ (i ≤ n2) ∧ (lexL (us.drop i) (ws.drop i) = lexL us ws) ∧ (Below w.heap.size w wl0)) (n2 - 0) ?_ ?_
    · exact ⟨0, (fun iU9 => lk [(0, .slice A2 n2 c2), (1, .slice A3 n3 c3), (4, .bool false), (5, .int .i64 0), (10, .bool false)] iU9 (U8 iU9)), (by kernel_rfl), rfl, (Nat.zero_le _), rfl, (Below.refl _ _)⟩
    rintro am0 aa0 wl0 K7 h7 ⟨i, U0, rfl, rfl, hi, hinv, c9⟩
    refine wp_seq_k (fun K8 h8 => ?_)
    refine wp_seq_k (fun K9 h9 => ?_)
    refine W.region_quiet [(0, false), (1, false), (2, false), (3, false)] (by kernel_rfl) ?_
    refine W.mv (v := .int .i64 ((i : Nat) : Int)) (h := ?_)
    refine W.mv (v := .slice A2 n2 c2) (h := ?_)
    refine W.q (v := .int .i64 ((n2 : Nat) : Int)) (hr := (r_len (A := A2) (n := n2) (c := c2) rfl (by kernel_rfl) (by kernel_rfl))) (h := ?_)
    by_cases q10 : (((i : Nat) : Int) : Int) < (((n2 : Nat) : Int) : Int)
    · refine W.q (v := .bool true) (hr := (r_lss (m := ((i : Nat) : Int)) (n := ((n2 : Nat) : Int)) rfl (by kernel_rfl) (by kernel_rfl) (decide_eq_true q10))) (h := ?_)
      refine W.endF 40 [(0, .slice A2 n2 c2), (1, .slice A3 n3 c3), (4, .bool false), (5, .int .i64 ((i : Nat) : Int)), (10, .bool false), (19, .bool true)] (fun U11 => ?_)
      refine h9 _ _ ?_
      refine wp_cond_true (by kernel_rfl) ?_
      refine wp_skip ?_
      refine h8 _ _ ?_
      refine wp_seq_k (fun K10 h10 => ?_)
      refine wp_block ?_
      refine wp_seq_k (fun K11 h11 => ?_)
      refine W.region_sch (row := none) (Sch.of [(0, false), (1, false), (2, false), (3, false), (4, false), (5, false), (6, false), (7, false), (8, false)]) (by kernel_rfl) (by kernel_rfl) (fun _ d _ _ _ h => by cases d <;> exact h) (by kernel_rfl) (fun w12 e13 s14 => ?_)
      refine W.mv (v := .slice A2 n2 c2) (h := ?_)
      refine W.mv (v := .int .i64 ((i : Nat) : Int)) (h := ?_)
      obtain ⟨x15, hx16⟩ := get_of (zs := us) (k := i) (by have := hl2; omega)
      obtain ⟨b17, o18, hA19, hb20, hc21⟩ := Rd.elInt hb hx16
      refine W.q (v := .pointer (some ⟨b17, o18 + i, none⟩)) (hr := (r_idx1 (n := n2) (c := c2) (k := i) rfl (by kernel_rfl) hA19 (by kernel_rfl) (by kernel_rfl) (by have := hl2; omega))) (h := ?_)
      refine W.ld (v := .int .i64 x15) (hc := (sgS (later c9 hc21) (by simp))) (h := ?_)
      refine W.mv (v := .slice A3 n3 c3) (h := ?_)
      refine W.mv (v := .int .i64 ((i : Nat) : Int)) (h := ?_)
      obtain ⟨x22, hx23⟩ := get_of (zs := ws) (k := i) (by have := hl3; omega)
      obtain ⟨b24, o25, hA26, hb27, hc28⟩ := Rd.elInt hp3 hx23
      refine W.q (v := .pointer (some ⟨b24, o25 + i, none⟩)) (hr := (r_idx1 (n := n3) (c := c3) (k := i) rfl (by kernel_rfl) hA26 (by kernel_rfl) (by kernel_rfl) (by have := hl3; omega))) (h := ?_)
      refine W.ld (v := .int .i64 x22) (hc := (sgS (later c9 hc28) (by simp))) (h := ?_)
      by_cases q29 : (x15 : Int) ≠ (x22 : Int)
      · refine W.q (v := .bool true) (hr := (r_neq (m := x15) (n := x22) rfl (by kernel_rfl) (by kernel_rfl) (decide_eq_true q29))) (h := ?_)
        refine W.endF 40 [(0, .slice A2 n2 c2), (1, .slice A3 n3 c3), (4, .bool false), (5, .int .i64 ((i : Nat) : Int)), (10, .bool false), (19, .bool true), (30, .bool true)] (fun U30 => ?_)
        have c31 := (SG.belowR c9 s14 (fun kq e => by cases e))
        refine h11 _ _ ?_
        refine wp_cond_true (by kernel_rfl) ?_
        refine wp_seq_k (fun K12 h12 => ?_)
        refine W.region_sch (row := none) (Sch.of [(0, false), (1, false), (2, false), (3, false), (4, false), (5, false), (6, false), (7, false), (8, false), (9, false)]) (by kernel_rfl) (by kernel_rfl) (fun _ d _ _ _ h => by cases d <;> exact h) (by kernel_rfl) (fun w32 e33 s34 => ?_)
        refine W.mv (v := .slice A2 n2 c2) (h := ?_)
        refine W.mv (v := .int .i64 ((i : Nat) : Int)) (h := ?_)
        refine W.q (v := .pointer (some ⟨b17, o18 + i, none⟩)) (hr := (r_idx1 (n := n2) (c := c2) (k := i) rfl (by kernel_rfl) hA19 (by kernel_rfl) (by kernel_rfl) (by have := hl2; omega))) (h := ?_)
        refine W.ld (v := .int .i64 x15) (hc := (sgS (later c31 hc21) (by simp))) (h := ?_)
        refine W.mv (v := .slice A3 n3 c3) (h := ?_)
        refine W.mv (v := .int .i64 ((i : Nat) : Int)) (h := ?_)
        refine W.q (v := .pointer (some ⟨b24, o25 + i, none⟩)) (hr := (r_idx1 (n := n3) (c := c3) (k := i) rfl (by kernel_rfl) hA26 (by kernel_rfl) (by kernel_rfl) (by have := hl3; omega))) (h := ?_)
        refine W.ld (v := .int .i64 x22) (hc := (sgS (later c31 hc28) (by simp))) (h := ?_)
        by_cases q35 : (x15 : Int) < (x22 : Int)
        · refine W.q (v := .bool true) (hr := (r_lss (m := x15) (n := x22) rfl (by kernel_rfl) (by kernel_rfl) (decide_eq_true q35))) (h := ?_)
          refine W.as (v := .bool true) (h := ?_)
          refine W.endF 40 [(0, .slice A2 n2 c2), (1, .slice A3 n3 c3), (4, .bool true), (5, .int .i64 ((i : Nat) : Int)), (10, .bool false), (19, .bool true), (30, .bool true)] (fun U36 => ?_)
          have c37 := (SG.belowR c31 s34 (fun kq e => by cases e))
          refine h12 _ _ ?_
          refine wp_ret ?_
          try simp only [Exit.then, Exit.inBlock]
          refine ret1 (v := .bool true) rfl (by kernel_rfl) ?_
          exact ⟨ret_bool (show true = lessL us ws from (show lessL us ws = true from by rw [lessL_lex (by omega), lexL_ne hinv hx16 hx23 (by omega), decide_eq_true (by omega)]).symm), c37⟩
        · refine W.q (v := .bool false) (hr := (r_lss (m := x15) (n := x22) rfl (by kernel_rfl) (by kernel_rfl) (decide_eq_false q35))) (h := ?_)
          refine W.as (v := .bool false) (h := ?_)
          refine W.endF 40 [(0, .slice A2 n2 c2), (1, .slice A3 n3 c3), (4, .bool false), (5, .int .i64 ((i : Nat) : Int)), (10, .bool false), (19, .bool true), (30, .bool true)] (fun U38 => ?_)
          have c39 := (SG.belowR c31 s34 (fun kq e => by cases e))
          refine h12 _ _ ?_
          refine wp_ret ?_
          try simp only [Exit.then, Exit.inBlock]
          refine ret1 (v := .bool false) rfl (by kernel_rfl) ?_
          exact ⟨ret_bool (show false = lessL us ws from (show lessL us ws = false from by rw [lessL_lex (by omega), lexL_ne hinv hx16 hx23 (by omega), decide_eq_false (by omega)]).symm), c39⟩
      · refine W.q (v := .bool false) (hr := (r_neq (m := x15) (n := x22) rfl (by kernel_rfl) (by kernel_rfl) (decide_eq_false q29))) (h := ?_)
        refine W.endF 40 [(0, .slice A2 n2 c2), (1, .slice A3 n3 c3), (4, .bool false), (5, .int .i64 ((i : Nat) : Int)), (10, .bool false), (19, .bool true), (30, .bool false)] (fun U40 => ?_)
        have c41 := (SG.belowR c9 s14 (fun kq e => by cases e))
        refine h11 _ _ ?_
        refine wp_cond_false (by kernel_rfl) ?_
        refine wp_skip ?_
        refine h10 _ _ ?_
        refine W.region_quiet [(0, false), (1, false), (2, false)] (by kernel_rfl) ?_
        refine W.mv (v := .int .i64 ((i : Nat) : Int)) (h := ?_)
        refine W.q (v := .int .i64 ((i + 1 : Nat) : Int)) (hr := (r_add (m := ((i : Nat) : Int)) (n := 1) (z := ((i + 1 : Nat) : Int)) rfl (by kernel_rfl) (by kernel_rfl) (by omega) (by omega))) (h := ?_)
        refine W.as (v := .int .i64 ((i + 1 : Nat) : Int)) (h := ?_)
        refine W.endF 40 [(0, .slice A2 n2 c2), (1, .slice A3 n3 c3), (4, .bool false), (5, .int .i64 ((i + 1 : Nat) : Int)), (10, .bool false), (19, .bool true), (30, .bool false)] (fun U42 => ?_)
        exact h7 _ _ _ (by omega : (n2 - (i + 1)) < _) ⟨i + 1, (fun iU9 => lk [(0, .slice A2 n2 c2), (1, .slice A3 n3 c3), (4, .bool false), (5, .int .i64 ((i + 1 : Nat) : Int)), (10, .bool false), (19, .bool true), (30, .bool false)] iU9 (U42 iU9)), (by kernel_rfl), rfl, (by omega), (lexL_step hinv hx16 hx23 (by omega)), c41⟩
    · refine W.q (v := .bool false) (hr := (r_lss (m := ((i : Nat) : Int)) (n := ((n2 : Nat) : Int)) rfl (by kernel_rfl) (by kernel_rfl) (decide_eq_false q10))) (h := ?_)
      refine W.endF 40 [(0, .slice A2 n2 c2), (1, .slice A3 n3 c3), (4, .bool false), (5, .int .i64 ((i : Nat) : Int)), (10, .bool false), (19, .bool false)] (fun U43 => ?_)
      refine h9 _ _ ?_
      refine wp_cond_false (by kernel_rfl) ?_
      refine wp_exit ?_
      refine h5 _ _ ?_
      refine wp_seq_k (fun K13 h13 => ?_)
      refine W.region_quiet [(0, false)] (by kernel_rfl) ?_
      refine W.as (v := .bool false) (h := ?_)
      refine W.endF 40 [(0, .slice A2 n2 c2), (1, .slice A3 n3 c3), (4, .bool false), (5, .int .i64 ((i : Nat) : Int)), (10, .bool false), (19, .bool false)] (fun U44 => ?_)
      refine h13 _ _ ?_
      refine wp_ret ?_
      try simp only [Exit.then]
      refine ret1 (v := .bool false) rfl (by kernel_rfl) ?_
      exact ⟨ret_bool (show false = lessL us ws from (show lessL us ws = false from by rw [lessL_lex (by omega), lexL_end hinv (by omega)]).symm), c9⟩

set_option maxRecDepth 100000 in
set_option maxHeartbeats 1000000 in
theorem l5Best_any (m : Int) (A : Option Addr) (n c : Nat) (ps : List Pp) (A2 : Option Addr) (n2 c2 : Nat) (vs : List Vv) (s id : Int) (A4 : Option Addr) (n4 c4 : Nat) (cs : List Int) (w : World) (ha : Rd w 4 A n (pipesV ps)) (hb : Rd w 4 A2 n2 (valvesV vs)) (hn : n ≤ 1048576) (hn2 : n2 ≤ 1048576) (hfm2 : Fm A2 n2 c2) (hv9 : GoodVal m ps vs) (hs : 1 ≤ s ∧ s ≤ m) (hfa : 0 ≤ findL ps id) (hc4 : Rd w 1 A4 n4 (intsV cs)) (hn4 : n4 ≤ 1048576) (hcob : ∀ c, c ∈ cs → 0 ≤ c ∧ c ≤ 1000) (hcoo : cs.length = 0 ∨ custOk m cs = true) :
    Calls Try.prog 63 #[.agg #[.int .i64 m, .slice A n c], .slice A2 n2 c2, .int .i64 s, .int .i64 id, .slice A4 n4 c4] w fun e w' => ∃ A' n' d, e = .returned (.tuple #[.slice A' n' d, .int .i64 (leastOf (bestOf (cutB ps vs s id) (harmL ps vs s cs) (openIds vs)))]) ∧ w'.ownsRow w.heap.size 3 1 (.slice A' n' d) n' (intsV (bpOf' (bestOf (cutB ps vs s id) (harmL ps vs s cs) (openIds vs)))) ∧ Below w.heap.size w w' := by
  have hl := rd_pipes_len ha
  have hl2 := rd_valves_len hb
  have hg := hv9.net
  have hgl := hg.lo
  have hgh := hg.hi
  have hp := hg.pipesIn
  have hlen10 := hg.len
  have hu := hv9.uniq
  have hvl := hv9.len
  have hfl := findL_lt ps id
  have hl4 := rd_ints_len hc4
  go_enter Try.func63, Try.ntmps63
  refine wp_seq_k (fun K1 h1 => ?_)
  refine W.region_plain (row := none) [(0, true), (1, false), (2, false)] (by kernel_rfl) ?_
  have s1 := SG.self w none
  refine W.sn (fun b => .pointer (some ⟨b, 0, none⟩)) #[.int .i64 m, .slice A n c] 32 s1 rfl (by kernel_rfl) rfl (fun _ => by kernel_rfl) (fun b2 w3 hb4 k5 x6 s7 => ?_)
  have lo8 : w.heap.size ≤ b2 := by have := ((SG.belowR (Below.refl _ _) s1 (fun kq e => by cases e))).size; omega
  refine W.as (v := .slice none 0 0) (h := ?_)
  refine W.as (v := .int .i64 0) (h := ?_)
  refine W.endF 93 [(0, .agg #[.int .i64 m, .slice A n c]), (1, .slice A2 n2 c2), (2, .int .i64 s), (3, .int .i64 id), (4, .slice A4 n4 c4), (5, .pointer (some ⟨b2, 0, none⟩)), (10, .slice none 0 0), (11, .int .i64 0)] (fun U9 => ?_)
  have c10 := (SG.belowR (Below.refl _ _) s7 (fun kq e => by cases e))
  refine h1 _ _ ?_
  refine wp_seq_k (fun K2 h2 => ?_)
  refine W.region_plain (row := none) [(0, false), (1, true), (2, false)] (by kernel_rfl) ?_
  have s11 := SG.self w3 none
  refine W.mv (v := .slice A2 n2 c2) (h := ?_)
  refine W.sc (vs := [.slice A2 n2 c2]) rfl rfl (by kernel_rfl) (by kernel_rfl) (by kernel_rfl) rfl (l5Open_any A2 n2 c2 vs _ (Rd.kept hb (SG.belowR c10 s11 (fun kq e => by cases e))) (by omega)) ?_
  rintro e w21 ⟨A12, n13, c14, rfl, ho15, b20⟩
  have s22 := SG.of_below s11 b20
  refine ⟨_, rfl, s22, ?_⟩
  have rd16 := own_rd ho15
  have fm19 := own_fm ho15
  have hl17 := rd_ints_len rd16
  have sp23 := sp_freshB (g := b2) ho15 (Nat.lt_of_lt_of_le (blk_lt x6) (World.grownBy.size s11))
  have := openIds_len vs
  refine W.as (v := .slice A12 n13 c14) (h := ?_)
  refine W.endF 93 [(0, .agg #[.int .i64 m, .slice A n c]), (1, .slice A2 n2 c2), (2, .int .i64 s), (3, .int .i64 id), (4, .slice A4 n4 c4), (5, .pointer (some ⟨b2, 0, none⟩)), (10, .slice none 0 0), (11, .int .i64 0), (12, .slice A12 n13 c14)] (fun U24 => ?_)
  have x6 := SG.blk s22 x6 (by simp)
  have c25 := (SG.belowR c10 s22 (fun kq e => by cases e))
  refine h2 _ _ ?_
  refine wp_seq_k (fun K3 h3 => ?_)
  refine W.region_plain (row := none) [(0, true), (1, false), (2, false)] (by kernel_rfl) ?_
  have s26 := SG.self w21 none
  refine W.sn (fun b => .slice (some ⟨b, 0, none⟩) 0 0) #[] 3 s26 rfl (by kernel_rfl) rfl (fun _ => by kernel_rfl) (fun b27 w28 hb29 k30 x31 s32 => ?_)
  have lo33 : w.heap.size ≤ b27 := by have := ((SG.belowR c25 s26 (fun kq e => by cases e))).size; omega
  have sp34 : Sp A12 n13 (some b27) := sp_new rd16 (by have := World.grownBy.size s26; have := hb29; omega)
  have ne35 : b2 ≠ b27 := by have := blk_lt x6; have := World.grownBy.size s26; omega
  refine W.as (v := .slice (some ⟨b27, 0, none⟩) 0 0) (h := ?_)
  refine W.as (v := .int .i64 (-1)) (h := ?_)
  refine W.endF 93 [(0, .agg #[.int .i64 m, .slice A n c]), (1, .slice A2 n2 c2), (2, .int .i64 s), (3, .int .i64 id), (4, .slice A4 n4 c4), (5, .pointer (some ⟨b2, 0, none⟩)), (10, .slice none 0 0), (11, .int .i64 0), (12, .slice A12 n13 c14), (13, .slice (some ⟨b27, 0, none⟩) 0 0), (14, .int .i64 (-1))] (fun U36 => ?_)
  have x6 := SG.blk s32 x6 (by simp)
  have c37 := (SG.belowR c25 s32 (fun kq e => by cases e))
  have rd38 := Rd.kept rd16 (SG.below s32)
  refine h3 _ _ ?_
  refine wp_seq_k (fun K4 h4 => ?_)
  refine wp_seq_k (fun K5 h5 => ?_)
  refine W.region_plain (row := none) [(0, false), (1, false), (2, false), (3, false), (4, false), (5, true), (6, false)] (by kernel_rfl) ?_
  have s39 := SG.self w28 none
  refine W.q (v := .agg #[.int .i64 m, .slice A n c]) (hr := (r_load2 rfl (by kernel_rfl) (by kernel_rfl) (by kernel_rfl) (sgS (blk_cell (j := 0) x6 (by kernel_rfl)) (by simp)) (sgS (blk_cell (j := 1) x6 (by kernel_rfl)) (by simp)))) (h := ?_)
  refine W.mv (v := .slice A2 n2 c2) (h := ?_)
  refine W.mv (v := .int .i64 s) (h := ?_)
  refine W.mv (v := .int .i64 id) (h := ?_)
  refine W.mv (v := .slice A12 n13 c14) (h := ?_)
  refine W.sc (vs := [.agg #[.int .i64 m, .slice A n c], .slice A2 n2 c2, .int .i64 s, .int .i64 id, .slice A12 n13 c14]) rfl rfl (by kernel_rfl) (by kernel_rfl) (by kernel_rfl) rfl (l5Cut_any m A n c ps A2 n2 c2 vs s id A12 n13 c14 (openIds vs) _ (Rd.kept ha (SG.belowR c37 s39 (fun kq e => by cases e))) (Rd.kept hb (SG.belowR c37 s39 (fun kq e => by cases e))) (by omega) (by omega) hfm2 hv9 hs hfa (Rd.kept rd38 (SG.below s39)) (by omega)) ?_
  rintro e w41 ⟨rfl, b40⟩
  have s42 := SG.of_below s39 b40
  refine ⟨_, rfl, s42, ?_⟩
  rcases Bool.eq_false_or_eq_true (cutB ps vs s id (openIds vs)) with q43 | q43
  · rw [q43]
    refine W.q (v := .bool false) (hr := (r_not (b := true) rfl (by kernel_rfl) rfl)) (h := ?_)
    refine W.endF 93 [(0, .agg #[.int .i64 m, .slice A n c]), (1, .slice A2 n2 c2), (2, .int .i64 s), (3, .int .i64 id), (4, .slice A4 n4 c4), (5, .pointer (some ⟨b2, 0, none⟩)), (10, .slice none 0 0), (11, .int .i64 0), (12, .slice A12 n13 c14), (13, .slice (some ⟨b27, 0, none⟩) 0 0), (14, .int .i64 (-1)), (27, .bool false)] (fun U44 => ?_)
    have x6 := SG.blk s42 x6 (by simp)
    have x31 := SG.blk s42 x31 (by simp)
    have c45 := (SG.belowR c37 s42 (fun kq e => by cases e))
    have rd46 := Rd.kept rd38 (SG.below s42)
    refine h5 _ _ ?_
    refine wp_cond_false (by kernel_rfl) ?_
    refine wp_skip ?_
    refine h4 _ _ ?_
    refine wp_seq_k (fun K6 h6 => ?_)
    refine wp_seq_k (fun K7 h7 => ?_)
    refine W.region_quiet [(0, false)] (by kernel_rfl) ?_
    refine W.as (v := .int .i64 0) (h := ?_)
    refine W.endF 93 [(0, .agg #[.int .i64 m, .slice A n c]), (1, .slice A2 n2 c2), (2, .int .i64 s), (3, .int .i64 id), (4, .slice A4 n4 c4), (5, .pointer (some ⟨b2, 0, none⟩)), (10, .slice none 0 0), (11, .int .i64 0), (12, .slice A12 n13 c14), (13, .slice (some ⟨b27, 0, none⟩) 0 0), (14, .int .i64 (-1)), (15, .int .i64 0), (27, .bool false)] (fun U47 => ?_)
    refine h7 _ _ ?_
    refine wp_block ?_
    have ho48 := own_empty (base := w.heap.size) (size := 1) x31 lo33
    replace ho48 : World.ownsRow _ _ _ _ _ _ (intsV []) := ho48
    have sp49 := sp_own (n' := 0) (c := 0) sp34
    have nb50 : Nb b2 (.slice (some ⟨b27, 0, none⟩) 0 0) := nb_new (by have := ne35; omega)
    have hpw : 2 ^ n13 ≤ 2 ^ 10 := Nat.pow_le_pow_right (by omega) (by omega)
    refine loopK (fun am0 aa0 wl0 => ∃ (t : Nat) (bp : List Int) (lt : Int) (fd : Bool) (A0_13 : Option Addr) (n0_13 : Nat) (c0_13 : Nat) (U0 : Nat → Value), aa0 = ⟨(fr U0 [(0, .agg #[.int .i64 m, .slice A n c]), (1, .slice A2 n2 c2), (2, .int .i64 s), (3, .int .i64 id), (4, .slice A4 n4 c4), (5, .pointer (some ⟨b2, 0, none⟩)), (10, .slice none 0 0), (11, .int .i64 0), (12, .slice A12 n13 c14), (13, .slice A0_13 n0_13 c0_13), (14, .int .i64 lt), (15, .int .i64 ((t : Nat) : Int)), (27, .bool false)] 93 0).toArray, []⟩ ∧ (am0 = 2 ^ n13 - t) ∧ (t ≤ 2 ^ n13) ∧ (bestTo (cutB ps vs s id) (harmL ps vs s cs) (openIds vs) t = bif fd then some (bp, lt) else none) ∧ (fd = false → bp = [] ∧ lt = -1) ∧ (fd = true → 0 ≤ lt) ∧ (n0_13 ≤ 10) ∧ (wl0.heap[b2]? = some (.cells #[.int .i64 m, .slice A n c] 32 (0, 0))) ∧ (wl0.ownsRow w.heap.size 3 1 (.slice A0_13 n0_13 c0_13) n0_13 (intsV bp)) ∧ (Nb b2 (.slice A0_13 n0_13 c0_13)) ∧ (Rd wl0 1 A12 n13 (intsV (openIds vs))) ∧ (Below w.heap.size w wl0)) (2 ^ n13 - 0) ?_ ?_
    · exact ⟨0, [], -1, false, (some ⟨b27, 0, none⟩), 0, 0, (fun iU9 => lk [(0, .agg #[.int .i64 m, .slice A n c]), (1, .slice A2 n2 c2), (2, .int .i64 s), (3, .int .i64 id), (4, .slice A4 n4 c4), (5, .pointer (some ⟨b2, 0, none⟩)), (10, .slice none 0 0), (11, .int .i64 0), (12, .slice A12 n13 c14), (13, .slice (some ⟨b27, 0, none⟩) 0 0), (14, .int .i64 (-1)), (15, .int .i64 0), (27, .bool false)] iU9 (U47 iU9)), (by kernel_rfl), rfl, (Nat.zero_le _), rfl, (fun _ => ⟨rfl, rfl⟩), (fun e => by cases e), (by omega), x6, ho48, nb50, rd46, c45⟩
    rintro am0 aa0 wl0 K8 h8 ⟨t, bp, lt, fd, A0_13, n0_13, c0_13, U0, rfl, rfl, ht, hst, hnf, hft, hb13, x6, ho0_13, nb0_13_b2, rd0_12, c51⟩
    refine wp_seq_k (fun K9 h9 => ?_)
    refine wp_seq_k (fun K10 h10 => ?_)
    refine W.region_quiet [(0, false), (1, false), (2, false), (3, false), (4, false), (5, false)] (by kernel_rfl) ?_
    refine W.mv (v := .int .i64 ((t : Nat) : Int)) (h := ?_)
    refine W.mv (v := .slice A12 n13 c14) (h := ?_)
    refine W.q (v := .int .i64 ((n13 : Nat) : Int)) (hr := (r_len (A := A12) (n := n13) (c := c14) rfl (by kernel_rfl) (by kernel_rfl))) (h := ?_)
    refine W.q (v := .int .u64 ((n13 : Nat) : Int)) (hr := (r_convU (k := n13) rfl (by kernel_rfl) (by kernel_rfl) (by kernel_rfl) (by omega))) (h := ?_)
    refine W.q (v := .int .i64 ((2 ^ n13 : Nat) : Int)) (hr := (r_shl (k := n13) (yk := .u64) rfl (by kernel_rfl) (by kernel_rfl) (by omega))) (h := ?_)
    by_cases q52 : (((t : Nat) : Int) : Int) < (((2 ^ n13 : Nat) : Int) : Int)
    · refine W.q (v := .bool true) (hr := (r_lss (m := ((t : Nat) : Int)) (n := ((2 ^ n13 : Nat) : Int)) rfl (by kernel_rfl) (by kernel_rfl) (decide_eq_true q52))) (h := ?_)
      refine W.endF 93 [(0, .agg #[.int .i64 m, .slice A n c]), (1, .slice A2 n2 c2), (2, .int .i64 s), (3, .int .i64 id), (4, .slice A4 n4 c4), (5, .pointer (some ⟨b2, 0, none⟩)), (10, .slice none 0 0), (11, .int .i64 0), (12, .slice A12 n13 c14), (13, .slice A0_13 n0_13 c0_13), (14, .int .i64 lt), (15, .int .i64 ((t : Nat) : Int)), (27, .bool false), (35, .bool true)] (fun U53 => ?_)
      refine h10 _ _ ?_
      refine wp_cond_true (by kernel_rfl) ?_
      refine wp_skip ?_
      refine h9 _ _ ?_
      refine wp_seq_k (fun K11 h11 => ?_)
      refine wp_block ?_
      refine wp_seq_k (fun K12 h12 => ?_)
      refine W.region_plain (row := none) [(0, false), (1, false), (2, true), (3, false)] (by kernel_rfl) ?_
      have s54 := SG.self wl0 none
      refine W.mv (v := .slice A12 n13 c14) (h := ?_)
      refine W.mv (v := .int .i64 ((t : Nat) : Int)) (h := ?_)
      have lr63 := World.ownsRow.lt ho0_13
      have z60 := ((SG.belowR c51 s54 (fun kq e => by cases e))).size
      refine W.sc (vs := [.slice A12 n13 c14, .int .i64 ((t : Nat) : Int)]) rfl rfl (by kernel_rfl) (by kernel_rfl) (by kernel_rfl) rfl (l5Choice_any A12 n13 c14 (openIds vs) t _ (Rd.kept rd0_12 (SG.below s54)) (by omega) (by omega)) ?_
      rintro e w65 ⟨A55, n56, c57, rfl, ho58, b64⟩
      have s66 := SG.of_below s54 b64
      refine ⟨_, rfl, s66, ?_⟩
      have ho67 := own_kept ho0_13 b64
      have nb68 : Nb b2 (.slice A55 n56 c57) := nb_lo ho58 (Nat.lt_of_lt_of_le (blk_lt x6) (World.grownBy.size s54))
      have nr69 : NbR (.slice A55 n56 c57) (.slice A0_13 n0_13 c0_13) := fun j e1 e2 => by have h8 := (World.ownsRow.lt ho58 j e1).1; have h9 := (lr63 j e2).2; omega
      have ho59 := own_base (base' := w.heap.size) ho58 z60
      have hl62 := rd_ints_len (own_rd ho58)
      have := choice_len (openIds vs) t
      refine W.as (v := .slice A55 n56 c57) (h := ?_)
      refine W.endF 93 [(0, .agg #[.int .i64 m, .slice A n c]), (1, .slice A2 n2 c2), (2, .int .i64 s), (3, .int .i64 id), (4, .slice A4 n4 c4), (5, .pointer (some ⟨b2, 0, none⟩)), (10, .slice none 0 0), (11, .int .i64 0), (12, .slice A12 n13 c14), (13, .slice A0_13 n0_13 c0_13), (14, .int .i64 lt), (15, .int .i64 ((t : Nat) : Int)), (16, .slice A55 n56 c57), (27, .bool false), (35, .bool true)] (fun U70 => ?_)
      have x6 := SG.blk s66 x6 (by simp)
      have c71 := (SG.belowR c51 s66 (fun kq e => by cases e))
      have rd72 := Rd.kept rd0_12 (SG.below s66)
      refine h12 _ _ ?_
      refine wp_seq_k (fun K13 h13 => ?_)
      refine wp_seq_k (fun K14 h14 => ?_)
      refine W.region_plain (row := none) [(0, false), (1, false), (2, false), (3, false), (4, false), (5, false), (6, false), (7, false), (8, false), (9, false), (10, true), (11, false), (12, false), (13, false), (14, false), (15, false), (16, false), (17, false), (18, false), (19, true), (20, false), (21, false)] (by kernel_rfl) ?_
      have s73 := SG.self w65 none
      refine W.mv (v := .int .i64 lt) (h := ?_)
      by_cases q74 : (lt : Int) ≥ (0 : Int)
      · refine W.q (v := .bool true) (hr := (r_geq (m := lt) (n := 0) rfl (by kernel_rfl) (by kernel_rfl) (decide_eq_true q74))) (h := ?_)
        refine W.mv (v := .bool true) (h := ?_)
        refine W.mv (v := .slice A4 n4 c4) (h := ?_)
        refine W.q (v := .int .i64 ((n4 : Nat) : Int)) (hr := (r_len (A := A4) (n := n4) (c := c4) rfl (by kernel_rfl) (by kernel_rfl))) (h := ?_)
        by_cases q75 : (((n4 : Nat) : Int) : Int) = (0 : Int)
        · refine W.q (v := .bool true) (hr := (r_eql (m := ((n4 : Nat) : Int)) (n := 0) rfl (by kernel_rfl) (by kernel_rfl) (decide_eq_true q75))) (h := ?_)
          refine W.q (v := .bool true) (hr := (r_pick (b := true) rfl (by kernel_rfl) (by kernel_rfl))) (h := ?_)
          refine W.mv (v := .bool true) (h := ?_)
          refine W.mv (v := .slice A55 n56 c57) (h := ?_)
          refine W.mv (v := .slice A0_13 n0_13 c0_13) (h := ?_)
          refine W.sc (vs := [.slice A55 n56 c57, .slice A0_13 n0_13 c0_13]) rfl rfl (by kernel_rfl) (by kernel_rfl) (by kernel_rfl) rfl (l5Less_any A55 n56 c57 (choice (openIds vs) t) A0_13 n0_13 c0_13 bp _ (own_rd ho59) (own_rd ho67) (by omega) (by omega)) ?_
          rintro e w77 ⟨rfl, b76⟩
          have s78 := SG.of_below s73 b76
          refine ⟨_, rfl, s78, ?_⟩
          have ho79 := own_kept ho67 b76
          have ho80 := own_kept ho59 b76
          rcases Bool.eq_false_or_eq_true (lessL (choice (openIds vs) t) bp) with q81 | q81
          · rw [q81]
            refine W.q (v := .bool false) (hr := (r_not (b := true) rfl (by kernel_rfl) rfl)) (h := ?_)
            refine W.q (v := .bool false) (hr := (r_pick (b := true) rfl (by kernel_rfl) (by kernel_rfl))) (h := ?_)
            refine W.mv (v := .bool false) (h := ?_)
            refine W.q (v := .agg #[.int .i64 m, .slice A n c]) (hr := (r_load2 rfl (by kernel_rfl) (by kernel_rfl) (by kernel_rfl) (sgS (blk_cell (j := 0) x6 (by kernel_rfl)) (by simp)) (sgS (blk_cell (j := 1) x6 (by kernel_rfl)) (by simp)))) (h := ?_)
            refine W.mv (v := .slice A2 n2 c2) (h := ?_)
            refine W.mv (v := .int .i64 s) (h := ?_)
            refine W.mv (v := .int .i64 id) (h := ?_)
            refine W.mv (v := .slice A55 n56 c57) (h := ?_)
            refine W.sc (vs := [.agg #[.int .i64 m, .slice A n c], .slice A2 n2 c2, .int .i64 s, .int .i64 id, .slice A55 n56 c57]) rfl rfl (by kernel_rfl) (by kernel_rfl) (by kernel_rfl) rfl (l5Cut_any m A n c ps A2 n2 c2 vs s id A55 n56 c57 (choice (openIds vs) t) _ (Rd.kept ha (SG.belowR c71 s78 (fun kq e => by cases e))) (Rd.kept hb (SG.belowR c71 s78 (fun kq e => by cases e))) (by omega) (by omega) hfm2 hv9 hs hfa (own_rd ho80) (by omega)) ?_
            rintro e w83 ⟨rfl, b82⟩
            have s84 := SG.of_below s78 b82
            refine ⟨_, rfl, s84, ?_⟩
            have ho85 := own_kept ho79 b82
            have ho86 := own_kept ho80 b82
            rcases Bool.eq_false_or_eq_true (cutB ps vs s id (choice (openIds vs) t)) with q87 | q87
            · rw [q87]
              refine W.q (v := .bool false) (hr := (r_not (b := true) rfl (by kernel_rfl) rfl)) (h := ?_)
              refine W.q (v := .bool false) (hr := (r_pick (b := false) rfl (by kernel_rfl) (by kernel_rfl))) (h := ?_)
              refine W.endF 93 [(0, .agg #[.int .i64 m, .slice A n c]), (1, .slice A2 n2 c2), (2, .int .i64 s), (3, .int .i64 id), (4, .slice A4 n4 c4), (5, .pointer (some ⟨b2, 0, none⟩)), (10, .slice none 0 0), (11, .int .i64 0), (12, .slice A12 n13 c14), (13, .slice A0_13 n0_13 c0_13), (14, .int .i64 lt), (15, .int .i64 ((t : Nat) : Int)), (16, .slice A55 n56 c57), (27, .bool false), (35, .bool true), (62, .bool false)] (fun U88 => ?_)
              have x6 := SG.blk s84 x6 (by simp)
              have c89 := (SG.belowR c71 s84 (fun kq e => by cases e))
              have rd90 := Rd.kept rd72 (SG.below s84)
              refine h14 _ _ ?_
              refine wp_cond_false (by kernel_rfl) ?_
              refine wp_skip ?_
              refine h13 _ _ ?_
              refine wp_seq_k (fun K15 h15 => ?_)
              refine W.region_quiet [(0, false)] (by kernel_rfl) ?_
              refine W.as (v := .int .i64 0) (h := ?_)
              refine W.endF 93 [(0, .agg #[.int .i64 m, .slice A n c]), (1, .slice A2 n2 c2), (2, .int .i64 s), (3, .int .i64 id), (4, .slice A4 n4 c4), (5, .pointer (some ⟨b2, 0, none⟩)), (10, .slice none 0 0), (11, .int .i64 0), (12, .slice A12 n13 c14), (13, .slice A0_13 n0_13 c0_13), (14, .int .i64 lt), (15, .int .i64 ((t : Nat) : Int)), (16, .slice A55 n56 c57), (17, .int .i64 0), (27, .bool false), (35, .bool true), (62, .bool false)] (fun U91 => ?_)
              refine h15 _ _ ?_
              refine wp_seq_k (fun K16 h16 => ?_)
              refine wp_seq_k (fun K17 h17 => ?_)
              refine W.region_quiet [(0, false), (1, false), (2, false)] (by kernel_rfl) ?_
              refine W.mv (v := .slice A4 n4 c4) (h := ?_)
              refine W.q (v := .int .i64 ((n4 : Nat) : Int)) (hr := (r_len (A := A4) (n := n4) (c := c4) rfl (by kernel_rfl) (by kernel_rfl))) (h := ?_)
              refine W.q (v := .bool false) (hr := (r_gtr (m := ((n4 : Nat) : Int)) (n := 0) rfl (by kernel_rfl) (by kernel_rfl) (decide_eq_false (by omega)))) (h := ?_)
              refine W.endF 93 [(0, .agg #[.int .i64 m, .slice A n c]), (1, .slice A2 n2 c2), (2, .int .i64 s), (3, .int .i64 id), (4, .slice A4 n4 c4), (5, .pointer (some ⟨b2, 0, none⟩)), (10, .slice none 0 0), (11, .int .i64 0), (12, .slice A12 n13 c14), (13, .slice A0_13 n0_13 c0_13), (14, .int .i64 lt), (15, .int .i64 ((t : Nat) : Int)), (16, .slice A55 n56 c57), (17, .int .i64 0), (27, .bool false), (35, .bool true), (62, .bool false), (65, .bool false)] (fun U92 => ?_)
              refine h17 _ _ ?_
              refine wp_cond_false (by kernel_rfl) ?_
              refine wp_skip ?_
              refine h16 _ _ ?_
              refine wp_seq_k (fun K18 h18 => ?_)
              refine W.region_plain (row := none) [(0, false), (1, false), (2, false), (3, false), (4, false), (5, false), (6, false), (7, false), (8, false), (9, false), (10, false), (11, false), (12, false), (13, false), (14, true), (15, false), (16, false)] (by kernel_rfl) ?_
              have s93 := SG.self w83 none
              refine W.mv (v := .int .i64 lt) (h := ?_)
              refine W.q (v := .bool false) (hr := (r_lss (m := lt) (n := 0) rfl (by kernel_rfl) (by kernel_rfl) (decide_eq_false (by omega)))) (h := ?_)
              refine W.mv (v := .bool false) (h := ?_)
              refine W.mv (v := .int .i64 0) (h := ?_)
              refine W.mv (v := .int .i64 lt) (h := ?_)
              by_cases q94 : (0 : Int) < (lt : Int)
              · refine W.q (v := .bool true) (hr := (r_lss (m := 0) (n := lt) rfl (by kernel_rfl) (by kernel_rfl) (decide_eq_true q94))) (h := ?_)
                refine W.q (v := .bool true) (hr := (r_pick (b := false) rfl (by kernel_rfl) (by kernel_rfl))) (h := ?_)
                refine W.mv (v := .bool true) (h := ?_)
                refine W.sp s93 (h := ?_)
                refine W.sp s93 (h := ?_)
                refine W.sp s93 (h := ?_)
                refine W.sp s93 (h := ?_)
                refine W.sp s93 (h := ?_)
                refine W.sp s93 (h := ?_)
                refine W.sp s93 (h := ?_)
                refine W.sp s93 (h := ?_)
                refine W.q (v := .bool true) (hr := (r_pick (b := true) rfl (by kernel_rfl) (by kernel_rfl))) (h := ?_)
                refine W.endF 93 [(0, .agg #[.int .i64 m, .slice A n c]), (1, .slice A2 n2 c2), (2, .int .i64 s), (3, .int .i64 id), (4, .slice A4 n4 c4), (5, .pointer (some ⟨b2, 0, none⟩)), (10, .slice none 0 0), (11, .int .i64 0), (12, .slice A12 n13 c14), (13, .slice A0_13 n0_13 c0_13), (14, .int .i64 lt), (15, .int .i64 ((t : Nat) : Int)), (16, .slice A55 n56 c57), (17, .int .i64 0), (27, .bool false), (35, .bool true), (62, .bool false), (65, .bool false), (88, .bool true)] (fun U95 => ?_)
                have x6 := SG.blk s93 x6 (by simp)
                have c96 := (SG.belowR c89 s93 (fun kq e => by cases e))
                have rd97 := Rd.kept rd90 (SG.below s93)
                refine h18 _ _ ?_
                refine wp_cond_true (by kernel_rfl) ?_
                refine wp_seq_k (fun K19 h19 => ?_)
                refine W.region_quiet [(0, false), (1, false)] (by kernel_rfl) ?_
                refine W.mv (v := .slice A55 n56 c57) (h := ?_)
                refine W.as (v := .slice A55 n56 c57) (h := ?_)
                refine W.endF 93 [(0, .agg #[.int .i64 m, .slice A n c]), (1, .slice A2 n2 c2), (2, .int .i64 s), (3, .int .i64 id), (4, .slice A4 n4 c4), (5, .pointer (some ⟨b2, 0, none⟩)), (10, .slice none 0 0), (11, .int .i64 0), (12, .slice A12 n13 c14), (13, .slice A55 n56 c57), (14, .int .i64 lt), (15, .int .i64 ((t : Nat) : Int)), (16, .slice A55 n56 c57), (17, .int .i64 0), (27, .bool false), (35, .bool true), (62, .bool false), (65, .bool false), (88, .bool true)] (fun U98 => ?_)
                refine h19 _ _ ?_
                refine W.region_quiet [(0, false), (1, false)] (by kernel_rfl) ?_
                refine W.mv (v := .int .i64 0) (h := ?_)
                refine W.as (v := .int .i64 0) (h := ?_)
                refine W.endF 93 [(0, .agg #[.int .i64 m, .slice A n c]), (1, .slice A2 n2 c2), (2, .int .i64 s), (3, .int .i64 id), (4, .slice A4 n4 c4), (5, .pointer (some ⟨b2, 0, none⟩)), (10, .slice none 0 0), (11, .int .i64 0), (12, .slice A12 n13 c14), (13, .slice A55 n56 c57), (14, .int .i64 0), (15, .int .i64 ((t : Nat) : Int)), (16, .slice A55 n56 c57), (17, .int .i64 0), (27, .bool false), (35, .bool true), (62, .bool false), (65, .bool false), (88, .bool true)] (fun U99 => ?_)
                refine h11 _ _ ?_
                refine W.region_quiet [(0, false), (1, false), (2, false)] (by kernel_rfl) ?_
                refine W.mv (v := .int .i64 ((t : Nat) : Int)) (h := ?_)
                refine W.q (v := .int .i64 ((t + 1 : Nat) : Int)) (hr := (r_add (m := ((t : Nat) : Int)) (n := 1) (z := ((t + 1 : Nat) : Int)) rfl (by kernel_rfl) (by kernel_rfl) (by omega) (by omega))) (h := ?_)
                refine W.as (v := .int .i64 ((t + 1 : Nat) : Int)) (h := ?_)
                refine W.endF 93 [(0, .agg #[.int .i64 m, .slice A n c]), (1, .slice A2 n2 c2), (2, .int .i64 s), (3, .int .i64 id), (4, .slice A4 n4 c4), (5, .pointer (some ⟨b2, 0, none⟩)), (10, .slice none 0 0), (11, .int .i64 0), (12, .slice A12 n13 c14), (13, .slice A55 n56 c57), (14, .int .i64 0), (15, .int .i64 ((t + 1 : Nat) : Int)), (16, .slice A55 n56 c57), (17, .int .i64 0), (27, .bool false), (35, .bool true), (62, .bool false), (65, .bool false), (88, .bool true)] (fun U100 => ?_)
                have hz := harmL_nil (ps := ps) (vs := vs) (s := s) (cs := cs) (plan := (choice (openIds vs) t)) (by omega)
                have hfd := fd_pos hnf (by omega)
                exact h8 _ _ _ (by omega : (2 ^ n13 - (t + 1)) < _) ⟨t + 1, (choice (openIds vs) t), 0, true, A55, n56, c57, (fun iU9 => lk [(0, .agg #[.int .i64 m, .slice A n c]), (1, .slice A2 n2 c2), (2, .int .i64 s), (3, .int .i64 id), (4, .slice A4 n4 c4), (5, .pointer (some ⟨b2, 0, none⟩)), (10, .slice none 0 0), (11, .int .i64 0), (12, .slice A12 n13 c14), (13, .slice A55 n56 c57), (14, .int .i64 0), (15, .int .i64 ((t + 1 : Nat) : Int)), (16, .slice A55 n56 c57), (17, .int .i64 0), (27, .bool false), (35, .bool true), (62, .bool false), (65, .bool false), (88, .bool true)] iU9 (U100 iU9)), (by kernel_rfl), rfl, (by omega), (((bestTo_next (hst.trans (sfd_some hfd))).trans (bestStep_yes q87 (better_lt (h := (harmL ps vs s cs)) (plan := (choice (openIds vs) t)) (bp := bp) (lt := lt) (by omega)))).trans (by rw [show (harmL ps vs s cs) (choice (openIds vs) t) = 0 from by omega]; rfl)), (fun e => by cases e), (fun _ => by omega), (by omega), x6, ho86, nb68, rd97, c96⟩
              · refine W.q (v := .bool false) (hr := (r_lss (m := 0) (n := lt) rfl (by kernel_rfl) (by kernel_rfl) (decide_eq_false q94))) (h := ?_)
                refine W.q (v := .bool false) (hr := (r_pick (b := false) rfl (by kernel_rfl) (by kernel_rfl))) (h := ?_)
                refine W.mv (v := .bool false) (h := ?_)
                refine W.mv (v := .int .i64 0) (h := ?_)
                refine W.mv (v := .int .i64 lt) (h := ?_)
                by_cases q101 : (0 : Int) = (lt : Int)
                · refine W.q (v := .bool true) (hr := (r_eql (m := 0) (n := lt) rfl (by kernel_rfl) (by kernel_rfl) (decide_eq_true q101))) (h := ?_)
                  refine W.mv (v := .bool true) (h := ?_)
                  refine W.mv (v := .slice A55 n56 c57) (h := ?_)
                  refine W.mv (v := .slice A0_13 n0_13 c0_13) (h := ?_)
                  refine W.sc (vs := [.slice A55 n56 c57, .slice A0_13 n0_13 c0_13]) rfl rfl (by kernel_rfl) (by kernel_rfl) (by kernel_rfl) rfl (l5Less_any A55 n56 c57 (choice (openIds vs) t) A0_13 n0_13 c0_13 bp _ (own_rd ho86) (own_rd ho85) (by omega) (by omega)) ?_
                  rintro e w103 ⟨rfl, b102⟩
                  have s104 := SG.of_below s93 b102
                  refine ⟨_, rfl, s104, ?_⟩
                  have ho105 := own_kept ho85 b102
                  have ho106 := own_kept ho86 b102
                  rw [q81]
                  refine W.q (v := .bool true) (hr := (r_pick (b := true) rfl (by kernel_rfl) (by kernel_rfl))) (h := ?_)
                  refine W.q (v := .bool true) (hr := (r_pick (b := false) rfl (by kernel_rfl) (by kernel_rfl))) (h := ?_)
                  refine W.endF 93 [(0, .agg #[.int .i64 m, .slice A n c]), (1, .slice A2 n2 c2), (2, .int .i64 s), (3, .int .i64 id), (4, .slice A4 n4 c4), (5, .pointer (some ⟨b2, 0, none⟩)), (10, .slice none 0 0), (11, .int .i64 0), (12, .slice A12 n13 c14), (13, .slice A0_13 n0_13 c0_13), (14, .int .i64 lt), (15, .int .i64 ((t : Nat) : Int)), (16, .slice A55 n56 c57), (17, .int .i64 0), (27, .bool false), (35, .bool true), (62, .bool false), (65, .bool false), (88, .bool true)] (fun U108 => ?_)
                  have x6 := SG.blk s104 x6 (by simp)
                  have c109 := (SG.belowR c89 s104 (fun kq e => by cases e))
                  have rd110 := Rd.kept rd90 (SG.below s104)
                  refine h18 _ _ ?_
                  refine wp_cond_true (by kernel_rfl) ?_
                  refine wp_seq_k (fun K20 h20 => ?_)
                  refine W.region_quiet [(0, false), (1, false)] (by kernel_rfl) ?_
                  refine W.mv (v := .slice A55 n56 c57) (h := ?_)
                  refine W.as (v := .slice A55 n56 c57) (h := ?_)
                  refine W.endF 93 [(0, .agg #[.int .i64 m, .slice A n c]), (1, .slice A2 n2 c2), (2, .int .i64 s), (3, .int .i64 id), (4, .slice A4 n4 c4), (5, .pointer (some ⟨b2, 0, none⟩)), (10, .slice none 0 0), (11, .int .i64 0), (12, .slice A12 n13 c14), (13, .slice A55 n56 c57), (14, .int .i64 lt), (15, .int .i64 ((t : Nat) : Int)), (16, .slice A55 n56 c57), (17, .int .i64 0), (27, .bool false), (35, .bool true), (62, .bool false), (65, .bool false), (88, .bool true)] (fun U111 => ?_)
                  refine h20 _ _ ?_
                  refine W.region_quiet [(0, false), (1, false)] (by kernel_rfl) ?_
                  refine W.mv (v := .int .i64 0) (h := ?_)
                  refine W.as (v := .int .i64 0) (h := ?_)
                  refine W.endF 93 [(0, .agg #[.int .i64 m, .slice A n c]), (1, .slice A2 n2 c2), (2, .int .i64 s), (3, .int .i64 id), (4, .slice A4 n4 c4), (5, .pointer (some ⟨b2, 0, none⟩)), (10, .slice none 0 0), (11, .int .i64 0), (12, .slice A12 n13 c14), (13, .slice A55 n56 c57), (14, .int .i64 0), (15, .int .i64 ((t : Nat) : Int)), (16, .slice A55 n56 c57), (17, .int .i64 0), (27, .bool false), (35, .bool true), (62, .bool false), (65, .bool false), (88, .bool true)] (fun U112 => ?_)
                  refine h11 _ _ ?_
                  refine W.region_quiet [(0, false), (1, false), (2, false)] (by kernel_rfl) ?_
                  refine W.mv (v := .int .i64 ((t : Nat) : Int)) (h := ?_)
                  refine W.q (v := .int .i64 ((t + 1 : Nat) : Int)) (hr := (r_add (m := ((t : Nat) : Int)) (n := 1) (z := ((t + 1 : Nat) : Int)) rfl (by kernel_rfl) (by kernel_rfl) (by omega) (by omega))) (h := ?_)
                  refine W.as (v := .int .i64 ((t + 1 : Nat) : Int)) (h := ?_)
                  refine W.endF 93 [(0, .agg #[.int .i64 m, .slice A n c]), (1, .slice A2 n2 c2), (2, .int .i64 s), (3, .int .i64 id), (4, .slice A4 n4 c4), (5, .pointer (some ⟨b2, 0, none⟩)), (10, .slice none 0 0), (11, .int .i64 0), (12, .slice A12 n13 c14), (13, .slice A55 n56 c57), (14, .int .i64 0), (15, .int .i64 ((t + 1 : Nat) : Int)), (16, .slice A55 n56 c57), (17, .int .i64 0), (27, .bool false), (35, .bool true), (62, .bool false), (65, .bool false), (88, .bool true)] (fun U113 => ?_)
                  have hz := harmL_nil (ps := ps) (vs := vs) (s := s) (cs := cs) (plan := (choice (openIds vs) t)) (by omega)
                  have hfd := fd_pos hnf (by omega)
                  exact h8 _ _ _ (by omega : (2 ^ n13 - (t + 1)) < _) ⟨t + 1, (choice (openIds vs) t), 0, true, A55, n56, c57, (fun iU9 => lk [(0, .agg #[.int .i64 m, .slice A n c]), (1, .slice A2 n2 c2), (2, .int .i64 s), (3, .int .i64 id), (4, .slice A4 n4 c4), (5, .pointer (some ⟨b2, 0, none⟩)), (10, .slice none 0 0), (11, .int .i64 0), (12, .slice A12 n13 c14), (13, .slice A55 n56 c57), (14, .int .i64 0), (15, .int .i64 ((t + 1 : Nat) : Int)), (16, .slice A55 n56 c57), (17, .int .i64 0), (27, .bool false), (35, .bool true), (62, .bool false), (65, .bool false), (88, .bool true)] iU9 (U113 iU9)), (by kernel_rfl), rfl, (by omega), (((bestTo_next (hst.trans (sfd_some hfd))).trans (bestStep_yes q87 (better_less (h := (harmL ps vs s cs)) (plan := (choice (openIds vs) t)) (bp := bp) (lt := lt) (by omega) q81))).trans (by rw [show (harmL ps vs s cs) (choice (openIds vs) t) = 0 from by omega]; rfl)), (fun e => by cases e), (fun _ => by omega), (by omega), x6, ho106, nb68, rd110, c109⟩
                · refine W.q (v := .bool false) (hr := (r_eql (m := 0) (n := lt) rfl (by kernel_rfl) (by kernel_rfl) (decide_eq_false q101))) (h := ?_)
                  refine W.mv (v := .bool false) (h := ?_)
                  refine W.sp s93 (h := ?_)
                  refine W.sp s93 (h := ?_)
                  refine W.sp s93 (h := ?_)
                  refine W.q (v := .bool false) (hr := (r_pick (b := false) rfl (by kernel_rfl) (by kernel_rfl))) (h := ?_)
                  refine W.q (v := .bool false) (hr := (r_pick (b := false) rfl (by kernel_rfl) (by kernel_rfl))) (h := ?_)
                  refine W.endF 93 [(0, .agg #[.int .i64 m, .slice A n c]), (1, .slice A2 n2 c2), (2, .int .i64 s), (3, .int .i64 id), (4, .slice A4 n4 c4), (5, .pointer (some ⟨b2, 0, none⟩)), (10, .slice none 0 0), (11, .int .i64 0), (12, .slice A12 n13 c14), (13, .slice A0_13 n0_13 c0_13), (14, .int .i64 lt), (15, .int .i64 ((t : Nat) : Int)), (16, .slice A55 n56 c57), (17, .int .i64 0), (27, .bool false), (35, .bool true), (62, .bool false), (65, .bool false), (88, .bool false)] (fun U114 => ?_)
                  have x6 := SG.blk s93 x6 (by simp)
                  have c115 := (SG.belowR c89 s93 (fun kq e => by cases e))
                  have rd116 := Rd.kept rd90 (SG.below s93)
                  refine h18 _ _ ?_
                  refine wp_cond_false (by kernel_rfl) ?_
                  refine wp_skip ?_
                  refine h11 _ _ ?_
                  refine W.region_quiet [(0, false), (1, false), (2, false)] (by kernel_rfl) ?_
                  refine W.mv (v := .int .i64 ((t : Nat) : Int)) (h := ?_)
                  refine W.q (v := .int .i64 ((t + 1 : Nat) : Int)) (hr := (r_add (m := ((t : Nat) : Int)) (n := 1) (z := ((t + 1 : Nat) : Int)) rfl (by kernel_rfl) (by kernel_rfl) (by omega) (by omega))) (h := ?_)
                  refine W.as (v := .int .i64 ((t + 1 : Nat) : Int)) (h := ?_)
                  refine W.endF 93 [(0, .agg #[.int .i64 m, .slice A n c]), (1, .slice A2 n2 c2), (2, .int .i64 s), (3, .int .i64 id), (4, .slice A4 n4 c4), (5, .pointer (some ⟨b2, 0, none⟩)), (10, .slice none 0 0), (11, .int .i64 0), (12, .slice A12 n13 c14), (13, .slice A0_13 n0_13 c0_13), (14, .int .i64 lt), (15, .int .i64 ((t + 1 : Nat) : Int)), (16, .slice A55 n56 c57), (17, .int .i64 0), (27, .bool false), (35, .bool true), (62, .bool false), (65, .bool false), (88, .bool false)] (fun U117 => ?_)
                  have hz := harmL_nil (ps := ps) (vs := vs) (s := s) (cs := cs) (plan := (choice (openIds vs) t)) (by omega)
                  have hfd := fd_pos hnf (by omega)
                  exact h8 _ _ _ (by omega : (2 ^ n13 - (t + 1)) < _) ⟨t + 1, bp, lt, fd, A0_13, n0_13, c0_13, (fun iU9 => lk [(0, .agg #[.int .i64 m, .slice A n c]), (1, .slice A2 n2 c2), (2, .int .i64 s), (3, .int .i64 id), (4, .slice A4 n4 c4), (5, .pointer (some ⟨b2, 0, none⟩)), (10, .slice none 0 0), (11, .int .i64 0), (12, .slice A12 n13 c14), (13, .slice A0_13 n0_13 c0_13), (14, .int .i64 lt), (15, .int .i64 ((t + 1 : Nat) : Int)), (16, .slice A55 n56 c57), (17, .int .i64 0), (27, .bool false), (35, .bool true), (62, .bool false), (65, .bool false), (88, .bool false)] iU9 (U117 iU9)), (by kernel_rfl), rfl, (by omega), ((bestTo_next (hst.trans (sfd_some hfd))).trans (by rw [bestStep_keep (better_gt (h := (harmL ps vs s cs)) (plan := (choice (openIds vs) t)) (bp := bp) (lt := lt) (by omega) (by omega)), hfd]; rfl)), hnf, hft, (by omega), x6, ho85, nb0_13_b2, rd116, c115⟩
            · rw [q87]
              refine W.q (v := .bool true) (hr := (r_not (b := false) rfl (by kernel_rfl) rfl)) (h := ?_)
              refine W.q (v := .bool true) (hr := (r_pick (b := false) rfl (by kernel_rfl) (by kernel_rfl))) (h := ?_)
              refine W.endF 93 [(0, .agg #[.int .i64 m, .slice A n c]), (1, .slice A2 n2 c2), (2, .int .i64 s), (3, .int .i64 id), (4, .slice A4 n4 c4), (5, .pointer (some ⟨b2, 0, none⟩)), (10, .slice none 0 0), (11, .int .i64 0), (12, .slice A12 n13 c14), (13, .slice A0_13 n0_13 c0_13), (14, .int .i64 lt), (15, .int .i64 ((t : Nat) : Int)), (16, .slice A55 n56 c57), (27, .bool false), (35, .bool true), (62, .bool true)] (fun U118 => ?_)
              have x6 := SG.blk s84 x6 (by simp)
              have c119 := (SG.belowR c71 s84 (fun kq e => by cases e))
              have rd120 := Rd.kept rd72 (SG.below s84)
              refine h14 _ _ ?_
              refine wp_cond_true (by kernel_rfl) ?_
              refine wp_exit ?_
              refine h11 _ _ ?_
              refine W.region_quiet [(0, false), (1, false), (2, false)] (by kernel_rfl) ?_
              refine W.mv (v := .int .i64 ((t : Nat) : Int)) (h := ?_)
              refine W.q (v := .int .i64 ((t + 1 : Nat) : Int)) (hr := (r_add (m := ((t : Nat) : Int)) (n := 1) (z := ((t + 1 : Nat) : Int)) rfl (by kernel_rfl) (by kernel_rfl) (by omega) (by omega))) (h := ?_)
              refine W.as (v := .int .i64 ((t + 1 : Nat) : Int)) (h := ?_)
              refine W.endF 93 [(0, .agg #[.int .i64 m, .slice A n c]), (1, .slice A2 n2 c2), (2, .int .i64 s), (3, .int .i64 id), (4, .slice A4 n4 c4), (5, .pointer (some ⟨b2, 0, none⟩)), (10, .slice none 0 0), (11, .int .i64 0), (12, .slice A12 n13 c14), (13, .slice A0_13 n0_13 c0_13), (14, .int .i64 lt), (15, .int .i64 ((t + 1 : Nat) : Int)), (16, .slice A55 n56 c57), (27, .bool false), (35, .bool true), (62, .bool true)] (fun U121 => ?_)
              exact h8 _ _ _ (by omega : (2 ^ n13 - (t + 1)) < _) ⟨t + 1, bp, lt, fd, A0_13, n0_13, c0_13, (fun iU9 => lk [(0, .agg #[.int .i64 m, .slice A n c]), (1, .slice A2 n2 c2), (2, .int .i64 s), (3, .int .i64 id), (4, .slice A4 n4 c4), (5, .pointer (some ⟨b2, 0, none⟩)), (10, .slice none 0 0), (11, .int .i64 0), (12, .slice A12 n13 c14), (13, .slice A0_13 n0_13 c0_13), (14, .int .i64 lt), (15, .int .i64 ((t + 1 : Nat) : Int)), (16, .slice A55 n56 c57), (27, .bool false), (35, .bool true), (62, .bool true)] iU9 (U121 iU9)), (by kernel_rfl), rfl, (by omega), ((bestTo_next hst).trans (bestStep_no q87)), hnf, hft, (by omega), x6, ho85, nb0_13_b2, rd120, c119⟩
          · rw [q81]
            refine W.q (v := .bool true) (hr := (r_not (b := false) rfl (by kernel_rfl) rfl)) (h := ?_)
            refine W.q (v := .bool true) (hr := (r_pick (b := true) rfl (by kernel_rfl) (by kernel_rfl))) (h := ?_)
            refine W.mv (v := .bool true) (h := ?_)
            refine W.sp s78 (h := ?_)
            refine W.sp s78 (h := ?_)
            refine W.sp s78 (h := ?_)
            refine W.sp s78 (h := ?_)
            refine W.sp s78 (h := ?_)
            refine W.sp s78 (h := ?_)
            refine W.sp s78 (h := ?_)
            refine W.q (v := .bool true) (hr := (r_pick (b := true) rfl (by kernel_rfl) (by kernel_rfl))) (h := ?_)
            refine W.endF 93 [(0, .agg #[.int .i64 m, .slice A n c]), (1, .slice A2 n2 c2), (2, .int .i64 s), (3, .int .i64 id), (4, .slice A4 n4 c4), (5, .pointer (some ⟨b2, 0, none⟩)), (10, .slice none 0 0), (11, .int .i64 0), (12, .slice A12 n13 c14), (13, .slice A0_13 n0_13 c0_13), (14, .int .i64 lt), (15, .int .i64 ((t : Nat) : Int)), (16, .slice A55 n56 c57), (27, .bool false), (35, .bool true), (62, .bool true)] (fun U122 => ?_)
            have x6 := SG.blk s78 x6 (by simp)
            have c123 := (SG.belowR c71 s78 (fun kq e => by cases e))
            have rd124 := Rd.kept rd72 (SG.below s78)
            refine h14 _ _ ?_
            refine wp_cond_true (by kernel_rfl) ?_
            refine wp_exit ?_
            refine h11 _ _ ?_
            refine W.region_quiet [(0, false), (1, false), (2, false)] (by kernel_rfl) ?_
            refine W.mv (v := .int .i64 ((t : Nat) : Int)) (h := ?_)
            refine W.q (v := .int .i64 ((t + 1 : Nat) : Int)) (hr := (r_add (m := ((t : Nat) : Int)) (n := 1) (z := ((t + 1 : Nat) : Int)) rfl (by kernel_rfl) (by kernel_rfl) (by omega) (by omega))) (h := ?_)
            refine W.as (v := .int .i64 ((t + 1 : Nat) : Int)) (h := ?_)
            refine W.endF 93 [(0, .agg #[.int .i64 m, .slice A n c]), (1, .slice A2 n2 c2), (2, .int .i64 s), (3, .int .i64 id), (4, .slice A4 n4 c4), (5, .pointer (some ⟨b2, 0, none⟩)), (10, .slice none 0 0), (11, .int .i64 0), (12, .slice A12 n13 c14), (13, .slice A0_13 n0_13 c0_13), (14, .int .i64 lt), (15, .int .i64 ((t + 1 : Nat) : Int)), (16, .slice A55 n56 c57), (27, .bool false), (35, .bool true), (62, .bool true)] (fun U125 => ?_)
            have hz := harmL_nil (ps := ps) (vs := vs) (s := s) (cs := cs) (plan := (choice (openIds vs) t)) (by omega)
            have hfd := fd_pos hnf (by omega)
            obtain ⟨_, _, _, _, hlt0⟩ := bestTo_in (hst.trans (sfd_some hfd))
            have hlt1 : lt = (harmL ps vs s cs) bp := hlt0
            have hlt2 := harmL_nil (ps := ps) (vs := vs) (s := s) (cs := cs) (plan := bp) (by omega)
            exact h8 _ _ _ (by omega : (2 ^ n13 - (t + 1)) < _) ⟨t + 1, bp, lt, fd, A0_13, n0_13, c0_13, (fun iU9 => lk [(0, .agg #[.int .i64 m, .slice A n c]), (1, .slice A2 n2 c2), (2, .int .i64 s), (3, .int .i64 id), (4, .slice A4 n4 c4), (5, .pointer (some ⟨b2, 0, none⟩)), (10, .slice none 0 0), (11, .int .i64 0), (12, .slice A12 n13 c14), (13, .slice A0_13 n0_13 c0_13), (14, .int .i64 lt), (15, .int .i64 ((t + 1 : Nat) : Int)), (16, .slice A55 n56 c57), (27, .bool false), (35, .bool true), (62, .bool true)] iU9 (U125 iU9)), (by kernel_rfl), rfl, (by omega), ((bestTo_next (hst.trans (sfd_some hfd))).trans (by rw [bestStep_keep (better_ge (h := (harmL ps vs s cs)) (plan := (choice (openIds vs) t)) (bp := bp) (lt := lt) (by omega) q81), hfd]; rfl)), hnf, hft, (by omega), x6, ho79, nb0_13_b2, rd124, c123⟩
        · refine W.q (v := .bool false) (hr := (r_eql (m := ((n4 : Nat) : Int)) (n := 0) rfl (by kernel_rfl) (by kernel_rfl) (decide_eq_false q75))) (h := ?_)
          refine W.q (v := .bool false) (hr := (r_pick (b := true) rfl (by kernel_rfl) (by kernel_rfl))) (h := ?_)
          refine W.mv (v := .bool false) (h := ?_)
          refine W.sp s73 (h := ?_)
          refine W.sp s73 (h := ?_)
          refine W.sp s73 (h := ?_)
          refine W.sp s73 (h := ?_)
          refine W.q (v := .bool false) (hr := (r_pick (b := false) rfl (by kernel_rfl) (by kernel_rfl))) (h := ?_)
          refine W.mv (v := .bool false) (h := ?_)
          refine W.q (v := .agg #[.int .i64 m, .slice A n c]) (hr := (r_load2 rfl (by kernel_rfl) (by kernel_rfl) (by kernel_rfl) (sgS (blk_cell (j := 0) x6 (by kernel_rfl)) (by simp)) (sgS (blk_cell (j := 1) x6 (by kernel_rfl)) (by simp)))) (h := ?_)
          refine W.mv (v := .slice A2 n2 c2) (h := ?_)
          refine W.mv (v := .int .i64 s) (h := ?_)
          refine W.mv (v := .int .i64 id) (h := ?_)
          refine W.mv (v := .slice A55 n56 c57) (h := ?_)
          refine W.sc (vs := [.agg #[.int .i64 m, .slice A n c], .slice A2 n2 c2, .int .i64 s, .int .i64 id, .slice A55 n56 c57]) rfl rfl (by kernel_rfl) (by kernel_rfl) (by kernel_rfl) rfl (l5Cut_any m A n c ps A2 n2 c2 vs s id A55 n56 c57 (choice (openIds vs) t) _ (Rd.kept ha (SG.belowR c71 s73 (fun kq e => by cases e))) (Rd.kept hb (SG.belowR c71 s73 (fun kq e => by cases e))) (by omega) (by omega) hfm2 hv9 hs hfa (own_rd ho59) (by omega)) ?_
          rintro e w127 ⟨rfl, b126⟩
          have s128 := SG.of_below s73 b126
          refine ⟨_, rfl, s128, ?_⟩
          have ho129 := own_kept ho67 b126
          have ho130 := own_kept ho59 b126
          rcases Bool.eq_false_or_eq_true (cutB ps vs s id (choice (openIds vs) t)) with q131 | q131
          · rw [q131]
            refine W.q (v := .bool false) (hr := (r_not (b := true) rfl (by kernel_rfl) rfl)) (h := ?_)
            refine W.q (v := .bool false) (hr := (r_pick (b := false) rfl (by kernel_rfl) (by kernel_rfl))) (h := ?_)
            refine W.endF 93 [(0, .agg #[.int .i64 m, .slice A n c]), (1, .slice A2 n2 c2), (2, .int .i64 s), (3, .int .i64 id), (4, .slice A4 n4 c4), (5, .pointer (some ⟨b2, 0, none⟩)), (10, .slice none 0 0), (11, .int .i64 0), (12, .slice A12 n13 c14), (13, .slice A0_13 n0_13 c0_13), (14, .int .i64 lt), (15, .int .i64 ((t : Nat) : Int)), (16, .slice A55 n56 c57), (27, .bool false), (35, .bool true), (62, .bool false)] (fun U132 => ?_)
            have x6 := SG.blk s128 x6 (by simp)
            have c133 := (SG.belowR c71 s128 (fun kq e => by cases e))
            have rd134 := Rd.kept rd72 (SG.below s128)
            refine h14 _ _ ?_
            refine wp_cond_false (by kernel_rfl) ?_
            refine wp_skip ?_
            refine h13 _ _ ?_
            refine wp_seq_k (fun K21 h21 => ?_)
            refine W.region_quiet [(0, false)] (by kernel_rfl) ?_
            refine W.as (v := .int .i64 0) (h := ?_)
            refine W.endF 93 [(0, .agg #[.int .i64 m, .slice A n c]), (1, .slice A2 n2 c2), (2, .int .i64 s), (3, .int .i64 id), (4, .slice A4 n4 c4), (5, .pointer (some ⟨b2, 0, none⟩)), (10, .slice none 0 0), (11, .int .i64 0), (12, .slice A12 n13 c14), (13, .slice A0_13 n0_13 c0_13), (14, .int .i64 lt), (15, .int .i64 ((t : Nat) : Int)), (16, .slice A55 n56 c57), (17, .int .i64 0), (27, .bool false), (35, .bool true), (62, .bool false)] (fun U135 => ?_)
            refine h21 _ _ ?_
            refine wp_seq_k (fun K22 h22 => ?_)
            refine wp_seq_k (fun K23 h23 => ?_)
            refine W.region_quiet [(0, false), (1, false), (2, false)] (by kernel_rfl) ?_
            refine W.mv (v := .slice A4 n4 c4) (h := ?_)
            refine W.q (v := .int .i64 ((n4 : Nat) : Int)) (hr := (r_len (A := A4) (n := n4) (c := c4) rfl (by kernel_rfl) (by kernel_rfl))) (h := ?_)
            refine W.q (v := .bool true) (hr := (r_gtr (m := ((n4 : Nat) : Int)) (n := 0) rfl (by kernel_rfl) (by kernel_rfl) (decide_eq_true (by omega)))) (h := ?_)
            refine W.endF 93 [(0, .agg #[.int .i64 m, .slice A n c]), (1, .slice A2 n2 c2), (2, .int .i64 s), (3, .int .i64 id), (4, .slice A4 n4 c4), (5, .pointer (some ⟨b2, 0, none⟩)), (10, .slice none 0 0), (11, .int .i64 0), (12, .slice A12 n13 c14), (13, .slice A0_13 n0_13 c0_13), (14, .int .i64 lt), (15, .int .i64 ((t : Nat) : Int)), (16, .slice A55 n56 c57), (17, .int .i64 0), (27, .bool false), (35, .bool true), (62, .bool false), (65, .bool true)] (fun U136 => ?_)
            refine h23 _ _ ?_
            refine wp_cond_true (by kernel_rfl) ?_
            refine W.region_plain (row := none) [(0, false), (1, false), (2, false), (3, false), (4, false), (5, true), (6, false)] (by kernel_rfl) ?_
            have s137 := SG.self w127 none
            refine W.q (v := .agg #[.int .i64 m, .slice A n c]) (hr := (r_load2 rfl (by kernel_rfl) (by kernel_rfl) (by kernel_rfl) (sgS (blk_cell (j := 0) x6 (by kernel_rfl)) (by simp)) (sgS (blk_cell (j := 1) x6 (by kernel_rfl)) (by simp)))) (h := ?_)
            refine W.mv (v := .slice A2 n2 c2) (h := ?_)
            refine W.mv (v := .int .i64 s) (h := ?_)
            refine W.mv (v := .slice A55 n56 c57) (h := ?_)
            refine W.mv (v := .slice A4 n4 c4) (h := ?_)
            have hco : custOk m cs = true := hcoo.resolve_left (by omega)
            refine W.sc (vs := [.agg #[.int .i64 m, .slice A n c], .slice A2 n2 c2, .int .i64 s, .slice A55 n56 c57, .slice A4 n4 c4]) rfl rfl (by kernel_rfl) (by kernel_rfl) (by kernel_rfl) rfl (l5Harm_any m A n c ps A2 n2 c2 vs s A55 n56 c57 (choice (openIds vs) t) A4 n4 c4 cs _ (Rd.kept ha (SG.belowR c133 s137 (fun kq e => by cases e))) (Rd.kept hb (SG.belowR c133 s137 (fun kq e => by cases e))) (by omega) (by omega) hfm2 hv9 hs (own_rd ho130) (by omega) (Rd.kept hc4 (SG.belowR c133 s137 (fun kq e => by cases e))) (by omega) hco) ?_
            rintro e w139 ⟨rfl, b138⟩
            have s140 := SG.of_below s137 b138
            refine ⟨_, rfl, s140, ?_⟩
            have ho141 := own_kept ho129 b138
            have ho142 := own_kept ho130 b138
            refine W.as (v := .int .i64 (harmL ps vs s cs (choice (openIds vs) t))) (h := ?_)
            refine W.endF 93 [(0, .agg #[.int .i64 m, .slice A n c]), (1, .slice A2 n2 c2), (2, .int .i64 s), (3, .int .i64 id), (4, .slice A4 n4 c4), (5, .pointer (some ⟨b2, 0, none⟩)), (10, .slice none 0 0), (11, .int .i64 0), (12, .slice A12 n13 c14), (13, .slice A0_13 n0_13 c0_13), (14, .int .i64 lt), (15, .int .i64 ((t : Nat) : Int)), (16, .slice A55 n56 c57), (17, .int .i64 (harmL ps vs s cs (choice (openIds vs) t))), (27, .bool false), (35, .bool true), (62, .bool false), (65, .bool true)] (fun U143 => ?_)
            have x6 := SG.blk s140 x6 (by simp)
            have c144 := (SG.belowR c133 s140 (fun kq e => by cases e))
            have rd145 := Rd.kept rd134 (SG.below s140)
            refine h22 _ _ ?_
            refine wp_seq_k (fun K24 h24 => ?_)
            refine W.region_plain (row := none) [(0, false), (1, false), (2, false), (3, false), (4, false), (5, false), (6, false), (7, false), (8, false), (9, false), (10, false), (11, false), (12, false), (13, false), (14, true), (15, false), (16, false)] (by kernel_rfl) ?_
            have s146 := SG.self w139 none
            refine W.mv (v := .int .i64 lt) (h := ?_)
            refine W.q (v := .bool false) (hr := (r_lss (m := lt) (n := 0) rfl (by kernel_rfl) (by kernel_rfl) (decide_eq_false (by omega)))) (h := ?_)
            refine W.mv (v := .bool false) (h := ?_)
            refine W.mv (v := .int .i64 (harmL ps vs s cs (choice (openIds vs) t))) (h := ?_)
            refine W.mv (v := .int .i64 lt) (h := ?_)
            by_cases q147 : ((harmL ps vs s cs (choice (openIds vs) t)) : Int) < (lt : Int)
            · refine W.q (v := .bool true) (hr := (r_lss (m := (harmL ps vs s cs (choice (openIds vs) t))) (n := lt) rfl (by kernel_rfl) (by kernel_rfl) (decide_eq_true q147))) (h := ?_)
              refine W.q (v := .bool true) (hr := (r_pick (b := false) rfl (by kernel_rfl) (by kernel_rfl))) (h := ?_)
              refine W.mv (v := .bool true) (h := ?_)
              refine W.sp s146 (h := ?_)
              refine W.sp s146 (h := ?_)
              refine W.sp s146 (h := ?_)
              refine W.sp s146 (h := ?_)
              refine W.sp s146 (h := ?_)
              refine W.sp s146 (h := ?_)
              refine W.sp s146 (h := ?_)
              refine W.sp s146 (h := ?_)
              refine W.q (v := .bool true) (hr := (r_pick (b := true) rfl (by kernel_rfl) (by kernel_rfl))) (h := ?_)
              refine W.endF 93 [(0, .agg #[.int .i64 m, .slice A n c]), (1, .slice A2 n2 c2), (2, .int .i64 s), (3, .int .i64 id), (4, .slice A4 n4 c4), (5, .pointer (some ⟨b2, 0, none⟩)), (10, .slice none 0 0), (11, .int .i64 0), (12, .slice A12 n13 c14), (13, .slice A0_13 n0_13 c0_13), (14, .int .i64 lt), (15, .int .i64 ((t : Nat) : Int)), (16, .slice A55 n56 c57), (17, .int .i64 (harmL ps vs s cs (choice (openIds vs) t))), (27, .bool false), (35, .bool true), (62, .bool false), (65, .bool true), (88, .bool true)] (fun U148 => ?_)
              have x6 := SG.blk s146 x6 (by simp)
              have c149 := (SG.belowR c144 s146 (fun kq e => by cases e))
              have rd150 := Rd.kept rd145 (SG.below s146)
              refine h24 _ _ ?_
              refine wp_cond_true (by kernel_rfl) ?_
              refine wp_seq_k (fun K25 h25 => ?_)
              refine W.region_quiet [(0, false), (1, false)] (by kernel_rfl) ?_
              refine W.mv (v := .slice A55 n56 c57) (h := ?_)
              refine W.as (v := .slice A55 n56 c57) (h := ?_)
              refine W.endF 93 [(0, .agg #[.int .i64 m, .slice A n c]), (1, .slice A2 n2 c2), (2, .int .i64 s), (3, .int .i64 id), (4, .slice A4 n4 c4), (5, .pointer (some ⟨b2, 0, none⟩)), (10, .slice none 0 0), (11, .int .i64 0), (12, .slice A12 n13 c14), (13, .slice A55 n56 c57), (14, .int .i64 lt), (15, .int .i64 ((t : Nat) : Int)), (16, .slice A55 n56 c57), (17, .int .i64 (harmL ps vs s cs (choice (openIds vs) t))), (27, .bool false), (35, .bool true), (62, .bool false), (65, .bool true), (88, .bool true)] (fun U151 => ?_)
              refine h25 _ _ ?_
              refine W.region_quiet [(0, false), (1, false)] (by kernel_rfl) ?_
              refine W.mv (v := .int .i64 (harmL ps vs s cs (choice (openIds vs) t))) (h := ?_)
              refine W.as (v := .int .i64 (harmL ps vs s cs (choice (openIds vs) t))) (h := ?_)
              refine W.endF 93 [(0, .agg #[.int .i64 m, .slice A n c]), (1, .slice A2 n2 c2), (2, .int .i64 s), (3, .int .i64 id), (4, .slice A4 n4 c4), (5, .pointer (some ⟨b2, 0, none⟩)), (10, .slice none 0 0), (11, .int .i64 0), (12, .slice A12 n13 c14), (13, .slice A55 n56 c57), (14, .int .i64 (harmL ps vs s cs (choice (openIds vs) t))), (15, .int .i64 ((t : Nat) : Int)), (16, .slice A55 n56 c57), (17, .int .i64 (harmL ps vs s cs (choice (openIds vs) t))), (27, .bool false), (35, .bool true), (62, .bool false), (65, .bool true), (88, .bool true)] (fun U152 => ?_)
              refine h11 _ _ ?_
              refine W.region_quiet [(0, false), (1, false), (2, false)] (by kernel_rfl) ?_
              refine W.mv (v := .int .i64 ((t : Nat) : Int)) (h := ?_)
              refine W.q (v := .int .i64 ((t + 1 : Nat) : Int)) (hr := (r_add (m := ((t : Nat) : Int)) (n := 1) (z := ((t + 1 : Nat) : Int)) rfl (by kernel_rfl) (by kernel_rfl) (by omega) (by omega))) (h := ?_)
              refine W.as (v := .int .i64 ((t + 1 : Nat) : Int)) (h := ?_)
              refine W.endF 93 [(0, .agg #[.int .i64 m, .slice A n c]), (1, .slice A2 n2 c2), (2, .int .i64 s), (3, .int .i64 id), (4, .slice A4 n4 c4), (5, .pointer (some ⟨b2, 0, none⟩)), (10, .slice none 0 0), (11, .int .i64 0), (12, .slice A12 n13 c14), (13, .slice A55 n56 c57), (14, .int .i64 (harmL ps vs s cs (choice (openIds vs) t))), (15, .int .i64 ((t + 1 : Nat) : Int)), (16, .slice A55 n56 c57), (17, .int .i64 (harmL ps vs s cs (choice (openIds vs) t))), (27, .bool false), (35, .bool true), (62, .bool false), (65, .bool true), (88, .bool true)] (fun U153 => ?_)
              have hz := harmL_nn (ps := ps) (vs := vs) (s := s) (cs := cs) (plan := (choice (openIds vs) t)) hcob
              have hfd := fd_pos hnf (by omega)
              exact h8 _ _ _ (by omega : (2 ^ n13 - (t + 1)) < _) ⟨t + 1, (choice (openIds vs) t), (harmL ps vs s cs (choice (openIds vs) t)), true, A55, n56, c57, (fun iU9 => lk [(0, .agg #[.int .i64 m, .slice A n c]), (1, .slice A2 n2 c2), (2, .int .i64 s), (3, .int .i64 id), (4, .slice A4 n4 c4), (5, .pointer (some ⟨b2, 0, none⟩)), (10, .slice none 0 0), (11, .int .i64 0), (12, .slice A12 n13 c14), (13, .slice A55 n56 c57), (14, .int .i64 (harmL ps vs s cs (choice (openIds vs) t))), (15, .int .i64 ((t + 1 : Nat) : Int)), (16, .slice A55 n56 c57), (17, .int .i64 (harmL ps vs s cs (choice (openIds vs) t))), (27, .bool false), (35, .bool true), (62, .bool false), (65, .bool true), (88, .bool true)] iU9 (U153 iU9)), (by kernel_rfl), rfl, (by omega), (((bestTo_next (hst.trans (sfd_some hfd))).trans (bestStep_yes q131 (better_lt (h := (harmL ps vs s cs)) (plan := (choice (openIds vs) t)) (bp := bp) (lt := lt) (by omega)))).trans (by rw [show (harmL ps vs s cs) (choice (openIds vs) t) = (harmL ps vs s cs (choice (openIds vs) t)) from by omega]; rfl)), (fun e => by cases e), (fun _ => by omega), (by omega), x6, ho142, nb68, rd150, c149⟩
            · refine W.q (v := .bool false) (hr := (r_lss (m := (harmL ps vs s cs (choice (openIds vs) t))) (n := lt) rfl (by kernel_rfl) (by kernel_rfl) (decide_eq_false q147))) (h := ?_)
              refine W.q (v := .bool false) (hr := (r_pick (b := false) rfl (by kernel_rfl) (by kernel_rfl))) (h := ?_)
              refine W.mv (v := .bool false) (h := ?_)
              refine W.mv (v := .int .i64 (harmL ps vs s cs (choice (openIds vs) t))) (h := ?_)
              refine W.mv (v := .int .i64 lt) (h := ?_)
              by_cases q154 : ((harmL ps vs s cs (choice (openIds vs) t)) : Int) = (lt : Int)
              · refine W.q (v := .bool true) (hr := (r_eql (m := (harmL ps vs s cs (choice (openIds vs) t))) (n := lt) rfl (by kernel_rfl) (by kernel_rfl) (decide_eq_true q154))) (h := ?_)
                refine W.mv (v := .bool true) (h := ?_)
                refine W.mv (v := .slice A55 n56 c57) (h := ?_)
                refine W.mv (v := .slice A0_13 n0_13 c0_13) (h := ?_)
                refine W.sc (vs := [.slice A55 n56 c57, .slice A0_13 n0_13 c0_13]) rfl rfl (by kernel_rfl) (by kernel_rfl) (by kernel_rfl) rfl (l5Less_any A55 n56 c57 (choice (openIds vs) t) A0_13 n0_13 c0_13 bp _ (own_rd ho142) (own_rd ho141) (by omega) (by omega)) ?_
                rintro e w156 ⟨rfl, b155⟩
                have s157 := SG.of_below s146 b155
                refine ⟨_, rfl, s157, ?_⟩
                have ho158 := own_kept ho141 b155
                have ho159 := own_kept ho142 b155
                rcases Bool.eq_false_or_eq_true (lessL (choice (openIds vs) t) bp) with q160 | q160
                · rw [q160]
                  refine W.q (v := .bool true) (hr := (r_pick (b := true) rfl (by kernel_rfl) (by kernel_rfl))) (h := ?_)
                  refine W.q (v := .bool true) (hr := (r_pick (b := false) rfl (by kernel_rfl) (by kernel_rfl))) (h := ?_)
                  refine W.endF 93 [(0, .agg #[.int .i64 m, .slice A n c]), (1, .slice A2 n2 c2), (2, .int .i64 s), (3, .int .i64 id), (4, .slice A4 n4 c4), (5, .pointer (some ⟨b2, 0, none⟩)), (10, .slice none 0 0), (11, .int .i64 0), (12, .slice A12 n13 c14), (13, .slice A0_13 n0_13 c0_13), (14, .int .i64 lt), (15, .int .i64 ((t : Nat) : Int)), (16, .slice A55 n56 c57), (17, .int .i64 (harmL ps vs s cs (choice (openIds vs) t))), (27, .bool false), (35, .bool true), (62, .bool false), (65, .bool true), (88, .bool true)] (fun U161 => ?_)
                  have x6 := SG.blk s157 x6 (by simp)
                  have c162 := (SG.belowR c144 s157 (fun kq e => by cases e))
                  have rd163 := Rd.kept rd145 (SG.below s157)
                  refine h24 _ _ ?_
                  refine wp_cond_true (by kernel_rfl) ?_
                  refine wp_seq_k (fun K26 h26 => ?_)
                  refine W.region_quiet [(0, false), (1, false)] (by kernel_rfl) ?_
                  refine W.mv (v := .slice A55 n56 c57) (h := ?_)
                  refine W.as (v := .slice A55 n56 c57) (h := ?_)
                  refine W.endF 93 [(0, .agg #[.int .i64 m, .slice A n c]), (1, .slice A2 n2 c2), (2, .int .i64 s), (3, .int .i64 id), (4, .slice A4 n4 c4), (5, .pointer (some ⟨b2, 0, none⟩)), (10, .slice none 0 0), (11, .int .i64 0), (12, .slice A12 n13 c14), (13, .slice A55 n56 c57), (14, .int .i64 lt), (15, .int .i64 ((t : Nat) : Int)), (16, .slice A55 n56 c57), (17, .int .i64 (harmL ps vs s cs (choice (openIds vs) t))), (27, .bool false), (35, .bool true), (62, .bool false), (65, .bool true), (88, .bool true)] (fun U164 => ?_)
                  refine h26 _ _ ?_
                  refine W.region_quiet [(0, false), (1, false)] (by kernel_rfl) ?_
                  refine W.mv (v := .int .i64 (harmL ps vs s cs (choice (openIds vs) t))) (h := ?_)
                  refine W.as (v := .int .i64 (harmL ps vs s cs (choice (openIds vs) t))) (h := ?_)
                  refine W.endF 93 [(0, .agg #[.int .i64 m, .slice A n c]), (1, .slice A2 n2 c2), (2, .int .i64 s), (3, .int .i64 id), (4, .slice A4 n4 c4), (5, .pointer (some ⟨b2, 0, none⟩)), (10, .slice none 0 0), (11, .int .i64 0), (12, .slice A12 n13 c14), (13, .slice A55 n56 c57), (14, .int .i64 (harmL ps vs s cs (choice (openIds vs) t))), (15, .int .i64 ((t : Nat) : Int)), (16, .slice A55 n56 c57), (17, .int .i64 (harmL ps vs s cs (choice (openIds vs) t))), (27, .bool false), (35, .bool true), (62, .bool false), (65, .bool true), (88, .bool true)] (fun U165 => ?_)
                  refine h11 _ _ ?_
                  refine W.region_quiet [(0, false), (1, false), (2, false)] (by kernel_rfl) ?_
                  refine W.mv (v := .int .i64 ((t : Nat) : Int)) (h := ?_)
                  refine W.q (v := .int .i64 ((t + 1 : Nat) : Int)) (hr := (r_add (m := ((t : Nat) : Int)) (n := 1) (z := ((t + 1 : Nat) : Int)) rfl (by kernel_rfl) (by kernel_rfl) (by omega) (by omega))) (h := ?_)
                  refine W.as (v := .int .i64 ((t + 1 : Nat) : Int)) (h := ?_)
                  refine W.endF 93 [(0, .agg #[.int .i64 m, .slice A n c]), (1, .slice A2 n2 c2), (2, .int .i64 s), (3, .int .i64 id), (4, .slice A4 n4 c4), (5, .pointer (some ⟨b2, 0, none⟩)), (10, .slice none 0 0), (11, .int .i64 0), (12, .slice A12 n13 c14), (13, .slice A55 n56 c57), (14, .int .i64 (harmL ps vs s cs (choice (openIds vs) t))), (15, .int .i64 ((t + 1 : Nat) : Int)), (16, .slice A55 n56 c57), (17, .int .i64 (harmL ps vs s cs (choice (openIds vs) t))), (27, .bool false), (35, .bool true), (62, .bool false), (65, .bool true), (88, .bool true)] (fun U166 => ?_)
                  have hz := harmL_nn (ps := ps) (vs := vs) (s := s) (cs := cs) (plan := (choice (openIds vs) t)) hcob
                  have hfd := fd_pos hnf (by omega)
                  exact h8 _ _ _ (by omega : (2 ^ n13 - (t + 1)) < _) ⟨t + 1, (choice (openIds vs) t), (harmL ps vs s cs (choice (openIds vs) t)), true, A55, n56, c57, (fun iU9 => lk [(0, .agg #[.int .i64 m, .slice A n c]), (1, .slice A2 n2 c2), (2, .int .i64 s), (3, .int .i64 id), (4, .slice A4 n4 c4), (5, .pointer (some ⟨b2, 0, none⟩)), (10, .slice none 0 0), (11, .int .i64 0), (12, .slice A12 n13 c14), (13, .slice A55 n56 c57), (14, .int .i64 (harmL ps vs s cs (choice (openIds vs) t))), (15, .int .i64 ((t + 1 : Nat) : Int)), (16, .slice A55 n56 c57), (17, .int .i64 (harmL ps vs s cs (choice (openIds vs) t))), (27, .bool false), (35, .bool true), (62, .bool false), (65, .bool true), (88, .bool true)] iU9 (U166 iU9)), (by kernel_rfl), rfl, (by omega), (((bestTo_next (hst.trans (sfd_some hfd))).trans (bestStep_yes q131 (better_less (h := (harmL ps vs s cs)) (plan := (choice (openIds vs) t)) (bp := bp) (lt := lt) (by omega) q160))).trans (by rw [show (harmL ps vs s cs) (choice (openIds vs) t) = (harmL ps vs s cs (choice (openIds vs) t)) from by omega]; rfl)), (fun e => by cases e), (fun _ => by omega), (by omega), x6, ho159, nb68, rd163, c162⟩
                · rw [q160]
                  refine W.q (v := .bool false) (hr := (r_pick (b := true) rfl (by kernel_rfl) (by kernel_rfl))) (h := ?_)
                  refine W.q (v := .bool false) (hr := (r_pick (b := false) rfl (by kernel_rfl) (by kernel_rfl))) (h := ?_)
                  refine W.endF 93 [(0, .agg #[.int .i64 m, .slice A n c]), (1, .slice A2 n2 c2), (2, .int .i64 s), (3, .int .i64 id), (4, .slice A4 n4 c4), (5, .pointer (some ⟨b2, 0, none⟩)), (10, .slice none 0 0), (11, .int .i64 0), (12, .slice A12 n13 c14), (13, .slice A0_13 n0_13 c0_13), (14, .int .i64 lt), (15, .int .i64 ((t : Nat) : Int)), (16, .slice A55 n56 c57), (17, .int .i64 (harmL ps vs s cs (choice (openIds vs) t))), (27, .bool false), (35, .bool true), (62, .bool false), (65, .bool true), (88, .bool false)] (fun U167 => ?_)
                  have x6 := SG.blk s157 x6 (by simp)
                  have c168 := (SG.belowR c144 s157 (fun kq e => by cases e))
                  have rd169 := Rd.kept rd145 (SG.below s157)
                  refine h24 _ _ ?_
                  refine wp_cond_false (by kernel_rfl) ?_
                  refine wp_skip ?_
                  refine h11 _ _ ?_
                  refine W.region_quiet [(0, false), (1, false), (2, false)] (by kernel_rfl) ?_
                  refine W.mv (v := .int .i64 ((t : Nat) : Int)) (h := ?_)
                  refine W.q (v := .int .i64 ((t + 1 : Nat) : Int)) (hr := (r_add (m := ((t : Nat) : Int)) (n := 1) (z := ((t + 1 : Nat) : Int)) rfl (by kernel_rfl) (by kernel_rfl) (by omega) (by omega))) (h := ?_)
                  refine W.as (v := .int .i64 ((t + 1 : Nat) : Int)) (h := ?_)
                  refine W.endF 93 [(0, .agg #[.int .i64 m, .slice A n c]), (1, .slice A2 n2 c2), (2, .int .i64 s), (3, .int .i64 id), (4, .slice A4 n4 c4), (5, .pointer (some ⟨b2, 0, none⟩)), (10, .slice none 0 0), (11, .int .i64 0), (12, .slice A12 n13 c14), (13, .slice A0_13 n0_13 c0_13), (14, .int .i64 lt), (15, .int .i64 ((t + 1 : Nat) : Int)), (16, .slice A55 n56 c57), (17, .int .i64 (harmL ps vs s cs (choice (openIds vs) t))), (27, .bool false), (35, .bool true), (62, .bool false), (65, .bool true), (88, .bool false)] (fun U170 => ?_)
                  have hz := harmL_nn (ps := ps) (vs := vs) (s := s) (cs := cs) (plan := (choice (openIds vs) t)) hcob
                  have hfd := fd_pos hnf (by omega)
                  exact h8 _ _ _ (by omega : (2 ^ n13 - (t + 1)) < _) ⟨t + 1, bp, lt, fd, A0_13, n0_13, c0_13, (fun iU9 => lk [(0, .agg #[.int .i64 m, .slice A n c]), (1, .slice A2 n2 c2), (2, .int .i64 s), (3, .int .i64 id), (4, .slice A4 n4 c4), (5, .pointer (some ⟨b2, 0, none⟩)), (10, .slice none 0 0), (11, .int .i64 0), (12, .slice A12 n13 c14), (13, .slice A0_13 n0_13 c0_13), (14, .int .i64 lt), (15, .int .i64 ((t + 1 : Nat) : Int)), (16, .slice A55 n56 c57), (17, .int .i64 (harmL ps vs s cs (choice (openIds vs) t))), (27, .bool false), (35, .bool true), (62, .bool false), (65, .bool true), (88, .bool false)] iU9 (U170 iU9)), (by kernel_rfl), rfl, (by omega), ((bestTo_next (hst.trans (sfd_some hfd))).trans (by rw [bestStep_keep (better_ge (h := (harmL ps vs s cs)) (plan := (choice (openIds vs) t)) (bp := bp) (lt := lt) (by omega) q160), hfd]; rfl)), hnf, hft, (by omega), x6, ho158, nb0_13_b2, rd169, c168⟩
              · refine W.q (v := .bool false) (hr := (r_eql (m := (harmL ps vs s cs (choice (openIds vs) t))) (n := lt) rfl (by kernel_rfl) (by kernel_rfl) (decide_eq_false q154))) (h := ?_)
                refine W.mv (v := .bool false) (h := ?_)
                refine W.sp s146 (h := ?_)
                refine W.sp s146 (h := ?_)
                refine W.sp s146 (h := ?_)
                refine W.q (v := .bool false) (hr := (r_pick (b := false) rfl (by kernel_rfl) (by kernel_rfl))) (h := ?_)
                refine W.q (v := .bool false) (hr := (r_pick (b := false) rfl (by kernel_rfl) (by kernel_rfl))) (h := ?_)
                refine W.endF 93 [(0, .agg #[.int .i64 m, .slice A n c]), (1, .slice A2 n2 c2), (2, .int .i64 s), (3, .int .i64 id), (4, .slice A4 n4 c4), (5, .pointer (some ⟨b2, 0, none⟩)), (10, .slice none 0 0), (11, .int .i64 0), (12, .slice A12 n13 c14), (13, .slice A0_13 n0_13 c0_13), (14, .int .i64 lt), (15, .int .i64 ((t : Nat) : Int)), (16, .slice A55 n56 c57), (17, .int .i64 (harmL ps vs s cs (choice (openIds vs) t))), (27, .bool false), (35, .bool true), (62, .bool false), (65, .bool true), (88, .bool false)] (fun U171 => ?_)
                have x6 := SG.blk s146 x6 (by simp)
                have c172 := (SG.belowR c144 s146 (fun kq e => by cases e))
                have rd173 := Rd.kept rd145 (SG.below s146)
                refine h24 _ _ ?_
                refine wp_cond_false (by kernel_rfl) ?_
                refine wp_skip ?_
                refine h11 _ _ ?_
                refine W.region_quiet [(0, false), (1, false), (2, false)] (by kernel_rfl) ?_
                refine W.mv (v := .int .i64 ((t : Nat) : Int)) (h := ?_)
                refine W.q (v := .int .i64 ((t + 1 : Nat) : Int)) (hr := (r_add (m := ((t : Nat) : Int)) (n := 1) (z := ((t + 1 : Nat) : Int)) rfl (by kernel_rfl) (by kernel_rfl) (by omega) (by omega))) (h := ?_)
                refine W.as (v := .int .i64 ((t + 1 : Nat) : Int)) (h := ?_)
                refine W.endF 93 [(0, .agg #[.int .i64 m, .slice A n c]), (1, .slice A2 n2 c2), (2, .int .i64 s), (3, .int .i64 id), (4, .slice A4 n4 c4), (5, .pointer (some ⟨b2, 0, none⟩)), (10, .slice none 0 0), (11, .int .i64 0), (12, .slice A12 n13 c14), (13, .slice A0_13 n0_13 c0_13), (14, .int .i64 lt), (15, .int .i64 ((t + 1 : Nat) : Int)), (16, .slice A55 n56 c57), (17, .int .i64 (harmL ps vs s cs (choice (openIds vs) t))), (27, .bool false), (35, .bool true), (62, .bool false), (65, .bool true), (88, .bool false)] (fun U174 => ?_)
                have hz := harmL_nn (ps := ps) (vs := vs) (s := s) (cs := cs) (plan := (choice (openIds vs) t)) hcob
                have hfd := fd_pos hnf (by omega)
                exact h8 _ _ _ (by omega : (2 ^ n13 - (t + 1)) < _) ⟨t + 1, bp, lt, fd, A0_13, n0_13, c0_13, (fun iU9 => lk [(0, .agg #[.int .i64 m, .slice A n c]), (1, .slice A2 n2 c2), (2, .int .i64 s), (3, .int .i64 id), (4, .slice A4 n4 c4), (5, .pointer (some ⟨b2, 0, none⟩)), (10, .slice none 0 0), (11, .int .i64 0), (12, .slice A12 n13 c14), (13, .slice A0_13 n0_13 c0_13), (14, .int .i64 lt), (15, .int .i64 ((t + 1 : Nat) : Int)), (16, .slice A55 n56 c57), (17, .int .i64 (harmL ps vs s cs (choice (openIds vs) t))), (27, .bool false), (35, .bool true), (62, .bool false), (65, .bool true), (88, .bool false)] iU9 (U174 iU9)), (by kernel_rfl), rfl, (by omega), ((bestTo_next (hst.trans (sfd_some hfd))).trans (by rw [bestStep_keep (better_gt (h := (harmL ps vs s cs)) (plan := (choice (openIds vs) t)) (bp := bp) (lt := lt) (by omega) (by omega)), hfd]; rfl)), hnf, hft, (by omega), x6, ho141, nb0_13_b2, rd173, c172⟩
          · rw [q131]
            refine W.q (v := .bool true) (hr := (r_not (b := false) rfl (by kernel_rfl) rfl)) (h := ?_)
            refine W.q (v := .bool true) (hr := (r_pick (b := false) rfl (by kernel_rfl) (by kernel_rfl))) (h := ?_)
            refine W.endF 93 [(0, .agg #[.int .i64 m, .slice A n c]), (1, .slice A2 n2 c2), (2, .int .i64 s), (3, .int .i64 id), (4, .slice A4 n4 c4), (5, .pointer (some ⟨b2, 0, none⟩)), (10, .slice none 0 0), (11, .int .i64 0), (12, .slice A12 n13 c14), (13, .slice A0_13 n0_13 c0_13), (14, .int .i64 lt), (15, .int .i64 ((t : Nat) : Int)), (16, .slice A55 n56 c57), (27, .bool false), (35, .bool true), (62, .bool true)] (fun U175 => ?_)
            have x6 := SG.blk s128 x6 (by simp)
            have c176 := (SG.belowR c71 s128 (fun kq e => by cases e))
            have rd177 := Rd.kept rd72 (SG.below s128)
            refine h14 _ _ ?_
            refine wp_cond_true (by kernel_rfl) ?_
            refine wp_exit ?_
            refine h11 _ _ ?_
            refine W.region_quiet [(0, false), (1, false), (2, false)] (by kernel_rfl) ?_
            refine W.mv (v := .int .i64 ((t : Nat) : Int)) (h := ?_)
            refine W.q (v := .int .i64 ((t + 1 : Nat) : Int)) (hr := (r_add (m := ((t : Nat) : Int)) (n := 1) (z := ((t + 1 : Nat) : Int)) rfl (by kernel_rfl) (by kernel_rfl) (by omega) (by omega))) (h := ?_)
            refine W.as (v := .int .i64 ((t + 1 : Nat) : Int)) (h := ?_)
            refine W.endF 93 [(0, .agg #[.int .i64 m, .slice A n c]), (1, .slice A2 n2 c2), (2, .int .i64 s), (3, .int .i64 id), (4, .slice A4 n4 c4), (5, .pointer (some ⟨b2, 0, none⟩)), (10, .slice none 0 0), (11, .int .i64 0), (12, .slice A12 n13 c14), (13, .slice A0_13 n0_13 c0_13), (14, .int .i64 lt), (15, .int .i64 ((t + 1 : Nat) : Int)), (16, .slice A55 n56 c57), (27, .bool false), (35, .bool true), (62, .bool true)] (fun U178 => ?_)
            exact h8 _ _ _ (by omega : (2 ^ n13 - (t + 1)) < _) ⟨t + 1, bp, lt, fd, A0_13, n0_13, c0_13, (fun iU9 => lk [(0, .agg #[.int .i64 m, .slice A n c]), (1, .slice A2 n2 c2), (2, .int .i64 s), (3, .int .i64 id), (4, .slice A4 n4 c4), (5, .pointer (some ⟨b2, 0, none⟩)), (10, .slice none 0 0), (11, .int .i64 0), (12, .slice A12 n13 c14), (13, .slice A0_13 n0_13 c0_13), (14, .int .i64 lt), (15, .int .i64 ((t + 1 : Nat) : Int)), (16, .slice A55 n56 c57), (27, .bool false), (35, .bool true), (62, .bool true)] iU9 (U178 iU9)), (by kernel_rfl), rfl, (by omega), ((bestTo_next hst).trans (bestStep_no q131)), hnf, hft, (by omega), x6, ho129, nb0_13_b2, rd177, c176⟩
      · refine W.q (v := .bool false) (hr := (r_geq (m := lt) (n := 0) rfl (by kernel_rfl) (by kernel_rfl) (decide_eq_false q74))) (h := ?_)
        refine W.mv (v := .bool false) (h := ?_)
        refine W.sp s73 (h := ?_)
        refine W.sp s73 (h := ?_)
        refine W.sp s73 (h := ?_)
        refine W.q (v := .bool false) (hr := (r_pick (b := false) rfl (by kernel_rfl) (by kernel_rfl))) (h := ?_)
        refine W.mv (v := .bool false) (h := ?_)
        refine W.sp s73 (h := ?_)
        refine W.sp s73 (h := ?_)
        refine W.sp s73 (h := ?_)
        refine W.sp s73 (h := ?_)
        refine W.q (v := .bool false) (hr := (r_pick (b := false) rfl (by kernel_rfl) (by kernel_rfl))) (h := ?_)
        refine W.mv (v := .bool false) (h := ?_)
        refine W.q (v := .agg #[.int .i64 m, .slice A n c]) (hr := (r_load2 rfl (by kernel_rfl) (by kernel_rfl) (by kernel_rfl) (sgS (blk_cell (j := 0) x6 (by kernel_rfl)) (by simp)) (sgS (blk_cell (j := 1) x6 (by kernel_rfl)) (by simp)))) (h := ?_)
        refine W.mv (v := .slice A2 n2 c2) (h := ?_)
        refine W.mv (v := .int .i64 s) (h := ?_)
        refine W.mv (v := .int .i64 id) (h := ?_)
        refine W.mv (v := .slice A55 n56 c57) (h := ?_)
        refine W.sc (vs := [.agg #[.int .i64 m, .slice A n c], .slice A2 n2 c2, .int .i64 s, .int .i64 id, .slice A55 n56 c57]) rfl rfl (by kernel_rfl) (by kernel_rfl) (by kernel_rfl) rfl (l5Cut_any m A n c ps A2 n2 c2 vs s id A55 n56 c57 (choice (openIds vs) t) _ (Rd.kept ha (SG.belowR c71 s73 (fun kq e => by cases e))) (Rd.kept hb (SG.belowR c71 s73 (fun kq e => by cases e))) (by omega) (by omega) hfm2 hv9 hs hfa (own_rd ho59) (by omega)) ?_
        rintro e w180 ⟨rfl, b179⟩
        have s181 := SG.of_below s73 b179
        refine ⟨_, rfl, s181, ?_⟩
        have ho182 := own_kept ho67 b179
        have ho183 := own_kept ho59 b179
        rcases Bool.eq_false_or_eq_true (cutB ps vs s id (choice (openIds vs) t)) with q184 | q184
        · rw [q184]
          refine W.q (v := .bool false) (hr := (r_not (b := true) rfl (by kernel_rfl) rfl)) (h := ?_)
          refine W.q (v := .bool false) (hr := (r_pick (b := false) rfl (by kernel_rfl) (by kernel_rfl))) (h := ?_)
          refine W.endF 93 [(0, .agg #[.int .i64 m, .slice A n c]), (1, .slice A2 n2 c2), (2, .int .i64 s), (3, .int .i64 id), (4, .slice A4 n4 c4), (5, .pointer (some ⟨b2, 0, none⟩)), (10, .slice none 0 0), (11, .int .i64 0), (12, .slice A12 n13 c14), (13, .slice A0_13 n0_13 c0_13), (14, .int .i64 lt), (15, .int .i64 ((t : Nat) : Int)), (16, .slice A55 n56 c57), (27, .bool false), (35, .bool true), (62, .bool false)] (fun U185 => ?_)
          have x6 := SG.blk s181 x6 (by simp)
          have c186 := (SG.belowR c71 s181 (fun kq e => by cases e))
          have rd187 := Rd.kept rd72 (SG.below s181)
          refine h14 _ _ ?_
          refine wp_cond_false (by kernel_rfl) ?_
          refine wp_skip ?_
          refine h13 _ _ ?_
          refine wp_seq_k (fun K27 h27 => ?_)
          refine W.region_quiet [(0, false)] (by kernel_rfl) ?_
          refine W.as (v := .int .i64 0) (h := ?_)
          refine W.endF 93 [(0, .agg #[.int .i64 m, .slice A n c]), (1, .slice A2 n2 c2), (2, .int .i64 s), (3, .int .i64 id), (4, .slice A4 n4 c4), (5, .pointer (some ⟨b2, 0, none⟩)), (10, .slice none 0 0), (11, .int .i64 0), (12, .slice A12 n13 c14), (13, .slice A0_13 n0_13 c0_13), (14, .int .i64 lt), (15, .int .i64 ((t : Nat) : Int)), (16, .slice A55 n56 c57), (17, .int .i64 0), (27, .bool false), (35, .bool true), (62, .bool false)] (fun U188 => ?_)
          refine h27 _ _ ?_
          refine wp_seq_k (fun K28 h28 => ?_)
          refine wp_seq_k (fun K29 h29 => ?_)
          refine W.region_quiet [(0, false), (1, false), (2, false)] (by kernel_rfl) ?_
          refine W.mv (v := .slice A4 n4 c4) (h := ?_)
          refine W.q (v := .int .i64 ((n4 : Nat) : Int)) (hr := (r_len (A := A4) (n := n4) (c := c4) rfl (by kernel_rfl) (by kernel_rfl))) (h := ?_)
          by_cases q189 : (((n4 : Nat) : Int) : Int) > (0 : Int)
          · refine W.q (v := .bool true) (hr := (r_gtr (m := ((n4 : Nat) : Int)) (n := 0) rfl (by kernel_rfl) (by kernel_rfl) (decide_eq_true q189))) (h := ?_)
            refine W.endF 93 [(0, .agg #[.int .i64 m, .slice A n c]), (1, .slice A2 n2 c2), (2, .int .i64 s), (3, .int .i64 id), (4, .slice A4 n4 c4), (5, .pointer (some ⟨b2, 0, none⟩)), (10, .slice none 0 0), (11, .int .i64 0), (12, .slice A12 n13 c14), (13, .slice A0_13 n0_13 c0_13), (14, .int .i64 lt), (15, .int .i64 ((t : Nat) : Int)), (16, .slice A55 n56 c57), (17, .int .i64 0), (27, .bool false), (35, .bool true), (62, .bool false), (65, .bool true)] (fun U190 => ?_)
            refine h29 _ _ ?_
            refine wp_cond_true (by kernel_rfl) ?_
            refine W.region_plain (row := none) [(0, false), (1, false), (2, false), (3, false), (4, false), (5, true), (6, false)] (by kernel_rfl) ?_
            have s191 := SG.self w180 none
            refine W.q (v := .agg #[.int .i64 m, .slice A n c]) (hr := (r_load2 rfl (by kernel_rfl) (by kernel_rfl) (by kernel_rfl) (sgS (blk_cell (j := 0) x6 (by kernel_rfl)) (by simp)) (sgS (blk_cell (j := 1) x6 (by kernel_rfl)) (by simp)))) (h := ?_)
            refine W.mv (v := .slice A2 n2 c2) (h := ?_)
            refine W.mv (v := .int .i64 s) (h := ?_)
            refine W.mv (v := .slice A55 n56 c57) (h := ?_)
            refine W.mv (v := .slice A4 n4 c4) (h := ?_)
            have hco : custOk m cs = true := hcoo.resolve_left (by omega)
            refine W.sc (vs := [.agg #[.int .i64 m, .slice A n c], .slice A2 n2 c2, .int .i64 s, .slice A55 n56 c57, .slice A4 n4 c4]) rfl rfl (by kernel_rfl) (by kernel_rfl) (by kernel_rfl) rfl (l5Harm_any m A n c ps A2 n2 c2 vs s A55 n56 c57 (choice (openIds vs) t) A4 n4 c4 cs _ (Rd.kept ha (SG.belowR c186 s191 (fun kq e => by cases e))) (Rd.kept hb (SG.belowR c186 s191 (fun kq e => by cases e))) (by omega) (by omega) hfm2 hv9 hs (own_rd ho183) (by omega) (Rd.kept hc4 (SG.belowR c186 s191 (fun kq e => by cases e))) (by omega) hco) ?_
            rintro e w193 ⟨rfl, b192⟩
            have s194 := SG.of_below s191 b192
            refine ⟨_, rfl, s194, ?_⟩
            have ho195 := own_kept ho182 b192
            have ho196 := own_kept ho183 b192
            refine W.as (v := .int .i64 (harmL ps vs s cs (choice (openIds vs) t))) (h := ?_)
            refine W.endF 93 [(0, .agg #[.int .i64 m, .slice A n c]), (1, .slice A2 n2 c2), (2, .int .i64 s), (3, .int .i64 id), (4, .slice A4 n4 c4), (5, .pointer (some ⟨b2, 0, none⟩)), (10, .slice none 0 0), (11, .int .i64 0), (12, .slice A12 n13 c14), (13, .slice A0_13 n0_13 c0_13), (14, .int .i64 lt), (15, .int .i64 ((t : Nat) : Int)), (16, .slice A55 n56 c57), (17, .int .i64 (harmL ps vs s cs (choice (openIds vs) t))), (27, .bool false), (35, .bool true), (62, .bool false), (65, .bool true)] (fun U197 => ?_)
            have x6 := SG.blk s194 x6 (by simp)
            have c198 := (SG.belowR c186 s194 (fun kq e => by cases e))
            have rd199 := Rd.kept rd187 (SG.below s194)
            refine h28 _ _ ?_
            refine wp_seq_k (fun K30 h30 => ?_)
            refine W.region_plain (row := none) [(0, false), (1, false), (2, false), (3, false), (4, false), (5, false), (6, false), (7, false), (8, false), (9, false), (10, false), (11, false), (12, false), (13, false), (14, true), (15, false), (16, false)] (by kernel_rfl) ?_
            have s200 := SG.self w193 none
            refine W.mv (v := .int .i64 lt) (h := ?_)
            refine W.q (v := .bool true) (hr := (r_lss (m := lt) (n := 0) rfl (by kernel_rfl) (by kernel_rfl) (decide_eq_true (by omega)))) (h := ?_)
            refine W.mv (v := .bool true) (h := ?_)
            refine W.sp s200 (h := ?_)
            refine W.sp s200 (h := ?_)
            refine W.sp s200 (h := ?_)
            refine W.q (v := .bool true) (hr := (r_pick (b := true) rfl (by kernel_rfl) (by kernel_rfl))) (h := ?_)
            refine W.mv (v := .bool true) (h := ?_)
            refine W.sp s200 (h := ?_)
            refine W.sp s200 (h := ?_)
            refine W.sp s200 (h := ?_)
            refine W.sp s200 (h := ?_)
            refine W.sp s200 (h := ?_)
            refine W.sp s200 (h := ?_)
            refine W.sp s200 (h := ?_)
            refine W.sp s200 (h := ?_)
            refine W.q (v := .bool true) (hr := (r_pick (b := true) rfl (by kernel_rfl) (by kernel_rfl))) (h := ?_)
            refine W.endF 93 [(0, .agg #[.int .i64 m, .slice A n c]), (1, .slice A2 n2 c2), (2, .int .i64 s), (3, .int .i64 id), (4, .slice A4 n4 c4), (5, .pointer (some ⟨b2, 0, none⟩)), (10, .slice none 0 0), (11, .int .i64 0), (12, .slice A12 n13 c14), (13, .slice A0_13 n0_13 c0_13), (14, .int .i64 lt), (15, .int .i64 ((t : Nat) : Int)), (16, .slice A55 n56 c57), (17, .int .i64 (harmL ps vs s cs (choice (openIds vs) t))), (27, .bool false), (35, .bool true), (62, .bool false), (65, .bool true), (88, .bool true)] (fun U201 => ?_)
            have x6 := SG.blk s200 x6 (by simp)
            have c202 := (SG.belowR c198 s200 (fun kq e => by cases e))
            have rd203 := Rd.kept rd199 (SG.below s200)
            refine h30 _ _ ?_
            refine wp_cond_true (by kernel_rfl) ?_
            refine wp_seq_k (fun K31 h31 => ?_)
            refine W.region_quiet [(0, false), (1, false)] (by kernel_rfl) ?_
            refine W.mv (v := .slice A55 n56 c57) (h := ?_)
            refine W.as (v := .slice A55 n56 c57) (h := ?_)
            refine W.endF 93 [(0, .agg #[.int .i64 m, .slice A n c]), (1, .slice A2 n2 c2), (2, .int .i64 s), (3, .int .i64 id), (4, .slice A4 n4 c4), (5, .pointer (some ⟨b2, 0, none⟩)), (10, .slice none 0 0), (11, .int .i64 0), (12, .slice A12 n13 c14), (13, .slice A55 n56 c57), (14, .int .i64 lt), (15, .int .i64 ((t : Nat) : Int)), (16, .slice A55 n56 c57), (17, .int .i64 (harmL ps vs s cs (choice (openIds vs) t))), (27, .bool false), (35, .bool true), (62, .bool false), (65, .bool true), (88, .bool true)] (fun U204 => ?_)
            refine h31 _ _ ?_
            refine W.region_quiet [(0, false), (1, false)] (by kernel_rfl) ?_
            refine W.mv (v := .int .i64 (harmL ps vs s cs (choice (openIds vs) t))) (h := ?_)
            refine W.as (v := .int .i64 (harmL ps vs s cs (choice (openIds vs) t))) (h := ?_)
            refine W.endF 93 [(0, .agg #[.int .i64 m, .slice A n c]), (1, .slice A2 n2 c2), (2, .int .i64 s), (3, .int .i64 id), (4, .slice A4 n4 c4), (5, .pointer (some ⟨b2, 0, none⟩)), (10, .slice none 0 0), (11, .int .i64 0), (12, .slice A12 n13 c14), (13, .slice A55 n56 c57), (14, .int .i64 (harmL ps vs s cs (choice (openIds vs) t))), (15, .int .i64 ((t : Nat) : Int)), (16, .slice A55 n56 c57), (17, .int .i64 (harmL ps vs s cs (choice (openIds vs) t))), (27, .bool false), (35, .bool true), (62, .bool false), (65, .bool true), (88, .bool true)] (fun U205 => ?_)
            refine h11 _ _ ?_
            refine W.region_quiet [(0, false), (1, false), (2, false)] (by kernel_rfl) ?_
            refine W.mv (v := .int .i64 ((t : Nat) : Int)) (h := ?_)
            refine W.q (v := .int .i64 ((t + 1 : Nat) : Int)) (hr := (r_add (m := ((t : Nat) : Int)) (n := 1) (z := ((t + 1 : Nat) : Int)) rfl (by kernel_rfl) (by kernel_rfl) (by omega) (by omega))) (h := ?_)
            refine W.as (v := .int .i64 ((t + 1 : Nat) : Int)) (h := ?_)
            refine W.endF 93 [(0, .agg #[.int .i64 m, .slice A n c]), (1, .slice A2 n2 c2), (2, .int .i64 s), (3, .int .i64 id), (4, .slice A4 n4 c4), (5, .pointer (some ⟨b2, 0, none⟩)), (10, .slice none 0 0), (11, .int .i64 0), (12, .slice A12 n13 c14), (13, .slice A55 n56 c57), (14, .int .i64 (harmL ps vs s cs (choice (openIds vs) t))), (15, .int .i64 ((t + 1 : Nat) : Int)), (16, .slice A55 n56 c57), (17, .int .i64 (harmL ps vs s cs (choice (openIds vs) t))), (27, .bool false), (35, .bool true), (62, .bool false), (65, .bool true), (88, .bool true)] (fun U206 => ?_)
            have hz := harmL_nn (ps := ps) (vs := vs) (s := s) (cs := cs) (plan := (choice (openIds vs) t)) hcob
            have hfd := fd_neg hft (by omega)
            exact h8 _ _ _ (by omega : (2 ^ n13 - (t + 1)) < _) ⟨t + 1, (choice (openIds vs) t), (harmL ps vs s cs (choice (openIds vs) t)), true, A55, n56, c57, (fun iU9 => lk [(0, .agg #[.int .i64 m, .slice A n c]), (1, .slice A2 n2 c2), (2, .int .i64 s), (3, .int .i64 id), (4, .slice A4 n4 c4), (5, .pointer (some ⟨b2, 0, none⟩)), (10, .slice none 0 0), (11, .int .i64 0), (12, .slice A12 n13 c14), (13, .slice A55 n56 c57), (14, .int .i64 (harmL ps vs s cs (choice (openIds vs) t))), (15, .int .i64 ((t + 1 : Nat) : Int)), (16, .slice A55 n56 c57), (17, .int .i64 (harmL ps vs s cs (choice (openIds vs) t))), (27, .bool false), (35, .bool true), (62, .bool false), (65, .bool true), (88, .bool true)] iU9 (U206 iU9)), (by kernel_rfl), rfl, (by omega), (((bestTo_next (hst.trans (sfd_none hfd))).trans (bestStep_first q184)).trans (by rw [show (harmL ps vs s cs) (choice (openIds vs) t) = (harmL ps vs s cs (choice (openIds vs) t)) from by omega]; rfl)), (fun e => by cases e), (fun _ => by omega), (by omega), x6, ho196, nb68, rd203, c202⟩
          · refine W.q (v := .bool false) (hr := (r_gtr (m := ((n4 : Nat) : Int)) (n := 0) rfl (by kernel_rfl) (by kernel_rfl) (decide_eq_false q189))) (h := ?_)
            refine W.endF 93 [(0, .agg #[.int .i64 m, .slice A n c]), (1, .slice A2 n2 c2), (2, .int .i64 s), (3, .int .i64 id), (4, .slice A4 n4 c4), (5, .pointer (some ⟨b2, 0, none⟩)), (10, .slice none 0 0), (11, .int .i64 0), (12, .slice A12 n13 c14), (13, .slice A0_13 n0_13 c0_13), (14, .int .i64 lt), (15, .int .i64 ((t : Nat) : Int)), (16, .slice A55 n56 c57), (17, .int .i64 0), (27, .bool false), (35, .bool true), (62, .bool false), (65, .bool false)] (fun U207 => ?_)
            refine h29 _ _ ?_
            refine wp_cond_false (by kernel_rfl) ?_
            refine wp_skip ?_
            refine h28 _ _ ?_
            refine wp_seq_k (fun K32 h32 => ?_)
            refine W.region_plain (row := none) [(0, false), (1, false), (2, false), (3, false), (4, false), (5, false), (6, false), (7, false), (8, false), (9, false), (10, false), (11, false), (12, false), (13, false), (14, true), (15, false), (16, false)] (by kernel_rfl) ?_
            have s208 := SG.self w180 none
            refine W.mv (v := .int .i64 lt) (h := ?_)
            refine W.q (v := .bool true) (hr := (r_lss (m := lt) (n := 0) rfl (by kernel_rfl) (by kernel_rfl) (decide_eq_true (by omega)))) (h := ?_)
            refine W.mv (v := .bool true) (h := ?_)
            refine W.sp s208 (h := ?_)
            refine W.sp s208 (h := ?_)
            refine W.sp s208 (h := ?_)
            refine W.q (v := .bool true) (hr := (r_pick (b := true) rfl (by kernel_rfl) (by kernel_rfl))) (h := ?_)
            refine W.mv (v := .bool true) (h := ?_)
            refine W.sp s208 (h := ?_)
            refine W.sp s208 (h := ?_)
            refine W.sp s208 (h := ?_)
            refine W.sp s208 (h := ?_)
            refine W.sp s208 (h := ?_)
            refine W.sp s208 (h := ?_)
            refine W.sp s208 (h := ?_)
            refine W.sp s208 (h := ?_)
            refine W.q (v := .bool true) (hr := (r_pick (b := true) rfl (by kernel_rfl) (by kernel_rfl))) (h := ?_)
            refine W.endF 93 [(0, .agg #[.int .i64 m, .slice A n c]), (1, .slice A2 n2 c2), (2, .int .i64 s), (3, .int .i64 id), (4, .slice A4 n4 c4), (5, .pointer (some ⟨b2, 0, none⟩)), (10, .slice none 0 0), (11, .int .i64 0), (12, .slice A12 n13 c14), (13, .slice A0_13 n0_13 c0_13), (14, .int .i64 lt), (15, .int .i64 ((t : Nat) : Int)), (16, .slice A55 n56 c57), (17, .int .i64 0), (27, .bool false), (35, .bool true), (62, .bool false), (65, .bool false), (88, .bool true)] (fun U209 => ?_)
            have x6 := SG.blk s208 x6 (by simp)
            have c210 := (SG.belowR c186 s208 (fun kq e => by cases e))
            have rd211 := Rd.kept rd187 (SG.below s208)
            refine h32 _ _ ?_
            refine wp_cond_true (by kernel_rfl) ?_
            refine wp_seq_k (fun K33 h33 => ?_)
            refine W.region_quiet [(0, false), (1, false)] (by kernel_rfl) ?_
            refine W.mv (v := .slice A55 n56 c57) (h := ?_)
            refine W.as (v := .slice A55 n56 c57) (h := ?_)
            refine W.endF 93 [(0, .agg #[.int .i64 m, .slice A n c]), (1, .slice A2 n2 c2), (2, .int .i64 s), (3, .int .i64 id), (4, .slice A4 n4 c4), (5, .pointer (some ⟨b2, 0, none⟩)), (10, .slice none 0 0), (11, .int .i64 0), (12, .slice A12 n13 c14), (13, .slice A55 n56 c57), (14, .int .i64 lt), (15, .int .i64 ((t : Nat) : Int)), (16, .slice A55 n56 c57), (17, .int .i64 0), (27, .bool false), (35, .bool true), (62, .bool false), (65, .bool false), (88, .bool true)] (fun U212 => ?_)
            refine h33 _ _ ?_
            refine W.region_quiet [(0, false), (1, false)] (by kernel_rfl) ?_
            refine W.mv (v := .int .i64 0) (h := ?_)
            refine W.as (v := .int .i64 0) (h := ?_)
            refine W.endF 93 [(0, .agg #[.int .i64 m, .slice A n c]), (1, .slice A2 n2 c2), (2, .int .i64 s), (3, .int .i64 id), (4, .slice A4 n4 c4), (5, .pointer (some ⟨b2, 0, none⟩)), (10, .slice none 0 0), (11, .int .i64 0), (12, .slice A12 n13 c14), (13, .slice A55 n56 c57), (14, .int .i64 0), (15, .int .i64 ((t : Nat) : Int)), (16, .slice A55 n56 c57), (17, .int .i64 0), (27, .bool false), (35, .bool true), (62, .bool false), (65, .bool false), (88, .bool true)] (fun U213 => ?_)
            refine h11 _ _ ?_
            refine W.region_quiet [(0, false), (1, false), (2, false)] (by kernel_rfl) ?_
            refine W.mv (v := .int .i64 ((t : Nat) : Int)) (h := ?_)
            refine W.q (v := .int .i64 ((t + 1 : Nat) : Int)) (hr := (r_add (m := ((t : Nat) : Int)) (n := 1) (z := ((t + 1 : Nat) : Int)) rfl (by kernel_rfl) (by kernel_rfl) (by omega) (by omega))) (h := ?_)
            refine W.as (v := .int .i64 ((t + 1 : Nat) : Int)) (h := ?_)
            refine W.endF 93 [(0, .agg #[.int .i64 m, .slice A n c]), (1, .slice A2 n2 c2), (2, .int .i64 s), (3, .int .i64 id), (4, .slice A4 n4 c4), (5, .pointer (some ⟨b2, 0, none⟩)), (10, .slice none 0 0), (11, .int .i64 0), (12, .slice A12 n13 c14), (13, .slice A55 n56 c57), (14, .int .i64 0), (15, .int .i64 ((t + 1 : Nat) : Int)), (16, .slice A55 n56 c57), (17, .int .i64 0), (27, .bool false), (35, .bool true), (62, .bool false), (65, .bool false), (88, .bool true)] (fun U214 => ?_)
            have hz := harmL_nil (ps := ps) (vs := vs) (s := s) (cs := cs) (plan := (choice (openIds vs) t)) (by omega)
            have hfd := fd_neg hft (by omega)
            exact h8 _ _ _ (by omega : (2 ^ n13 - (t + 1)) < _) ⟨t + 1, (choice (openIds vs) t), 0, true, A55, n56, c57, (fun iU9 => lk [(0, .agg #[.int .i64 m, .slice A n c]), (1, .slice A2 n2 c2), (2, .int .i64 s), (3, .int .i64 id), (4, .slice A4 n4 c4), (5, .pointer (some ⟨b2, 0, none⟩)), (10, .slice none 0 0), (11, .int .i64 0), (12, .slice A12 n13 c14), (13, .slice A55 n56 c57), (14, .int .i64 0), (15, .int .i64 ((t + 1 : Nat) : Int)), (16, .slice A55 n56 c57), (17, .int .i64 0), (27, .bool false), (35, .bool true), (62, .bool false), (65, .bool false), (88, .bool true)] iU9 (U214 iU9)), (by kernel_rfl), rfl, (by omega), (((bestTo_next (hst.trans (sfd_none hfd))).trans (bestStep_first q184)).trans (by rw [show (harmL ps vs s cs) (choice (openIds vs) t) = 0 from by omega]; rfl)), (fun e => by cases e), (fun _ => by omega), (by omega), x6, ho183, nb68, rd211, c210⟩
        · rw [q184]
          refine W.q (v := .bool true) (hr := (r_not (b := false) rfl (by kernel_rfl) rfl)) (h := ?_)
          refine W.q (v := .bool true) (hr := (r_pick (b := false) rfl (by kernel_rfl) (by kernel_rfl))) (h := ?_)
          refine W.endF 93 [(0, .agg #[.int .i64 m, .slice A n c]), (1, .slice A2 n2 c2), (2, .int .i64 s), (3, .int .i64 id), (4, .slice A4 n4 c4), (5, .pointer (some ⟨b2, 0, none⟩)), (10, .slice none 0 0), (11, .int .i64 0), (12, .slice A12 n13 c14), (13, .slice A0_13 n0_13 c0_13), (14, .int .i64 lt), (15, .int .i64 ((t : Nat) : Int)), (16, .slice A55 n56 c57), (27, .bool false), (35, .bool true), (62, .bool true)] (fun U215 => ?_)
          have x6 := SG.blk s181 x6 (by simp)
          have c216 := (SG.belowR c71 s181 (fun kq e => by cases e))
          have rd217 := Rd.kept rd72 (SG.below s181)
          refine h14 _ _ ?_
          refine wp_cond_true (by kernel_rfl) ?_
          refine wp_exit ?_
          refine h11 _ _ ?_
          refine W.region_quiet [(0, false), (1, false), (2, false)] (by kernel_rfl) ?_
          refine W.mv (v := .int .i64 ((t : Nat) : Int)) (h := ?_)
          refine W.q (v := .int .i64 ((t + 1 : Nat) : Int)) (hr := (r_add (m := ((t : Nat) : Int)) (n := 1) (z := ((t + 1 : Nat) : Int)) rfl (by kernel_rfl) (by kernel_rfl) (by omega) (by omega))) (h := ?_)
          refine W.as (v := .int .i64 ((t + 1 : Nat) : Int)) (h := ?_)
          refine W.endF 93 [(0, .agg #[.int .i64 m, .slice A n c]), (1, .slice A2 n2 c2), (2, .int .i64 s), (3, .int .i64 id), (4, .slice A4 n4 c4), (5, .pointer (some ⟨b2, 0, none⟩)), (10, .slice none 0 0), (11, .int .i64 0), (12, .slice A12 n13 c14), (13, .slice A0_13 n0_13 c0_13), (14, .int .i64 lt), (15, .int .i64 ((t + 1 : Nat) : Int)), (16, .slice A55 n56 c57), (27, .bool false), (35, .bool true), (62, .bool true)] (fun U218 => ?_)
          exact h8 _ _ _ (by omega : (2 ^ n13 - (t + 1)) < _) ⟨t + 1, bp, lt, fd, A0_13, n0_13, c0_13, (fun iU9 => lk [(0, .agg #[.int .i64 m, .slice A n c]), (1, .slice A2 n2 c2), (2, .int .i64 s), (3, .int .i64 id), (4, .slice A4 n4 c4), (5, .pointer (some ⟨b2, 0, none⟩)), (10, .slice none 0 0), (11, .int .i64 0), (12, .slice A12 n13 c14), (13, .slice A0_13 n0_13 c0_13), (14, .int .i64 lt), (15, .int .i64 ((t + 1 : Nat) : Int)), (16, .slice A55 n56 c57), (27, .bool false), (35, .bool true), (62, .bool true)] iU9 (U218 iU9)), (by kernel_rfl), rfl, (by omega), ((bestTo_next hst).trans (bestStep_no q184)), hnf, hft, (by omega), x6, ho182, nb0_13_b2, rd217, c216⟩
    · refine W.q (v := .bool false) (hr := (r_lss (m := ((t : Nat) : Int)) (n := ((2 ^ n13 : Nat) : Int)) rfl (by kernel_rfl) (by kernel_rfl) (decide_eq_false q52))) (h := ?_)
      refine W.endF 93 [(0, .agg #[.int .i64 m, .slice A n c]), (1, .slice A2 n2 c2), (2, .int .i64 s), (3, .int .i64 id), (4, .slice A4 n4 c4), (5, .pointer (some ⟨b2, 0, none⟩)), (10, .slice none 0 0), (11, .int .i64 0), (12, .slice A12 n13 c14), (13, .slice A0_13 n0_13 c0_13), (14, .int .i64 lt), (15, .int .i64 ((t : Nat) : Int)), (27, .bool false), (35, .bool false)] (fun U219 => ?_)
      refine h10 _ _ ?_
      refine wp_cond_false (by kernel_rfl) ?_
      refine wp_exit ?_
      refine h6 _ _ ?_
      refine wp_seq_k (fun K34 h34 => ?_)
      refine W.region_quiet [(0, false), (1, false), (2, false), (3, false)] (by kernel_rfl) ?_
      refine W.mv (v := .slice A0_13 n0_13 c0_13) (h := ?_)
      refine W.mv (v := .int .i64 lt) (h := ?_)
      refine W.as (v := .slice A0_13 n0_13 c0_13) (h := ?_)
      refine W.as (v := .int .i64 lt) (h := ?_)
      refine W.endF 93 [(0, .agg #[.int .i64 m, .slice A n c]), (1, .slice A2 n2 c2), (2, .int .i64 s), (3, .int .i64 id), (4, .slice A4 n4 c4), (5, .pointer (some ⟨b2, 0, none⟩)), (10, .slice A0_13 n0_13 c0_13), (11, .int .i64 lt), (12, .slice A12 n13 c14), (13, .slice A0_13 n0_13 c0_13), (14, .int .i64 lt), (15, .int .i64 ((t : Nat) : Int)), (27, .bool false), (35, .bool false)] (fun U220 => ?_)
      refine h34 _ _ ?_
      refine wp_ret ?_
      try simp only [Exit.then]
      refine ret2 (v := .slice A0_13 n0_13 c0_13) (x := .int .i64 lt) rfl (by kernel_rfl) (by kernel_rfl) ?_
      obtain ⟨e1, e2⟩ := sbest_fin (r := bestOf (cutB ps vs s id) (harmL ps vs s cs) (openIds vs)) (by unfold bestOf; rw [show 2 ^ (openIds vs).length = t by rw [show (openIds vs).length = n13 by omega]; omega]; exact hst) hnf
      exact ⟨_, _, _, by rw [← e2], (by rw [← e1]; exact ho0_13), c51⟩
  · rw [q43]
    refine W.q (v := .bool true) (hr := (r_not (b := false) rfl (by kernel_rfl) rfl)) (h := ?_)
    refine W.endF 93 [(0, .agg #[.int .i64 m, .slice A n c]), (1, .slice A2 n2 c2), (2, .int .i64 s), (3, .int .i64 id), (4, .slice A4 n4 c4), (5, .pointer (some ⟨b2, 0, none⟩)), (10, .slice none 0 0), (11, .int .i64 0), (12, .slice A12 n13 c14), (13, .slice (some ⟨b27, 0, none⟩) 0 0), (14, .int .i64 (-1)), (27, .bool true)] (fun U221 => ?_)
    have x6 := SG.blk s42 x6 (by simp)
    have x31 := SG.blk s42 x31 (by simp)
    have c222 := (SG.belowR c37 s42 (fun kq e => by cases e))
    have rd223 := Rd.kept rd38 (SG.below s42)
    refine h5 _ _ ?_
    refine wp_cond_true (by kernel_rfl) ?_
    refine wp_seq_k (fun K35 h35 => ?_)
    refine W.region_quiet [(0, false), (1, false), (2, false), (3, false)] (by kernel_rfl) ?_
    refine W.mv (v := .slice (some ⟨b27, 0, none⟩) 0 0) (h := ?_)
    refine W.mv (v := .int .i64 (-1)) (h := ?_)
    refine W.as (v := .slice (some ⟨b27, 0, none⟩) 0 0) (h := ?_)
    refine W.as (v := .int .i64 (-1)) (h := ?_)
    refine W.endF 93 [(0, .agg #[.int .i64 m, .slice A n c]), (1, .slice A2 n2 c2), (2, .int .i64 s), (3, .int .i64 id), (4, .slice A4 n4 c4), (5, .pointer (some ⟨b2, 0, none⟩)), (10, .slice (some ⟨b27, 0, none⟩) 0 0), (11, .int .i64 (-1)), (12, .slice A12 n13 c14), (13, .slice (some ⟨b27, 0, none⟩) 0 0), (14, .int .i64 (-1)), (27, .bool true)] (fun U224 => ?_)
    refine h35 _ _ ?_
    refine wp_ret ?_
    try simp only [Exit.then]
    refine ret2 (v := .slice (some ⟨b27, 0, none⟩) 0 0) (x := .int .i64 (-1)) rfl (by kernel_rfl) (by kernel_rfl) ?_
    have ho225 := own_empty (base := w.heap.size) (size := 1) x31 lo33
    replace ho225 : World.ownsRow _ _ _ _ _ _ (intsV []) := ho225
    have sp226 := sp_own (n' := 0) (c := 0) sp34
    have nb227 : Nb b2 (.slice (some ⟨b27, 0, none⟩) 0 0) := nb_new (by have := ne35; omega)
    have e1 : bestOf (cutB ps vs s id) (harmL ps vs s cs) (openIds vs) = none := bestOf_cutno q43
    exact ⟨_, _, _, by rw [e1]; rfl, (by rw [e1]; exact ho225), c222⟩

end Go.Proofs.Ytnfmdkbelbppdaa
