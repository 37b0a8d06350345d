/- Valves that are shut too, what is cut off, customers and harm: both packages. -/
import Derived.Test.YtnfmdkbelbppdaaLib5
import Derived.Test.YtnfmdkbelbppdaaVTurn
namespace Go.Proofs.Ytnfmdkbelbppdaa
open Go.RowKit
set_option linter.unusedVariables false
set_option linter.unusedSimpArgs false

theorem idxL_hasF {E : Int → Int → Prop} {n : Nat} {a b : Int} (hb : 0 ≤ b ∧ b < n) : (idxL E n a false).contains b = !rb E a (9 + b) := by
  rw [Bool.eq_iff_iff, List.contains_iff_mem, mem_idxL, Bool.not_eq_true']
  exact ⟨fun h => h.2, fun h => ⟨hb, h⟩⟩
def canB (m : Int) (ps : List Pp) (vs : List Vv) (s id : Int) : Bool := goodV m ps vs && inB s 1 m && decide (0 ≤ findL ps id)
theorem canB_of {m : Int} {ps : List Pp} {vs : List Vv} {s id : Int} (h : canB m ps vs s id = true) : GoodVal m ps vs ∧ (1 ≤ s ∧ s ≤ m) ∧ 0 ≤ findL ps id := by
  unfold canB at h
  simp only [Bool.and_eq_true, decide_eq_true_eq] at h
  exact ⟨goodV_of h.1.1, inB_iff.1 h.1.2, h.2⟩
def custOk (m : Int) (cs : List Int) : Bool := decide ((cs.length : Int) = m) && cs.all (fun c => inB c 0 1000)
theorem custOk_of {m : Int} {cs : List Int} (h : custOk m cs = true) : (cs.length : Int) = m ∧ ∀ c, c ∈ cs → 0 ≤ c ∧ c ≤ 1000 := by
  unfold custOk at h
  rw [Bool.and_eq_true, decide_eq_true_eq, List.all_eq_true] at h
  exact ⟨h.1, fun c hc => inB_iff.1 (h.2 c hc)⟩
theorem all_any (cs : List Int) : cs.any (fun c => !inB c 0 1000) = !cs.all (fun c => inB c 0 1000) := by
  induction cs with
  | nil => rfl
  | cons c cs ih => rw [List.any_cons, List.all_cons, ih, Bool.not_and]
/-- The customers at nodes that are not reached. -/
noncomputable def harmTo (E : Int → Int → Prop) (s : Int) (cs : List Int) : Nat → Int
  | 0 => 0
  | i + 1 => harmTo E s cs i + (if rb E s ((i : Int) + 1) = false then cs.getD i 0 else 0)
theorem harmTo_bd {E : Int → Int → Prop} {s : Int} {cs : List Int} (h : ∀ c, c ∈ cs → 0 ≤ c ∧ c ≤ 1000) : ∀ i, i ≤ cs.length → 0 ≤ harmTo E s cs i ∧ harmTo E s cs i ≤ 1000 * (i : Int)
  | 0, _ => by simp [harmTo]
  | i + 1, hi => by
    have ih := harmTo_bd (E := E) (s := s) h i (by omega)
    have hx : cs[i]? = some cs[i] := List.getElem?_eq_getElem (by omega)
    have hc := h _ (List.mem_of_getElem? hx)
    unfold harmTo
    rw [List.getD_eq_getElem?_getD, hx]
    simp only [Option.getD_some]
    split <;> omega
theorem harmTo_yes {E : Int → Int → Prop} {s : Int} {cs : List Int} {i : Nat} {c : Int} (hc : cs[i]? = some c) (h : rb E s ((i : Int) + 1) = false) : harmTo E s cs (i + 1) = harmTo E s cs i + c := by
  rw [harmTo, if_pos h, List.getD_eq_getElem?_getD, hc]; rfl
theorem harmTo_no {E : Int → Int → Prop} {s : Int} {cs : List Int} {i : Nat} (h : rb E s ((i : Int) + 1) = true) : harmTo E s cs (i + 1) = harmTo E s cs i := by
  rw [harmTo, if_neg (by rw [h]; simp), Int.add_zero]
def sumAt (cs : List Int) : List Int → Int
  | [] => 0
  | b :: bs => cs.getD (b - 1).toNat 0 + sumAt cs bs
theorem sumAt_app (cs : List Int) : ∀ xs ys : List Int, sumAt cs (xs ++ ys) = sumAt cs xs + sumAt cs ys
  | [], ys => by simp [sumAt]
  | x :: xs, ys => by rw [List.cons_append, sumAt, sumAt, sumAt_app cs xs ys]; omega
theorem sumAt_next {cs xs : List Int} {i : Nat} {b c : Int} (hb : xs[i]? = some b) (hc : cs[(b - 1).toNat]? = some c) : sumAt cs (xs.take (i + 1)) = sumAt cs (xs.take i) + c := by
  rw [List.take_add_one, hb, sumAt_app]
  simp only [Option.toList_some, sumAt, Int.add_zero]
  rw [List.getD_eq_getElem?_getD, hc]; rfl
theorem sumAt_bd {cs : List Int} (h : ∀ c, c ∈ cs → 0 ≤ c ∧ c ≤ 1000) : ∀ xs : List Int, 0 ≤ sumAt cs xs ∧ sumAt cs xs ≤ 1000 * (xs.length : Int)
  | [] => by simp [sumAt]
  | b :: bs => by
    have ih := sumAt_bd h bs
    have hg : 0 ≤ cs.getD (b - 1).toNat 0 ∧ cs.getD (b - 1).toNat 0 ≤ 1000 := by
      rw [List.getD_eq_getElem?_getD]
      cases hc : cs[(b - 1).toNat]? with
      | none => simp
      | some c => exact h c (List.mem_of_getElem? hc)
    rw [sumAt, List.length_cons]; omega
theorem sumAt_harm (E : Int → Int → Prop) (s : Int) (cs : List Int) : ∀ m, sumAt cs (nodesL E m s false) = harmTo E s cs m
  | 0 => rfl
  | m + 1 => by
    rw [nodesL_succ, sumAt_app, sumAt_harm E s cs m, harmTo]
    congr 1
    split
    · simp only [sumAt, Int.add_zero]; rw [show ((m : Int) + 1 - 1).toNat = m by omega]
    · rfl
noncomputable def harmL (ps : List Pp) (vs : List Vv) (s : Int) (cs plan : List Int) : Int := harmTo (linked ps (openQ (shutV vs plan) true)) s cs cs.length

set_option maxRecDepth 100000 in
set_option maxHeartbeats 1000000 in
theorem shutToo_any (A2 : Option Addr) (n2 c2 : Nat) (vs : List Vv) (A3 : Option Addr) (n3 c3 : Nat) (pl : List Int) (w : World) (hb : Rd w 4 A2 n2 (valvesV vs)) (hn2 : n2 ≤ 1000000) (hfm2 : Fm A2 n2 c2) (hp3 : Rd w 1 A3 n3 (intsV pl)) (hn3 : n3 ≤ 1000000) :
    Calls Try.prog 101 #[.slice A2 n2 c2, .slice A3 n3 c3] w fun e w' => ∃ A' n' c', e = .returned (.slice A' n' c') ∧ w'.ownsRow w.heap.size 60 4 (.slice A' n' c') n' (valvesV (shutV vs pl)) ∧ Below w.heap.size w w' := by
  have hl2 := rd_valves_len hb
  have hl3 := rd_ints_len hp3
  go_enter Try.func101, Try.ntmps101
  refine wp_seq_k (fun K1 h1 => ?_)
  refine W.region_quiet [(0, false)] (by kernel_rfl) ?_
  refine W.sq (v := .slice none 0 0) rfl (r_assign rfl (by kernel_rfl)) (by kernel_rfl) rfl rfl ?_
  refine W.sch_end (l' := [.slice A2 n2 c2, .slice A3 n3 c3, undef, undef, .slice none 0 0, undef, undef, undef, undef, undef, undef, undef, undef, undef, undef, undef, undef, undef, undef, undef, undef, undef, undef, undef, undef, undef, undef, undef, undef, undef, undef, undef, undef, undef, undef]) (by kernel_rfl) ?_
  refine h1 _ _ ?_
  refine wp_seq_k (fun K2 h2 => ?_)
  refine W.region_plain (row := none) [(0, true), (1, false), (2, true), (3, false)] (by kernel_rfl) ?_
  have s1 := SG.self w none
  refine W.sn (fun b => .slice (some ⟨b, 0, none⟩) 0 0) #[] 60 s1 rfl (by kernel_rfl) rfl (fun _ => by kernel_rfl) (fun b2 w3 hb4 k5 x6 s7 => ?_)
  have lo8 : w.heap.size ≤ b2 := by have := ((SG.belowR (Below.refl _ _) s1 (fun kq e => by cases e))).size; omega
  refine W.sq (v := .slice A2 n2 c2) rfl (r_move rfl (by kernel_rfl)) (by kernel_rfl) rfl rfl ?_
  have ho9 := own_empty (base := w.heap.size) (size := 4) x6 lo8
  replace ho9 : World.ownsRow _ _ _ _ _ _ (valvesV []) := ho9
  replace ho9 : World.ownsRow _ _ _ _ _ _ (valvesV []) := ho9
  refine W.sapR (e := 60) (size := 4) (base := w.heap.size) (v := .slice (some ⟨b2, 0, none⟩) 0 0) (A := A2) (m := n2) (c := c2) s7 rfl rfl rfl rfl (by kernel_rfl) (by kernel_rfl) (by kernel_rfl) ho9 (Rd.kept hb (SG.belowR (Below.refl _ _) s7 (fun kq e => by cases e))) hfm2 (valves_one _) (by omega) (by have := ((SG.belowR (Below.refl _ _) s7 (fun kq e => by cases e))).size; omega) (.inr (fun kq e => by have := World.grownBy.size s1; have := hb4; have e' := Option.some.inj e; simp at e'; omega)) (fun A10 cap11 w12 ho13 hg14 hat15 s16 => ?_)
  have ho13 := own_joinV ho13
  have fr17 : ∀ kq, (.slice A10 (0 + n2) cap11 : Value).ownBlock = some kq → w.heap.size ≤ kq := fun kq e => by
    have hs := World.grownBy.size s7
    rcases hat15 with h | h
    · exact (show ∀ kq, Value.ownBlock _ = some kq → w.heap.size ≤ kq from (fun kq e => by have := World.grownBy.size s1; have := hb4; have e' := Option.some.inj e; simp at e'; omega)) kq (h.symm.trans e)
    · have := Option.some.inj (h.symm.trans e); omega
  replace ho13 : World.ownsRow _ _ _ _ _ _ (valvesV vs) := ho13
  refine W.sq (v := .slice A10 (0 + n2) cap11) rfl (r_assign rfl (by kernel_rfl)) (by kernel_rfl) rfl rfl ?_
  refine W.sch_endU (fun U18 => [.slice A2 n2 c2, .slice A3 n3 c3, undef, undef, .slice none 0 0, .slice A10 (0 + n2) cap11, undef, U18 7, U18 8, U18 9, undef, undef, undef, undef, undef, undef, undef, undef, undef, undef, undef, undef, undef, undef, undef, undef, undef, undef, undef, undef, undef, undef, undef, undef, undef]) (by kernel_rfl) (fun U18 => ?_)
  have c19 := (SG.belowR (Below.refl _ _) s16 (fun kq e => by cases e))
  refine h2 _ _ ?_
  refine wp_seq_k (fun K3 h3 => ?_)
  refine wp_seq_k (fun K4 h4 => ?_)
  refine W.region_quiet [(0, false), (1, false), (2, false)] (by kernel_rfl) ?_
  refine W.sq (v := .slice A10 (0 + n2) cap11) rfl (r_move rfl (by kernel_rfl)) (by kernel_rfl) rfl rfl ?_
  refine W.sq (v := .int .i64 (((0 + n2) : Nat) : Int)) rfl (r_len (A := A10) (n := (0 + n2)) (c := cap11) rfl (by kernel_rfl) (by kernel_rfl)) (by kernel_rfl) rfl rfl ?_
  refine W.sq (v := .int .i64 0) rfl (r_move rfl (by kernel_rfl)) (by kernel_rfl) rfl rfl ?_
  refine W.sch_endU (fun U20 => [.slice A2 n2 c2, .slice A3 n3 c3, undef, undef, .slice none 0 0, .slice A10 (0 + n2) cap11, undef, (U18 7), (U18 8), (U18 9), U20 10, .int .i64 (((0 + n2) : Nat) : Int), .int .i64 0, undef, undef, undef, undef, undef, undef, undef, undef, undef, undef, undef, undef, undef, undef, undef, undef, undef, undef, undef, undef, undef, undef]) (by kernel_rfl) (fun U20 => ?_)
  refine h4 _ _ ?_
  refine wp_block ?_
  refine loopK (fun am0 aa0 wl0 => ∃ (i : Nat) (A0_5 : Option Addr) (n0_5 : Nat) (c0_5 : Nat) (U0 : Nat → Value), aa0 = ⟨[.slice A2 n2 c2, .slice A3 n3 c3, undef, undef, .slice none 0 0, .slice A0_5 n0_5 c0_5, U0 6, (U18 7), (U18 8), (U18 9), (U20 10), .int .i64 (((0 + n2) : Nat) : Int), .int .i64 ((i : Nat) : Int), U0 13, U0 14, U0 15, U0 16, U0 17, U0 18, U0 19, U0 20, U0 21, U0 22, U0 23, U0 24, U0 25, U0 26, U0 27, U0 28, U0 29, U0 30, U0 31, U0 32, U0 33, undef].toArray, []⟩ ∧ (am0 = n2 - i) ∧ (i ≤ n2) ∧ (wl0.ownsRow w.heap.size 60 4 (.slice A0_5 n0_5 c0_5) n0_5 (valvesV (mixV vs pl i))) ∧ (Below w.heap.size w wl0)) (n2 - 0) ?_ ?_
  · exact ⟨0, A10, (0 + n2), cap11, (fun iU9 => [.slice A2 n2 c2, .slice A3 n3 c3, undef, undef, .slice none 0 0, .slice A10 (0 + n2) cap11, undef, (U18 7), (U18 8), (U18 9), (U20 10), .int .i64 (((0 + n2) : Nat) : Int), .int .i64 0, undef, undef, undef, undef, undef, undef, undef, undef, undef, undef, undef, undef, undef, undef, undef, undef, undef, undef, undef, undef, undef, undef].getD iU9 undef), (by kernel_rfl), rfl, (Nat.zero_le _), (by rw [mixV_zero]; exact ho13), c19⟩
  rintro am0 aa0 wl0 K5 h5 ⟨i, A0_5, n0_5, c0_5, U0, rfl, rfl, hi, ho0_5, c21⟩
  have hml := mixV_len vs pl i
  have hln := rd_valves_len (own_rd ho0_5)
  refine wp_seq_k (fun K6 h6 => ?_)
  refine W.region_quiet [(0, false)] (by kernel_rfl) ?_
  by_cases q22 : (((i : Nat) : Int) : Int) < ((((0 + n2) : Nat) : Int) : Int)
  · refine W.sq (v := .bool true) rfl (r_lss (m := ((i : Nat) : Int)) (n := (((0 + n2) : Nat) : Int)) rfl (by kernel_rfl) (by kernel_rfl) (decide_eq_true q22)) (by kernel_rfl) rfl rfl ?_
    refine W.sch_end (l' := [.slice A2 n2 c2, .slice A3 n3 c3, undef, undef, .slice none 0 0, .slice A0_5 n0_5 c0_5, (U0 6), (U18 7), (U18 8), (U18 9), (U20 10), .int .i64 (((0 + n2) : Nat) : Int), .int .i64 ((i : Nat) : Int), .bool true, (U0 14), (U0 15), (U0 16), (U0 17), (U0 18), (U0 19), (U0 20), (U0 21), (U0 22), (U0 23), (U0 24), (U0 25), (U0 26), (U0 27), (U0 28), (U0 29), (U0 30), (U0 31), (U0 32), (U0 33), undef]) (by kernel_rfl) ?_
    refine h6 _ _ ?_
    refine wp_seq_k (fun K7 h7 => ?_)
    refine wp_cond_true (by kernel_rfl) ?_
    refine wp_skip ?_
    refine h7 _ _ ?_
    refine wp_seq_k (fun K8 h8 => ?_)
    refine wp_block ?_
    refine wp_seq_k (fun K9 h9 => ?_)
    refine W.region_quiet [(0, false), (1, false)] (by kernel_rfl) ?_
    refine W.sq (v := .int .i64 ((i : Nat) : Int)) rfl (r_move rfl (by kernel_rfl)) (by kernel_rfl) rfl rfl ?_
    refine W.sq (v := .int .i64 ((i : Nat) : Int)) rfl (r_assign rfl (by kernel_rfl)) (by kernel_rfl) rfl rfl ?_
    refine W.sch_endU (fun U23 => [.slice A2 n2 c2, .slice A3 n3 c3, undef, undef, .slice none 0 0, .slice A0_5 n0_5 c0_5, .int .i64 ((i : Nat) : Int), (U18 7), (U18 8), (U18 9), (U20 10), .int .i64 (((0 + n2) : Nat) : Int), .int .i64 ((i : Nat) : Int), .bool true, U23 14, (U0 15), (U0 16), (U0 17), (U0 18), (U0 19), (U0 20), (U0 21), (U0 22), (U0 23), (U0 24), (U0 25), (U0 26), (U0 27), (U0 28), (U0 29), (U0 30), (U0 31), (U0 32), (U0 33), undef]) (by kernel_rfl) (fun U23 => ?_)
    refine h9 _ _ ?_
    refine W.region_plain (row := (Value.ownBlock (.slice A0_5 n0_5 c0_5))) [(0, false), (1, false), (2, false), (3, false), (4, false), (5, false), (6, true), (7, false), (8, false), (9, false), (10, false), (11, false), (12, false), (13, true), (14, true), (15, false), (16, false), (17, false), (18, true)] (by kernel_rfl) ?_
    have s24 := SG.self wl0 (Value.ownBlock (.slice A0_5 n0_5 c0_5))
    refine W.sq (v := .slice A0_5 n0_5 c0_5) rfl (r_move rfl (by kernel_rfl)) (by kernel_rfl) rfl rfl ?_
    refine W.sq (v := .int .i64 ((i : Nat) : Int)) rfl (r_move rfl (by kernel_rfl)) (by kernel_rfl) rfl rfl ?_
    refine W.sq (v := .slice A0_5 n0_5 c0_5) rfl (r_move rfl (by kernel_rfl)) (by kernel_rfl) rfl rfl ?_
    refine W.sq (v := .int .i64 ((i : Nat) : Int)) rfl (r_move rfl (by kernel_rfl)) (by kernel_rfl) rfl rfl ?_
    obtain ⟨x9, hx9⟩ := get_of (zs := vs) (k := i) (by omega)
    have hmx := mixV_at (plan := pl) hx9
    obtain ⟨g25, rfl, _, _⟩ := own_addr ho0_5 (by omega)
    refine W.sq (v := .pointer (some ⟨g25, 0 + i * 4, none⟩)) rfl (r_idx (n := n0_5) (c := c0_5) (k := i) (size := 4) rfl (by kernel_rfl) rfl (by kernel_rfl) (by kernel_rfl) (by omega)) (by kernel_rfl) rfl rfl ?_
    refine W.sq (v := .pointer (some ⟨g25, 0 + i * 4 + 3, none⟩)) rfl (r_field (k := 3) rfl (by kernel_rfl) (by kernel_rfl)) (by kernel_rfl) rfl rfl ?_
    refine W.slq (v := .bool x9.shut) s24 rfl (r_load rfl (by kernel_rfl) (by kernel_rfl) (eqS ((own_atV ho0_5 hmx).2.2.2))) (by kernel_rfl) rfl ?_
    refine W.sq (v := .bool x9.shut) rfl (r_move rfl (by kernel_rfl)) (by kernel_rfl) rfl rfl ?_
    rcases Bool.eq_false_or_eq_true x9.shut with q26 | q26
    · rw [q26]
      refine W.sk s24 rfl (by kernel_rfl) rfl rfl ?_
      refine W.sk s24 rfl (by kernel_rfl) rfl rfl ?_
      refine W.sk s24 rfl (by kernel_rfl) rfl rfl ?_
      refine W.sk s24 rfl (by kernel_rfl) rfl rfl ?_
      refine W.sk s24 rfl (by kernel_rfl) rfl rfl ?_
      refine W.sk s24 rfl (by kernel_rfl) rfl rfl ?_
      refine W.sk s24 rfl (by kernel_rfl) rfl rfl ?_
      refine W.sq (v := .bool true) rfl (r_pick (b := true) rfl (by kernel_rfl) (by kernel_rfl)) (by kernel_rfl) rfl rfl ?_
      refine W.sq (v := .pointer (some ⟨g25, 0 + i * 4, none⟩)) rfl (r_idx (n := n0_5) (c := c0_5) (k := i) (size := 4) rfl (by kernel_rfl) rfl (by kernel_rfl) (by kernel_rfl) (by omega)) (by kernel_rfl) rfl rfl ?_
      refine W.sq (v := .pointer (some ⟨g25, 0 + i * 4 + 3, none⟩)) rfl (r_field (k := 3) rfl (by kernel_rfl) (by kernel_rfl)) (by kernel_rfl) rfl rfl ?_
      refine W.sst (base := w.heap.size) (e := 60) (size := 4) (n := n0_5) (c := c0_5) (j := 0 + i * 4 + 3) (u := .bool true) (news := [.bool true]) s24 rfl (by kernel_rfl) rfl rfl (by kernel_rfl) (by kernel_rfl) ho0_5 (by kernel_rfl) (by kernel_rfl) (by kernel_rfl) (by simp only [List.length_cons, List.length_nil]; omega) (.inl rfl) (fun w27 ho28 g29 s30 => ?_)
      have ho28 := own_setS hmx ho28
      refine W.sch_endU (fun U31 => [.slice A2 n2 c2, .slice A3 n3 c3, undef, undef, .slice none 0 0, .slice (some ⟨g25, 0, none⟩) n0_5 c0_5, .int .i64 ((i : Nat) : Int), (U18 7), (U18 8), (U18 9), (U20 10), .int .i64 (((0 + n2) : Nat) : Int), .int .i64 ((i : Nat) : Int), .bool true, (U23 14), U31 15, U31 16, U31 17, U31 18, U31 19, U31 20, U31 21, U31 22, undef, undef, undef, undef, undef, undef, undef, U31 30, U31 31, U31 32, (U0 33), undef]) (by kernel_rfl) (fun U31 => ?_)
      have c32 := (SG.belowR c21 s30 (fun kq e => (World.ownsRow.lt ho0_5 kq e).1))
      refine h8 _ _ ?_
      refine W.region_quiet [(0, false), (1, false)] (by kernel_rfl) ?_
      refine W.sq (v := .int .i64 ((i + 1 : Nat) : Int)) rfl (r_add (m := ((i : Nat) : Int)) (n := 1) (z := ((i + 1 : Nat) : Int)) rfl (by kernel_rfl) (by kernel_rfl) (by omega) (by omega)) (by kernel_rfl) rfl rfl ?_
      refine W.sq (v := .int .i64 ((i + 1 : Nat) : Int)) rfl (r_move rfl (by kernel_rfl)) (by kernel_rfl) rfl rfl ?_
      refine W.sch_endU (fun U33 => [.slice A2 n2 c2, .slice A3 n3 c3, undef, undef, .slice none 0 0, .slice (some ⟨g25, 0, none⟩) n0_5 c0_5, .int .i64 ((i : Nat) : Int), (U18 7), (U18 8), (U18 9), (U20 10), .int .i64 (((0 + n2) : Nat) : Int), .int .i64 ((i + 1 : Nat) : Int), .bool true, (U23 14), (U31 15), (U31 16), (U31 17), (U31 18), (U31 19), (U31 20), (U31 21), (U31 22), undef, undef, undef, undef, undef, undef, undef, (U31 30), (U31 31), (U31 32), U33 33, undef]) (by kernel_rfl) (fun U33 => ?_)
      exact h5 _ _ _ (by omega : (n2 - (i + 1)) < _) ⟨i + 1, (some ⟨g25, 0, none⟩), n0_5, c0_5, (fun iU9 => [.slice A2 n2 c2, .slice A3 n3 c3, undef, undef, .slice none 0 0, .slice (some ⟨g25, 0, none⟩) n0_5 c0_5, .int .i64 ((i : Nat) : Int), (U18 7), (U18 8), (U18 9), (U20 10), .int .i64 (((0 + n2) : Nat) : Int), .int .i64 ((i + 1 : Nat) : Int), .bool true, (U23 14), (U31 15), (U31 16), (U31 17), (U31 18), (U31 19), (U31 20), (U31 21), (U31 22), undef, undef, undef, undef, undef, undef, undef, (U31 30), (U31 31), (U31 32), (U33 33), undef].getD iU9 undef), (by kernel_rfl), rfl, (by omega), (by rw [(mixV_next hx9).trans (by rw [shutX_true (.inl q26)])]; exact ho28), c32⟩
    · rw [q26]
      refine W.sq (v := .slice A3 n3 c3) rfl (r_move rfl (by kernel_rfl)) (by kernel_rfl) rfl rfl ?_
      refine W.sq (v := .slice (some ⟨g25, 0, none⟩) n0_5 c0_5) rfl (r_move rfl (by kernel_rfl)) (by kernel_rfl) rfl rfl ?_
      refine W.sq (v := .int .i64 ((i : Nat) : Int)) rfl (r_move rfl (by kernel_rfl)) (by kernel_rfl) rfl rfl ?_
      refine W.sq (v := .pointer (some ⟨g25, 0 + i * 4, none⟩)) rfl (r_idx (n := n0_5) (c := c0_5) (k := i) (size := 4) rfl (by kernel_rfl) rfl (by kernel_rfl) (by kernel_rfl) (by omega)) (by kernel_rfl) rfl rfl ?_
      refine W.sq (v := .pointer (some ⟨g25, 0 + i * 4, none⟩)) rfl (r_field0 rfl (by kernel_rfl) (by kernel_rfl)) (by kernel_rfl) rfl rfl ?_
      refine W.slq (v := .int .i64 x9.id) s24 rfl (r_load rfl (by kernel_rfl) (by kernel_rfl) (eqS ((own_atV ho0_5 hmx).1))) (by kernel_rfl) rfl ?_
      refine W.sc (vs := [.slice A3 n3 c3, .int .i64 x9.id]) rfl rfl (by kernel_rfl) (by kernel_rfl) (by kernel_rfl) rfl (slContains_any A3 n3 c3 pl x9.id _ (Rd.kept hp3 (SG.belowR c21 s24 (fun kq e => (World.ownsRow.lt ho0_5 kq e).1))) (by omega)) ?_
      rintro e w35 ⟨rfl, b34⟩
      have s36 := SG.of_below s24 b34
      refine ⟨_, rfl, s36, ?_⟩
      have ho37 := own_kept ho0_5 b34
      rcases Bool.eq_false_or_eq_true (pl.contains x9.id) with q38 | q38
      · rw [q38]
        refine W.sq (v := .bool true) rfl (r_pick (b := false) rfl (by kernel_rfl) (by kernel_rfl)) (by kernel_rfl) rfl rfl ?_
        refine W.sq (v := .pointer (some ⟨g25, 0 + i * 4, none⟩)) rfl (r_idx (n := n0_5) (c := c0_5) (k := i) (size := 4) rfl (by kernel_rfl) rfl (by kernel_rfl) (by kernel_rfl) (by omega)) (by kernel_rfl) rfl rfl ?_
        refine W.sq (v := .pointer (some ⟨g25, 0 + i * 4 + 3, none⟩)) rfl (r_field (k := 3) rfl (by kernel_rfl) (by kernel_rfl)) (by kernel_rfl) rfl rfl ?_
        refine W.sst (base := w.heap.size) (e := 60) (size := 4) (n := n0_5) (c := c0_5) (j := 0 + i * 4 + 3) (u := .bool true) (news := [.bool true]) s36 rfl (by kernel_rfl) rfl rfl (by kernel_rfl) (by kernel_rfl) ho37 (by kernel_rfl) (by kernel_rfl) (by kernel_rfl) (by simp only [List.length_cons, List.length_nil]; omega) (.inl rfl) (fun w39 ho40 g41 s42 => ?_)
        have ho40 := own_setS hmx ho40
        refine W.sch_endU (fun U43 => [.slice A2 n2 c2, .slice A3 n3 c3, undef, undef, .slice none 0 0, .slice (some ⟨g25, 0, none⟩) n0_5 c0_5, .int .i64 ((i : Nat) : Int), (U18 7), (U18 8), (U18 9), (U20 10), .int .i64 (((0 + n2) : Nat) : Int), .int .i64 ((i : Nat) : Int), .bool true, (U23 14), U43 15, U43 16, U43 17, U43 18, U43 19, U43 20, U43 21, U43 22, U43 23, U43 24, U43 25, U43 26, U43 27, U43 28, U43 29, U43 30, U43 31, U43 32, (U0 33), undef]) (by kernel_rfl) (fun U43 => ?_)
        have c44 := (SG.belowR c21 s42 (fun kq e => (World.ownsRow.lt ho0_5 kq e).1))
        refine h8 _ _ ?_
        refine W.region_quiet [(0, false), (1, false)] (by kernel_rfl) ?_
        refine W.sq (v := .int .i64 ((i + 1 : Nat) : Int)) rfl (r_add (m := ((i : Nat) : Int)) (n := 1) (z := ((i + 1 : Nat) : Int)) rfl (by kernel_rfl) (by kernel_rfl) (by omega) (by omega)) (by kernel_rfl) rfl rfl ?_
        refine W.sq (v := .int .i64 ((i + 1 : Nat) : Int)) rfl (r_move rfl (by kernel_rfl)) (by kernel_rfl) rfl rfl ?_
        refine W.sch_endU (fun U45 => [.slice A2 n2 c2, .slice A3 n3 c3, undef, undef, .slice none 0 0, .slice (some ⟨g25, 0, none⟩) n0_5 c0_5, .int .i64 ((i : Nat) : Int), (U18 7), (U18 8), (U18 9), (U20 10), .int .i64 (((0 + n2) : Nat) : Int), .int .i64 ((i + 1 : Nat) : Int), .bool true, (U23 14), (U43 15), (U43 16), (U43 17), (U43 18), (U43 19), (U43 20), (U43 21), (U43 22), (U43 23), (U43 24), (U43 25), (U43 26), (U43 27), (U43 28), (U43 29), (U43 30), (U43 31), (U43 32), U45 33, undef]) (by kernel_rfl) (fun U45 => ?_)
        exact h5 _ _ _ (by omega : (n2 - (i + 1)) < _) ⟨i + 1, (some ⟨g25, 0, none⟩), n0_5, c0_5, (fun iU9 => [.slice A2 n2 c2, .slice A3 n3 c3, undef, undef, .slice none 0 0, .slice (some ⟨g25, 0, none⟩) n0_5 c0_5, .int .i64 ((i : Nat) : Int), (U18 7), (U18 8), (U18 9), (U20 10), .int .i64 (((0 + n2) : Nat) : Int), .int .i64 ((i + 1 : Nat) : Int), .bool true, (U23 14), (U43 15), (U43 16), (U43 17), (U43 18), (U43 19), (U43 20), (U43 21), (U43 22), (U43 23), (U43 24), (U43 25), (U43 26), (U43 27), (U43 28), (U43 29), (U43 30), (U43 31), (U43 32), (U45 33), undef].getD iU9 undef), (by kernel_rfl), rfl, (by omega), (by rw [(mixV_next hx9).trans (by rw [shutX_true (.inr q38)])]; exact ho40), c44⟩
      · rw [q38]
        refine W.sq (v := .bool false) rfl (r_pick (b := false) rfl (by kernel_rfl) (by kernel_rfl)) (by kernel_rfl) rfl rfl ?_
        refine W.sq (v := .pointer (some ⟨g25, 0 + i * 4, none⟩)) rfl (r_idx (n := n0_5) (c := c0_5) (k := i) (size := 4) rfl (by kernel_rfl) rfl (by kernel_rfl) (by kernel_rfl) (by omega)) (by kernel_rfl) rfl rfl ?_
        refine W.sq (v := .pointer (some ⟨g25, 0 + i * 4 + 3, none⟩)) rfl (r_field (k := 3) rfl (by kernel_rfl) (by kernel_rfl)) (by kernel_rfl) rfl rfl ?_
        refine W.sst (base := w.heap.size) (e := 60) (size := 4) (n := n0_5) (c := c0_5) (j := 0 + i * 4 + 3) (u := .bool false) (news := [.bool false]) s36 rfl (by kernel_rfl) rfl rfl (by kernel_rfl) (by kernel_rfl) ho37 (by kernel_rfl) (by kernel_rfl) (by kernel_rfl) (by simp only [List.length_cons, List.length_nil]; omega) (.inl rfl) (fun w46 ho47 g48 s49 => ?_)
        have ho47 := own_setS hmx ho47
        refine W.sch_endU (fun U50 => [.slice A2 n2 c2, .slice A3 n3 c3, undef, undef, .slice none 0 0, .slice (some ⟨g25, 0, none⟩) n0_5 c0_5, .int .i64 ((i : Nat) : Int), (U18 7), (U18 8), (U18 9), (U20 10), .int .i64 (((0 + n2) : Nat) : Int), .int .i64 ((i : Nat) : Int), .bool true, (U23 14), U50 15, U50 16, U50 17, U50 18, U50 19, U50 20, U50 21, U50 22, U50 23, U50 24, U50 25, U50 26, U50 27, U50 28, U50 29, U50 30, U50 31, U50 32, (U0 33), undef]) (by kernel_rfl) (fun U50 => ?_)
        have c51 := (SG.belowR c21 s49 (fun kq e => (World.ownsRow.lt ho0_5 kq e).1))
        refine h8 _ _ ?_
        refine W.region_quiet [(0, false), (1, false)] (by kernel_rfl) ?_
        refine W.sq (v := .int .i64 ((i + 1 : Nat) : Int)) rfl (r_add (m := ((i : Nat) : Int)) (n := 1) (z := ((i + 1 : Nat) : Int)) rfl (by kernel_rfl) (by kernel_rfl) (by omega) (by omega)) (by kernel_rfl) rfl rfl ?_
        refine W.sq (v := .int .i64 ((i + 1 : Nat) : Int)) rfl (r_move rfl (by kernel_rfl)) (by kernel_rfl) rfl rfl ?_
        refine W.sch_endU (fun U52 => [.slice A2 n2 c2, .slice A3 n3 c3, undef, undef, .slice none 0 0, .slice (some ⟨g25, 0, none⟩) n0_5 c0_5, .int .i64 ((i : Nat) : Int), (U18 7), (U18 8), (U18 9), (U20 10), .int .i64 (((0 + n2) : Nat) : Int), .int .i64 ((i + 1 : Nat) : Int), .bool true, (U23 14), (U50 15), (U50 16), (U50 17), (U50 18), (U50 19), (U50 20), (U50 21), (U50 22), (U50 23), (U50 24), (U50 25), (U50 26), (U50 27), (U50 28), (U50 29), (U50 30), (U50 31), (U50 32), U52 33, undef]) (by kernel_rfl) (fun U52 => ?_)
        exact h5 _ _ _ (by omega : (n2 - (i + 1)) < _) ⟨i + 1, (some ⟨g25, 0, none⟩), n0_5, c0_5, (fun iU9 => [.slice A2 n2 c2, .slice A3 n3 c3, undef, undef, .slice none 0 0, .slice (some ⟨g25, 0, none⟩) n0_5 c0_5, .int .i64 ((i : Nat) : Int), (U18 7), (U18 8), (U18 9), (U20 10), .int .i64 (((0 + n2) : Nat) : Int), .int .i64 ((i + 1 : Nat) : Int), .bool true, (U23 14), (U50 15), (U50 16), (U50 17), (U50 18), (U50 19), (U50 20), (U50 21), (U50 22), (U50 23), (U50 24), (U50 25), (U50 26), (U50 27), (U50 28), (U50 29), (U50 30), (U50 31), (U50 32), (U52 33), undef].getD iU9 undef), (by kernel_rfl), rfl, (by omega), (by rw [(mixV_next hx9).trans (by rw [shutX_false q26 q38])]; exact ho47), c51⟩
  · refine W.sq (v := .bool false) rfl (r_lss (m := ((i : Nat) : Int)) (n := (((0 + n2) : Nat) : Int)) rfl (by kernel_rfl) (by kernel_rfl) (decide_eq_false q22)) (by kernel_rfl) rfl rfl ?_
    refine W.sch_end (l' := [.slice A2 n2 c2, .slice A3 n3 c3, undef, undef, .slice none 0 0, .slice A0_5 n0_5 c0_5, (U0 6), (U18 7), (U18 8), (U18 9), (U20 10), .int .i64 (((0 + n2) : Nat) : Int), .int .i64 ((i : Nat) : Int), .bool false, (U0 14), (U0 15), (U0 16), (U0 17), (U0 18), (U0 19), (U0 20), (U0 21), (U0 22), (U0 23), (U0 24), (U0 25), (U0 26), (U0 27), (U0 28), (U0 29), (U0 30), (U0 31), (U0 32), (U0 33), undef]) (by kernel_rfl) ?_
    refine h6 _ _ ?_
    refine wp_seq_k (fun K10 h10 => ?_)
    refine wp_cond_false (by kernel_rfl) ?_
    refine wp_exit ?_
    refine h3 _ _ ?_
    refine wp_seq_k (fun K11 h11 => ?_)
    refine W.region_quiet [(0, false), (1, false)] (by kernel_rfl) ?_
    refine W.sq (v := .slice A0_5 n0_5 c0_5) rfl (r_move rfl (by kernel_rfl)) (by kernel_rfl) rfl rfl ?_
    refine W.sq (v := .slice A0_5 n0_5 c0_5) rfl (r_assign rfl (by kernel_rfl)) (by kernel_rfl) rfl rfl ?_
    refine W.sch_endU (fun U53 => [.slice A2 n2 c2, .slice A3 n3 c3, undef, undef, .slice A0_5 n0_5 c0_5, .slice A0_5 n0_5 c0_5, (U0 6), (U18 7), (U18 8), (U18 9), (U20 10), .int .i64 (((0 + n2) : Nat) : Int), .int .i64 ((i : Nat) : Int), .bool false, (U0 14), (U0 15), (U0 16), (U0 17), (U0 18), (U0 19), (U0 20), (U0 21), (U0 22), (U0 23), (U0 24), (U0 25), (U0 26), (U0 27), (U0 28), (U0 29), (U0 30), (U0 31), (U0 32), (U0 33), U53 34]) (by kernel_rfl) (fun U53 => ?_)
    refine h11 _ _ ?_
    refine wp_ret ?_
    try simp only [Exit.then]
    refine ret1 (v := .slice A0_5 n0_5 c0_5) rfl (by kernel_rfl) ?_
    exact ⟨_, _, _, rfl, (by rw [← mixV_end (vs := vs) (plan := pl) (i := i) (by omega)]; exact ho0_5), c21⟩

set_option maxRecDepth 100000 in
set_option maxHeartbeats 1000000 in
theorem l5Shut_any (A2 : Option Addr) (n2 c2 : Nat) (vs : List Vv) (A3 : Option Addr) (n3 c3 : Nat) (pl : List Int) (w : World) (hb : Rd w 4 A2 n2 (valvesV vs)) (hn2 : n2 ≤ 1000000) (hfm2 : Fm A2 n2 c2) (hp3 : Rd w 1 A3 n3 (intsV pl)) (hn3 : n3 ≤ 1000000) :
    Calls Try.prog 108 #[.slice A2 n2 c2, .slice A3 n3 c3] w fun e w' => ∃ A' n' c', e = .returned (.slice A' n' c') ∧ w'.ownsRow w.heap.size 60 4 (.slice A' n' c') n' (valvesV (shutV vs pl)) ∧ Below w.heap.size w w' := by
  have hl2 := rd_valves_len hb
  have hl3 := rd_ints_len hp3
  go_enter Try.func108, Try.ntmps108
  refine wp_seq_k (fun K1 h1 => ?_)
  refine W.region_quiet [(0, false)] (by kernel_rfl) ?_
  refine W.sq (v := .slice none 0 0) rfl (r_assign rfl (by kernel_rfl)) (by kernel_rfl) rfl rfl ?_
  refine W.sch_end (l' := [.slice A2 n2 c2, .slice A3 n3 c3, undef, undef, .slice none 0 0, undef, undef, undef, undef, undef, undef, undef, undef, undef, undef, undef, undef, undef, undef, undef, undef, undef, undef, undef, undef, undef, undef]) (by kernel_rfl) ?_
  refine h1 _ _ ?_
  refine wp_seq_k (fun K2 h2 => ?_)
  refine W.region_plain (row := none) [(0, true), (1, false), (2, true), (3, false)] (by kernel_rfl) ?_
  have s1 := SG.self w none
  refine W.sn (fun b => .slice (some ⟨b, 0, none⟩) 0 0) #[] 60 s1 rfl (by kernel_rfl) rfl (fun _ => by kernel_rfl) (fun b2 w3 hb4 k5 x6 s7 => ?_)
  have lo8 : w.heap.size ≤ b2 := by have := ((SG.belowR (Below.refl _ _) s1 (fun kq e => by cases e))).size; omega
  refine W.sq (v := .slice A2 n2 c2) rfl (r_move rfl (by kernel_rfl)) (by kernel_rfl) rfl rfl ?_
  have ho9 := own_empty (base := w.heap.size) (size := 4) x6 lo8
  replace ho9 : World.ownsRow _ _ _ _ _ _ (valvesV []) := ho9
  replace ho9 : World.ownsRow _ _ _ _ _ _ (valvesV []) := ho9
  refine W.sapR (e := 60) (size := 4) (base := w.heap.size) (v := .slice (some ⟨b2, 0, none⟩) 0 0) (A := A2) (m := n2) (c := c2) s7 rfl rfl rfl rfl (by kernel_rfl) (by kernel_rfl) (by kernel_rfl) ho9 (Rd.kept hb (SG.belowR (Below.refl _ _) s7 (fun kq e => by cases e))) hfm2 (valves_one _) (by omega) (by have := ((SG.belowR (Below.refl _ _) s7 (fun kq e => by cases e))).size; omega) (.inr (fun kq e => by have := World.grownBy.size s1; have := hb4; have e' := Option.some.inj e; simp at e'; omega)) (fun A10 cap11 w12 ho13 hg14 hat15 s16 => ?_)
  have ho13 := own_joinV ho13
  have fr17 : ∀ kq, (.slice A10 (0 + n2) cap11 : Value).ownBlock = some kq → w.heap.size ≤ kq := fun kq e => by
    have hs := World.grownBy.size s7
    rcases hat15 with h | h
    · exact (show ∀ kq, Value.ownBlock _ = some kq → w.heap.size ≤ kq from (fun kq e => by have := World.grownBy.size s1; have := hb4; have e' := Option.some.inj e; simp at e'; omega)) kq (h.symm.trans e)
    · have := Option.some.inj (h.symm.trans e); omega
  replace ho13 : World.ownsRow _ _ _ _ _ _ (valvesV vs) := ho13
  refine W.sq (v := .slice A10 (0 + n2) cap11) rfl (r_assign rfl (by kernel_rfl)) (by kernel_rfl) rfl rfl ?_
  refine W.sch_endU (fun U18 => [.slice A2 n2 c2, .slice A3 n3 c3, undef, undef, .slice none 0 0, .slice A10 (0 + n2) cap11, undef, U18 7, U18 8, U18 9, undef, undef, undef, undef, undef, undef, undef, undef, undef, undef, undef, undef, undef, undef, undef, undef, undef]) (by kernel_rfl) (fun U18 => ?_)
  have c19 := (SG.belowR (Below.refl _ _) s16 (fun kq e => by cases e))
  refine h2 _ _ ?_
  refine wp_seq_k (fun K3 h3 => ?_)
  refine wp_seq_k (fun K4 h4 => ?_)
  refine W.region_quiet [(0, false)] (by kernel_rfl) ?_
  refine W.sq (v := .int .i64 0) rfl (r_assign rfl (by kernel_rfl)) (by kernel_rfl) rfl rfl ?_
  refine W.sch_end (l' := [.slice A2 n2 c2, .slice A3 n3 c3, undef, undef, .slice none 0 0, .slice A10 (0 + n2) cap11, .int .i64 0, (U18 7), (U18 8), (U18 9), undef, undef, undef, undef, undef, undef, undef, undef, undef, undef, undef, undef, undef, undef, undef, undef, undef]) (by kernel_rfl) ?_
  refine h4 _ _ ?_
  refine wp_block ?_
  refine loopK (fun am0 aa0 wl0 => ∃ (i : Nat) (A0_5 : Option Addr) (n0_5 : Nat) (c0_5 : Nat) (U0 : Nat → Value), aa0 = ⟨[.slice A2 n2 c2, .slice A3 n3 c3, undef, undef, .slice none 0 0, .slice A0_5 n0_5 c0_5, .int .i64 ((i : Nat) : Int), (U18 7), (U18 8), (U18 9), U0 10, U0 11, U0 12, U0 13, U0 14, U0 15, U0 16, U0 17, U0 18, U0 19, U0 20, U0 21, U0 22, U0 23, U0 24, U0 25, undef].toArray, []⟩ ∧ (am0 = n2 - i) ∧ (i ≤ n2) ∧ (wl0.ownsRow w.heap.size 60 4 (.slice A0_5 n0_5 c0_5) n0_5 (valvesV (mixV vs pl i))) ∧ (Below w.heap.size w wl0)) (n2 - 0) ?_ ?_
  · exact ⟨0, A10, (0 + n2), cap11, (fun iU9 => [.slice A2 n2 c2, .slice A3 n3 c3, undef, undef, .slice none 0 0, .slice A10 (0 + n2) cap11, .int .i64 0, (U18 7), (U18 8), (U18 9), undef, undef, undef, undef, undef, undef, undef, undef, undef, undef, undef, undef, undef, undef, undef, undef, undef].getD iU9 undef), (by kernel_rfl), rfl, (Nat.zero_le _), (by rw [mixV_zero]; exact ho13), c19⟩
  rintro am0 aa0 wl0 K5 h5 ⟨i, A0_5, n0_5, c0_5, U0, rfl, rfl, hi, ho0_5, c20⟩
  have hml := mixV_len vs pl i
  have hln := rd_valves_len (own_rd ho0_5)
  refine wp_seq_k (fun K6 h6 => ?_)
  refine wp_seq_k (fun K7 h7 => ?_)
  refine W.region_quiet [(0, false), (1, false), (2, false), (3, false)] (by kernel_rfl) ?_
  refine W.sq (v := .int .i64 ((i : Nat) : Int)) rfl (r_move rfl (by kernel_rfl)) (by kernel_rfl) rfl rfl ?_
  refine W.sq (v := .slice A0_5 n0_5 c0_5) rfl (r_move rfl (by kernel_rfl)) (by kernel_rfl) rfl rfl ?_
  refine W.sq (v := .int .i64 ((n0_5 : Nat) : Int)) rfl (r_len (A := A0_5) (n := n0_5) (c := c0_5) rfl (by kernel_rfl) (by kernel_rfl)) (by kernel_rfl) rfl rfl ?_
  by_cases q21 : (((i : Nat) : Int) : Int) < (((n0_5 : Nat) : Int) : Int)
  · refine W.sq (v := .bool true) rfl (r_lss (m := ((i : Nat) : Int)) (n := ((n0_5 : Nat) : Int)) rfl (by kernel_rfl) (by kernel_rfl) (decide_eq_true q21)) (by kernel_rfl) rfl rfl ?_
    refine W.sch_endU (fun U22 => [.slice A2 n2 c2, .slice A3 n3 c3, undef, undef, .slice none 0 0, .slice A0_5 n0_5 c0_5, .int .i64 ((i : Nat) : Int), (U18 7), (U18 8), (U18 9), U22 10, U22 11, U22 12, .bool true, (U0 14), (U0 15), (U0 16), (U0 17), (U0 18), (U0 19), (U0 20), (U0 21), (U0 22), (U0 23), (U0 24), (U0 25), undef]) (by kernel_rfl) (fun U22 => ?_)
    refine h7 _ _ ?_
    refine wp_cond_true (by kernel_rfl) ?_
    refine wp_skip ?_
    refine h6 _ _ ?_
    refine wp_seq_k (fun K8 h8 => ?_)
    refine wp_block ?_
    refine wp_seq_k (fun K9 h9 => ?_)
    refine W.region_plain (row := none) [(0, false), (1, false), (2, false), (3, false), (4, false), (5, false), (6, true)] (by kernel_rfl) ?_
    have s23 := SG.self wl0 none
    refine W.sq (v := .slice A3 n3 c3) rfl (r_move rfl (by kernel_rfl)) (by kernel_rfl) rfl rfl ?_
    refine W.sq (v := .slice A0_5 n0_5 c0_5) rfl (r_move rfl (by kernel_rfl)) (by kernel_rfl) rfl rfl ?_
    refine W.sq (v := .int .i64 ((i : Nat) : Int)) rfl (r_move rfl (by kernel_rfl)) (by kernel_rfl) rfl rfl ?_
    obtain ⟨x9, hx9⟩ := get_of (zs := vs) (k := i) (by omega)
    have hmx := mixV_at (plan := pl) hx9
    obtain ⟨g24, rfl, _, _⟩ := own_addr ho0_5 (by omega)
    refine W.sq (v := .pointer (some ⟨g24, 0 + i * 4, none⟩)) rfl (r_idx (n := n0_5) (c := c0_5) (k := i) (size := 4) rfl (by kernel_rfl) rfl (by kernel_rfl) (by kernel_rfl) (by omega)) (by kernel_rfl) rfl rfl ?_
    refine W.sq (v := .pointer (some ⟨g24, 0 + i * 4, none⟩)) rfl (r_field0 rfl (by kernel_rfl) (by kernel_rfl)) (by kernel_rfl) rfl rfl ?_
    refine W.sq (v := .int .i64 x9.id) rfl (r_load rfl (by kernel_rfl) (by kernel_rfl) (sgS ((own_atV ho0_5 hmx).1) (by simp))) (by kernel_rfl) rfl rfl ?_
    refine W.sc (vs := [.slice A3 n3 c3, .int .i64 x9.id]) rfl rfl (by kernel_rfl) (by kernel_rfl) (by kernel_rfl) rfl (l1Has_any A3 n3 c3 pl x9.id _ (Rd.kept hp3 (SG.belowR c20 s23 (fun kq e => by cases e))) (by omega)) ?_
    rintro e w26 ⟨rfl, b25⟩
    have s27 := SG.of_below s23 b25
    refine ⟨_, rfl, s27, ?_⟩
    have ho28 := own_kept ho0_5 b25
    rcases Bool.eq_false_or_eq_true (pl.contains x9.id) with q29 | q29
    · rw [q29]
      refine W.sch_endU (fun U30 => [.slice A2 n2 c2, .slice A3 n3 c3, undef, undef, .slice none 0 0, .slice (some ⟨g24, 0, none⟩) n0_5 c0_5, .int .i64 ((i : Nat) : Int), (U18 7), (U18 8), (U18 9), (U22 10), (U22 11), (U22 12), .bool true, (U0 14), (U0 15), U30 16, U30 17, U30 18, U30 19, U30 20, U30 21, .bool true, (U0 23), (U0 24), (U0 25), undef]) (by kernel_rfl) (fun U30 => ?_)
      have c31 := (SG.belowR c20 s27 (fun kq e => by cases e))
      refine h9 _ _ ?_
      refine wp_cond_true (by kernel_rfl) ?_
      refine W.region_plain (row := none) [(0, false), (1, false), (2, true), (3, false)] (by kernel_rfl) ?_
      have s32 := SG.self w26 none
      refine W.sq (v := .slice (some ⟨g24, 0, none⟩) n0_5 c0_5) rfl (r_move rfl (by kernel_rfl)) (by kernel_rfl) rfl rfl ?_
      refine W.sq (v := .int .i64 ((i : Nat) : Int)) rfl (r_move rfl (by kernel_rfl)) (by kernel_rfl) rfl rfl ?_
      have z38 := ((SG.belowR c31 s32 (fun kq e => by cases e))).size
      refine W.sc (vs := [.slice (some ⟨g24, 0, none⟩) n0_5 c0_5, .int .i64 ((i : Nat) : Int), .bool true]) rfl rfl (by kernel_rfl) (by kernel_rfl) (by kernel_rfl) rfl (l4Turned_any (some ⟨g24, 0, none⟩) n0_5 c0_5 (mixV vs pl i) i x9 true _ (own_rd ho28) (by omega) (own_fm ho28) hmx) ?_
      rintro e w41 ⟨A33, n34, c35, rfl, ho36, b40⟩
      have s42 := SG.of_below s32 b40
      refine ⟨_, rfl, s42, ?_⟩
      have ho43 := own_kept ho28 b40
      have ho37 := own_base (base' := w.heap.size) ho36 z38
      refine W.sq (v := .slice A33 n34 c35) rfl (r_assign rfl (by kernel_rfl)) (by kernel_rfl) rfl rfl ?_
      refine W.sch_endU (fun U44 => [.slice A2 n2 c2, .slice A3 n3 c3, undef, undef, .slice none 0 0, .slice A33 n34 c35, .int .i64 ((i : Nat) : Int), (U18 7), (U18 8), (U18 9), (U22 10), (U22 11), (U22 12), .bool true, (U0 14), (U0 15), (U30 16), (U30 17), (U30 18), (U30 19), (U30 20), (U30 21), .bool true, U44 23, U44 24, U44 25, undef]) (by kernel_rfl) (fun U44 => ?_)
      have c45 := (SG.belowR c31 s42 (fun kq e => by cases e))
      refine h8 _ _ ?_
      refine W.region_quiet [(0, false), (1, false), (2, false)] (by kernel_rfl) ?_
      refine W.sq (v := .int .i64 ((i : Nat) : Int)) rfl (r_move rfl (by kernel_rfl)) (by kernel_rfl) rfl rfl ?_
      refine W.sq (v := .int .i64 ((i + 1 : Nat) : Int)) rfl (r_add (m := ((i : Nat) : Int)) (n := 1) (z := ((i + 1 : Nat) : Int)) rfl (by kernel_rfl) (by kernel_rfl) (by omega) (by omega)) (by kernel_rfl) rfl rfl ?_
      refine W.sq (v := .int .i64 ((i + 1 : Nat) : Int)) rfl (r_assign rfl (by kernel_rfl)) (by kernel_rfl) rfl rfl ?_
      refine W.sch_endU (fun U46 => [.slice A2 n2 c2, .slice A3 n3 c3, undef, undef, .slice none 0 0, .slice A33 n34 c35, .int .i64 ((i + 1 : Nat) : Int), (U18 7), (U18 8), (U18 9), (U22 10), (U22 11), (U22 12), .bool true, U46 14, U46 15, (U30 16), (U30 17), (U30 18), (U30 19), (U30 20), (U30 21), .bool true, (U44 23), (U44 24), (U44 25), undef]) (by kernel_rfl) (fun U46 => ?_)
      exact h5 _ _ _ (by omega : (n2 - (i + 1)) < _) ⟨i + 1, A33, n34, c35, (fun iU9 => [.slice A2 n2 c2, .slice A3 n3 c3, undef, undef, .slice none 0 0, .slice A33 n34 c35, .int .i64 ((i + 1 : Nat) : Int), (U18 7), (U18 8), (U18 9), (U22 10), (U22 11), (U22 12), .bool true, (U46 14), (U46 15), (U30 16), (U30 17), (U30 18), (U30 19), (U30 20), (U30 21), .bool true, (U44 23), (U44 24), (U44 25), undef].getD iU9 undef), (by kernel_rfl), rfl, (by omega), (by rw [(mixV_next hx9).trans (by rw [shutX_true (.inr q29)])]; exact ho37), c45⟩
    · rw [q29]
      refine W.sch_endU (fun U47 => [.slice A2 n2 c2, .slice A3 n3 c3, undef, undef, .slice none 0 0, .slice (some ⟨g24, 0, none⟩) n0_5 c0_5, .int .i64 ((i : Nat) : Int), (U18 7), (U18 8), (U18 9), (U22 10), (U22 11), (U22 12), .bool true, (U0 14), (U0 15), U47 16, U47 17, U47 18, U47 19, U47 20, U47 21, .bool false, (U0 23), (U0 24), (U0 25), undef]) (by kernel_rfl) (fun U47 => ?_)
      have c48 := (SG.belowR c20 s27 (fun kq e => by cases e))
      refine h9 _ _ ?_
      refine wp_cond_false (by kernel_rfl) ?_
      refine wp_skip ?_
      refine h8 _ _ ?_
      refine W.region_quiet [(0, false), (1, false), (2, false)] (by kernel_rfl) ?_
      refine W.sq (v := .int .i64 ((i : Nat) : Int)) rfl (r_move rfl (by kernel_rfl)) (by kernel_rfl) rfl rfl ?_
      refine W.sq (v := .int .i64 ((i + 1 : Nat) : Int)) rfl (r_add (m := ((i : Nat) : Int)) (n := 1) (z := ((i + 1 : Nat) : Int)) rfl (by kernel_rfl) (by kernel_rfl) (by omega) (by omega)) (by kernel_rfl) rfl rfl ?_
      refine W.sq (v := .int .i64 ((i + 1 : Nat) : Int)) rfl (r_assign rfl (by kernel_rfl)) (by kernel_rfl) rfl rfl ?_
      refine W.sch_endU (fun U49 => [.slice A2 n2 c2, .slice A3 n3 c3, undef, undef, .slice none 0 0, .slice (some ⟨g24, 0, none⟩) n0_5 c0_5, .int .i64 ((i + 1 : Nat) : Int), (U18 7), (U18 8), (U18 9), (U22 10), (U22 11), (U22 12), .bool true, U49 14, U49 15, (U47 16), (U47 17), (U47 18), (U47 19), (U47 20), (U47 21), .bool false, (U0 23), (U0 24), (U0 25), undef]) (by kernel_rfl) (fun U49 => ?_)
      exact h5 _ _ _ (by omega : (n2 - (i + 1)) < _) ⟨i + 1, (some ⟨g24, 0, none⟩), n0_5, c0_5, (fun iU9 => [.slice A2 n2 c2, .slice A3 n3 c3, undef, undef, .slice none 0 0, .slice (some ⟨g24, 0, none⟩) n0_5 c0_5, .int .i64 ((i + 1 : Nat) : Int), (U18 7), (U18 8), (U18 9), (U22 10), (U22 11), (U22 12), .bool true, (U49 14), (U49 15), (U47 16), (U47 17), (U47 18), (U47 19), (U47 20), (U47 21), .bool false, (U0 23), (U0 24), (U0 25), undef].getD iU9 undef), (by kernel_rfl), rfl, (by omega), (by rw [mixV_skip hx9 q29]; exact ho28), c48⟩
  · refine W.sq (v := .bool false) rfl (r_lss (m := ((i : Nat) : Int)) (n := ((n0_5 : Nat) : Int)) rfl (by kernel_rfl) (by kernel_rfl) (decide_eq_false q21)) (by kernel_rfl) rfl rfl ?_
    refine W.sch_endU (fun U50 => [.slice A2 n2 c2, .slice A3 n3 c3, undef, undef, .slice none 0 0, .slice A0_5 n0_5 c0_5, .int .i64 ((i : Nat) : Int), (U18 7), (U18 8), (U18 9), U50 10, U50 11, U50 12, .bool false, (U0 14), (U0 15), (U0 16), (U0 17), (U0 18), (U0 19), (U0 20), (U0 21), (U0 22), (U0 23), (U0 24), (U0 25), undef]) (by kernel_rfl) (fun U50 => ?_)
    refine h7 _ _ ?_
    refine wp_cond_false (by kernel_rfl) ?_
    refine wp_exit ?_
    refine h3 _ _ ?_
    refine wp_seq_k (fun K10 h10 => ?_)
    refine W.region_quiet [(0, false), (1, false)] (by kernel_rfl) ?_
    refine W.sq (v := .slice A0_5 n0_5 c0_5) rfl (r_move rfl (by kernel_rfl)) (by kernel_rfl) rfl rfl ?_
    refine W.sq (v := .slice A0_5 n0_5 c0_5) rfl (r_assign rfl (by kernel_rfl)) (by kernel_rfl) rfl rfl ?_
    refine W.sch_endU (fun U51 => [.slice A2 n2 c2, .slice A3 n3 c3, undef, undef, .slice A0_5 n0_5 c0_5, .slice A0_5 n0_5 c0_5, .int .i64 ((i : Nat) : Int), (U18 7), (U18 8), (U18 9), (U50 10), (U50 11), (U50 12), .bool false, (U0 14), (U0 15), (U0 16), (U0 17), (U0 18), (U0 19), (U0 20), (U0 21), (U0 22), (U0 23), (U0 24), (U0 25), U51 26]) (by kernel_rfl) (fun U51 => ?_)
    refine h10 _ _ ?_
    refine wp_ret ?_
    try simp only [Exit.then]
    refine ret1 (v := .slice A0_5 n0_5 c0_5) rfl (by kernel_rfl) ?_
    exact ⟨_, _, _, rfl, (by rw [← mixV_end (vs := vs) (plan := pl) (i := i) (by omega)]; exact ho0_5), c20⟩

set_option maxRecDepth 100000 in
set_option maxHeartbeats 1000000 in
theorem isolates_any (m : Int) (A : Option Addr) (n c : Nat) (ps : List Pp) (A2 : Option Addr) (n2 c2 : Nat) (vs : List Vv) (s id : Int) (A3 : Option Addr) (n3 c3 : Nat) (pl : List Int) (w : World) (ha : Rd w 4 A n (pipesV ps)) (hb : Rd w 4 A2 n2 (valvesV vs)) (hn : n ≤ 1048576) (hn2 : n2 ≤ 1048576) (hfm2 : Fm A2 n2 c2) (hv9 : GoodVal m ps vs) (hs : 1 ≤ s ∧ s ≤ m) (hfa : 0 ≤ findL ps id) (hp3 : Rd w 1 A3 n3 (intsV pl)) (hn3 : n3 ≤ 1000000) :
    Calls Try.prog 59 #[.agg #[.int .i64 m, .slice A n c], .slice A2 n2 c2, .int .i64 s, .int .i64 id, .slice A3 n3 c3] w fun e w' => e = .returned (.bool (cutB ps vs s id pl)) ∧ Below w.heap.size w w' := by
  have hl := rd_pipes_len ha
  have hl2 := rd_valves_len hb
  have hl3 := rd_ints_len hp3
  have hg := hv9.net
  have hgl := hg.lo
  have hgh := hg.hi
  have hp := hg.pipesIn
  have hlen10 := hg.len
  have hu := hv9.uniq
  have hvl := hv9.len
  have hfl := findL_lt ps id
  go_enter Try.func59, Try.ntmps59
  refine wp_seq_k (fun K1 h1 => ?_)
  refine W.region_plain (row := none) [(0, true), (1, false)] (by kernel_rfl) ?_
  have s1 := SG.self w none
  refine W.sn (fun b => .pointer (some ⟨b, 0, none⟩)) #[.int .i64 m, .slice A n c] 32 s1 rfl (by kernel_rfl) rfl (fun _ => by kernel_rfl) (fun b2 w3 hb4 k5 x6 s7 => ?_)
  have lo8 : w.heap.size ≤ b2 := by have := ((SG.belowR (Below.refl _ _) s1 (fun kq e => by cases e))).size; omega
  refine W.sq (v := .bool false) rfl (r_assign rfl (by kernel_rfl)) (by kernel_rfl) rfl rfl ?_
  refine W.sch_end (l' := [.agg #[.int .i64 m, .slice A n c], .slice A2 n2 c2, .int .i64 s, .int .i64 id, .slice A3 n3 c3, .pointer (some ⟨b2, 0, none⟩), undef, undef, undef, undef, .bool false, undef, undef, undef, undef, undef, undef, undef, undef, undef, undef, undef, undef, undef, undef]) (by kernel_rfl) ?_
  have c9 := (SG.belowR (Below.refl _ _) s7 (fun kq e => by cases e))
  refine h1 _ _ ?_
  refine wp_seq_k (fun K2 h2 => ?_)
  refine W.region_sch (row := none) (Sch.of [(0, false), (1, false), (2, false), (4, false), (6, false), (7, false), (3, true), (5, true), (10, false), (8, true), (9, true), (11, false), (12, true), (13, false), (14, false)]) (by kernel_rfl) (by kernel_rfl) (fun _ d _ _ _ h => by cases d <;> exact h) (by kernel_rfl) (fun w10 e11 s12 => ?_)
  refine W.sq (v := .agg #[.int .i64 m, .slice A n c]) rfl (r_load2 rfl (by kernel_rfl) (by kernel_rfl) (by kernel_rfl) (sgS (blk_cell (j := 0) x6 (by kernel_rfl)) (by simp)) (sgS (blk_cell (j := 1) x6 (by kernel_rfl)) (by simp))) (by kernel_rfl) rfl rfl ?_
  refine W.sq (v := .slice A2 n2 c2) rfl (r_move rfl (by kernel_rfl)) (by kernel_rfl) rfl rfl ?_
  refine W.sq (v := .slice A3 n3 c3) rfl (r_move rfl (by kernel_rfl)) (by kernel_rfl) rfl rfl ?_
  refine W.sq (v := .int .i64 s) rfl (r_move rfl (by kernel_rfl)) (by kernel_rfl) rfl rfl ?_
  refine W.sq (v := .agg #[.int .i64 m, .slice A n c]) rfl (r_load2 rfl (by kernel_rfl) (by kernel_rfl) (by kernel_rfl) (sgS (blk_cell (j := 0) x6 (by kernel_rfl)) (by simp)) (sgS (blk_cell (j := 1) x6 (by kernel_rfl)) (by simp))) (by kernel_rfl) rfl rfl ?_
  refine W.sq (v := .int .i64 id) rfl (r_move rfl (by kernel_rfl)) (by kernel_rfl) rfl rfl ?_
  refine W.sc (vs := [.slice A2 n2 c2, .slice A3 n3 c3]) rfl rfl (by kernel_rfl) (by kernel_rfl) (by kernel_rfl) rfl (shutToo_any A2 n2 c2 vs A3 n3 c3 pl _ (Rd.kept hb (SG.belowR c9 s12 (fun kq e => by cases e))) (by omega) hfm2 (Rd.kept hp3 (SG.belowR c9 s12 (fun kq e => by cases e))) (by omega)) ?_
  rintro e w22 ⟨A13, n14, c15, rfl, ho16, b21⟩
  have s23 := SG.of_below s12 b21
  refine ⟨_, rfl, s23, ?_⟩
  have rd17 := own_rd ho16
  have fm20 := own_fm ho16
  have hl18 := rd_valves_len rd17
  have sp24 := sp_freshB (g := b2) ho16 (Nat.lt_of_lt_of_le (blk_lt x6) (World.grownBy.size s12))
  have := shutV_len vs pl
  refine W.sc (vs := [.agg #[.int .i64 m, .slice A n c], .slice A13 n14 c15, .int .i64 s]) rfl rfl (by kernel_rfl) (by kernel_rfl) (by kernel_rfl) rfl (watered_any m A n c ps A13 n14 c15 (shutV vs pl) (s) (s).toNat _ (Rd.kept ha (SG.belowR c9 s23 (fun kq e => by cases e))) rd17 (by omega) (by omega) hp (by omega) (by omega) (uniqV_shut hu pl) (by omega) (by omega)) ?_
  rintro e w31 ⟨pb25, rfl, lo29, rd26, b30⟩
  have s32 := SG.of_below s23 b30
  refine ⟨_, rfl, s32, ?_⟩
  have rd33 := Rd.kept rd17 b30
  have sp34 : Sp (some ⟨pb25, 0, none⟩) 19 (some b2) := sp_ptrB (Nat.lt_of_lt_of_le (Nat.lt_of_lt_of_le (blk_lt x6) (World.grownBy.size s23)) lo29)
  have hl27 := rd_bools_len rd26
  rw [wetL_len] at hl27
  have hl27 : (wetL (linked ps (openQ (shutV vs pl) true)) (s)).length = 19 := wetL_len _ _
  refine W.sq (v := .pointer (some ⟨pb25, 0, none⟩)) rfl (r_nilCheck rfl (by kernel_rfl)) (by kernel_rfl) rfl rfl ?_
  refine W.sc (vs := [.agg #[.int .i64 m, .slice A n c], .int .i64 id]) rfl rfl (by kernel_rfl) (by kernel_rfl) (by kernel_rfl) rfl (pipeIndex_any m A n c ps id _ (Rd.kept ha (SG.belowR c9 s32 (fun kq e => by cases e))) (by omega)) ?_
  rintro e w36 ⟨rfl, b35⟩
  have s37 := SG.of_below s32 b35
  refine ⟨_, rfl, s37, ?_⟩
  have rd38 := Rd.kept rd33 b35
  have rd39 := Rd.kept rd26 b35
  refine W.sc (vs := [.int .i64 (findL ps id)]) rfl rfl (by kernel_rfl) (by kernel_rfl) (by kernel_rfl) rfl (element_any (findL ps id) _ (by omega)) ?_
  rintro e w' ⟨rfl, rfl⟩
  refine ⟨_, rfl, s37, ?_⟩
  obtain ⟨x42, hx43⟩ := get_of (zs := (wetL (linked ps (openQ (shutV vs pl) true)) (s))) (k := (9 + findL ps id).toNat) (by have := hl27; omega)
  obtain ⟨hb44, hc45⟩ := Rd.elBool rd39 hx43
  refine W.sq (v := .pointer (some ⟨pb25, (9 + findL ps id).toNat, none⟩)) rfl (r_idxA (len := 19) (k := (9 + findL ps id).toNat) rfl (by kernel_rfl) (evk (z := 9 + (findL ps id)) (by kernel_rfl) (by omega)) (by kernel_rfl) (by omega)) (by kernel_rfl) rfl rfl ?_
  refine W.slq (v := .bool x42) s37 rfl (r_load rfl (by kernel_rfl) (by kernel_rfl) (eqS hc45)) (by kernel_rfl) rfl ?_
  refine W.sq (v := .bool (!x42)) rfl (r_not (b := x42) rfl (by kernel_rfl) rfl) (by kernel_rfl) rfl rfl ?_
  refine W.sq (v := .bool (!x42)) rfl (r_assign rfl (by kernel_rfl)) (by kernel_rfl) rfl rfl ?_
  refine W.sch_endU (fun U46 => [.agg #[.int .i64 m, .slice A n c], .slice A2 n2 c2, .int .i64 s, .int .i64 id, .slice A3 n3 c3, .pointer (some ⟨b2, 0, none⟩), undef, undef, undef, undef, .bool (!x42), U46 11, U46 12, U46 13, U46 14, U46 15, U46 16, U46 17, U46 18, U46 19, U46 20, U46 21, U46 22, U46 23, U46 24]) (by kernel_rfl) (fun U46 => ?_)
  have x6 := SG.blk s37 x6 (by simp)
  have c47 := (SG.belowR c9 s37 (fun kq e => by cases e))
  refine h2 _ _ ?_
  refine wp_ret ?_
  try simp only [Exit.then]
  refine ret1 (v := .bool (!x42)) rfl (by kernel_rfl) ?_
  exact ⟨by unfold cutB; rw [← wet_eqI (b := 9 + findL ps id) hx43 (by omega)], c47⟩

set_option maxRecDepth 100000 in
set_option maxHeartbeats 1000000 in
theorem l5Cut_any (m : Int) (A : Option Addr) (n c : Nat) (ps : List Pp) (A2 : Option Addr) (n2 c2 : Nat) (vs : List Vv) (s id : Int) (A3 : Option Addr) (n3 c3 : Nat) (pl : List Int) (w : World) (ha : Rd w 4 A n (pipesV ps)) (hb : Rd w 4 A2 n2 (valvesV vs)) (hn : n ≤ 1048576) (hn2 : n2 ≤ 1048576) (hfm2 : Fm A2 n2 c2) (hv9 : GoodVal m ps vs) (hs : 1 ≤ s ∧ s ≤ m) (hfa : 0 ≤ findL ps id) (hp3 : Rd w 1 A3 n3 (intsV pl)) (hn3 : n3 ≤ 1000000) :
    Calls Try.prog 75 #[.agg #[.int .i64 m, .slice A n c], .slice A2 n2 c2, .int .i64 s, .int .i64 id, .slice A3 n3 c3] w fun e w' => e = .returned (.bool (cutB ps vs s id pl)) ∧ Below w.heap.size w w' := by
  have hl := rd_pipes_len ha
  have hl2 := rd_valves_len hb
  have hl3 := rd_ints_len hp3
  have hg := hv9.net
  have hgl := hg.lo
  have hgh := hg.hi
  have hp := hg.pipesIn
  have hlen10 := hg.len
  have hu := hv9.uniq
  have hvl := hv9.len
  have hfl := findL_lt ps id
  go_enter Try.func75, Try.ntmps75
  refine wp_seq_k (fun K1 h1 => ?_)
  refine W.region_plain (row := none) [(0, true), (1, false)] (by kernel_rfl) ?_
  have s1 := SG.self w none
  refine W.sn (fun b => .pointer (some ⟨b, 0, none⟩)) #[.int .i64 m, .slice A n c] 32 s1 rfl (by kernel_rfl) rfl (fun _ => by kernel_rfl) (fun b2 w3 hb4 k5 x6 s7 => ?_)
  have lo8 : w.heap.size ≤ b2 := by have := ((SG.belowR (Below.refl _ _) s1 (fun kq e => by cases e))).size; omega
  refine W.sq (v := .bool false) rfl (r_assign rfl (by kernel_rfl)) (by kernel_rfl) rfl rfl ?_
  refine W.sch_end (l' := [.agg #[.int .i64 m, .slice A n c], .slice A2 n2 c2, .int .i64 s, .int .i64 id, .slice A3 n3 c3, .pointer (some ⟨b2, 0, none⟩), undef, undef, undef, undef, .bool false, undef, undef, undef, undef, undef, undef, undef, undef, undef, undef, undef, undef, undef, undef, undef, undef]) (by kernel_rfl) ?_
  have c9 := (SG.belowR (Below.refl _ _) s7 (fun kq e => by cases e))
  refine h1 _ _ ?_
  refine wp_seq_k (fun K2 h2 => ?_)
  refine W.region_sch (row := none) (Sch.of [(0, false), (1, false), (2, false), (4, false), (3, true), (5, true), (6, false), (7, false), (8, false), (9, false), (10, false)]) (by kernel_rfl) (by kernel_rfl) (fun _ d _ _ _ h => by cases d <;> exact h) (by kernel_rfl) (fun w10 e11 s12 => ?_)
  refine W.sq (v := .agg #[.int .i64 m, .slice A n c]) rfl (r_load2 rfl (by kernel_rfl) (by kernel_rfl) (by kernel_rfl) (sgS (blk_cell (j := 0) x6 (by kernel_rfl)) (by simp)) (sgS (blk_cell (j := 1) x6 (by kernel_rfl)) (by simp))) (by kernel_rfl) rfl rfl ?_
  refine W.sq (v := .slice A2 n2 c2) rfl (r_move rfl (by kernel_rfl)) (by kernel_rfl) rfl rfl ?_
  refine W.sq (v := .slice A3 n3 c3) rfl (r_move rfl (by kernel_rfl)) (by kernel_rfl) rfl rfl ?_
  refine W.sq (v := .int .i64 s) rfl (r_move rfl (by kernel_rfl)) (by kernel_rfl) rfl rfl ?_
  refine W.sc (vs := [.slice A2 n2 c2, .slice A3 n3 c3]) rfl rfl (by kernel_rfl) (by kernel_rfl) (by kernel_rfl) rfl (l5Shut_any A2 n2 c2 vs A3 n3 c3 pl _ (Rd.kept hb (SG.belowR c9 s12 (fun kq e => by cases e))) (by omega) hfm2 (Rd.kept hp3 (SG.belowR c9 s12 (fun kq e => by cases e))) (by omega)) ?_
  rintro e w22 ⟨A13, n14, c15, rfl, ho16, b21⟩
  have s23 := SG.of_below s12 b21
  refine ⟨_, rfl, s23, ?_⟩
  have rd17 := own_rd ho16
  have fm20 := own_fm ho16
  have hl18 := rd_valves_len rd17
  have sp24 := sp_freshB (g := b2) ho16 (Nat.lt_of_lt_of_le (blk_lt x6) (World.grownBy.size s12))
  have := shutV_len vs pl
  refine W.sc (vs := [.agg #[.int .i64 m, .slice A n c], .slice A13 n14 c15, .int .i64 s]) rfl rfl (by kernel_rfl) (by kernel_rfl) (by kernel_rfl) rfl (l4Dry_any m A n c ps A13 n14 c15 (shutV vs pl) s _ (Rd.kept ha (SG.belowR c9 s23 (fun kq e => by cases e))) rd17 (by omega) (by omega) hp (by omega) (by omega) (by omega)) ?_
  rintro e w40 ⟨A25, n26, c27, A28, n29, c30, rfl, rd31, fm32, rd33, fm34, b39⟩
  have s41 := SG.of_below s23 b39
  refine ⟨_, rfl, s41, ?_⟩
  have rd42 := Rd.kept rd17 b39
  have hl37 := rd_ints_len rd31
  have hl38 := rd_ints_len rd33
  have := nodesL_len (linked ps (openQ (shutV vs pl) true)) m.toNat s false
  have := idxL_len (linked ps (openQ (shutV vs pl) true)) ps.length s false
  refine W.sq (v := .tuple #[.slice A25 n26 c27, .slice A28 n29 c30]) rfl (r_move rfl (by kernel_rfl)) (by kernel_rfl) rfl rfl ?_
  refine W.sq (v := .slice A25 n26 c27) rfl (r_extract (vs := #[.slice A25 n26 c27, .slice A28 n29 c30]) rfl (by kernel_rfl) (by kernel_rfl)) (by kernel_rfl) rfl rfl ?_
  refine W.sq (v := .slice A28 n29 c30) rfl (r_extract (vs := #[.slice A25 n26 c27, .slice A28 n29 c30]) rfl (by kernel_rfl) (by kernel_rfl)) (by kernel_rfl) rfl rfl ?_
  refine W.sq (v := .slice A25 n26 c27) rfl (r_assign rfl (by kernel_rfl)) (by kernel_rfl) rfl rfl ?_
  refine W.sq (v := .slice A28 n29 c30) rfl (r_assign rfl (by kernel_rfl)) (by kernel_rfl) rfl rfl ?_
  refine W.sch_endU (fun U43 => [.agg #[.int .i64 m, .slice A n c], .slice A2 n2 c2, .int .i64 s, .int .i64 id, .slice A3 n3 c3, .pointer (some ⟨b2, 0, none⟩), undef, undef, undef, undef, .bool false, U43 11, .slice A28 n29 c30, U43 13, U43 14, U43 15, U43 16, U43 17, U43 18, U43 19, U43 20, U43 21, undef, undef, undef, undef, undef]) (by kernel_rfl) (fun U43 => ?_)
  have x6 := SG.blk s41 x6 (by simp)
  have c44 := (SG.belowR c9 s41 (fun kq e => by cases e))
  refine h2 _ _ ?_
  refine wp_seq_k (fun K3 h3 => ?_)
  refine W.region_plain (row := none) [(0, false), (1, false), (2, false), (3, true), (4, true), (5, false)] (by kernel_rfl) ?_
  have s45 := SG.self w40 none
  refine W.sq (v := .slice A28 n29 c30) rfl (r_move rfl (by kernel_rfl)) (by kernel_rfl) rfl rfl ?_
  refine W.sq (v := .agg #[.int .i64 m, .slice A n c]) rfl (r_load2 rfl (by kernel_rfl) (by kernel_rfl) (by kernel_rfl) (sgS (blk_cell (j := 0) x6 (by kernel_rfl)) (by simp)) (sgS (blk_cell (j := 1) x6 (by kernel_rfl)) (by simp))) (by kernel_rfl) rfl rfl ?_
  refine W.sq (v := .int .i64 id) rfl (r_move rfl (by kernel_rfl)) (by kernel_rfl) rfl rfl ?_
  refine W.sc (vs := [.agg #[.int .i64 m, .slice A n c], .int .i64 id]) rfl rfl (by kernel_rfl) (by kernel_rfl) (by kernel_rfl) rfl (l2Find_any m A n c ps id _ (Rd.kept ha (SG.belowR c44 s45 (fun kq e => by cases e))) (by omega)) ?_
  rintro e w47 ⟨rfl, b46⟩
  have s48 := SG.of_below s45 b46
  refine ⟨_, rfl, s48, ?_⟩
  refine W.sc (vs := [.slice A28 n29 c30, .int .i64 (findL ps id)]) rfl rfl (by kernel_rfl) (by kernel_rfl) (by kernel_rfl) rfl (l1Has_any A28 n29 c30 (idxL (linked ps (openQ (shutV vs pl) true)) ps.length s false) (findL ps id) _ (Rd.kept rd33 (SG.below s48)) (by omega)) ?_
  rintro e w50 ⟨rfl, b49⟩
  have s51 := SG.of_below s48 b49
  refine ⟨_, rfl, s51, ?_⟩
  refine W.sq (v := .bool ((idxL (linked ps (openQ (shutV vs pl) true)) ps.length s false).contains (findL ps id))) rfl (r_assign rfl (by kernel_rfl)) (by kernel_rfl) rfl rfl ?_
  refine W.sch_endU (fun U52 => [.agg #[.int .i64 m, .slice A n c], .slice A2 n2 c2, .int .i64 s, .int .i64 id, .slice A3 n3 c3, .pointer (some ⟨b2, 0, none⟩), undef, undef, undef, undef, .bool ((idxL (linked ps (openQ (shutV vs pl) true)) ps.length s false).contains (findL ps id)), (U43 11), .slice A28 n29 c30, (U43 13), (U43 14), (U43 15), (U43 16), (U43 17), (U43 18), (U43 19), (U43 20), (U43 21), U52 22, U52 23, U52 24, U52 25, U52 26]) (by kernel_rfl) (fun U52 => ?_)
  have x6 := SG.blk s51 x6 (by simp)
  have c53 := (SG.belowR c44 s51 (fun kq e => by cases e))
  have rd54 := Rd.kept rd42 (SG.below s51)
  have rd55 := Rd.kept rd31 (SG.below s51)
  have rd56 := Rd.kept rd33 (SG.below s51)
  refine h3 _ _ ?_
  refine wp_ret ?_
  try simp only [Exit.then]
  refine ret1 (v := .bool ((idxL (linked ps (openQ (shutV vs pl) true)) ps.length s false).contains (findL ps id))) rfl (by kernel_rfl) ?_
  exact ⟨by unfold cutB; rw [idxL_hasF (by omega)], c53⟩

set_option maxRecDepth 100000 in
set_option maxHeartbeats 1000000 in
theorem canBurst_any (m : Int) (A : Option Addr) (n c : Nat) (ps : List Pp) (A2 : Option Addr) (n2 c2 : Nat) (vs : List Vv) (s id : Int) (w : World) (ha : Rd w 4 A n (pipesV ps)) (hb : Rd w 4 A2 n2 (valvesV vs)) (hn : n ≤ 1048576) (hn2 : n2 ≤ 1048576) (hfm2 : Fm A2 n2 c2) :
    Calls Try.prog 56 #[.agg #[.int .i64 m, .slice A n c], .slice A2 n2 c2, .int .i64 s, .int .i64 id] w fun e w' => e = .returned (.bool (canB m ps vs s id)) ∧ Below w.heap.size w w' := by
  have hl := rd_pipes_len ha
  have hl2 := rd_valves_len hb
  go_enter Try.func56, Try.ntmps56
  refine wp_seq_k (fun K1 h1 => ?_)
  refine W.region_plain (row := none) [(0, true), (1, false)] (by kernel_rfl) ?_
  have s1 := SG.self w none
  refine W.sn (fun b => .pointer (some ⟨b, 0, none⟩)) #[.int .i64 m, .slice A n c] 32 s1 rfl (by kernel_rfl) rfl (fun _ => by kernel_rfl) (fun b2 w3 hb4 k5 x6 s7 => ?_)
  have lo8 : w.heap.size ≤ b2 := by have := ((SG.belowR (Below.refl _ _) s1 (fun kq e => by cases e))).size; omega
  refine W.sq (v := .bool false) rfl (r_assign rfl (by kernel_rfl)) (by kernel_rfl) rfl rfl ?_
  refine W.sch_end (l' := [.agg #[.int .i64 m, .slice A n c], .slice A2 n2 c2, .int .i64 s, .int .i64 id, .pointer (some ⟨b2, 0, none⟩), undef, undef, undef, .bool false, undef, undef, undef, undef, undef, undef, undef, undef, undef, undef, undef, undef, undef, undef]) (by kernel_rfl) ?_
  have c9 := (SG.belowR (Below.refl _ _) s7 (fun kq e => by cases e))
  refine h1 _ _ ?_
  refine wp_seq_k (fun K2 h2 => ?_)
  refine W.region_plain (row := none) [(0, false), (1, false), (2, true), (3, false), (4, false), (5, false), (6, true), (7, false), (8, false), (9, false), (10, false), (11, true), (12, false), (13, false), (14, false)] (by kernel_rfl) ?_
  have s10 := SG.self w3 none
  refine W.sq (v := .agg #[.int .i64 m, .slice A n c]) rfl (r_load2 rfl (by kernel_rfl) (by kernel_rfl) (by kernel_rfl) (sgS (blk_cell (j := 0) x6 (by kernel_rfl)) (by simp)) (sgS (blk_cell (j := 1) x6 (by kernel_rfl)) (by simp))) (by kernel_rfl) rfl rfl ?_
  refine W.sq (v := .slice A2 n2 c2) rfl (r_move rfl (by kernel_rfl)) (by kernel_rfl) rfl rfl ?_
  refine W.sc (vs := [.agg #[.int .i64 m, .slice A n c], .slice A2 n2 c2]) rfl rfl (by kernel_rfl) (by kernel_rfl) (by kernel_rfl) rfl (IsValidValves_any m A n c ps A2 n2 c2 vs _ (Rd.kept ha (SG.belowR c9 s10 (fun kq e => by cases e))) (Rd.kept hb (SG.belowR c9 s10 (fun kq e => by cases e))) (by omega) (by omega) hfm2) ?_
  rintro e w12 ⟨rfl, b11⟩
  have s13 := SG.of_below s10 b11
  refine ⟨_, rfl, s13, ?_⟩
  rcases Bool.eq_false_or_eq_true (goodV m ps vs) with q14 | q14
  · rw [q14]
    have hv9 := goodV_of q14
    have hg := hv9.net
    have hgl := hg.lo
    have hgh := hg.hi
    have hp := hg.pipesIn
    have hlen10 := hg.len
    have hu := hv9.uniq
    have hvl := hv9.len
    have hfl := findL_lt ps id
    refine W.sq (v := .bool true) rfl (r_move rfl (by kernel_rfl)) (by kernel_rfl) rfl rfl ?_
    refine W.sq (v := .agg #[.int .i64 m, .slice A n c]) rfl (r_load2 rfl (by kernel_rfl) (by kernel_rfl) (by kernel_rfl) (sgS (blk_cell (j := 0) x6 (by kernel_rfl)) (by simp)) (sgS (blk_cell (j := 1) x6 (by kernel_rfl)) (by simp))) (by kernel_rfl) rfl rfl ?_
    refine W.sq (v := .int .i64 s) rfl (r_move rfl (by kernel_rfl)) (by kernel_rfl) rfl rfl ?_
    refine W.sc (vs := [.agg #[.int .i64 m, .slice A n c], .int .i64 s]) rfl rfl (by kernel_rfl) (by kernel_rfl) (by kernel_rfl) rfl (has_any m A n c ps s _) ?_
    rintro e w16 ⟨rfl, b15⟩
    have s17 := SG.of_below s13 b15
    refine ⟨_, rfl, s17, ?_⟩
    rcases Bool.eq_false_or_eq_true (inB s 1 m) with q18 | q18
    · rw [q18]
      refine W.sq (v := .bool true) rfl (r_pick (b := true) rfl (by kernel_rfl) (by kernel_rfl)) (by kernel_rfl) rfl rfl ?_
      refine W.sq (v := .bool true) rfl (r_move rfl (by kernel_rfl)) (by kernel_rfl) rfl rfl ?_
      refine W.sq (v := .agg #[.int .i64 m, .slice A n c]) rfl (r_load2 rfl (by kernel_rfl) (by kernel_rfl) (by kernel_rfl) (sgS (blk_cell (j := 0) x6 (by kernel_rfl)) (by simp)) (sgS (blk_cell (j := 1) x6 (by kernel_rfl)) (by simp))) (by kernel_rfl) rfl rfl ?_
      refine W.sq (v := .int .i64 id) rfl (r_move rfl (by kernel_rfl)) (by kernel_rfl) rfl rfl ?_
      refine W.sc (vs := [.agg #[.int .i64 m, .slice A n c], .int .i64 id]) rfl rfl (by kernel_rfl) (by kernel_rfl) (by kernel_rfl) rfl (pipeIndex_any m A n c ps id _ (Rd.kept ha (SG.belowR c9 s17 (fun kq e => by cases e))) (by omega)) ?_
      rintro e w20 ⟨rfl, b19⟩
      have s21 := SG.of_below s17 b19
      refine ⟨_, rfl, s21, ?_⟩
      by_cases q22 : (findL ps id : Int) ≥ (0 : Int)
      · refine W.sq (v := .bool true) rfl (r_geq (m := findL ps id) (n := 0) rfl (by kernel_rfl) (by kernel_rfl) (decide_eq_true q22)) (by kernel_rfl) rfl rfl ?_
        refine W.sq (v := .bool true) rfl (r_pick (b := true) rfl (by kernel_rfl) (by kernel_rfl)) (by kernel_rfl) rfl rfl ?_
        refine W.sq (v := .bool true) rfl (r_assign rfl (by kernel_rfl)) (by kernel_rfl) rfl rfl ?_
        refine W.sch_endU (fun U23 => [.agg #[.int .i64 m, .slice A n c], .slice A2 n2 c2, .int .i64 s, .int .i64 id, .pointer (some ⟨b2, 0, none⟩), undef, undef, undef, .bool true, U23 9, U23 10, U23 11, U23 12, U23 13, U23 14, U23 15, U23 16, U23 17, U23 18, U23 19, U23 20, U23 21, U23 22]) (by kernel_rfl) (fun U23 => ?_)
        have x6 := SG.blk s21 x6 (by simp)
        have c24 := (SG.belowR c9 s21 (fun kq e => by cases e))
        refine h2 _ _ ?_
        refine wp_ret ?_
        try simp only [Exit.then]
        refine ret1 (v := .bool true) rfl (by kernel_rfl) ?_
        exact ⟨by unfold canB; rw [q14, q18, decide_eq_true q22]; rfl, c24⟩
      · refine W.sq (v := .bool false) rfl (r_geq (m := findL ps id) (n := 0) rfl (by kernel_rfl) (by kernel_rfl) (decide_eq_false q22)) (by kernel_rfl) rfl rfl ?_
        refine W.sq (v := .bool false) rfl (r_pick (b := true) rfl (by kernel_rfl) (by kernel_rfl)) (by kernel_rfl) rfl rfl ?_
        refine W.sq (v := .bool false) rfl (r_assign rfl (by kernel_rfl)) (by kernel_rfl) rfl rfl ?_
        refine W.sch_endU (fun U25 => [.agg #[.int .i64 m, .slice A n c], .slice A2 n2 c2, .int .i64 s, .int .i64 id, .pointer (some ⟨b2, 0, none⟩), undef, undef, undef, .bool false, U25 9, U25 10, U25 11, U25 12, U25 13, U25 14, U25 15, U25 16, U25 17, U25 18, U25 19, U25 20, U25 21, U25 22]) (by kernel_rfl) (fun U25 => ?_)
        have x6 := SG.blk s21 x6 (by simp)
        have c26 := (SG.belowR c9 s21 (fun kq e => by cases e))
        refine h2 _ _ ?_
        refine wp_ret ?_
        try simp only [Exit.then]
        refine ret1 (v := .bool false) rfl (by kernel_rfl) ?_
        exact ⟨by unfold canB; rw [decide_eq_false q22, Bool.and_false], c26⟩
    · rw [q18]
      refine W.sq (v := .bool false) rfl (r_pick (b := true) rfl (by kernel_rfl) (by kernel_rfl)) (by kernel_rfl) rfl rfl ?_
      refine W.sq (v := .bool false) rfl (r_move rfl (by kernel_rfl)) (by kernel_rfl) rfl rfl ?_
      refine W.sk s17 rfl (by kernel_rfl) rfl rfl ?_
      refine W.sk s17 rfl (by kernel_rfl) rfl rfl ?_
      refine W.sk s17 rfl (by kernel_rfl) rfl rfl ?_
      refine W.sk s17 rfl (by kernel_rfl) rfl rfl ?_
      refine W.sq (v := .bool false) rfl (r_pick (b := false) rfl (by kernel_rfl) (by kernel_rfl)) (by kernel_rfl) rfl rfl ?_
      refine W.sq (v := .bool false) rfl (r_assign rfl (by kernel_rfl)) (by kernel_rfl) rfl rfl ?_
      refine W.sch_endU (fun U27 => [.agg #[.int .i64 m, .slice A n c], .slice A2 n2 c2, .int .i64 s, .int .i64 id, .pointer (some ⟨b2, 0, none⟩), undef, undef, undef, .bool false, U27 9, U27 10, U27 11, U27 12, U27 13, U27 14, U27 15, U27 16, U27 17, undef, undef, undef, undef, U27 22]) (by kernel_rfl) (fun U27 => ?_)
      have x6 := SG.blk s17 x6 (by simp)
      have c28 := (SG.belowR c9 s17 (fun kq e => by cases e))
      refine h2 _ _ ?_
      refine wp_ret ?_
      try simp only [Exit.then]
      refine ret1 (v := .bool false) rfl (by kernel_rfl) ?_
      exact ⟨by unfold canB; rw [q18, Bool.and_false, Bool.false_and], c28⟩
  · rw [q14]
    refine W.sq (v := .bool false) rfl (r_move rfl (by kernel_rfl)) (by kernel_rfl) rfl rfl ?_
    refine W.sk s13 rfl (by kernel_rfl) rfl rfl ?_
    refine W.sk s13 rfl (by kernel_rfl) rfl rfl ?_
    refine W.sk s13 rfl (by kernel_rfl) rfl rfl ?_
    refine W.sq (v := .bool false) rfl (r_pick (b := false) rfl (by kernel_rfl) (by kernel_rfl)) (by kernel_rfl) rfl rfl ?_
    refine W.sq (v := .bool false) rfl (r_move rfl (by kernel_rfl)) (by kernel_rfl) rfl rfl ?_
    refine W.sk s13 rfl (by kernel_rfl) rfl rfl ?_
    refine W.sk s13 rfl (by kernel_rfl) rfl rfl ?_
    refine W.sk s13 rfl (by kernel_rfl) rfl rfl ?_
    refine W.sk s13 rfl (by kernel_rfl) rfl rfl ?_
    refine W.sq (v := .bool false) rfl (r_pick (b := false) rfl (by kernel_rfl) (by kernel_rfl)) (by kernel_rfl) rfl rfl ?_
    refine W.sq (v := .bool false) rfl (r_assign rfl (by kernel_rfl)) (by kernel_rfl) rfl rfl ?_
    refine W.sch_endU (fun U29 => [.agg #[.int .i64 m, .slice A n c], .slice A2 n2 c2, .int .i64 s, .int .i64 id, .pointer (some ⟨b2, 0, none⟩), undef, undef, undef, .bool false, U29 9, U29 10, U29 11, U29 12, undef, undef, undef, U29 16, U29 17, undef, undef, undef, undef, U29 22]) (by kernel_rfl) (fun U29 => ?_)
    have x6 := SG.blk s13 x6 (by simp)
    have c30 := (SG.belowR c9 s13 (fun kq e => by cases e))
    refine h2 _ _ ?_
    refine wp_ret ?_
    try simp only [Exit.then]
    refine ret1 (v := .bool false) rfl (by kernel_rfl) ?_
    exact ⟨by unfold canB; rw [q14]; rfl, c30⟩

set_option maxRecDepth 100000 in
set_option maxHeartbeats 1000000 in
theorem l5Asked_any (m : Int) (A : Option Addr) (n c : Nat) (ps : List Pp) (A2 : Option Addr) (n2 c2 : Nat) (vs : List Vv) (s id : Int) (w : World) (ha : Rd w 4 A n (pipesV ps)) (hb : Rd w 4 A2 n2 (valvesV vs)) (hn : n ≤ 1048576) (hn2 : n2 ≤ 1048576) (hfm2 : Fm A2 n2 c2) :
    Calls Try.prog 62 #[.agg #[.int .i64 m, .slice A n c], .slice A2 n2 c2, .int .i64 s, .int .i64 id] w fun e w' => e = .returned (.bool (canB m ps vs s id)) ∧ Below w.heap.size w w' := by
  have hl := rd_pipes_len ha
  have hl2 := rd_valves_len hb
  go_enter Try.func62, Try.ntmps62
  refine wp_seq_k (fun K1 h1 => ?_)
  refine W.region_plain (row := none) [(0, true), (1, false)] (by kernel_rfl) ?_
  have s1 := SG.self w none
  refine W.sn (fun b => .pointer (some ⟨b, 0, none⟩)) #[.int .i64 m, .slice A n c] 32 s1 rfl (by kernel_rfl) rfl (fun _ => by kernel_rfl) (fun b2 w3 hb4 k5 x6 s7 => ?_)
  have lo8 : w.heap.size ≤ b2 := by have := ((SG.belowR (Below.refl _ _) s1 (fun kq e => by cases e))).size; omega
  refine W.sq (v := .bool false) rfl (r_assign rfl (by kernel_rfl)) (by kernel_rfl) rfl rfl ?_
  refine W.sch_end (l' := [.agg #[.int .i64 m, .slice A n c], .slice A2 n2 c2, .int .i64 s, .int .i64 id, .pointer (some ⟨b2, 0, none⟩), undef, undef, undef, .bool false, undef, undef, undef, undef, undef, undef, undef, undef, undef, undef, undef, undef, undef, undef]) (by kernel_rfl) ?_
  have c9 := (SG.belowR (Below.refl _ _) s7 (fun kq e => by cases e))
  refine h1 _ _ ?_
  refine wp_seq_k (fun K2 h2 => ?_)
  refine W.region_plain (row := none) [(0, false), (1, false), (2, true), (3, false), (4, false), (5, false), (6, true), (7, false), (8, false), (9, false), (10, false), (11, true), (12, false), (13, false), (14, false)] (by kernel_rfl) ?_
  have s10 := SG.self w3 none
  refine W.sq (v := .agg #[.int .i64 m, .slice A n c]) rfl (r_load2 rfl (by kernel_rfl) (by kernel_rfl) (by kernel_rfl) (sgS (blk_cell (j := 0) x6 (by kernel_rfl)) (by simp)) (sgS (blk_cell (j := 1) x6 (by kernel_rfl)) (by simp))) (by kernel_rfl) rfl rfl ?_
  refine W.sq (v := .slice A2 n2 c2) rfl (r_move rfl (by kernel_rfl)) (by kernel_rfl) rfl rfl ?_
  refine W.sc (vs := [.agg #[.int .i64 m, .slice A n c], .slice A2 n2 c2]) rfl rfl (by kernel_rfl) (by kernel_rfl) (by kernel_rfl) rfl (l4Good_any m A n c ps A2 n2 c2 vs _ (Rd.kept ha (SG.belowR c9 s10 (fun kq e => by cases e))) (Rd.kept hb (SG.belowR c9 s10 (fun kq e => by cases e))) (by omega) (by omega)) ?_
  rintro e w12 ⟨rfl, b11⟩
  have s13 := SG.of_below s10 b11
  refine ⟨_, rfl, s13, ?_⟩
  rcases Bool.eq_false_or_eq_true (goodV m ps vs) with q14 | q14
  · rw [q14]
    have hv9 := goodV_of q14
    have hg := hv9.net
    have hgl := hg.lo
    have hgh := hg.hi
    have hp := hg.pipesIn
    have hlen10 := hg.len
    have hu := hv9.uniq
    have hvl := hv9.len
    have hfl := findL_lt ps id
    refine W.sq (v := .bool true) rfl (r_move rfl (by kernel_rfl)) (by kernel_rfl) rfl rfl ?_
    refine W.sq (v := .agg #[.int .i64 m, .slice A n c]) rfl (r_load2 rfl (by kernel_rfl) (by kernel_rfl) (by kernel_rfl) (sgS (blk_cell (j := 0) x6 (by kernel_rfl)) (by simp)) (sgS (blk_cell (j := 1) x6 (by kernel_rfl)) (by simp))) (by kernel_rfl) rfl rfl ?_
    refine W.sq (v := .int .i64 s) rfl (r_move rfl (by kernel_rfl)) (by kernel_rfl) rfl rfl ?_
    refine W.sc (vs := [.agg #[.int .i64 m, .slice A n c], .int .i64 s]) rfl rfl (by kernel_rfl) (by kernel_rfl) (by kernel_rfl) rfl (l2Node_any m A n c ps s _ (Rd.kept ha (SG.belowR c9 s13 (fun kq e => by cases e))) (by omega)) ?_
    rintro e w16 ⟨rfl, b15⟩
    have s17 := SG.of_below s13 b15
    refine ⟨_, rfl, s17, ?_⟩
    rcases Bool.eq_false_or_eq_true (goodN m ps && inB s 1 m) with q18 | q18
    · rw [q18]
      have q19 : inB s 1 m = true := (Bool.and_eq_true_iff.1 q18).2
      refine W.sq (v := .bool true) rfl (r_pick (b := true) rfl (by kernel_rfl) (by kernel_rfl)) (by kernel_rfl) rfl rfl ?_
      refine W.sq (v := .bool true) rfl (r_move rfl (by kernel_rfl)) (by kernel_rfl) rfl rfl ?_
      refine W.sq (v := .agg #[.int .i64 m, .slice A n c]) rfl (r_load2 rfl (by kernel_rfl) (by kernel_rfl) (by kernel_rfl) (sgS (blk_cell (j := 0) x6 (by kernel_rfl)) (by simp)) (sgS (blk_cell (j := 1) x6 (by kernel_rfl)) (by simp))) (by kernel_rfl) rfl rfl ?_
      refine W.sq (v := .int .i64 id) rfl (r_move rfl (by kernel_rfl)) (by kernel_rfl) rfl rfl ?_
      refine W.sc (vs := [.agg #[.int .i64 m, .slice A n c], .int .i64 id]) rfl rfl (by kernel_rfl) (by kernel_rfl) (by kernel_rfl) rfl (l2Find_any m A n c ps id _ (Rd.kept ha (SG.belowR c9 s17 (fun kq e => by cases e))) (by omega)) ?_
      rintro e w21 ⟨rfl, b20⟩
      have s22 := SG.of_below s17 b20
      refine ⟨_, rfl, s22, ?_⟩
      by_cases q23 : (findL ps id : Int) ≥ (0 : Int)
      · refine W.sq (v := .bool true) rfl (r_geq (m := findL ps id) (n := 0) rfl (by kernel_rfl) (by kernel_rfl) (decide_eq_true q23)) (by kernel_rfl) rfl rfl ?_
        refine W.sq (v := .bool true) rfl (r_pick (b := true) rfl (by kernel_rfl) (by kernel_rfl)) (by kernel_rfl) rfl rfl ?_
        refine W.sq (v := .bool true) rfl (r_assign rfl (by kernel_rfl)) (by kernel_rfl) rfl rfl ?_
        refine W.sch_endU (fun U24 => [.agg #[.int .i64 m, .slice A n c], .slice A2 n2 c2, .int .i64 s, .int .i64 id, .pointer (some ⟨b2, 0, none⟩), undef, undef, undef, .bool true, U24 9, U24 10, U24 11, U24 12, U24 13, U24 14, U24 15, U24 16, U24 17, U24 18, U24 19, U24 20, U24 21, U24 22]) (by kernel_rfl) (fun U24 => ?_)
        have x6 := SG.blk s22 x6 (by simp)
        have c25 := (SG.belowR c9 s22 (fun kq e => by cases e))
        refine h2 _ _ ?_
        refine wp_ret ?_
        try simp only [Exit.then]
        refine ret1 (v := .bool true) rfl (by kernel_rfl) ?_
        exact ⟨by unfold canB; rw [q14, q19, decide_eq_true q23]; rfl, c25⟩
      · refine W.sq (v := .bool false) rfl (r_geq (m := findL ps id) (n := 0) rfl (by kernel_rfl) (by kernel_rfl) (decide_eq_false q23)) (by kernel_rfl) rfl rfl ?_
        refine W.sq (v := .bool false) rfl (r_pick (b := true) rfl (by kernel_rfl) (by kernel_rfl)) (by kernel_rfl) rfl rfl ?_
        refine W.sq (v := .bool false) rfl (r_assign rfl (by kernel_rfl)) (by kernel_rfl) rfl rfl ?_
        refine W.sch_endU (fun U26 => [.agg #[.int .i64 m, .slice A n c], .slice A2 n2 c2, .int .i64 s, .int .i64 id, .pointer (some ⟨b2, 0, none⟩), undef, undef, undef, .bool false, U26 9, U26 10, U26 11, U26 12, U26 13, U26 14, U26 15, U26 16, U26 17, U26 18, U26 19, U26 20, U26 21, U26 22]) (by kernel_rfl) (fun U26 => ?_)
        have x6 := SG.blk s22 x6 (by simp)
        have c27 := (SG.belowR c9 s22 (fun kq e => by cases e))
        refine h2 _ _ ?_
        refine wp_ret ?_
        try simp only [Exit.then]
        refine ret1 (v := .bool false) rfl (by kernel_rfl) ?_
        exact ⟨by unfold canB; rw [decide_eq_false q23, Bool.and_false], c27⟩
    · rw [q18]
      have q28 : inB s 1 m = false := by have h9 := q18; rw [hv9.good, Bool.true_and] at h9; exact h9
      refine W.sq (v := .bool false) rfl (r_pick (b := true) rfl (by kernel_rfl) (by kernel_rfl)) (by kernel_rfl) rfl rfl ?_
      refine W.sq (v := .bool false) rfl (r_move rfl (by kernel_rfl)) (by kernel_rfl) rfl rfl ?_
      refine W.sk s17 rfl (by kernel_rfl) rfl rfl ?_
      refine W.sk s17 rfl (by kernel_rfl) rfl rfl ?_
      refine W.sk s17 rfl (by kernel_rfl) rfl rfl ?_
      refine W.sk s17 rfl (by kernel_rfl) rfl rfl ?_
      refine W.sq (v := .bool false) rfl (r_pick (b := false) rfl (by kernel_rfl) (by kernel_rfl)) (by kernel_rfl) rfl rfl ?_
      refine W.sq (v := .bool false) rfl (r_assign rfl (by kernel_rfl)) (by kernel_rfl) rfl rfl ?_
      refine W.sch_endU (fun U29 => [.agg #[.int .i64 m, .slice A n c], .slice A2 n2 c2, .int .i64 s, .int .i64 id, .pointer (some ⟨b2, 0, none⟩), undef, undef, undef, .bool false, U29 9, U29 10, U29 11, U29 12, U29 13, U29 14, U29 15, U29 16, U29 17, undef, undef, undef, undef, U29 22]) (by kernel_rfl) (fun U29 => ?_)
      have x6 := SG.blk s17 x6 (by simp)
      have c30 := (SG.belowR c9 s17 (fun kq e => by cases e))
      refine h2 _ _ ?_
      refine wp_ret ?_
      try simp only [Exit.then]
      refine ret1 (v := .bool false) rfl (by kernel_rfl) ?_
      exact ⟨by unfold canB; rw [q28, Bool.and_false, Bool.false_and], c30⟩
  · rw [q14]
    refine W.sq (v := .bool false) rfl (r_move rfl (by kernel_rfl)) (by kernel_rfl) rfl rfl ?_
    refine W.sk s13 rfl (by kernel_rfl) rfl rfl ?_
    refine W.sk s13 rfl (by kernel_rfl) rfl rfl ?_
    refine W.sk s13 rfl (by kernel_rfl) rfl rfl ?_
    refine W.sq (v := .bool false) rfl (r_pick (b := false) rfl (by kernel_rfl) (by kernel_rfl)) (by kernel_rfl) rfl rfl ?_
    refine W.sq (v := .bool false) rfl (r_move rfl (by kernel_rfl)) (by kernel_rfl) rfl rfl ?_
    refine W.sk s13 rfl (by kernel_rfl) rfl rfl ?_
    refine W.sk s13 rfl (by kernel_rfl) rfl rfl ?_
    refine W.sk s13 rfl (by kernel_rfl) rfl rfl ?_
    refine W.sk s13 rfl (by kernel_rfl) rfl rfl ?_
    refine W.sq (v := .bool false) rfl (r_pick (b := false) rfl (by kernel_rfl) (by kernel_rfl)) (by kernel_rfl) rfl rfl ?_
    refine W.sq (v := .bool false) rfl (r_assign rfl (by kernel_rfl)) (by kernel_rfl) rfl rfl ?_
    refine W.sch_endU (fun U31 => [.agg #[.int .i64 m, .slice A n c], .slice A2 n2 c2, .int .i64 s, .int .i64 id, .pointer (some ⟨b2, 0, none⟩), undef, undef, undef, .bool false, U31 9, U31 10, U31 11, U31 12, undef, undef, undef, U31 16, U31 17, undef, undef, undef, undef, U31 22]) (by kernel_rfl) (fun U31 => ?_)
    have x6 := SG.blk s13 x6 (by simp)
    have c32 := (SG.belowR c9 s13 (fun kq e => by cases e))
    refine h2 _ _ ?_
    refine wp_ret ?_
    try simp only [Exit.then]
    refine ret1 (v := .bool false) rfl (by kernel_rfl) ?_
    exact ⟨by unfold canB; rw [q14]; rfl, c32⟩

set_option maxRecDepth 100000 in
set_option maxHeartbeats 1000000 in
theorem l5Open_any (A2 : Option Addr) (n2 c2 : Nat) (vs : List Vv) (w : World) (hb : Rd w 4 A2 n2 (valvesV vs)) (hn2 : n2 ≤ 1000000) :
    Calls Try.prog 73 #[.slice A2 n2 c2] w fun e w' => ∃ A' n' c', e = .returned (.slice A' n' c') ∧ w'.ownsRow w.heap.size 3 1 (.slice A' n' c') n' (intsV (openIds vs)) ∧ Below w.heap.size w w' := by
  have hl2 := rd_valves_len hb
  go_enter Try.func73, Try.ntmps73
  refine wp_seq_k (fun K1 h1 => ?_)
  refine W.region_quiet [(0, false)] (by kernel_rfl) ?_
  refine W.sq (v := .slice none 0 0) rfl (r_assign rfl (by kernel_rfl)) (by kernel_rfl) rfl rfl ?_
  refine W.sch_end (l' := [.slice A2 n2 c2, undef, .slice none 0 0, undef, undef, undef, undef, undef, undef, undef, undef, undef, undef, undef, undef, undef, undef, undef, undef, undef, undef, undef, undef, undef, undef, undef, undef]) (by kernel_rfl) ?_
  refine h1 _ _ ?_
  refine wp_seq_k (fun K2 h2 => ?_)
  refine W.region_plain (row := none) [(0, true), (1, false)] (by kernel_rfl) ?_
  have s1 := SG.self w none
  refine W.sn (fun b => .slice (some ⟨b, 0, none⟩) 0 0) #[] 3 s1 rfl (by kernel_rfl) rfl (fun _ => by kernel_rfl) (fun b2 w3 hb4 k5 x6 s7 => ?_)
  have lo8 : w.heap.size ≤ b2 := by have := ((SG.belowR (Below.refl _ _) s1 (fun kq e => by cases e))).size; omega
  refine W.sq (v := .slice (some ⟨b2, 0, none⟩) 0 0) rfl (r_assign rfl (by kernel_rfl)) (by kernel_rfl) rfl rfl ?_
  refine W.sch_endU (fun U9 => [.slice A2 n2 c2, undef, .slice none 0 0, .slice (some ⟨b2, 0, none⟩) 0 0, undef, U9 5, undef, undef, undef, undef, undef, undef, undef, undef, undef, undef, undef, undef, undef, undef, undef, undef, undef, undef, undef, undef, undef]) (by kernel_rfl) (fun U9 => ?_)
  have c10 := (SG.belowR (Below.refl _ _) s7 (fun kq e => by cases e))
  refine h2 _ _ ?_
  refine wp_seq_k (fun K3 h3 => ?_)
  refine wp_seq_k (fun K4 h4 => ?_)
  refine W.region_quiet [(0, false)] (by kernel_rfl) ?_
  refine W.sq (v := .int .i64 0) rfl (r_assign rfl (by kernel_rfl)) (by kernel_rfl) rfl rfl ?_
  refine W.sch_end (l' := [.slice A2 n2 c2, undef, .slice none 0 0, .slice (some ⟨b2, 0, none⟩) 0 0, .int .i64 0, (U9 5), undef, undef, undef, undef, undef, undef, undef, undef, undef, undef, undef, undef, undef, undef, undef, undef, undef, undef, undef, undef, undef]) (by kernel_rfl) ?_
  refine h4 _ _ ?_
  refine wp_block ?_
  have ho11 := own_empty (base := w.heap.size) (size := 1) x6 lo8
  replace ho11 : World.ownsRow _ _ _ _ _ _ (intsV []) := ho11
  refine loopK (fun am0 aa0 wl0 => ∃ (i : Nat) (A0_3 : Option Addr) (n0_3 : Nat) (c0_3 : Nat) (U0 : Nat → Value), aa0 = ⟨[.slice A2 n2 c2, undef, .slice none 0 0, .slice A0_3 n0_3 c0_3, .int .i64 ((i : Nat) : Int), (U9 5), U0 6, U0 7, U0 8, U0 9, U0 10, U0 11, U0 12, U0 13, U0 14, U0 15, U0 16, U0 17, U0 18, U0 19, U0 20, U0 21, U0 22, U0 23, U0 24, U0 25, undef].toArray, []⟩ ∧ (am0 = n2 - i) ∧ (i ≤ n2) ∧ (n0_3 ≤ i) ∧ (wl0.ownsRow w.heap.size 3 1 (.slice A0_3 n0_3 c0_3) n0_3 (intsV (openIds (vs.take i)))) ∧ (Below w.heap.size w wl0)) (n2 - 0) ?_ ?_
  · exact ⟨0, (some ⟨b2, 0, none⟩), 0, 0, (fun iU9 => [.slice A2 n2 c2, undef, .slice none 0 0, .slice (some ⟨b2, 0, none⟩) 0 0, .int .i64 0, (U9 5), undef, undef, undef, undef, undef, undef, undef, undef, undef, undef, undef, undef, undef, undef, undef, undef, undef, undef, undef, undef, undef].getD iU9 undef), (by kernel_rfl), rfl, (Nat.zero_le _), (Nat.zero_le _), ho11, c10⟩
  rintro am0 aa0 wl0 K5 h5 ⟨i, A0_3, n0_3, c0_3, U0, rfl, rfl, hi, hb3, ho0_3, c12⟩
  refine wp_seq_k (fun K6 h6 => ?_)
  refine wp_seq_k (fun K7 h7 => ?_)
  refine W.region_quiet [(0, false), (1, false), (2, false), (3, false)] (by kernel_rfl) ?_
  refine W.sq (v := .int .i64 ((i : Nat) : Int)) rfl (r_move rfl (by kernel_rfl)) (by kernel_rfl) rfl rfl ?_
  refine W.sq (v := .slice A2 n2 c2) rfl (r_move rfl (by kernel_rfl)) (by kernel_rfl) rfl rfl ?_
  refine W.sq (v := .int .i64 ((n2 : Nat) : Int)) rfl (r_len (A := A2) (n := n2) (c := c2) rfl (by kernel_rfl) (by kernel_rfl)) (by kernel_rfl) rfl rfl ?_
  by_cases q13 : (((i : Nat) : Int) : Int) < (((n2 : Nat) : Int) : Int)
  · refine W.sq (v := .bool true) rfl (r_lss (m := ((i : Nat) : Int)) (n := ((n2 : Nat) : Int)) rfl (by kernel_rfl) (by kernel_rfl) (decide_eq_true q13)) (by kernel_rfl) rfl rfl ?_
    refine W.sch_endU (fun U14 => [.slice A2 n2 c2, undef, .slice none 0 0, .slice A0_3 n0_3 c0_3, .int .i64 ((i : Nat) : Int), (U9 5), U14 6, U14 7, U14 8, .bool true, (U0 10), (U0 11), (U0 12), (U0 13), (U0 14), (U0 15), (U0 16), (U0 17), (U0 18), (U0 19), (U0 20), (U0 21), (U0 22), (U0 23), (U0 24), (U0 25), undef]) (by kernel_rfl) (fun U14 => ?_)
    refine h7 _ _ ?_
    refine wp_cond_true (by kernel_rfl) ?_
    refine wp_skip ?_
    refine h6 _ _ ?_
    refine wp_seq_k (fun K8 h8 => ?_)
    refine wp_block ?_
    refine wp_seq_k (fun K9 h9 => ?_)
    refine W.region_quiet [(0, false), (1, false), (2, false), (3, false), (4, false), (5, false)] (by kernel_rfl) ?_
    refine W.sq (v := .slice A2 n2 c2) rfl (r_move rfl (by kernel_rfl)) (by kernel_rfl) rfl rfl ?_
    refine W.sq (v := .int .i64 ((i : Nat) : Int)) rfl (r_move rfl (by kernel_rfl)) (by kernel_rfl) rfl rfl ?_
    obtain ⟨x15, hx16⟩ := get_of (zs := vs) (k := i) (by have := hl2; omega)
    obtain ⟨b17, o18, hA19, hb20, hc21, hc22, hc23, hc24⟩ := Rd.elValve hb hx16
    refine W.sq (v := .pointer (some ⟨b17, o18 + i * 4, none⟩)) rfl (r_idx (n := n2) (c := c2) (k := i) rfl (by kernel_rfl) hA19 (by kernel_rfl) (by kernel_rfl) (by have := hl2; omega)) (by kernel_rfl) rfl rfl ?_
    refine W.sq (v := .pointer (some ⟨b17, o18 + i * 4 + 3, none⟩)) rfl (r_field (k := 3) rfl (by kernel_rfl) (by kernel_rfl)) (by kernel_rfl) rfl rfl ?_
    refine W.sq (v := .bool x15.shut) rfl (r_load rfl (by kernel_rfl) (by kernel_rfl) (eqS (later c12 hc24))) (by kernel_rfl) rfl rfl ?_
    refine W.sq (v := .bool (!x15.shut)) rfl (r_not (b := x15.shut) rfl (by kernel_rfl) rfl) (by kernel_rfl) rfl rfl ?_
    refine W.sch_endU (fun U25 => [.slice A2 n2 c2, undef, .slice none 0 0, .slice A0_3 n0_3 c0_3, .int .i64 ((i : Nat) : Int), (U9 5), (U14 6), (U14 7), (U14 8), .bool true, (U0 10), (U0 11), U25 12, U25 13, U25 14, U25 15, U25 16, .bool (!x15.shut), (U0 18), (U0 19), (U0 20), (U0 21), (U0 22), (U0 23), (U0 24), (U0 25), undef]) (by kernel_rfl) (fun U25 => ?_)
    refine h9 _ _ ?_
    rcases Bool.eq_false_or_eq_true (!x15.shut) with q26 | q26
    · rw [q26]
      refine wp_cond_true (by kernel_rfl) ?_
      refine W.region_plain (row := (Value.ownBlock (.slice A0_3 n0_3 c0_3))) [(0, false), (1, false), (2, false), (3, false), (4, false), (5, false), (6, true), (7, true), (8, false)] (by kernel_rfl) ?_
      have s27 := SG.self wl0 (Value.ownBlock (.slice A0_3 n0_3 c0_3))
      refine W.sq (v := .slice A0_3 n0_3 c0_3) rfl (r_move rfl (by kernel_rfl)) (by kernel_rfl) rfl rfl ?_
      refine W.sq (v := .slice A2 n2 c2) rfl (r_move rfl (by kernel_rfl)) (by kernel_rfl) rfl rfl ?_
      refine W.sq (v := .int .i64 ((i : Nat) : Int)) rfl (r_move rfl (by kernel_rfl)) (by kernel_rfl) rfl rfl ?_
      refine W.sq (v := .pointer (some ⟨b17, o18 + i * 4, none⟩)) rfl (r_idx (n := n2) (c := c2) (k := i) rfl (by kernel_rfl) hA19 (by kernel_rfl) (by kernel_rfl) (by have := hl2; omega)) (by kernel_rfl) rfl rfl ?_
      refine W.sq (v := .pointer (some ⟨b17, o18 + i * 4, none⟩)) rfl (r_field0 rfl (by kernel_rfl) (by kernel_rfl)) (by kernel_rfl) rfl rfl ?_
      refine W.sq (v := .int .i64 x15.id) rfl (r_load rfl (by kernel_rfl) (by kernel_rfl) (sgS (later c12 hc21) (nb_lo ho0_3 hb20))) (by kernel_rfl) rfl rfl ?_
      refine W.sn (fun b => .slice (some ⟨b, 0, none⟩) 1 1) #[.int .i64 x15.id] 3 s27 rfl (by kernel_rfl) rfl (fun _ => by kernel_rfl) (fun b28 w29 hb30 k31 x32 s33 => ?_)
      have lo34 : w.heap.size ≤ b28 := by have := ((SG.belowR c12 s27 (fun kq e => (World.ownsRow.lt ho0_3 kq e).1))).size; omega
      have nb35 : Nb b28 (.slice A0_3 n0_3 c0_3) := nb_hi ho0_3 (Nat.le_of_eq hb30)
      have ho36 := own_kept ho0_3 k31
      refine W.sap (e := 3) (size := 1) (base := w.heap.size) (m := 1) (v := .slice A0_3 n0_3 c0_3) (c := 1) s33 rfl rfl rfl rfl (by kernel_rfl) (by kernel_rfl) (by kernel_rfl) ho36 x32 (by kernel_rfl) (by kernel_rfl) (by omega) (by omega) (by have := ((SG.belowR c12 s33 (fun kq e => (World.ownsRow.lt ho0_3 kq e).1))).size; omega) (.inl rfl) (fun g37 cap38 w39 ho40 hg41 hat42 hlt43 s44 => ?_)
      have nb45 : Nb b28 (.slice (some ⟨g37, 0, none⟩) (n0_3 + 1) cap38) := nb_app nb35 (blk_lt x32) hat42
      have x32 := (hg41.block _ (blk_lt x32) nb35).trans x32
      have ho40 := own_snoc ho40
      refine W.sq (v := .slice (some ⟨g37, 0, none⟩) (n0_3 + 1) cap38) rfl (r_assign rfl (by kernel_rfl)) (by kernel_rfl) rfl rfl ?_
      refine W.sch_endU (fun U46 => [.slice A2 n2 c2, undef, .slice none 0 0, .slice (some ⟨g37, 0, none⟩) (n0_3 + 1) cap38, .int .i64 ((i : Nat) : Int), (U9 5), (U14 6), (U14 7), (U14 8), .bool true, (U0 10), (U0 11), (U25 12), (U25 13), (U25 14), (U25 15), (U25 16), .bool true, U46 18, U46 19, U46 20, U46 21, U46 22, U46 23, U46 24, U46 25, undef]) (by kernel_rfl) (fun U46 => ?_)
      have c47 := (SG.belowR c12 s44 (fun kq e => (World.ownsRow.lt ho0_3 kq e).1))
      refine h8 _ _ ?_
      refine W.region_quiet [(0, false), (1, false), (2, false)] (by kernel_rfl) ?_
      refine W.sq (v := .int .i64 ((i : Nat) : Int)) rfl (r_move rfl (by kernel_rfl)) (by kernel_rfl) rfl rfl ?_
      refine W.sq (v := .int .i64 ((i + 1 : Nat) : Int)) rfl (r_add (m := ((i : Nat) : Int)) (n := 1) (z := ((i + 1 : Nat) : Int)) rfl (by kernel_rfl) (by kernel_rfl) (by omega) (by omega)) (by kernel_rfl) rfl rfl ?_
      refine W.sq (v := .int .i64 ((i + 1 : Nat) : Int)) rfl (r_assign rfl (by kernel_rfl)) (by kernel_rfl) rfl rfl ?_
      refine W.sch_endU (fun U48 => [.slice A2 n2 c2, undef, .slice none 0 0, .slice (some ⟨g37, 0, none⟩) (n0_3 + 1) cap38, .int .i64 ((i + 1 : Nat) : Int), (U9 5), (U14 6), (U14 7), (U14 8), .bool true, U48 10, U48 11, (U25 12), (U25 13), (U25 14), (U25 15), (U25 16), .bool true, (U46 18), (U46 19), (U46 20), (U46 21), (U46 22), (U46 23), (U46 24), (U46 25), undef]) (by kernel_rfl) (fun U48 => ?_)
      exact h5 _ _ _ (by omega : (n2 - (i + 1)) < _) ⟨i + 1, (some ⟨g37, 0, none⟩), (n0_3 + 1), cap38, (fun iU9 => [.slice A2 n2 c2, undef, .slice none 0 0, .slice (some ⟨g37, 0, none⟩) (n0_3 + 1) cap38, .int .i64 ((i + 1 : Nat) : Int), (U9 5), (U14 6), (U14 7), (U14 8), .bool true, (U48 10), (U48 11), (U25 12), (U25 13), (U25 14), (U25 15), (U25 16), .bool true, (U46 18), (U46 19), (U46 20), (U46 21), (U46 22), (U46 23), (U46 24), (U46 25), undef].getD iU9 undef), (by kernel_rfl), rfl, (by omega), (by omega), (by rw [openIds_yes hx16 (by simpa using q26)]; exact ho40), c47⟩
    · rw [q26]
      refine wp_cond_false (by kernel_rfl) ?_
      refine wp_skip ?_
      refine h8 _ _ ?_
      refine W.region_quiet [(0, false), (1, false), (2, false)] (by kernel_rfl) ?_
      refine W.sq (v := .int .i64 ((i : Nat) : Int)) rfl (r_move rfl (by kernel_rfl)) (by kernel_rfl) rfl rfl ?_
      refine W.sq (v := .int .i64 ((i + 1 : Nat) : Int)) rfl (r_add (m := ((i : Nat) : Int)) (n := 1) (z := ((i + 1 : Nat) : Int)) rfl (by kernel_rfl) (by kernel_rfl) (by omega) (by omega)) (by kernel_rfl) rfl rfl ?_
      refine W.sq (v := .int .i64 ((i + 1 : Nat) : Int)) rfl (r_assign rfl (by kernel_rfl)) (by kernel_rfl) rfl rfl ?_
      refine W.sch_endU (fun U49 => [.slice A2 n2 c2, undef, .slice none 0 0, .slice A0_3 n0_3 c0_3, .int .i64 ((i + 1 : Nat) : Int), (U9 5), (U14 6), (U14 7), (U14 8), .bool true, U49 10, U49 11, (U25 12), (U25 13), (U25 14), (U25 15), (U25 16), .bool false, (U0 18), (U0 19), (U0 20), (U0 21), (U0 22), (U0 23), (U0 24), (U0 25), undef]) (by kernel_rfl) (fun U49 => ?_)
      exact h5 _ _ _ (by omega : (n2 - (i + 1)) < _) ⟨i + 1, A0_3, n0_3, c0_3, (fun iU9 => [.slice A2 n2 c2, undef, .slice none 0 0, .slice A0_3 n0_3 c0_3, .int .i64 ((i + 1 : Nat) : Int), (U9 5), (U14 6), (U14 7), (U14 8), .bool true, (U49 10), (U49 11), (U25 12), (U25 13), (U25 14), (U25 15), (U25 16), .bool false, (U0 18), (U0 19), (U0 20), (U0 21), (U0 22), (U0 23), (U0 24), (U0 25), undef].getD iU9 undef), (by kernel_rfl), rfl, (by omega), (by omega), (by rw [openIds_no hx16 (by simpa using q26)]; exact ho0_3), c12⟩
  · refine W.sq (v := .bool false) rfl (r_lss (m := ((i : Nat) : Int)) (n := ((n2 : Nat) : Int)) rfl (by kernel_rfl) (by kernel_rfl) (decide_eq_false q13)) (by kernel_rfl) rfl rfl ?_
    refine W.sch_endU (fun U50 => [.slice A2 n2 c2, undef, .slice none 0 0, .slice A0_3 n0_3 c0_3, .int .i64 ((i : Nat) : Int), (U9 5), U50 6, U50 7, U50 8, .bool false, (U0 10), (U0 11), (U0 12), (U0 13), (U0 14), (U0 15), (U0 16), (U0 17), (U0 18), (U0 19), (U0 20), (U0 21), (U0 22), (U0 23), (U0 24), (U0 25), undef]) (by kernel_rfl) (fun U50 => ?_)
    refine h7 _ _ ?_
    refine wp_cond_false (by kernel_rfl) ?_
    refine wp_exit ?_
    refine h3 _ _ ?_
    refine wp_seq_k (fun K10 h10 => ?_)
    refine W.region_quiet [(0, false), (1, false)] (by kernel_rfl) ?_
    refine W.sq (v := .slice A0_3 n0_3 c0_3) rfl (r_move rfl (by kernel_rfl)) (by kernel_rfl) rfl rfl ?_
    refine W.sq (v := .slice A0_3 n0_3 c0_3) rfl (r_assign rfl (by kernel_rfl)) (by kernel_rfl) rfl rfl ?_
    refine W.sch_endU (fun U51 => [.slice A2 n2 c2, undef, .slice A0_3 n0_3 c0_3, .slice A0_3 n0_3 c0_3, .int .i64 ((i : Nat) : Int), (U9 5), (U50 6), (U50 7), (U50 8), .bool false, (U0 10), (U0 11), (U0 12), (U0 13), (U0 14), (U0 15), (U0 16), (U0 17), (U0 18), (U0 19), (U0 20), (U0 21), (U0 22), (U0 23), (U0 24), (U0 25), U51 26]) (by kernel_rfl) (fun U51 => ?_)
    refine h10 _ _ ?_
    refine wp_ret ?_
    try simp only [Exit.then]
    refine ret1 (v := .slice A0_3 n0_3 c0_3) rfl (by kernel_rfl) ?_
    have h9 := ho0_3
    rw [List.take_of_length_le (by omega)] at h9
    exact ⟨_, _, _, rfl, h9, c12⟩

set_option maxRecDepth 100000 in
set_option maxHeartbeats 1000000 in
theorem custF_any (z : Int) (w : World) :
    Calls Try.prog 110 #[.int .i64 z] w fun e w' => e = .returned (.bool (!inB z 0 1000)) ∧ Below w.heap.size w w' := by
  go_enter Try.func110, Try.ntmps110
  refine wp_seq_k (fun K1 h1 => ?_)
  refine W.region_quiet [(0, false)] (by kernel_rfl) ?_
  refine W.sq (v := .bool false) rfl (r_assign rfl (by kernel_rfl)) (by kernel_rfl) rfl rfl ?_
  refine W.sch_end (l' := [.int .i64 z, undef, .bool false, undef, undef, undef]) (by kernel_rfl) ?_
  refine h1 _ _ ?_
  refine wp_seq_k (fun K2 h2 => ?_)
  refine W.region_plain (row := none) [(0, false), (1, true), (2, false), (3, false)] (by kernel_rfl) ?_
  have s1 := SG.self w none
  refine W.sq (v := .int .i64 z) rfl (r_move rfl (by kernel_rfl)) (by kernel_rfl) rfl rfl ?_
  refine W.sc (vs := [.int .i64 z, .int .i64 0, .int .i64 1000]) rfl rfl (by kernel_rfl) (by kernel_rfl) (by kernel_rfl) rfl (inside_any z 0 1000 _) ?_
  rintro e w' ⟨rfl, rfl⟩
  refine ⟨_, rfl, s1, ?_⟩
  rcases Bool.eq_false_or_eq_true (inB z 0 1000) with q4 | q4
  · rw [q4]
    refine W.sq (v := .bool false) rfl (r_not (b := true) rfl (by kernel_rfl) rfl) (by kernel_rfl) rfl rfl ?_
    refine W.sq (v := .bool false) rfl (r_assign rfl (by kernel_rfl)) (by kernel_rfl) rfl rfl ?_
    refine W.sch_endU (fun U5 => [.int .i64 z, undef, .bool false, U5 3, U5 4, U5 5]) (by kernel_rfl) (fun U5 => ?_)
    have c6 := (SG.belowR (Below.refl _ _) s1 (fun kq e => by cases e))
    refine h2 _ _ ?_
    refine wp_ret ?_
    try simp only [Exit.then]
    refine ret1 (v := .bool false) rfl (by kernel_rfl) ?_
    exact ⟨by rw [q4]; rfl, c6⟩
  · rw [q4]
    refine W.sq (v := .bool true) rfl (r_not (b := false) rfl (by kernel_rfl) rfl) (by kernel_rfl) rfl rfl ?_
    refine W.sq (v := .bool true) rfl (r_assign rfl (by kernel_rfl)) (by kernel_rfl) rfl rfl ?_
    refine W.sch_endU (fun U7 => [.int .i64 z, undef, .bool true, U7 3, U7 4, U7 5]) (by kernel_rfl) (fun U7 => ?_)
    have c8 := (SG.belowR (Below.refl _ _) s1 (fun kq e => by cases e))
    refine h2 _ _ ?_
    refine wp_ret ?_
    try simp only [Exit.then]
    refine ret1 (v := .bool true) rfl (by kernel_rfl) ?_
    exact ⟨by rw [q4]; rfl, c8⟩

set_option maxRecDepth 100000 in
set_option maxHeartbeats 1000000 in
theorem areCustomers_any (m : Int) (A : Option Addr) (n c : Nat) (ps : List Pp) (A4 : Option Addr) (n4 c4 : Nat) (cs : List Int) (w : World) (ha : Rd w 4 A n (pipesV ps)) (hn : n ≤ 1048576) (hc4 : Rd w 1 A4 n4 (intsV cs)) (hn4 : n4 ≤ 1048576) :
    Calls Try.prog 69 #[.agg #[.int .i64 m, .slice A n c], .slice A4 n4 c4] w fun e w' => e = .returned (.bool (custOk m cs)) ∧ Below w.heap.size w w' := by
  have hl := rd_pipes_len ha
  have hl4 := rd_ints_len hc4
  go_enter Try.func69, Try.ntmps69
  refine wp_seq_k (fun K1 h1 => ?_)
  refine W.region_plain (row := none) [(0, true), (1, false)] (by kernel_rfl) ?_
  have s1 := SG.self w none
  refine W.sn (fun b => .pointer (some ⟨b, 0, none⟩)) #[.int .i64 m, .slice A n c] 32 s1 rfl (by kernel_rfl) rfl (fun _ => by kernel_rfl) (fun b2 w3 hb4 k5 x6 s7 => ?_)
  have lo8 : w.heap.size ≤ b2 := by have := ((SG.belowR (Below.refl _ _) s1 (fun kq e => by cases e))).size; omega
  refine W.sq (v := .bool false) rfl (r_assign rfl (by kernel_rfl)) (by kernel_rfl) rfl rfl ?_
  refine W.sch_end (l' := [.agg #[.int .i64 m, .slice A n c], .slice A4 n4 c4, .pointer (some ⟨b2, 0, none⟩), undef, .bool false, undef, undef, undef, undef, undef, undef, undef, undef, undef, undef]) (by kernel_rfl) ?_
  have c9 := (SG.belowR (Below.refl _ _) s7 (fun kq e => by cases e))
  refine h1 _ _ ?_
  refine wp_seq_k (fun K2 h2 => ?_)
  refine W.region_plain (row := none) [(0, false), (1, false), (2, false), (3, false), (4, false), (5, false), (6, false), (7, true), (8, false), (9, false), (10, false)] (by kernel_rfl) ?_
  have s10 := SG.self w3 none
  refine W.sq (v := .slice A4 n4 c4) rfl (r_move rfl (by kernel_rfl)) (by kernel_rfl) rfl rfl ?_
  refine W.sq (v := .int .i64 ((n4 : Nat) : Int)) rfl (r_len (A := A4) (n := n4) (c := c4) rfl (by kernel_rfl) (by kernel_rfl)) (by kernel_rfl) rfl rfl ?_
  refine W.sq (v := .pointer (some ⟨b2, 0, none⟩)) rfl (r_field0 rfl (by kernel_rfl) (by kernel_rfl)) (by kernel_rfl) rfl rfl ?_
  refine W.sq (v := .int .i64 m) rfl (r_load rfl (by kernel_rfl) (by kernel_rfl) (sgS (blk_cell (j := 0) x6 (by kernel_rfl)) (by simp))) (by kernel_rfl) rfl rfl ?_
  by_cases q11 : (((n4 : Nat) : Int) : Int) = (m : Int)
  · refine W.sq (v := .bool true) rfl (r_eql (m := ((n4 : Nat) : Int)) (n := m) rfl (by kernel_rfl) (by kernel_rfl) (decide_eq_true q11)) (by kernel_rfl) rfl rfl ?_
    refine W.sq (v := .bool true) rfl (r_move rfl (by kernel_rfl)) (by kernel_rfl) rfl rfl ?_
    refine W.sq (v := .slice A4 n4 c4) rfl (r_move rfl (by kernel_rfl)) (by kernel_rfl) rfl rfl ?_
    refine W.sc (vs := [.slice A4 n4 c4, .func (.func 110) #[] #[]]) rfl rfl (by kernel_rfl) (by kernel_rfl) (by kernel_rfl) rfl (slContainsFunc_any A4 n4 c4 cs 110 #[] (fun c => !inB c 0 1000) _ (Rd.kept hc4 (SG.belowR c9 s10 (fun kq e => by cases e))) (by omega) (by kernel_rfl) (fun W v hW => custF_any v W)) ?_
    rintro e w13 ⟨rfl, b12⟩
    have s14 := SG.of_below s10 b12
    refine ⟨_, rfl, s14, ?_⟩
    rcases Bool.eq_false_or_eq_true (cs.any (fun c => !inB c 0 1000)) with q15 | q15
    · rw [q15]
      refine W.sq (v := .bool false) rfl (r_not (b := true) rfl (by kernel_rfl) rfl) (by kernel_rfl) rfl rfl ?_
      refine W.sq (v := .bool false) rfl (r_pick (b := true) rfl (by kernel_rfl) (by kernel_rfl)) (by kernel_rfl) rfl rfl ?_
      refine W.sq (v := .bool false) rfl (r_assign rfl (by kernel_rfl)) (by kernel_rfl) rfl rfl ?_
      refine W.sch_endU (fun U16 => [.agg #[.int .i64 m, .slice A n c], .slice A4 n4 c4, .pointer (some ⟨b2, 0, none⟩), undef, .bool false, U16 5, U16 6, U16 7, U16 8, U16 9, U16 10, U16 11, U16 12, U16 13, U16 14]) (by kernel_rfl) (fun U16 => ?_)
      have x6 := SG.blk s14 x6 (by simp)
      have c17 := (SG.belowR c9 s14 (fun kq e => by cases e))
      refine h2 _ _ ?_
      refine wp_ret ?_
      try simp only [Exit.then]
      refine ret1 (v := .bool false) rfl (by kernel_rfl) ?_
      exact ⟨by have h9 := q15; rw [all_any, Bool.not_eq_true'] at h9; unfold custOk; rw [h9, Bool.and_false], c17⟩
    · rw [q15]
      refine W.sq (v := .bool true) rfl (r_not (b := false) rfl (by kernel_rfl) rfl) (by kernel_rfl) rfl rfl ?_
      refine W.sq (v := .bool true) rfl (r_pick (b := true) rfl (by kernel_rfl) (by kernel_rfl)) (by kernel_rfl) rfl rfl ?_
      refine W.sq (v := .bool true) rfl (r_assign rfl (by kernel_rfl)) (by kernel_rfl) rfl rfl ?_
      refine W.sch_endU (fun U18 => [.agg #[.int .i64 m, .slice A n c], .slice A4 n4 c4, .pointer (some ⟨b2, 0, none⟩), undef, .bool true, U18 5, U18 6, U18 7, U18 8, U18 9, U18 10, U18 11, U18 12, U18 13, U18 14]) (by kernel_rfl) (fun U18 => ?_)
      have x6 := SG.blk s14 x6 (by simp)
      have c19 := (SG.belowR c9 s14 (fun kq e => by cases e))
      refine h2 _ _ ?_
      refine wp_ret ?_
      try simp only [Exit.then]
      refine ret1 (v := .bool true) rfl (by kernel_rfl) ?_
      exact ⟨by have h9 := q15; rw [all_any, Bool.not_eq_false'] at h9; unfold custOk; rw [h9, decide_eq_true (by omega)]; rfl, c19⟩
  · refine W.sq (v := .bool false) rfl (r_eql (m := ((n4 : Nat) : Int)) (n := m) rfl (by kernel_rfl) (by kernel_rfl) (decide_eq_false q11)) (by kernel_rfl) rfl rfl ?_
    refine W.sq (v := .bool false) rfl (r_move rfl (by kernel_rfl)) (by kernel_rfl) rfl rfl ?_
    refine W.sk s10 rfl (by kernel_rfl) rfl rfl ?_
    refine W.sk s10 rfl (by kernel_rfl) rfl rfl ?_
    refine W.sk s10 rfl (by kernel_rfl) rfl rfl ?_
    refine W.sq (v := .bool false) rfl (r_pick (b := false) rfl (by kernel_rfl) (by kernel_rfl)) (by kernel_rfl) rfl rfl ?_
    refine W.sq (v := .bool false) rfl (r_assign rfl (by kernel_rfl)) (by kernel_rfl) rfl rfl ?_
    refine W.sch_endU (fun U20 => [.agg #[.int .i64 m, .slice A n c], .slice A4 n4 c4, .pointer (some ⟨b2, 0, none⟩), undef, .bool false, U20 5, U20 6, U20 7, U20 8, U20 9, U20 10, undef, undef, undef, U20 14]) (by kernel_rfl) (fun U20 => ?_)
    have x6 := SG.blk s10 x6 (by simp)
    have c21 := (SG.belowR c9 s10 (fun kq e => by cases e))
    refine h2 _ _ ?_
    refine wp_ret ?_
    try simp only [Exit.then]
    refine ret1 (v := .bool false) rfl (by kernel_rfl) ?_
    exact ⟨by unfold custOk; rw [decide_eq_false (by omega)]; rfl, c21⟩

set_option maxRecDepth 100000 in
set_option maxHeartbeats 1000000 in
theorem l5Customers_any (m : Int) (A : Option Addr) (n c : Nat) (ps : List Pp) (A4 : Option Addr) (n4 c4 : Nat) (cs : List Int) (w : World) (ha : Rd w 4 A n (pipesV ps)) (hn : n ≤ 1048576) (hc4 : Rd w 1 A4 n4 (intsV cs)) (hn4 : n4 ≤ 1048576) :
    Calls Try.prog 67 #[.agg #[.int .i64 m, .slice A n c], .slice A4 n4 c4] w fun e w' => e = .returned (.bool (custOk m cs)) ∧ Below w.heap.size w w' := by
  have hl := rd_pipes_len ha
  have hl4 := rd_ints_len hc4
  go_enter Try.func67, Try.ntmps67
  refine wp_seq_k (fun K1 h1 => ?_)
  refine W.region_plain (row := none) [(0, true), (1, false)] (by kernel_rfl) ?_
  have s1 := SG.self w none
  refine W.sn (fun b => .pointer (some ⟨b, 0, none⟩)) #[.int .i64 m, .slice A n c] 32 s1 rfl (by kernel_rfl) rfl (fun _ => by kernel_rfl) (fun b2 w3 hb4 k5 x6 s7 => ?_)
  have lo8 : w.heap.size ≤ b2 := by have := ((SG.belowR (Below.refl _ _) s1 (fun kq e => by cases e))).size; omega
  refine W.sq (v := .bool false) rfl (r_assign rfl (by kernel_rfl)) (by kernel_rfl) rfl rfl ?_
  refine W.sch_end (l' := [.agg #[.int .i64 m, .slice A n c], .slice A4 n4 c4, .pointer (some ⟨b2, 0, none⟩), undef, .bool false, undef, undef, undef, undef, undef, undef, undef, undef, undef, undef, undef, undef, undef, undef, undef, undef, undef, undef]) (by kernel_rfl) ?_
  have c9 := (SG.belowR (Below.refl _ _) s7 (fun kq e => by cases e))
  refine h1 _ _ ?_
  refine wp_seq_k (fun K2 h2 => ?_)
  refine wp_seq_k (fun K3 h3 => ?_)
  refine W.region_quiet [(0, false)] (by kernel_rfl) ?_
  refine W.sq (v := .int .i64 0) rfl (r_assign rfl (by kernel_rfl)) (by kernel_rfl) rfl rfl ?_
  refine W.sch_end (l' := [.agg #[.int .i64 m, .slice A n c], .slice A4 n4 c4, .pointer (some ⟨b2, 0, none⟩), undef, .bool false, .int .i64 0, undef, undef, undef, undef, undef, undef, undef, undef, undef, undef, undef, undef, undef, undef, undef, undef, undef]) (by kernel_rfl) ?_
  refine h3 _ _ ?_
  refine wp_block ?_
  refine loopK (fun am0 aa0 wl0 => ∃ (k : Nat) (U0 : Nat → Value), aa0 = ⟨[.agg #[.int .i64 m, .slice A n c], .slice A4 n4 c4, .pointer (some ⟨b2, 0, none⟩), undef, .bool false, .int .i64 ((k : Nat) : Int), U0 6, U0 7, U0 8, U0 9, U0 10, U0 11, U0 12, U0 13, U0 14, U0 15, U0 16, U0 17, undef, undef, undef, undef, undef].toArray, []⟩ ∧ (am0 = n4 - k) ∧ (k ≤ n4) ∧ (∀ j z, j < k → cs[j]? = some z → inB z 0 1000 = true) ∧ (wl0.heap[b2]? = some (.cells #[.int .i64 m, .slice A n c] 32 (0, 0))) ∧ (Below w.heap.size w wl0)) (n4 - 0) ?_ ?_
  · exact ⟨0, (fun iU9 => [.agg #[.int .i64 m, .slice A n c], .slice A4 n4 c4, .pointer (some ⟨b2, 0, none⟩), undef, .bool false, .int .i64 0, undef, undef, undef, undef, undef, undef, undef, undef, undef, undef, undef, undef, undef, undef, undef, undef, undef].getD iU9 undef), (by kernel_rfl), rfl, (Nat.zero_le _), (fun j z hj => absurd hj (by omega)), x6, c9⟩
  rintro am0 aa0 wl0 K4 h4 ⟨k, U0, rfl, rfl, hk, hno, x6, c10⟩
  refine wp_seq_k (fun K5 h5 => ?_)
  refine wp_seq_k (fun K6 h6 => ?_)
  refine W.region_quiet [(0, false), (1, false), (2, false), (3, false)] (by kernel_rfl) ?_
  refine W.sq (v := .int .i64 ((k : Nat) : Int)) rfl (r_move rfl (by kernel_rfl)) (by kernel_rfl) rfl rfl ?_
  refine W.sq (v := .slice A4 n4 c4) rfl (r_move rfl (by kernel_rfl)) (by kernel_rfl) rfl rfl ?_
  refine W.sq (v := .int .i64 ((n4 : Nat) : Int)) rfl (r_len (A := A4) (n := n4) (c := c4) rfl (by kernel_rfl) (by kernel_rfl)) (by kernel_rfl) rfl rfl ?_
  by_cases q11 : (((k : Nat) : Int) : Int) < (((n4 : Nat) : Int) : Int)
  · refine W.sq (v := .bool true) rfl (r_lss (m := ((k : Nat) : Int)) (n := ((n4 : Nat) : Int)) rfl (by kernel_rfl) (by kernel_rfl) (decide_eq_true q11)) (by kernel_rfl) rfl rfl ?_
    refine W.sch_endU (fun U12 => [.agg #[.int .i64 m, .slice A n c], .slice A4 n4 c4, .pointer (some ⟨b2, 0, none⟩), undef, .bool false, .int .i64 ((k : Nat) : Int), U12 6, U12 7, U12 8, .bool true, (U0 10), (U0 11), (U0 12), (U0 13), (U0 14), (U0 15), (U0 16), (U0 17), undef, undef, undef, undef, undef]) (by kernel_rfl) (fun U12 => ?_)
    refine h6 _ _ ?_
    refine wp_cond_true (by kernel_rfl) ?_
    refine wp_skip ?_
    refine h5 _ _ ?_
    refine wp_seq_k (fun K7 h7 => ?_)
    refine wp_block ?_
    refine wp_seq_k (fun K8 h8 => ?_)
    refine W.region_plain (row := none) [(0, false), (1, false), (2, false), (3, false), (4, true), (5, false)] (by kernel_rfl) ?_
    have s13 := SG.self wl0 none
    refine W.sq (v := .slice A4 n4 c4) rfl (r_move rfl (by kernel_rfl)) (by kernel_rfl) rfl rfl ?_
    refine W.sq (v := .int .i64 ((k : Nat) : Int)) rfl (r_move rfl (by kernel_rfl)) (by kernel_rfl) rfl rfl ?_
    obtain ⟨x14, hx15⟩ := get_of (zs := cs) (k := k) (by have := hl4; omega)
    obtain ⟨b16, o17, hA18, hb19, hc20⟩ := Rd.elInt hc4 hx15
    refine W.sq (v := .pointer (some ⟨b16, o17 + k, none⟩)) rfl (r_idx1 (n := n4) (c := c4) (k := k) rfl (by kernel_rfl) hA18 (by kernel_rfl) (by kernel_rfl) (by have := hl4; omega)) (by kernel_rfl) rfl rfl ?_
    refine W.sq (v := .int .i64 x14) rfl (r_load rfl (by kernel_rfl) (by kernel_rfl) (sgS (later c10 hc20) (by simp))) (by kernel_rfl) rfl rfl ?_
    refine W.sc (vs := [.int .i64 x14, .int .i64 0, .int .i64 1000]) rfl rfl (by kernel_rfl) (by kernel_rfl) (by kernel_rfl) rfl (l1In_any x14 0 1000 _) ?_
    rintro e w' ⟨rfl, rfl⟩
    refine ⟨_, rfl, s13, ?_⟩
    rcases Bool.eq_false_or_eq_true (inB x14 0 1000) with q23 | q23
    · rw [q23]
      refine W.sq (v := .bool false) rfl (r_not (b := true) rfl (by kernel_rfl) rfl) (by kernel_rfl) rfl rfl ?_
      refine W.sch_endU (fun U24 => [.agg #[.int .i64 m, .slice A n c], .slice A4 n4 c4, .pointer (some ⟨b2, 0, none⟩), undef, .bool false, .int .i64 ((k : Nat) : Int), (U12 6), (U12 7), (U12 8), .bool true, (U0 10), (U0 11), U24 12, U24 13, U24 14, U24 15, U24 16, .bool false, undef, undef, undef, undef, undef]) (by kernel_rfl) (fun U24 => ?_)
      have x6 := SG.blk s13 x6 (by simp)
      have c25 := (SG.belowR c10 s13 (fun kq e => by cases e))
      refine h8 _ _ ?_
      refine wp_cond_false (by kernel_rfl) ?_
      refine wp_skip ?_
      refine h7 _ _ ?_
      refine W.region_quiet [(0, false), (1, false), (2, false)] (by kernel_rfl) ?_
      refine W.sq (v := .int .i64 ((k : Nat) : Int)) rfl (r_move rfl (by kernel_rfl)) (by kernel_rfl) rfl rfl ?_
      refine W.sq (v := .int .i64 ((k + 1 : Nat) : Int)) rfl (r_add (m := ((k : Nat) : Int)) (n := 1) (z := ((k + 1 : Nat) : Int)) rfl (by kernel_rfl) (by kernel_rfl) (by omega) (by omega)) (by kernel_rfl) rfl rfl ?_
      refine W.sq (v := .int .i64 ((k + 1 : Nat) : Int)) rfl (r_assign rfl (by kernel_rfl)) (by kernel_rfl) rfl rfl ?_
      refine W.sch_endU (fun U26 => [.agg #[.int .i64 m, .slice A n c], .slice A4 n4 c4, .pointer (some ⟨b2, 0, none⟩), undef, .bool false, .int .i64 ((k + 1 : Nat) : Int), (U12 6), (U12 7), (U12 8), .bool true, U26 10, U26 11, (U24 12), (U24 13), (U24 14), (U24 15), (U24 16), .bool false, undef, undef, undef, undef, undef]) (by kernel_rfl) (fun U26 => ?_)
      exact h4 _ _ _ (by omega : (n4 - (k + 1)) < _) ⟨k + 1, (fun iU9 => [.agg #[.int .i64 m, .slice A n c], .slice A4 n4 c4, .pointer (some ⟨b2, 0, none⟩), undef, .bool false, .int .i64 ((k + 1 : Nat) : Int), (U12 6), (U12 7), (U12 8), .bool true, (U26 10), (U26 11), (U24 12), (U24 13), (U24 14), (U24 15), (U24 16), .bool false, undef, undef, undef, undef, undef].getD iU9 undef), (by kernel_rfl), rfl, (by omega), (upto_succ (Q := fun z => inB z 0 1000 = true) hno hx15 q23), x6, c25⟩
    · rw [q23]
      refine W.sq (v := .bool true) rfl (r_not (b := false) rfl (by kernel_rfl) rfl) (by kernel_rfl) rfl rfl ?_
      refine W.sch_endU (fun U27 => [.agg #[.int .i64 m, .slice A n c], .slice A4 n4 c4, .pointer (some ⟨b2, 0, none⟩), undef, .bool false, .int .i64 ((k : Nat) : Int), (U12 6), (U12 7), (U12 8), .bool true, (U0 10), (U0 11), U27 12, U27 13, U27 14, U27 15, U27 16, .bool true, undef, undef, undef, undef, undef]) (by kernel_rfl) (fun U27 => ?_)
      have x6 := SG.blk s13 x6 (by simp)
      have c28 := (SG.belowR c10 s13 (fun kq e => by cases e))
      refine h8 _ _ ?_
      refine wp_cond_true (by kernel_rfl) ?_
      refine wp_seq_k (fun K9 h9 => ?_)
      refine W.region_quiet [(0, false)] (by kernel_rfl) ?_
      refine W.sq (v := .bool false) rfl (r_assign rfl (by kernel_rfl)) (by kernel_rfl) rfl rfl ?_
      refine W.sch_end (l' := [.agg #[.int .i64 m, .slice A n c], .slice A4 n4 c4, .pointer (some ⟨b2, 0, none⟩), undef, .bool false, .int .i64 ((k : Nat) : Int), (U12 6), (U12 7), (U12 8), .bool true, (U0 10), (U0 11), (U27 12), (U27 13), (U27 14), (U27 15), (U27 16), .bool true, undef, undef, undef, undef, undef]) (by kernel_rfl) ?_
      refine h9 _ _ ?_
      refine wp_ret ?_
      try simp only [Exit.then, Exit.inBlock]
      refine ret1 (v := .bool false) rfl (by kernel_rfl) ?_
      exact ⟨by unfold custOk; rw [show cs.all (fun c => inB c 0 1000) = false from Bool.eq_false_iff.2 (fun h9 => by have := List.all_eq_true.1 h9 x14 (List.mem_of_getElem? hx15); rw [q23] at this; cases this), Bool.and_false], c28⟩
  · refine W.sq (v := .bool false) rfl (r_lss (m := ((k : Nat) : Int)) (n := ((n4 : Nat) : Int)) rfl (by kernel_rfl) (by kernel_rfl) (decide_eq_false q11)) (by kernel_rfl) rfl rfl ?_
    refine W.sch_endU (fun U29 => [.agg #[.int .i64 m, .slice A n c], .slice A4 n4 c4, .pointer (some ⟨b2, 0, none⟩), undef, .bool false, .int .i64 ((k : Nat) : Int), U29 6, U29 7, U29 8, .bool false, (U0 10), (U0 11), (U0 12), (U0 13), (U0 14), (U0 15), (U0 16), (U0 17), undef, undef, undef, undef, undef]) (by kernel_rfl) (fun U29 => ?_)
    refine h6 _ _ ?_
    refine wp_cond_false (by kernel_rfl) ?_
    refine wp_exit ?_
    refine h2 _ _ ?_
    refine wp_seq_k (fun K10 h10 => ?_)
    refine W.region_quiet [(0, false), (1, false), (2, false), (3, false), (4, false), (5, false)] (by kernel_rfl) ?_
    refine W.sq (v := .slice A4 n4 c4) rfl (r_move rfl (by kernel_rfl)) (by kernel_rfl) rfl rfl ?_
    refine W.sq (v := .int .i64 ((n4 : Nat) : Int)) rfl (r_len (A := A4) (n := n4) (c := c4) rfl (by kernel_rfl) (by kernel_rfl)) (by kernel_rfl) rfl rfl ?_
    refine W.sq (v := .pointer (some ⟨b2, 0, none⟩)) rfl (r_field0 rfl (by kernel_rfl) (by kernel_rfl)) (by kernel_rfl) rfl rfl ?_
    refine W.sq (v := .int .i64 m) rfl (r_load rfl (by kernel_rfl) (by kernel_rfl) (eqS (blk_cell (j := 0) x6 (by kernel_rfl)))) (by kernel_rfl) rfl rfl ?_
    by_cases q30 : (((n4 : Nat) : Int) : Int) = (m : Int)
    · refine W.sq (v := .bool true) rfl (r_eql (m := ((n4 : Nat) : Int)) (n := m) rfl (by kernel_rfl) (by kernel_rfl) (decide_eq_true q30)) (by kernel_rfl) rfl rfl ?_
      refine W.sq (v := .bool true) rfl (r_assign rfl (by kernel_rfl)) (by kernel_rfl) rfl rfl ?_
      refine W.sch_endU (fun U31 => [.agg #[.int .i64 m, .slice A n c], .slice A4 n4 c4, .pointer (some ⟨b2, 0, none⟩), undef, .bool true, .int .i64 ((k : Nat) : Int), (U29 6), (U29 7), (U29 8), .bool false, (U0 10), (U0 11), (U0 12), (U0 13), (U0 14), (U0 15), (U0 16), (U0 17), U31 18, U31 19, U31 20, U31 21, U31 22]) (by kernel_rfl) (fun U31 => ?_)
      refine h10 _ _ ?_
      refine wp_ret ?_
      try simp only [Exit.then]
      refine ret1 (v := .bool true) rfl (by kernel_rfl) ?_
      have e8 : cs.all (fun c => inB c 0 1000) = true := List.all_eq_true.2 (fun c hc => by obtain ⟨j, hj, e⟩ := List.getElem_of_mem hc; exact hno j c (by omega) (by rw [List.getElem?_eq_getElem hj, e]))
      exact ⟨by unfold custOk; rw [e8, decide_eq_true (by omega)]; rfl, c10⟩
    · refine W.sq (v := .bool false) rfl (r_eql (m := ((n4 : Nat) : Int)) (n := m) rfl (by kernel_rfl) (by kernel_rfl) (decide_eq_false q30)) (by kernel_rfl) rfl rfl ?_
      refine W.sq (v := .bool false) rfl (r_assign rfl (by kernel_rfl)) (by kernel_rfl) rfl rfl ?_
      refine W.sch_endU (fun U32 => [.agg #[.int .i64 m, .slice A n c], .slice A4 n4 c4, .pointer (some ⟨b2, 0, none⟩), undef, .bool false, .int .i64 ((k : Nat) : Int), (U29 6), (U29 7), (U29 8), .bool false, (U0 10), (U0 11), (U0 12), (U0 13), (U0 14), (U0 15), (U0 16), (U0 17), U32 18, U32 19, U32 20, U32 21, U32 22]) (by kernel_rfl) (fun U32 => ?_)
      refine h10 _ _ ?_
      refine wp_ret ?_
      try simp only [Exit.then]
      refine ret1 (v := .bool false) rfl (by kernel_rfl) ?_
      have e8 : cs.all (fun c => inB c 0 1000) = true := List.all_eq_true.2 (fun c hc => by obtain ⟨j, hj, e⟩ := List.getElem_of_mem hc; exact hno j c (by omega) (by rw [List.getElem?_eq_getElem hj, e]))
      exact ⟨by unfold custOk; rw [e8, decide_eq_false (by omega)]; rfl, c10⟩

set_option maxRecDepth 100000 in
set_option maxHeartbeats 1000000 in
theorem harmOf_any (m : Int) (A : Option Addr) (n c : Nat) (ps : List Pp) (A2 : Option Addr) (n2 c2 : Nat) (vs : List Vv) (s : Int) (A3 : Option Addr) (n3 c3 : Nat) (pl : List Int) (A4 : Option Addr) (n4 c4 : Nat) (cs : List Int) (w : World) (ha : Rd w 4 A n (pipesV ps)) (hb : Rd w 4 A2 n2 (valvesV vs)) (hn : n ≤ 1048576) (hn2 : n2 ≤ 1048576) (hfm2 : Fm A2 n2 c2) (hv9 : GoodVal m ps vs) (hs : 1 ≤ s ∧ s ≤ m) (hp3 : Rd w 1 A3 n3 (intsV pl)) (hn3 : n3 ≤ 1000000) (hc4 : Rd w 1 A4 n4 (intsV cs)) (hn4 : n4 ≤ 1048576) (hco : custOk m cs = true) :
    Calls Try.prog 70 #[.agg #[.int .i64 m, .slice A n c], .slice A2 n2 c2, .int .i64 s, .slice A3 n3 c3, .slice A4 n4 c4] w fun e w' => e = .returned (.int .i64 (harmL ps vs s cs pl)) ∧ Below w.heap.size w w' := by
  have hl := rd_pipes_len ha
  have hl2 := rd_valves_len hb
  have hl3 := rd_ints_len hp3
  have hg := hv9.net
  have hgl := hg.lo
  have hgh := hg.hi
  have hp := hg.pipesIn
  have hlen10 := hg.len
  have hu := hv9.uniq
  have hvl := hv9.len
  have hl4 := rd_ints_len hc4
  obtain ⟨hcl, hcb⟩ := custOk_of hco
  go_enter Try.func70, Try.ntmps70
  refine wp_seq_k (fun K1 h1 => ?_)
  refine W.region_plain (row := none) [(0, true), (1, false)] (by kernel_rfl) ?_
  have s1 := SG.self w none
  refine W.sn (fun b => .pointer (some ⟨b, 0, none⟩)) #[.int .i64 m, .slice A n c] 32 s1 rfl (by kernel_rfl) rfl (fun _ => by kernel_rfl) (fun b2 w3 hb4 k5 x6 s7 => ?_)
  have lo8 : w.heap.size ≤ b2 := by have := ((SG.belowR (Below.refl _ _) s1 (fun kq e => by cases e))).size; omega
  refine W.sq (v := .int .i64 0) rfl (r_assign rfl (by kernel_rfl)) (by kernel_rfl) rfl rfl ?_
  refine W.sch_end (l' := [.agg #[.int .i64 m, .slice A n c], .slice A2 n2 c2, .int .i64 s, .slice A3 n3 c3, .slice A4 n4 c4, .pointer (some ⟨b2, 0, none⟩), undef, undef, undef, undef, .int .i64 0, undef, undef, undef, undef, undef, undef, undef, undef, undef, undef, undef, undef, undef, undef, undef, undef, undef, undef, undef, undef, undef, undef, undef, undef, undef, undef, undef, undef, undef]) (by kernel_rfl) ?_
  have c9 := (SG.belowR (Below.refl _ _) s7 (fun kq e => by cases e))
  refine h1 _ _ ?_
  refine wp_seq_k (fun K2 h2 => ?_)
  refine W.region_sch (row := none) (Sch.of [(0, false), (1, false), (2, false), (4, false), (3, true), (5, true), (6, false), (7, false)]) (by kernel_rfl) (by kernel_rfl) (fun _ d _ _ _ h => by cases d <;> exact h) (by kernel_rfl) (fun w10 e11 s12 => ?_)
  refine W.sq (v := .agg #[.int .i64 m, .slice A n c]) rfl (r_load2 rfl (by kernel_rfl) (by kernel_rfl) (by kernel_rfl) (sgS (blk_cell (j := 0) x6 (by kernel_rfl)) (by simp)) (sgS (blk_cell (j := 1) x6 (by kernel_rfl)) (by simp))) (by kernel_rfl) rfl rfl ?_
  refine W.sq (v := .slice A2 n2 c2) rfl (r_move rfl (by kernel_rfl)) (by kernel_rfl) rfl rfl ?_
  refine W.sq (v := .slice A3 n3 c3) rfl (r_move rfl (by kernel_rfl)) (by kernel_rfl) rfl rfl ?_
  refine W.sq (v := .int .i64 s) rfl (r_move rfl (by kernel_rfl)) (by kernel_rfl) rfl rfl ?_
  refine W.sc (vs := [.slice A2 n2 c2, .slice A3 n3 c3]) rfl rfl (by kernel_rfl) (by kernel_rfl) (by kernel_rfl) rfl (shutToo_any A2 n2 c2 vs A3 n3 c3 pl _ (Rd.kept hb (SG.belowR c9 s12 (fun kq e => by cases e))) (by omega) hfm2 (Rd.kept hp3 (SG.belowR c9 s12 (fun kq e => by cases e))) (by omega)) ?_
  rintro e w22 ⟨A13, n14, c15, rfl, ho16, b21⟩
  have s23 := SG.of_below s12 b21
  refine ⟨_, rfl, s23, ?_⟩
  have rd17 := own_rd ho16
  have fm20 := own_fm ho16
  have hl18 := rd_valves_len rd17
  have sp24 := sp_freshB (g := b2) ho16 (Nat.lt_of_lt_of_le (blk_lt x6) (World.grownBy.size s12))
  have := shutV_len vs pl
  refine W.sc (vs := [.agg #[.int .i64 m, .slice A n c], .slice A13 n14 c15, .int .i64 s]) rfl rfl (by kernel_rfl) (by kernel_rfl) (by kernel_rfl) rfl (watered_any m A n c ps A13 n14 c15 (shutV vs pl) (s) (s).toNat _ (Rd.kept ha (SG.belowR c9 s23 (fun kq e => by cases e))) rd17 (by omega) (by omega) hp (by omega) (by omega) (uniqV_shut hu pl) (by omega) (by omega)) ?_
  rintro e w31 ⟨pb25, rfl, lo29, rd26, b30⟩
  have s32 := SG.of_below s23 b30
  refine ⟨_, rfl, s32, ?_⟩
  have rd33 := Rd.kept rd17 b30
  have sp34 : Sp (some ⟨pb25, 0, none⟩) 19 (some b2) := sp_ptrB (Nat.lt_of_lt_of_le (Nat.lt_of_lt_of_le (blk_lt x6) (World.grownBy.size s23)) lo29)
  have hl27 := rd_bools_len rd26
  rw [wetL_len] at hl27
  have hl27 : (wetL (linked ps (openQ (shutV vs pl) true)) (s)).length = 19 := wetL_len _ _
  refine W.sq (v := .pointer (some ⟨pb25, 0, none⟩)) rfl (r_assign rfl (by kernel_rfl)) (by kernel_rfl) rfl rfl ?_
  refine W.sq (v := .int .i64 0) rfl (r_assign rfl (by kernel_rfl)) (by kernel_rfl) rfl rfl ?_
  refine W.sch_endU (fun U35 => [.agg #[.int .i64 m, .slice A n c], .slice A2 n2 c2, .int .i64 s, .slice A3 n3 c3, .slice A4 n4 c4, .pointer (some ⟨b2, 0, none⟩), undef, undef, undef, undef, .int .i64 0, .pointer (some ⟨pb25, 0, none⟩), .int .i64 0, undef, undef, U35 15, U35 16, U35 17, U35 18, U35 19, U35 20, undef, undef, undef, undef, undef, undef, undef, undef, undef, undef, undef, undef, undef, undef, undef, undef, undef, undef, undef]) (by kernel_rfl) (fun U35 => ?_)
  have x6 := SG.blk s32 x6 (by simp)
  have c36 := (SG.belowR c9 s32 (fun kq e => by cases e))
  refine h2 _ _ ?_
  refine wp_seq_k (fun K3 h3 => ?_)
  refine wp_seq_k (fun K4 h4 => ?_)
  refine W.region_quiet [(0, false), (1, false), (2, false)] (by kernel_rfl) ?_
  refine W.sq (v := .slice A4 n4 c4) rfl (r_move rfl (by kernel_rfl)) (by kernel_rfl) rfl rfl ?_
  refine W.sq (v := .int .i64 ((n4 : Nat) : Int)) rfl (r_len (A := A4) (n := n4) (c := c4) rfl (by kernel_rfl) (by kernel_rfl)) (by kernel_rfl) rfl rfl ?_
  refine W.sq (v := .int .i64 0) rfl (r_move rfl (by kernel_rfl)) (by kernel_rfl) rfl rfl ?_
  refine W.sch_end (l' := [.agg #[.int .i64 m, .slice A n c], .slice A2 n2 c2, .int .i64 s, .slice A3 n3 c3, .slice A4 n4 c4, .pointer (some ⟨b2, 0, none⟩), undef, undef, undef, undef, .int .i64 0, .pointer (some ⟨pb25, 0, none⟩), .int .i64 0, undef, undef, (U35 15), (U35 16), (U35 17), (U35 18), (U35 19), (U35 20), .slice A4 n4 c4, .int .i64 ((n4 : Nat) : Int), .int .i64 0, undef, undef, undef, undef, undef, undef, undef, undef, undef, undef, undef, undef, undef, undef, undef, undef]) (by kernel_rfl) ?_
  refine h4 _ _ ?_
  refine wp_block ?_
  refine loopK (fun am0 aa0 wl0 => ∃ (i : Nat) (u : Int) (U0 : Nat → Value), aa0 = ⟨[.agg #[.int .i64 m, .slice A n c], .slice A2 n2 c2, .int .i64 s, .slice A3 n3 c3, .slice A4 n4 c4, .pointer (some ⟨b2, 0, none⟩), undef, undef, undef, undef, .int .i64 0, .pointer (some ⟨pb25, 0, none⟩), .int .i64 u, U0 13, U0 14, (U35 15), (U35 16), (U35 17), (U35 18), (U35 19), (U35 20), .slice A4 n4 c4, .int .i64 ((n4 : Nat) : Int), .int .i64 ((i : Nat) : Int), U0 24, U0 25, U0 26, U0 27, U0 28, U0 29, U0 30, U0 31, U0 32, U0 33, U0 34, U0 35, U0 36, U0 37, U0 38, undef].toArray, []⟩ ∧ (am0 = n4 - i) ∧ (i ≤ n4) ∧ (u = harmTo (linked ps (openQ (shutV vs pl) true)) s cs i) ∧ (wl0.heap[b2]? = some (.cells #[.int .i64 m, .slice A n c] 32 (0, 0))) ∧ (Rd wl0 1 (some ⟨pb25, 0, none⟩) 19 (boolsV (wetL (linked ps (openQ (shutV vs pl) true)) (s)))) ∧ (Below w.heap.size w wl0)) (n4 - 0) ?_ ?_
  · exact ⟨0, 0, (fun iU9 => [.agg #[.int .i64 m, .slice A n c], .slice A2 n2 c2, .int .i64 s, .slice A3 n3 c3, .slice A4 n4 c4, .pointer (some ⟨b2, 0, none⟩), undef, undef, undef, undef, .int .i64 0, .pointer (some ⟨pb25, 0, none⟩), .int .i64 0, undef, undef, (U35 15), (U35 16), (U35 17), (U35 18), (U35 19), (U35 20), .slice A4 n4 c4, .int .i64 ((n4 : Nat) : Int), .int .i64 0, undef, undef, undef, undef, undef, undef, undef, undef, undef, undef, undef, undef, undef, undef, undef, undef].getD iU9 undef), (by kernel_rfl), rfl, (Nat.zero_le _), rfl, x6, rd26, c36⟩
  rintro am0 aa0 wl0 K5 h5 ⟨i, u, U0, rfl, rfl, hi, hsum, x6, rd0_11, c37⟩
  have hbd := harmTo_bd (E := (linked ps (openQ (shutV vs pl) true))) (s := s) hcb i (by omega)
  refine wp_seq_k (fun K6 h6 => ?_)
  refine W.region_quiet [(0, false)] (by kernel_rfl) ?_
  by_cases q38 : (((i : Nat) : Int) : Int) < (((n4 : Nat) : Int) : Int)
  · refine W.sq (v := .bool true) rfl (r_lss (m := ((i : Nat) : Int)) (n := ((n4 : Nat) : Int)) rfl (by kernel_rfl) (by kernel_rfl) (decide_eq_true q38)) (by kernel_rfl) rfl rfl ?_
    refine W.sch_end (l' := [.agg #[.int .i64 m, .slice A n c], .slice A2 n2 c2, .int .i64 s, .slice A3 n3 c3, .slice A4 n4 c4, .pointer (some ⟨b2, 0, none⟩), undef, undef, undef, undef, .int .i64 0, .pointer (some ⟨pb25, 0, none⟩), .int .i64 u, (U0 13), (U0 14), (U35 15), (U35 16), (U35 17), (U35 18), (U35 19), (U35 20), .slice A4 n4 c4, .int .i64 ((n4 : Nat) : Int), .int .i64 ((i : Nat) : Int), .bool true, (U0 25), (U0 26), (U0 27), (U0 28), (U0 29), (U0 30), (U0 31), (U0 32), (U0 33), (U0 34), (U0 35), (U0 36), (U0 37), (U0 38), undef]) (by kernel_rfl) ?_
    refine h6 _ _ ?_
    refine wp_seq_k (fun K7 h7 => ?_)
    refine wp_cond_true (by kernel_rfl) ?_
    refine wp_skip ?_
    refine h7 _ _ ?_
    refine wp_seq_k (fun K8 h8 => ?_)
    refine wp_block ?_
    refine wp_seq_k (fun K9 h9 => ?_)
    refine W.region_quiet [(0, false), (1, false), (2, false), (3, false), (4, false)] (by kernel_rfl) ?_
    refine W.sq (v := .int .i64 ((i : Nat) : Int)) rfl (r_move rfl (by kernel_rfl)) (by kernel_rfl) rfl rfl ?_
    obtain ⟨x39, hx40⟩ := get_of (zs := cs) (k := i) (by have := hl4; omega)
    have hcx := hcb x39 (List.mem_of_getElem? hx40)
    obtain ⟨b41, o42, hA43, hb44, hc45⟩ := Rd.elInt hc4 hx40
    refine W.sq (v := .pointer (some ⟨b41, o42 + i, none⟩)) rfl (r_idx1 (n := n4) (c := c4) (k := i) rfl (by kernel_rfl) hA43 (by kernel_rfl) (by kernel_rfl) (by have := hl4; omega)) (by kernel_rfl) rfl rfl ?_
    refine W.sq (v := .int .i64 x39) rfl (r_load rfl (by kernel_rfl) (by kernel_rfl) (eqS (later c37 hc45))) (by kernel_rfl) rfl rfl ?_
    refine W.sq (v := .int .i64 ((i : Nat) : Int)) rfl (r_assign rfl (by kernel_rfl)) (by kernel_rfl) rfl rfl ?_
    refine W.sq (v := .int .i64 x39) rfl (r_assign rfl (by kernel_rfl)) (by kernel_rfl) rfl rfl ?_
    refine W.sch_endU (fun U46 => [.agg #[.int .i64 m, .slice A n c], .slice A2 n2 c2, .int .i64 s, .slice A3 n3 c3, .slice A4 n4 c4, .pointer (some ⟨b2, 0, none⟩), undef, undef, undef, undef, .int .i64 0, .pointer (some ⟨pb25, 0, none⟩), .int .i64 u, .int .i64 ((i : Nat) : Int), .int .i64 x39, (U35 15), (U35 16), (U35 17), (U35 18), (U35 19), (U35 20), .slice A4 n4 c4, .int .i64 ((n4 : Nat) : Int), .int .i64 ((i : Nat) : Int), .bool true, U46 25, U46 26, U46 27, (U0 28), (U0 29), (U0 30), (U0 31), (U0 32), (U0 33), (U0 34), (U0 35), (U0 36), (U0 37), (U0 38), undef]) (by kernel_rfl) (fun U46 => ?_)
    refine h9 _ _ ?_
    refine wp_seq_k (fun K10 h10 => ?_)
    refine W.region_quiet [(0, false), (1, false), (2, false), (3, false), (4, false), (5, false), (6, false)] (by kernel_rfl) ?_
    refine W.sq (v := .pointer (some ⟨pb25, 0, none⟩)) rfl (r_move rfl (by kernel_rfl)) (by kernel_rfl) rfl rfl ?_
    refine W.sq (v := .int .i64 ((i : Nat) : Int)) rfl (r_move rfl (by kernel_rfl)) (by kernel_rfl) rfl rfl ?_
    refine W.sq (v := .int .i64 ((i + 1 : Nat) : Int)) rfl (r_add (m := ((i : Nat) : Int)) (n := 1) (z := ((i + 1 : Nat) : Int)) rfl (by kernel_rfl) (by kernel_rfl) (by omega) (by omega)) (by kernel_rfl) rfl rfl ?_
    refine W.sq (v := .pointer (some ⟨pb25, 0, none⟩)) rfl (r_nilCheck rfl (by kernel_rfl)) (by kernel_rfl) rfl rfl ?_
    obtain ⟨x47, hx48⟩ := get_of (zs := (wetL (linked ps (openQ (shutV vs pl) true)) (s))) (k := i + 1) (by have := hl27; omega)
    obtain ⟨hb49, hc50⟩ := Rd.elBool rd0_11 hx48
    refine W.sq (v := .pointer (some ⟨pb25, i + 1, none⟩)) rfl (r_idxA (len := 19) (k := i + 1) rfl (by kernel_rfl) (by kernel_rfl) (by kernel_rfl) (by omega)) (by kernel_rfl) rfl rfl ?_
    refine W.sq (v := .bool x47) rfl (r_load rfl (by kernel_rfl) (by kernel_rfl) (eqS hc50)) (by kernel_rfl) rfl rfl ?_
    refine W.sq (v := .bool (!x47)) rfl (r_not (b := x47) rfl (by kernel_rfl) rfl) (by kernel_rfl) rfl rfl ?_
    refine W.sch_endU (fun U51 => [.agg #[.int .i64 m, .slice A n c], .slice A2 n2 c2, .int .i64 s, .slice A3 n3 c3, .slice A4 n4 c4, .pointer (some ⟨b2, 0, none⟩), undef, undef, undef, undef, .int .i64 0, .pointer (some ⟨pb25, 0, none⟩), .int .i64 u, .int .i64 ((i : Nat) : Int), .int .i64 x39, (U35 15), (U35 16), (U35 17), (U35 18), (U35 19), (U35 20), .slice A4 n4 c4, .int .i64 ((n4 : Nat) : Int), .int .i64 ((i : Nat) : Int), .bool true, (U46 25), (U46 26), (U46 27), U51 28, U51 29, U51 30, U51 31, U51 32, U51 33, .bool (!x47), (U0 35), (U0 36), (U0 37), (U0 38), undef]) (by kernel_rfl) (fun U51 => ?_)
    refine h10 _ _ ?_
    rcases Bool.eq_false_or_eq_true (!x47) with q52 | q52
    · rw [q52]
      refine wp_cond_true (by kernel_rfl) ?_
      refine W.region_quiet [(0, false), (1, false), (2, false), (3, false)] (by kernel_rfl) ?_
      refine W.sq (v := .int .i64 u) rfl (r_move rfl (by kernel_rfl)) (by kernel_rfl) rfl rfl ?_
      refine W.sq (v := .int .i64 x39) rfl (r_move rfl (by kernel_rfl)) (by kernel_rfl) rfl rfl ?_
      refine W.sq (v := .int .i64 (u + x39)) rfl (r_add (m := u) (n := x39) (z := u + x39) rfl (by kernel_rfl) (by kernel_rfl) (rfl) (by omega)) (by kernel_rfl) rfl rfl ?_
      refine W.sq (v := .int .i64 (u + x39)) rfl (r_assign rfl (by kernel_rfl)) (by kernel_rfl) rfl rfl ?_
      refine W.sch_endU (fun U53 => [.agg #[.int .i64 m, .slice A n c], .slice A2 n2 c2, .int .i64 s, .slice A3 n3 c3, .slice A4 n4 c4, .pointer (some ⟨b2, 0, none⟩), undef, undef, undef, undef, .int .i64 0, .pointer (some ⟨pb25, 0, none⟩), .int .i64 (u + x39), .int .i64 ((i : Nat) : Int), .int .i64 x39, (U35 15), (U35 16), (U35 17), (U35 18), (U35 19), (U35 20), .slice A4 n4 c4, .int .i64 ((n4 : Nat) : Int), .int .i64 ((i : Nat) : Int), .bool true, (U46 25), (U46 26), (U46 27), (U51 28), (U51 29), (U51 30), (U51 31), (U51 32), (U51 33), .bool true, U53 35, U53 36, U53 37, (U0 38), undef]) (by kernel_rfl) (fun U53 => ?_)
      refine h8 _ _ ?_
      refine W.region_quiet [(0, false), (1, false)] (by kernel_rfl) ?_
      refine W.sq (v := .int .i64 ((i + 1 : Nat) : Int)) rfl (r_add (m := ((i : Nat) : Int)) (n := 1) (z := ((i + 1 : Nat) : Int)) rfl (by kernel_rfl) (by kernel_rfl) (by omega) (by omega)) (by kernel_rfl) rfl rfl ?_
      refine W.sq (v := .int .i64 ((i + 1 : Nat) : Int)) rfl (r_move rfl (by kernel_rfl)) (by kernel_rfl) rfl rfl ?_
      refine W.sch_endU (fun U54 => [.agg #[.int .i64 m, .slice A n c], .slice A2 n2 c2, .int .i64 s, .slice A3 n3 c3, .slice A4 n4 c4, .pointer (some ⟨b2, 0, none⟩), undef, undef, undef, undef, .int .i64 0, .pointer (some ⟨pb25, 0, none⟩), .int .i64 (u + x39), .int .i64 ((i : Nat) : Int), .int .i64 x39, (U35 15), (U35 16), (U35 17), (U35 18), (U35 19), (U35 20), .slice A4 n4 c4, .int .i64 ((n4 : Nat) : Int), .int .i64 ((i + 1 : Nat) : Int), .bool true, (U46 25), (U46 26), (U46 27), (U51 28), (U51 29), (U51 30), (U51 31), (U51 32), (U51 33), .bool true, (U53 35), (U53 36), (U53 37), U54 38, undef]) (by kernel_rfl) (fun U54 => ?_)
      exact h5 _ _ _ (by omega : (n4 - (i + 1)) < _) ⟨i + 1, u + x39, (fun iU9 => [.agg #[.int .i64 m, .slice A n c], .slice A2 n2 c2, .int .i64 s, .slice A3 n3 c3, .slice A4 n4 c4, .pointer (some ⟨b2, 0, none⟩), undef, undef, undef, undef, .int .i64 0, .pointer (some ⟨pb25, 0, none⟩), .int .i64 (u + x39), .int .i64 ((i : Nat) : Int), .int .i64 x39, (U35 15), (U35 16), (U35 17), (U35 18), (U35 19), (U35 20), .slice A4 n4 c4, .int .i64 ((n4 : Nat) : Int), .int .i64 ((i + 1 : Nat) : Int), .bool true, (U46 25), (U46 26), (U46 27), (U51 28), (U51 29), (U51 30), (U51 31), (U51 32), (U51 33), .bool true, (U53 35), (U53 36), (U53 37), (U54 38), undef].getD iU9 undef), (by kernel_rfl), rfl, (by omega), (by rw [hsum, harmTo_yes hx40 ((wet_eq1 hx48).trans (show x47 = false by simpa using q52))]), x6, rd0_11, c37⟩
    · rw [q52]
      refine wp_cond_false (by kernel_rfl) ?_
      refine wp_skip ?_
      refine h8 _ _ ?_
      refine W.region_quiet [(0, false), (1, false)] (by kernel_rfl) ?_
      refine W.sq (v := .int .i64 ((i + 1 : Nat) : Int)) rfl (r_add (m := ((i : Nat) : Int)) (n := 1) (z := ((i + 1 : Nat) : Int)) rfl (by kernel_rfl) (by kernel_rfl) (by omega) (by omega)) (by kernel_rfl) rfl rfl ?_
      refine W.sq (v := .int .i64 ((i + 1 : Nat) : Int)) rfl (r_move rfl (by kernel_rfl)) (by kernel_rfl) rfl rfl ?_
      refine W.sch_endU (fun U55 => [.agg #[.int .i64 m, .slice A n c], .slice A2 n2 c2, .int .i64 s, .slice A3 n3 c3, .slice A4 n4 c4, .pointer (some ⟨b2, 0, none⟩), undef, undef, undef, undef, .int .i64 0, .pointer (some ⟨pb25, 0, none⟩), .int .i64 u, .int .i64 ((i : Nat) : Int), .int .i64 x39, (U35 15), (U35 16), (U35 17), (U35 18), (U35 19), (U35 20), .slice A4 n4 c4, .int .i64 ((n4 : Nat) : Int), .int .i64 ((i + 1 : Nat) : Int), .bool true, (U46 25), (U46 26), (U46 27), (U51 28), (U51 29), (U51 30), (U51 31), (U51 32), (U51 33), .bool false, (U0 35), (U0 36), (U0 37), U55 38, undef]) (by kernel_rfl) (fun U55 => ?_)
      exact h5 _ _ _ (by omega : (n4 - (i + 1)) < _) ⟨i + 1, u, (fun iU9 => [.agg #[.int .i64 m, .slice A n c], .slice A2 n2 c2, .int .i64 s, .slice A3 n3 c3, .slice A4 n4 c4, .pointer (some ⟨b2, 0, none⟩), undef, undef, undef, undef, .int .i64 0, .pointer (some ⟨pb25, 0, none⟩), .int .i64 u, .int .i64 ((i : Nat) : Int), .int .i64 x39, (U35 15), (U35 16), (U35 17), (U35 18), (U35 19), (U35 20), .slice A4 n4 c4, .int .i64 ((n4 : Nat) : Int), .int .i64 ((i + 1 : Nat) : Int), .bool true, (U46 25), (U46 26), (U46 27), (U51 28), (U51 29), (U51 30), (U51 31), (U51 32), (U51 33), .bool false, (U0 35), (U0 36), (U0 37), (U55 38), undef].getD iU9 undef), (by kernel_rfl), rfl, (by omega), (by rw [hsum, harmTo_no ((wet_eq1 hx48).trans (show x47 = true by simpa using q52))]), x6, rd0_11, c37⟩
  · refine W.sq (v := .bool false) rfl (r_lss (m := ((i : Nat) : Int)) (n := ((n4 : Nat) : Int)) rfl (by kernel_rfl) (by kernel_rfl) (decide_eq_false q38)) (by kernel_rfl) rfl rfl ?_
    refine W.sch_end (l' := [.agg #[.int .i64 m, .slice A n c], .slice A2 n2 c2, .int .i64 s, .slice A3 n3 c3, .slice A4 n4 c4, .pointer (some ⟨b2, 0, none⟩), undef, undef, undef, undef, .int .i64 0, .pointer (some ⟨pb25, 0, none⟩), .int .i64 u, (U0 13), (U0 14), (U35 15), (U35 16), (U35 17), (U35 18), (U35 19), (U35 20), .slice A4 n4 c4, .int .i64 ((n4 : Nat) : Int), .int .i64 ((i : Nat) : Int), .bool false, (U0 25), (U0 26), (U0 27), (U0 28), (U0 29), (U0 30), (U0 31), (U0 32), (U0 33), (U0 34), (U0 35), (U0 36), (U0 37), (U0 38), undef]) (by kernel_rfl) ?_
    refine h6 _ _ ?_
    refine wp_seq_k (fun K11 h11 => ?_)
    refine wp_cond_false (by kernel_rfl) ?_
    refine wp_exit ?_
    refine h3 _ _ ?_
    refine wp_seq_k (fun K12 h12 => ?_)
    refine W.region_quiet [(0, false), (1, false)] (by kernel_rfl) ?_
    refine W.sq (v := .int .i64 u) rfl (r_move rfl (by kernel_rfl)) (by kernel_rfl) rfl rfl ?_
    refine W.sq (v := .int .i64 u) rfl (r_assign rfl (by kernel_rfl)) (by kernel_rfl) rfl rfl ?_
    refine W.sch_endU (fun U56 => [.agg #[.int .i64 m, .slice A n c], .slice A2 n2 c2, .int .i64 s, .slice A3 n3 c3, .slice A4 n4 c4, .pointer (some ⟨b2, 0, none⟩), undef, undef, undef, undef, .int .i64 u, .pointer (some ⟨pb25, 0, none⟩), .int .i64 u, (U0 13), (U0 14), (U35 15), (U35 16), (U35 17), (U35 18), (U35 19), (U35 20), .slice A4 n4 c4, .int .i64 ((n4 : Nat) : Int), .int .i64 ((i : Nat) : Int), .bool false, (U0 25), (U0 26), (U0 27), (U0 28), (U0 29), (U0 30), (U0 31), (U0 32), (U0 33), (U0 34), (U0 35), (U0 36), (U0 37), (U0 38), U56 39]) (by kernel_rfl) (fun U56 => ?_)
    refine h12 _ _ ?_
    refine wp_ret ?_
    try simp only [Exit.then]
    refine ret1 (v := .int .i64 u) rfl (by kernel_rfl) ?_
    exact ⟨by unfold harmL; rw [show cs.length = i by omega, ← hsum], c37⟩

set_option maxRecDepth 100000 in
set_option maxHeartbeats 1000000 in
theorem l5Harm_any (m : Int) (A : Option Addr) (n c : Nat) (ps : List Pp) (A2 : Option Addr) (n2 c2 : Nat) (vs : List Vv) (s : Int) (A3 : Option Addr) (n3 c3 : Nat) (pl : List Int) (A4 : Option Addr) (n4 c4 : Nat) (cs : List Int) (w : World) (ha : Rd w 4 A n (pipesV ps)) (hb : Rd w 4 A2 n2 (valvesV vs)) (hn : n ≤ 1048576) (hn2 : n2 ≤ 1048576) (hfm2 : Fm A2 n2 c2) (hv9 : GoodVal m ps vs) (hs : 1 ≤ s ∧ s ≤ m) (hp3 : Rd w 1 A3 n3 (intsV pl)) (hn3 : n3 ≤ 1000000) (hc4 : Rd w 1 A4 n4 (intsV cs)) (hn4 : n4 ≤ 1048576) (hco : custOk m cs = true) :
    Calls Try.prog 68 #[.agg #[.int .i64 m, .slice A n c], .slice A2 n2 c2, .int .i64 s, .slice A3 n3 c3, .slice A4 n4 c4] w fun e w' => e = .returned (.int .i64 (harmL ps vs s cs pl)) ∧ Below w.heap.size w w' := by
  have hl := rd_pipes_len ha
  have hl2 := rd_valves_len hb
  have hl3 := rd_ints_len hp3
  have hg := hv9.net
  have hgl := hg.lo
  have hgh := hg.hi
  have hp := hg.pipesIn
  have hlen10 := hg.len
  have hu := hv9.uniq
  have hvl := hv9.len
  have hl4 := rd_ints_len hc4
  obtain ⟨hcl, hcb⟩ := custOk_of hco
  go_enter Try.func68, Try.ntmps68
  refine wp_seq_k (fun K1 h1 => ?_)
  refine W.region_plain (row := none) [(0, true), (1, false)] (by kernel_rfl) ?_
  have s1 := SG.self w none
  refine W.sn (fun b => .pointer (some ⟨b, 0, none⟩)) #[.int .i64 m, .slice A n c] 32 s1 rfl (by kernel_rfl) rfl (fun _ => by kernel_rfl) (fun b2 w3 hb4 k5 x6 s7 => ?_)
  have lo8 : w.heap.size ≤ b2 := by have := ((SG.belowR (Below.refl _ _) s1 (fun kq e => by cases e))).size; omega
  refine W.sq (v := .int .i64 0) rfl (r_assign rfl (by kernel_rfl)) (by kernel_rfl) rfl rfl ?_
  refine W.sch_end (l' := [.agg #[.int .i64 m, .slice A n c], .slice A2 n2 c2, .int .i64 s, .slice A3 n3 c3, .slice A4 n4 c4, .pointer (some ⟨b2, 0, none⟩), undef, undef, undef, undef, .int .i64 0, undef, undef, undef, undef, undef, undef, undef, undef, undef, undef, undef, undef, undef, undef, undef, undef, undef, undef, undef, undef, undef, undef, undef, undef, undef, undef, undef, undef, undef, undef]) (by kernel_rfl) ?_
  have c9 := (SG.belowR (Below.refl _ _) s7 (fun kq e => by cases e))
  refine h1 _ _ ?_
  refine wp_seq_k (fun K2 h2 => ?_)
  refine W.region_sch (row := none) (Sch.of [(0, false), (1, false), (2, false), (4, false), (3, true), (5, true), (6, false), (7, false), (8, false), (9, false), (10, false)]) (by kernel_rfl) (by kernel_rfl) (fun _ d _ _ _ h => by cases d <;> exact h) (by kernel_rfl) (fun w10 e11 s12 => ?_)
  refine W.sq (v := .agg #[.int .i64 m, .slice A n c]) rfl (r_load2 rfl (by kernel_rfl) (by kernel_rfl) (by kernel_rfl) (sgS (blk_cell (j := 0) x6 (by kernel_rfl)) (by simp)) (sgS (blk_cell (j := 1) x6 (by kernel_rfl)) (by simp))) (by kernel_rfl) rfl rfl ?_
  refine W.sq (v := .slice A2 n2 c2) rfl (r_move rfl (by kernel_rfl)) (by kernel_rfl) rfl rfl ?_
  refine W.sq (v := .slice A3 n3 c3) rfl (r_move rfl (by kernel_rfl)) (by kernel_rfl) rfl rfl ?_
  refine W.sq (v := .int .i64 s) rfl (r_move rfl (by kernel_rfl)) (by kernel_rfl) rfl rfl ?_
  refine W.sc (vs := [.slice A2 n2 c2, .slice A3 n3 c3]) rfl rfl (by kernel_rfl) (by kernel_rfl) (by kernel_rfl) rfl (l5Shut_any A2 n2 c2 vs A3 n3 c3 pl _ (Rd.kept hb (SG.belowR c9 s12 (fun kq e => by cases e))) (by omega) hfm2 (Rd.kept hp3 (SG.belowR c9 s12 (fun kq e => by cases e))) (by omega)) ?_
  rintro e w22 ⟨A13, n14, c15, rfl, ho16, b21⟩
  have s23 := SG.of_below s12 b21
  refine ⟨_, rfl, s23, ?_⟩
  have rd17 := own_rd ho16
  have fm20 := own_fm ho16
  have hl18 := rd_valves_len rd17
  have sp24 := sp_freshB (g := b2) ho16 (Nat.lt_of_lt_of_le (blk_lt x6) (World.grownBy.size s12))
  have := shutV_len vs pl
  refine W.sc (vs := [.agg #[.int .i64 m, .slice A n c], .slice A13 n14 c15, .int .i64 s]) rfl rfl (by kernel_rfl) (by kernel_rfl) (by kernel_rfl) rfl (l4Dry_any m A n c ps A13 n14 c15 (shutV vs pl) s _ (Rd.kept ha (SG.belowR c9 s23 (fun kq e => by cases e))) rd17 (by omega) (by omega) hp (by omega) (by omega) (by omega)) ?_
  rintro e w40 ⟨A25, n26, c27, A28, n29, c30, rfl, rd31, fm32, rd33, fm34, b39⟩
  have s41 := SG.of_below s23 b39
  refine ⟨_, rfl, s41, ?_⟩
  have rd42 := Rd.kept rd17 b39
  have hl37 := rd_ints_len rd31
  have hl38 := rd_ints_len rd33
  have := nodesL_len (linked ps (openQ (shutV vs pl) true)) m.toNat s false
  have := idxL_len (linked ps (openQ (shutV vs pl) true)) ps.length s false
  refine W.sq (v := .tuple #[.slice A25 n26 c27, .slice A28 n29 c30]) rfl (r_move rfl (by kernel_rfl)) (by kernel_rfl) rfl rfl ?_
  refine W.sq (v := .slice A25 n26 c27) rfl (r_extract (vs := #[.slice A25 n26 c27, .slice A28 n29 c30]) rfl (by kernel_rfl) (by kernel_rfl)) (by kernel_rfl) rfl rfl ?_
  refine W.sq (v := .slice A28 n29 c30) rfl (r_extract (vs := #[.slice A25 n26 c27, .slice A28 n29 c30]) rfl (by kernel_rfl) (by kernel_rfl)) (by kernel_rfl) rfl rfl ?_
  refine W.sq (v := .slice A25 n26 c27) rfl (r_assign rfl (by kernel_rfl)) (by kernel_rfl) rfl rfl ?_
  refine W.sq (v := .slice A28 n29 c30) rfl (r_assign rfl (by kernel_rfl)) (by kernel_rfl) rfl rfl ?_
  refine W.sch_endU (fun U43 => [.agg #[.int .i64 m, .slice A n c], .slice A2 n2 c2, .int .i64 s, .slice A3 n3 c3, .slice A4 n4 c4, .pointer (some ⟨b2, 0, none⟩), undef, undef, undef, undef, .int .i64 0, .slice A25 n26 c27, U43 12, undef, undef, U43 15, U43 16, U43 17, U43 18, U43 19, U43 20, U43 21, U43 22, U43 23, undef, undef, undef, undef, undef, undef, undef, undef, undef, undef, undef, undef, undef, undef, undef, undef, undef]) (by kernel_rfl) (fun U43 => ?_)
  have x6 := SG.blk s41 x6 (by simp)
  have c44 := (SG.belowR c9 s41 (fun kq e => by cases e))
  refine h2 _ _ ?_
  refine wp_seq_k (fun K3 h3 => ?_)
  refine W.region_quiet [(0, false)] (by kernel_rfl) ?_
  refine W.sq (v := .int .i64 0) rfl (r_assign rfl (by kernel_rfl)) (by kernel_rfl) rfl rfl ?_
  refine W.sch_end (l' := [.agg #[.int .i64 m, .slice A n c], .slice A2 n2 c2, .int .i64 s, .slice A3 n3 c3, .slice A4 n4 c4, .pointer (some ⟨b2, 0, none⟩), undef, undef, undef, undef, .int .i64 0, .slice A25 n26 c27, (U43 12), .int .i64 0, undef, (U43 15), (U43 16), (U43 17), (U43 18), (U43 19), (U43 20), (U43 21), (U43 22), (U43 23), undef, undef, undef, undef, undef, undef, undef, undef, undef, undef, undef, undef, undef, undef, undef, undef, undef]) (by kernel_rfl) ?_
  refine h3 _ _ ?_
  refine wp_seq_k (fun K4 h4 => ?_)
  refine wp_seq_k (fun K5 h5 => ?_)
  refine W.region_quiet [(0, false)] (by kernel_rfl) ?_
  refine W.sq (v := .int .i64 0) rfl (r_assign rfl (by kernel_rfl)) (by kernel_rfl) rfl rfl ?_
  refine W.sch_end (l' := [.agg #[.int .i64 m, .slice A n c], .slice A2 n2 c2, .int .i64 s, .slice A3 n3 c3, .slice A4 n4 c4, .pointer (some ⟨b2, 0, none⟩), undef, undef, undef, undef, .int .i64 0, .slice A25 n26 c27, (U43 12), .int .i64 0, .int .i64 0, (U43 15), (U43 16), (U43 17), (U43 18), (U43 19), (U43 20), (U43 21), (U43 22), (U43 23), undef, undef, undef, undef, undef, undef, undef, undef, undef, undef, undef, undef, undef, undef, undef, undef, undef]) (by kernel_rfl) ?_
  refine h5 _ _ ?_
  refine wp_block ?_
  refine loopK (fun am0 aa0 wl0 => ∃ (i : Nat) (u : Int) (U0 : Nat → Value), aa0 = ⟨[.agg #[.int .i64 m, .slice A n c], .slice A2 n2 c2, .int .i64 s, .slice A3 n3 c3, .slice A4 n4 c4, .pointer (some ⟨b2, 0, none⟩), undef, undef, undef, undef, .int .i64 0, .slice A25 n26 c27, (U43 12), .int .i64 u, .int .i64 ((i : Nat) : Int), (U43 15), (U43 16), (U43 17), (U43 18), (U43 19), (U43 20), (U43 21), (U43 22), (U43 23), U0 24, U0 25, U0 26, U0 27, U0 28, U0 29, U0 30, U0 31, U0 32, U0 33, U0 34, U0 35, U0 36, U0 37, U0 38, U0 39, undef].toArray, []⟩ ∧ (am0 = n26 - i) ∧ (i ≤ n26) ∧ (u = sumAt cs ((nodesL (linked ps (openQ (shutV vs pl) true)) m.toNat s false).take i)) ∧ (wl0.heap[b2]? = some (.cells #[.int .i64 m, .slice A n c] 32 (0, 0))) ∧ (Rd wl0 1 A25 n26 (intsV (nodesL (linked ps (openQ (shutV vs pl) true)) m.toNat s false))) ∧ (Below w.heap.size w wl0)) (n26 - 0) ?_ ?_
  · exact ⟨0, 0, (fun iU9 => [.agg #[.int .i64 m, .slice A n c], .slice A2 n2 c2, .int .i64 s, .slice A3 n3 c3, .slice A4 n4 c4, .pointer (some ⟨b2, 0, none⟩), undef, undef, undef, undef, .int .i64 0, .slice A25 n26 c27, (U43 12), .int .i64 0, .int .i64 0, (U43 15), (U43 16), (U43 17), (U43 18), (U43 19), (U43 20), (U43 21), (U43 22), (U43 23), undef, undef, undef, undef, undef, undef, undef, undef, undef, undef, undef, undef, undef, undef, undef, undef, undef].getD iU9 undef), (by kernel_rfl), rfl, (Nat.zero_le _), rfl, x6, rd31, c44⟩
  rintro am0 aa0 wl0 K6 h6 ⟨i, u, U0, rfl, rfl, hi, hsum, x6, rd0_11, c45⟩
  have hbd := sumAt_bd hcb ((nodesL (linked ps (openQ (shutV vs pl) true)) m.toNat s false).take i)
  have htl := List.length_take_le i (nodesL (linked ps (openQ (shutV vs pl) true)) m.toNat s false)
  refine wp_seq_k (fun K7 h7 => ?_)
  refine wp_seq_k (fun K8 h8 => ?_)
  refine W.region_quiet [(0, false), (1, false), (2, false), (3, false)] (by kernel_rfl) ?_
  refine W.sq (v := .int .i64 ((i : Nat) : Int)) rfl (r_move rfl (by kernel_rfl)) (by kernel_rfl) rfl rfl ?_
  refine W.sq (v := .slice A25 n26 c27) rfl (r_move rfl (by kernel_rfl)) (by kernel_rfl) rfl rfl ?_
  refine W.sq (v := .int .i64 ((n26 : Nat) : Int)) rfl (r_len (A := A25) (n := n26) (c := c27) rfl (by kernel_rfl) (by kernel_rfl)) (by kernel_rfl) rfl rfl ?_
  by_cases q46 : (((i : Nat) : Int) : Int) < (((n26 : Nat) : Int) : Int)
  · refine W.sq (v := .bool true) rfl (r_lss (m := ((i : Nat) : Int)) (n := ((n26 : Nat) : Int)) rfl (by kernel_rfl) (by kernel_rfl) (decide_eq_true q46)) (by kernel_rfl) rfl rfl ?_
    refine W.sch_endU (fun U47 => [.agg #[.int .i64 m, .slice A n c], .slice A2 n2 c2, .int .i64 s, .slice A3 n3 c3, .slice A4 n4 c4, .pointer (some ⟨b2, 0, none⟩), undef, undef, undef, undef, .int .i64 0, .slice A25 n26 c27, (U43 12), .int .i64 u, .int .i64 ((i : Nat) : Int), (U43 15), (U43 16), (U43 17), (U43 18), (U43 19), (U43 20), (U43 21), (U43 22), (U43 23), U47 24, U47 25, U47 26, .bool true, (U0 28), (U0 29), (U0 30), (U0 31), (U0 32), (U0 33), (U0 34), (U0 35), (U0 36), (U0 37), (U0 38), (U0 39), undef]) (by kernel_rfl) (fun U47 => ?_)
    refine h8 _ _ ?_
    refine wp_cond_true (by kernel_rfl) ?_
    refine wp_skip ?_
    refine h7 _ _ ?_
    refine wp_seq_k (fun K9 h9 => ?_)
    refine wp_block ?_
    refine W.region_quiet [(0, false), (1, false), (2, false), (3, false), (4, false), (5, false), (6, false), (7, false), (8, false), (9, false), (10, false)] (by kernel_rfl) ?_
    refine W.sq (v := .int .i64 u) rfl (r_move rfl (by kernel_rfl)) (by kernel_rfl) rfl rfl ?_
    refine W.sq (v := .slice A4 n4 c4) rfl (r_move rfl (by kernel_rfl)) (by kernel_rfl) rfl rfl ?_
    refine W.sq (v := .slice A25 n26 c27) rfl (r_move rfl (by kernel_rfl)) (by kernel_rfl) rfl rfl ?_
    refine W.sq (v := .int .i64 ((i : Nat) : Int)) rfl (r_move rfl (by kernel_rfl)) (by kernel_rfl) rfl rfl ?_
    obtain ⟨x48, hx49⟩ := get_of (zs := (nodesL (linked ps (openQ (shutV vs pl) true)) m.toNat s false)) (k := i) (by have := hl37; omega)
    have hnb := mem_nodesL.1 (List.mem_of_getElem? hx49)
    obtain ⟨b50, o51, hA52, hb53, hc54⟩ := Rd.elInt rd0_11 hx49
    refine W.sq (v := .pointer (some ⟨b50, o51 + i, none⟩)) rfl (r_idx1 (n := n26) (c := c27) (k := i) rfl (by kernel_rfl) hA52 (by kernel_rfl) (by kernel_rfl) (by have := hl37; omega)) (by kernel_rfl) rfl rfl ?_
    refine W.sq (v := .int .i64 x48) rfl (r_load rfl (by kernel_rfl) (by kernel_rfl) (eqS hc54)) (by kernel_rfl) rfl rfl ?_
    refine W.sq (v := .int .i64 (x48 - 1)) rfl (r_sub (m := x48) (n := 1) (z := x48 - 1) rfl (by kernel_rfl) (by kernel_rfl) (rfl) (by omega)) (by kernel_rfl) rfl rfl ?_
    obtain ⟨c955, hc956⟩ := get_of (zs := cs) (k := (x48 - 1).toNat) (by omega)
    have hcx := hcb c955 (List.mem_of_getElem? hc956)
    obtain ⟨b57, o58, hA59, hb60, hc61⟩ := Rd.elInt hc4 hc956
    refine W.sq (v := .pointer (some ⟨b57, o58 + ((x48 - 1).toNat), none⟩)) rfl (r_idx1 (n := n4) (c := c4) (k := (x48 - 1).toNat) rfl (by kernel_rfl) hA59 (evk (z := x48 - 1) (by kernel_rfl) (by omega)) (by kernel_rfl) (by have := hl4; omega)) (by kernel_rfl) rfl rfl ?_
    refine W.sq (v := .int .i64 c955) rfl (r_load rfl (by kernel_rfl) (by kernel_rfl) (eqS (later c45 hc61))) (by kernel_rfl) rfl rfl ?_
    refine W.sq (v := .int .i64 (u + c955)) rfl (r_add (m := u) (n := c955) (z := u + c955) rfl (by kernel_rfl) (by kernel_rfl) (rfl) (by omega)) (by kernel_rfl) rfl rfl ?_
    refine W.sq (v := .int .i64 (u + c955)) rfl (r_assign rfl (by kernel_rfl)) (by kernel_rfl) rfl rfl ?_
    refine W.sch_endU (fun U62 => [.agg #[.int .i64 m, .slice A n c], .slice A2 n2 c2, .int .i64 s, .slice A3 n3 c3, .slice A4 n4 c4, .pointer (some ⟨b2, 0, none⟩), undef, undef, undef, undef, .int .i64 0, .slice A25 n26 c27, (U43 12), .int .i64 (u + c955), .int .i64 ((i : Nat) : Int), (U43 15), (U43 16), (U43 17), (U43 18), (U43 19), (U43 20), (U43 21), (U43 22), (U43 23), (U47 24), (U47 25), (U47 26), .bool true, (U0 28), (U0 29), U62 30, U62 31, U62 32, U62 33, U62 34, U62 35, U62 36, U62 37, U62 38, U62 39, undef]) (by kernel_rfl) (fun U62 => ?_)
    refine h9 _ _ ?_
    refine W.region_quiet [(0, false), (1, false), (2, false)] (by kernel_rfl) ?_
    refine W.sq (v := .int .i64 ((i : Nat) : Int)) rfl (r_move rfl (by kernel_rfl)) (by kernel_rfl) rfl rfl ?_
    refine W.sq (v := .int .i64 ((i + 1 : Nat) : Int)) rfl (r_add (m := ((i : Nat) : Int)) (n := 1) (z := ((i + 1 : Nat) : Int)) rfl (by kernel_rfl) (by kernel_rfl) (by omega) (by omega)) (by kernel_rfl) rfl rfl ?_
    refine W.sq (v := .int .i64 ((i + 1 : Nat) : Int)) rfl (r_assign rfl (by kernel_rfl)) (by kernel_rfl) rfl rfl ?_
    refine W.sch_endU (fun U63 => [.agg #[.int .i64 m, .slice A n c], .slice A2 n2 c2, .int .i64 s, .slice A3 n3 c3, .slice A4 n4 c4, .pointer (some ⟨b2, 0, none⟩), undef, undef, undef, undef, .int .i64 0, .slice A25 n26 c27, (U43 12), .int .i64 (u + c955), .int .i64 ((i + 1 : Nat) : Int), (U43 15), (U43 16), (U43 17), (U43 18), (U43 19), (U43 20), (U43 21), (U43 22), (U43 23), (U47 24), (U47 25), (U47 26), .bool true, U63 28, U63 29, (U62 30), (U62 31), (U62 32), (U62 33), (U62 34), (U62 35), (U62 36), (U62 37), (U62 38), (U62 39), undef]) (by kernel_rfl) (fun U63 => ?_)
    exact h6 _ _ _ (by omega : (n26 - (i + 1)) < _) ⟨i + 1, u + c955, (fun iU9 => [.agg #[.int .i64 m, .slice A n c], .slice A2 n2 c2, .int .i64 s, .slice A3 n3 c3, .slice A4 n4 c4, .pointer (some ⟨b2, 0, none⟩), undef, undef, undef, undef, .int .i64 0, .slice A25 n26 c27, (U43 12), .int .i64 (u + c955), .int .i64 ((i + 1 : Nat) : Int), (U43 15), (U43 16), (U43 17), (U43 18), (U43 19), (U43 20), (U43 21), (U43 22), (U43 23), (U47 24), (U47 25), (U47 26), .bool true, (U63 28), (U63 29), (U62 30), (U62 31), (U62 32), (U62 33), (U62 34), (U62 35), (U62 36), (U62 37), (U62 38), (U62 39), undef].getD iU9 undef), (by kernel_rfl), rfl, (by omega), (by rw [hsum, sumAt_next hx49 hc956]), x6, rd0_11, c45⟩
  · refine W.sq (v := .bool false) rfl (r_lss (m := ((i : Nat) : Int)) (n := ((n26 : Nat) : Int)) rfl (by kernel_rfl) (by kernel_rfl) (decide_eq_false q46)) (by kernel_rfl) rfl rfl ?_
    refine W.sch_endU (fun U64 => [.agg #[.int .i64 m, .slice A n c], .slice A2 n2 c2, .int .i64 s, .slice A3 n3 c3, .slice A4 n4 c4, .pointer (some ⟨b2, 0, none⟩), undef, undef, undef, undef, .int .i64 0, .slice A25 n26 c27, (U43 12), .int .i64 u, .int .i64 ((i : Nat) : Int), (U43 15), (U43 16), (U43 17), (U43 18), (U43 19), (U43 20), (U43 21), (U43 22), (U43 23), U64 24, U64 25, U64 26, .bool false, (U0 28), (U0 29), (U0 30), (U0 31), (U0 32), (U0 33), (U0 34), (U0 35), (U0 36), (U0 37), (U0 38), (U0 39), undef]) (by kernel_rfl) (fun U64 => ?_)
    refine h8 _ _ ?_
    refine wp_cond_false (by kernel_rfl) ?_
    refine wp_exit ?_
    refine h4 _ _ ?_
    refine wp_seq_k (fun K10 h10 => ?_)
    refine W.region_quiet [(0, false), (1, false)] (by kernel_rfl) ?_
    refine W.sq (v := .int .i64 u) rfl (r_move rfl (by kernel_rfl)) (by kernel_rfl) rfl rfl ?_
    refine W.sq (v := .int .i64 u) rfl (r_assign rfl (by kernel_rfl)) (by kernel_rfl) rfl rfl ?_
    refine W.sch_endU (fun U65 => [.agg #[.int .i64 m, .slice A n c], .slice A2 n2 c2, .int .i64 s, .slice A3 n3 c3, .slice A4 n4 c4, .pointer (some ⟨b2, 0, none⟩), undef, undef, undef, undef, .int .i64 u, .slice A25 n26 c27, (U43 12), .int .i64 u, .int .i64 ((i : Nat) : Int), (U43 15), (U43 16), (U43 17), (U43 18), (U43 19), (U43 20), (U43 21), (U43 22), (U43 23), (U64 24), (U64 25), (U64 26), .bool false, (U0 28), (U0 29), (U0 30), (U0 31), (U0 32), (U0 33), (U0 34), (U0 35), (U0 36), (U0 37), (U0 38), (U0 39), U65 40]) (by kernel_rfl) (fun U65 => ?_)
    refine h10 _ _ ?_
    refine wp_ret ?_
    try simp only [Exit.then]
    refine ret1 (v := .int .i64 u) rfl (by kernel_rfl) ?_
    exact ⟨by unfold harmL; rw [hsum, List.take_of_length_le (by omega), sumAt_harm, show cs.length = m.toNat by omega], c45⟩

end Go.Proofs.Ytnfmdkbelbppdaa
