/- Valves that are shut too, what is cut off, customers and harm: both packages. -/
import Derived.Test.YtnfmdkbelbppdaaLib5
import Derived.Test.YtnfmdkbelbppdaaVTurn
namespace Go.Proofs.Ytnfmdkbelbppdaa
open Go.RowKit
set_option linter.unusedVariables false
set_option linter.unusedSimpArgs false

theorem idxL_hasF {E : Int → Int → Prop} {n : Nat} {a b : Int} (hb : 0 ≤ b ∧ b < n) : (idxL E n a false).contains b = !rb E a (9 + b) := by
  rw [Bool.eq_iff_iff, List.contains_iff_mem, mem_idxL, Bool.not_eq_true']
  exact ⟨fun h => h.2, fun h => ⟨hb, h⟩⟩
def canB (m : Int) (ps : List Pp) (vs : List Vv) (s id : Int) : Bool := goodV m ps vs && inB s 1 m && decide (0 ≤ findL ps id)
theorem canB_of {m : Int} {ps : List Pp} {vs : List Vv} {s id : Int} (h : canB m ps vs s id = true) : GoodVal m ps vs ∧ (1 ≤ s ∧ s ≤ m) ∧ 0 ≤ findL ps id := by
  unfold canB at h
  simp only [Bool.and_eq_true, decide_eq_true_eq] at h
  exact ⟨goodV_of h.1.1, inB_iff.1 h.1.2, h.2⟩
def custOk (m : Int) (cs : List Int) : Bool := decide ((cs.length : Int) = m) && cs.all (fun c => inB c 0 1000)
theorem custOk_of {m : Int} {cs : List Int} (h : custOk m cs = true) : (cs.length : Int) = m ∧ ∀ c, c ∈ cs → 0 ≤ c ∧ c ≤ 1000 := by
  unfold custOk at h
  rw [Bool.and_eq_true, decide_eq_true_eq, List.all_eq_true] at h
  exact ⟨h.1, fun c hc => inB_iff.1 (h.2 c hc)⟩
theorem all_any (cs : List Int) : cs.any (fun c => !inB c 0 1000) = !cs.all (fun c => inB c 0 1000) := by
  induction cs with
  | nil => rfl
  | cons c cs ih => rw [List.any_cons, List.all_cons, ih, Bool.not_and]
/-- The customers at nodes that are not reached. -/
noncomputable def harmTo (E : Int → Int → Prop) (s : Int) (cs : List Int) : Nat → Int
  | 0 => 0
  | i + 1 => harmTo E s cs i + (if rb E s ((i : Int) + 1) = false then cs.getD i 0 else 0)
theorem harmTo_bd {E : Int → Int → Prop} {s : Int} {cs : List Int} (h : ∀ c, c ∈ cs → 0 ≤ c ∧ c ≤ 1000) : ∀ i, i ≤ cs.length → 0 ≤ harmTo E s cs i ∧ harmTo E s cs i ≤ 1000 * (i : Int)
  | 0, _ => by simp [harmTo]
  | i + 1, hi => by
    have ih := harmTo_bd (E := E) (s := s) h i (by omega)
    have hx : cs[i]? = some cs[i] := List.getElem?_eq_getElem (by omega)
    have hc := h _ (List.mem_of_getElem? hx)
    unfold harmTo
    rw [List.getD_eq_getElem?_getD, hx]
    simp only [Option.getD_some]
    split <;> omega
theorem harmTo_yes {E : Int → Int → Prop} {s : Int} {cs : List Int} {i : Nat} {c : Int} (hc : cs[i]? = some c) (h : rb E s ((i : Int) + 1) = false) : harmTo E s cs (i + 1) = harmTo E s cs i + c := by
  rw [harmTo, if_pos h, List.getD_eq_getElem?_getD, hc]; rfl
theorem harmTo_no {E : Int → Int → Prop} {s : Int} {cs : List Int} {i : Nat} (h : rb E s ((i : Int) + 1) = true) : harmTo E s cs (i + 1) = harmTo E s cs i := by
  rw [harmTo, if_neg (by rw [h]; simp), Int.add_zero]
def sumAt (cs : List Int) : List Int → Int
  | [] => 0
  | b :: bs => cs.getD (b - 1).toNat 0 + sumAt cs bs
theorem sumAt_app (cs : List Int) : ∀ xs ys : List Int, sumAt cs (xs ++ ys) = sumAt cs xs + sumAt cs ys
  | [], ys => by simp [sumAt]
  | x :: xs, ys => by rw [List.cons_append, sumAt, sumAt, sumAt_app cs xs ys]; omega
theorem sumAt_next {cs xs : List Int} {i : Nat} {b c : Int} (hb : xs[i]? = some b) (hc : cs[(b - 1).toNat]? = some c) : sumAt cs (xs.take (i + 1)) = sumAt cs (xs.take i) + c := by
  rw [List.take_add_one, hb, sumAt_app]
  simp only [Option.toList_some, sumAt, Int.add_zero]
  rw [List.getD_eq_getElem?_getD, hc]; rfl
theorem sumAt_bd {cs : List Int} (h : ∀ c, c ∈ cs → 0 ≤ c ∧ c ≤ 1000) : ∀ xs : List Int, 0 ≤ sumAt cs xs ∧ sumAt cs xs ≤ 1000 * (xs.length : Int)
  | [] => by simp [sumAt]
  | b :: bs => by
    have ih := sumAt_bd h bs
    have hg : 0 ≤ cs.getD (b - 1).toNat 0 ∧ cs.getD (b - 1).toNat 0 ≤ 1000 := by
      rw [List.getD_eq_getElem?_getD]
      cases hc : cs[(b - 1).toNat]? with
      | none => simp
      | some c => exact h c (List.mem_of_getElem? hc)
    rw [sumAt, List.length_cons]; omega
theorem sumAt_harm (E : Int → Int → Prop) (s : Int) (cs : List Int) : ∀ m, sumAt cs (nodesL E m s false) = harmTo E s cs m
  | 0 => rfl
  | m + 1 => by
    rw [nodesL_succ, sumAt_app, sumAt_harm E s cs m, harmTo]
    congr 1
    split
    · simp only [sumAt, Int.add_zero]; rw [show ((m : Int) + 1 - 1).toNat = m by omega]
    · rfl
noncomputable def harmL (ps : List Pp) (vs : List Vv) (s : Int) (cs plan : List Int) : Int := harmTo (linked ps (openQ (shutV vs plan) true)) s cs cs.length

set_option maxRecDepth 100000 in
set_option maxHeartbeats 1000000 in
theorem shutToo_any (A2 : Option Addr) (n2 c2 : Nat) (vs : List Vv) (A3 : Option Addr) (n3 c3 : Nat) (pl : List Int) (w : World) (hb : Rd w 4 A2 n2 (valvesV vs)) (hn2 : n2 ≤ 1000000) (hfm2 : Fm A2 n2 c2) (hp3 : Rd w 1 A3 n3 (intsV pl)) (hn3 : n3 ≤ 1000000) :
    Calls Try.prog 101 #[.slice A2 n2 c2, .slice A3 n3 c3] w fun e w' => ∃ A' n' c', e = .returned (.slice A' n' c') ∧ w'.ownsRow w.heap.size 60 4 (.slice A' n' c') n' (valvesV (shutV vs pl)) ∧ Below w.heap.size w w' := by
  have hl2 := rd_valves_len hb
  have hl3 := rd_ints_len hp3
  go_enter Try.func101, Try.ntmps101
  refine wp_seq_k (fun K1 h1 => ?_)
  refine W.region_quiet [(0, false)] (by kernel_rfl) ?_
  refine W.as (v := .slice none 0 0) (h := ?_)
  refine W.endF 35 [(0, .slice A2 n2 c2), (1, .slice A3 n3 c3), (4, .slice none 0 0)] (fun U1 => ?_)
  refine h1 _ _ ?_
  refine wp_seq_k (fun K2 h2 => ?_)
  refine W.region_plain (row := none) [(0, true), (1, false), (2, true), (3, false)] (by kernel_rfl) ?_
  have s2 := SG.self w none
  refine W.sn (fun b => .slice (some ⟨b, 0, none⟩) 0 0) #[] 60 s2 rfl (by kernel_rfl) rfl (fun _ => by kernel_rfl) (fun b3 w4 hb5 k6 x7 s8 => ?_)
  have lo9 : w.heap.size ≤ b3 := by have := ((SG.belowR (Below.refl _ _) s2 (fun kq e => by cases e))).size; omega
  refine W.mv (v := .slice A2 n2 c2) (h := ?_)
  have ho10 := own_empty (base := w.heap.size) (size := 4) x7 lo9
  replace ho10 : World.ownsRow _ _ _ _ _ _ (valvesV []) := ho10
  replace ho10 : World.ownsRow _ _ _ _ _ _ (valvesV []) := ho10
  refine W.sapR (e := 60) (size := 4) (base := w.heap.size) (v := .slice (some ⟨b3, 0, none⟩) 0 0) (A := A2) (m := n2) (c := c2) s8 rfl rfl rfl rfl (by kernel_rfl) (by kernel_rfl) (by kernel_rfl) ho10 (Rd.kept hb (SG.belowR (Below.refl _ _) s8 (fun kq e => by cases e))) hfm2 (valves_one _) (by omega) (by have := ((SG.belowR (Below.refl _ _) s8 (fun kq e => by cases e))).size; omega) (.inr (fun kq e => by have := World.grownBy.size s2; have := hb5; have e' := Option.some.inj e; simp at e'; omega)) (fun A11 cap12 w13 ho14 hg15 hat16 s17 => ?_)
  have ho14 := own_joinV ho14
  have fr18 : ∀ kq, (.slice A11 (0 + n2) cap12 : Value).ownBlock = some kq → w.heap.size ≤ kq := fun kq e => by
    have hs := World.grownBy.size s8
    rcases hat16 with h | h
    · exact (show ∀ kq, Value.ownBlock _ = some kq → w.heap.size ≤ kq from (fun kq e => by have := World.grownBy.size s2; have := hb5; have e' := Option.some.inj e; simp at e'; omega)) kq (h.symm.trans e)
    · have := Option.some.inj (h.symm.trans e); omega
  replace ho14 : World.ownsRow _ _ _ _ _ _ (valvesV vs) := ho14
  refine W.as (v := .slice A11 (0 + n2) cap12) (h := ?_)
  refine W.endF 35 [(0, .slice A2 n2 c2), (1, .slice A3 n3 c3), (4, .slice none 0 0), (5, .slice A11 (0 + n2) cap12)] (fun U19 => ?_)
  have c20 := (SG.belowR (Below.refl _ _) s17 (fun kq e => by cases e))
  refine h2 _ _ ?_
  refine wp_seq_k (fun K3 h3 => ?_)
  refine wp_seq_k (fun K4 h4 => ?_)
  refine W.region_quiet [(0, false), (1, false), (2, false)] (by kernel_rfl) ?_
  refine W.mv (v := .slice A11 (0 + n2) cap12) (h := ?_)
  refine W.q (v := .int .i64 (((0 + n2) : Nat) : Int)) (hr := (r_len (A := A11) (n := (0 + n2)) (c := cap12) rfl (by kernel_rfl) (by kernel_rfl))) (h := ?_)
  refine W.mv (v := .int .i64 0) (h := ?_)
  refine W.endF 35 [(0, .slice A2 n2 c2), (1, .slice A3 n3 c3), (4, .slice none 0 0), (5, .slice A11 (0 + n2) cap12), (11, .int .i64 (((0 + n2) : Nat) : Int)), (12, .int .i64 0)] (fun U21 => ?_)
  refine h4 _ _ ?_
  refine wp_block ?_
  refine loopK (fun am0 aa0 wl0 => ∃ (i : Nat) (A0_5 : Option Addr) (n0_5 : Nat) (c0_5 : Nat) (U0 : Nat → Value), aa0 = ⟨(fr U0 [(0, .slice A2 n2 c2), (1, .slice A3 n3 c3), (4, .slice none 0 0), (5, .slice A0_5 n0_5 c0_5), (11, .int .i64 (((0 + n2) : Nat) : Int)), (12, .int .i64 ((i : Nat) : Int))] 35 0).toArray, []⟩ ∧ (am0 = n2 - i) ∧ (i ≤ n2) ∧ (wl0.ownsRow w.heap.size 60 4 (.slice A0_5 n0_5 c0_5) n0_5 (valvesV (mixV vs pl i))) ∧ (Below w.heap.size w wl0)) (n2 - 0) ?_ ?_
  · exact ⟨0, A11, (0 + n2), cap12, (fun iU9 => lk [(0, .slice A2 n2 c2), (1, .slice A3 n3 c3), (4, .slice none 0 0), (5, .slice A11 (0 + n2) cap12), (11, .int .i64 (((0 + n2) : Nat) : Int)), (12, .int .i64 0)] iU9 (U21 iU9)), (by kernel_rfl), rfl, (Nat.zero_le _), (by rw [mixV_zero]; exact ho14), c20⟩
  rintro am0 aa0 wl0 K5 h5 ⟨i, A0_5, n0_5, c0_5, U0, rfl, rfl, hi, ho0_5, c22⟩
  have hml := mixV_len vs pl i
  have hln := rd_valves_len (own_rd ho0_5)
  refine wp_seq_k (fun K6 h6 => ?_)
  refine W.region_quiet [(0, false)] (by kernel_rfl) ?_
  by_cases q23 : (((i : Nat) : Int) : Int) < ((((0 + n2) : Nat) : Int) : Int)
  · refine W.q (v := .bool true) (hr := (r_lss (m := ((i : Nat) : Int)) (n := (((0 + n2) : Nat) : Int)) rfl (by kernel_rfl) (by kernel_rfl) (decide_eq_true q23))) (h := ?_)
    refine W.endF 35 [(0, .slice A2 n2 c2), (1, .slice A3 n3 c3), (4, .slice none 0 0), (5, .slice A0_5 n0_5 c0_5), (11, .int .i64 (((0 + n2) : Nat) : Int)), (12, .int .i64 ((i : Nat) : Int)), (13, .bool true)] (fun U24 => ?_)
    refine h6 _ _ ?_
    refine wp_seq_k (fun K7 h7 => ?_)
    refine wp_cond_true (by kernel_rfl) ?_
    refine wp_skip ?_
    refine h7 _ _ ?_
    refine wp_seq_k (fun K8 h8 => ?_)
    refine wp_block ?_
    refine wp_seq_k (fun K9 h9 => ?_)
    refine W.region_quiet [(0, false), (1, false)] (by kernel_rfl) ?_
    refine W.mv (v := .int .i64 ((i : Nat) : Int)) (h := ?_)
    refine W.as (v := .int .i64 ((i : Nat) : Int)) (h := ?_)
    refine W.endF 35 [(0, .slice A2 n2 c2), (1, .slice A3 n3 c3), (4, .slice none 0 0), (5, .slice A0_5 n0_5 c0_5), (6, .int .i64 ((i : Nat) : Int)), (11, .int .i64 (((0 + n2) : Nat) : Int)), (12, .int .i64 ((i : Nat) : Int)), (13, .bool true)] (fun U25 => ?_)
    refine h9 _ _ ?_
    refine W.region_plain (row := (Value.ownBlock (.slice A0_5 n0_5 c0_5))) [(0, false), (1, false), (2, false), (3, false), (4, false), (5, false), (6, true), (7, false), (8, false), (9, false), (10, false), (11, false), (12, false), (13, true), (14, true), (15, false), (16, false), (17, false), (18, true)] (by kernel_rfl) ?_
    have s26 := SG.self wl0 (Value.ownBlock (.slice A0_5 n0_5 c0_5))
    refine W.mv (v := .slice A0_5 n0_5 c0_5) (h := ?_)
    refine W.mv (v := .int .i64 ((i : Nat) : Int)) (h := ?_)
    refine W.mv (v := .slice A0_5 n0_5 c0_5) (h := ?_)
    refine W.mv (v := .int .i64 ((i : Nat) : Int)) (h := ?_)
    obtain ⟨x9, hx9⟩ := get_of (zs := vs) (k := i) (by omega)
    have hmx := mixV_at (plan := pl) hx9
    obtain ⟨g27, rfl, _, _⟩ := own_addr ho0_5 (by omega)
    refine W.q (v := .pointer (some ⟨g27, 0 + i * 4, none⟩)) (hr := (r_idx (n := n0_5) (c := c0_5) (k := i) (size := 4) rfl (by kernel_rfl) rfl (by kernel_rfl) (by kernel_rfl) (by omega))) (h := ?_)
    refine W.q (v := .pointer (some ⟨g27, 0 + i * 4 + 3, none⟩)) (hr := (r_field (k := 3) rfl (by kernel_rfl) (by kernel_rfl))) (h := ?_)
    refine W.slq (v := .bool x9.shut) s26 rfl (r_load rfl (by kernel_rfl) (by kernel_rfl) (eqS ((own_atV ho0_5 hmx).2.2.2))) (by kernel_rfl) rfl ?_
    refine W.mv (v := .bool x9.shut) (h := ?_)
    rcases Bool.eq_false_or_eq_true x9.shut with q28 | q28
    · rw [q28]
      refine W.sp s26 (h := ?_)
      refine W.sp s26 (h := ?_)
      refine W.sp s26 (h := ?_)
      refine W.sp s26 (h := ?_)
      refine W.sp s26 (h := ?_)
      refine W.sp s26 (h := ?_)
      refine W.sp s26 (h := ?_)
      refine W.q (v := .bool true) (hr := (r_pick (b := true) rfl (by kernel_rfl) (by kernel_rfl))) (h := ?_)
      refine W.q (v := .pointer (some ⟨g27, 0 + i * 4, none⟩)) (hr := (r_idx (n := n0_5) (c := c0_5) (k := i) (size := 4) rfl (by kernel_rfl) rfl (by kernel_rfl) (by kernel_rfl) (by omega))) (h := ?_)
      refine W.q (v := .pointer (some ⟨g27, 0 + i * 4 + 3, none⟩)) (hr := (r_field (k := 3) rfl (by kernel_rfl) (by kernel_rfl))) (h := ?_)
      refine W.sst (base := w.heap.size) (e := 60) (size := 4) (n := n0_5) (c := c0_5) (j := 0 + i * 4 + 3) (u := .bool true) (news := [.bool true]) s26 rfl (by kernel_rfl) rfl rfl (by kernel_rfl) (by kernel_rfl) ho0_5 (by kernel_rfl) (by kernel_rfl) (by kernel_rfl) (by simp only [List.length_cons, List.length_nil]; omega) (.inl rfl) (fun w29 ho30 g31 s32 => ?_)
      have ho30 := own_setS hmx ho30
      refine W.endF 35 [(0, .slice A2 n2 c2), (1, .slice A3 n3 c3), (4, .slice none 0 0), (5, .slice (some ⟨g27, 0, none⟩) n0_5 c0_5), (6, .int .i64 ((i : Nat) : Int)), (11, .int .i64 (((0 + n2) : Nat) : Int)), (12, .int .i64 ((i : Nat) : Int)), (13, .bool true)] (fun U33 => ?_)
      have c34 := (SG.belowR c22 s32 (fun kq e => (World.ownsRow.lt ho0_5 kq e).1))
      refine h8 _ _ ?_
      refine W.region_quiet [(0, false), (1, false)] (by kernel_rfl) ?_
      refine W.q (v := .int .i64 ((i + 1 : Nat) : Int)) (hr := (r_add (m := ((i : Nat) : Int)) (n := 1) (z := ((i + 1 : Nat) : Int)) rfl (by kernel_rfl) (by kernel_rfl) (by omega) (by omega))) (h := ?_)
      refine W.mv (v := .int .i64 ((i + 1 : Nat) : Int)) (h := ?_)
      refine W.endF 35 [(0, .slice A2 n2 c2), (1, .slice A3 n3 c3), (4, .slice none 0 0), (5, .slice (some ⟨g27, 0, none⟩) n0_5 c0_5), (6, .int .i64 ((i : Nat) : Int)), (11, .int .i64 (((0 + n2) : Nat) : Int)), (12, .int .i64 ((i + 1 : Nat) : Int)), (13, .bool true)] (fun U35 => ?_)
      exact h5 _ _ _ (by omega : (n2 - (i + 1)) < _) ⟨i + 1, (some ⟨g27, 0, none⟩), n0_5, c0_5, (fun iU9 => lk [(0, .slice A2 n2 c2), (1, .slice A3 n3 c3), (4, .slice none 0 0), (5, .slice (some ⟨g27, 0, none⟩) n0_5 c0_5), (6, .int .i64 ((i : Nat) : Int)), (11, .int .i64 (((0 + n2) : Nat) : Int)), (12, .int .i64 ((i + 1 : Nat) : Int)), (13, .bool true)] iU9 (U35 iU9)), (by kernel_rfl), rfl, (by omega), (by rw [(mixV_next hx9).trans (by rw [shutX_true (.inl q28)])]; exact ho30), c34⟩
    · rw [q28]
      refine W.mv (v := .slice A3 n3 c3) (h := ?_)
      refine W.mv (v := .slice (some ⟨g27, 0, none⟩) n0_5 c0_5) (h := ?_)
      refine W.mv (v := .int .i64 ((i : Nat) : Int)) (h := ?_)
      refine W.q (v := .pointer (some ⟨g27, 0 + i * 4, none⟩)) (hr := (r_idx (n := n0_5) (c := c0_5) (k := i) (size := 4) rfl (by kernel_rfl) rfl (by kernel_rfl) (by kernel_rfl) (by omega))) (h := ?_)
      refine W.q (v := .pointer (some ⟨g27, 0 + i * 4, none⟩)) (hr := (r_field0 rfl (by kernel_rfl) (by kernel_rfl))) (h := ?_)
      refine W.slq (v := .int .i64 x9.id) s26 rfl (r_load rfl (by kernel_rfl) (by kernel_rfl) (eqS ((own_atV ho0_5 hmx).1))) (by kernel_rfl) rfl ?_
      refine W.sc (vs := [.slice A3 n3 c3, .int .i64 x9.id]) rfl rfl (by kernel_rfl) (by kernel_rfl) (by kernel_rfl) rfl (slContains_any A3 n3 c3 pl x9.id _ (Rd.kept hp3 (SG.belowR c22 s26 (fun kq e => (World.ownsRow.lt ho0_5 kq e).1))) (by omega)) ?_
      rintro e w37 ⟨rfl, b36⟩
      have s38 := SG.of_below s26 b36
      refine ⟨_, rfl, s38, ?_⟩
      have ho39 := own_kept ho0_5 b36
      rcases Bool.eq_false_or_eq_true (pl.contains x9.id) with q40 | q40
      · rw [q40]
        refine W.q (v := .bool true) (hr := (r_pick (b := false) rfl (by kernel_rfl) (by kernel_rfl))) (h := ?_)
        refine W.q (v := .pointer (some ⟨g27, 0 + i * 4, none⟩)) (hr := (r_idx (n := n0_5) (c := c0_5) (k := i) (size := 4) rfl (by kernel_rfl) rfl (by kernel_rfl) (by kernel_rfl) (by omega))) (h := ?_)
        refine W.q (v := .pointer (some ⟨g27, 0 + i * 4 + 3, none⟩)) (hr := (r_field (k := 3) rfl (by kernel_rfl) (by kernel_rfl))) (h := ?_)
        refine W.sst (base := w.heap.size) (e := 60) (size := 4) (n := n0_5) (c := c0_5) (j := 0 + i * 4 + 3) (u := .bool true) (news := [.bool true]) s38 rfl (by kernel_rfl) rfl rfl (by kernel_rfl) (by kernel_rfl) ho39 (by kernel_rfl) (by kernel_rfl) (by kernel_rfl) (by simp only [List.length_cons, List.length_nil]; omega) (.inl rfl) (fun w41 ho42 g43 s44 => ?_)
        have ho42 := own_setS hmx ho42
        refine W.endF 35 [(0, .slice A2 n2 c2), (1, .slice A3 n3 c3), (4, .slice none 0 0), (5, .slice (some ⟨g27, 0, none⟩) n0_5 c0_5), (6, .int .i64 ((i : Nat) : Int)), (11, .int .i64 (((0 + n2) : Nat) : Int)), (12, .int .i64 ((i : Nat) : Int)), (13, .bool true)] (fun U45 => ?_)
        have c46 := (SG.belowR c22 s44 (fun kq e => (World.ownsRow.lt ho0_5 kq e).1))
        refine h8 _ _ ?_
        refine W.region_quiet [(0, false), (1, false)] (by kernel_rfl) ?_
        refine W.q (v := .int .i64 ((i + 1 : Nat) : Int)) (hr := (r_add (m := ((i : Nat) : Int)) (n := 1) (z := ((i + 1 : Nat) : Int)) rfl (by kernel_rfl) (by kernel_rfl) (by omega) (by omega))) (h := ?_)
        refine W.mv (v := .int .i64 ((i + 1 : Nat) : Int)) (h := ?_)
        refine W.endF 35 [(0, .slice A2 n2 c2), (1, .slice A3 n3 c3), (4, .slice none 0 0), (5, .slice (some ⟨g27, 0, none⟩) n0_5 c0_5), (6, .int .i64 ((i : Nat) : Int)), (11, .int .i64 (((0 + n2) : Nat) : Int)), (12, .int .i64 ((i + 1 : Nat) : Int)), (13, .bool true)] (fun U47 => ?_)
        exact h5 _ _ _ (by omega : (n2 - (i + 1)) < _) ⟨i + 1, (some ⟨g27, 0, none⟩), n0_5, c0_5, (fun iU9 => lk [(0, .slice A2 n2 c2), (1, .slice A3 n3 c3), (4, .slice none 0 0), (5, .slice (some ⟨g27, 0, none⟩) n0_5 c0_5), (6, .int .i64 ((i : Nat) : Int)), (11, .int .i64 (((0 + n2) : Nat) : Int)), (12, .int .i64 ((i + 1 : Nat) : Int)), (13, .bool true)] iU9 (U47 iU9)), (by kernel_rfl), rfl, (by omega), (by rw [(mixV_next hx9).trans (by rw [shutX_true (.inr q40)])]; exact ho42), c46⟩
      · rw [q40]
        refine W.q (v := .bool false) (hr := (r_pick (b := false) rfl (by kernel_rfl) (by kernel_rfl))) (h := ?_)
        refine W.q (v := .pointer (some ⟨g27, 0 + i * 4, none⟩)) (hr := (r_idx (n := n0_5) (c := c0_5) (k := i) (size := 4) rfl (by kernel_rfl) rfl (by kernel_rfl) (by kernel_rfl) (by omega))) (h := ?_)
        refine W.q (v := .pointer (some ⟨g27, 0 + i * 4 + 3, none⟩)) (hr := (r_field (k := 3) rfl (by kernel_rfl) (by kernel_rfl))) (h := ?_)
        refine W.sst (base := w.heap.size) (e := 60) (size := 4) (n := n0_5) (c := c0_5) (j := 0 + i * 4 + 3) (u := .bool false) (news := [.bool false]) s38 rfl (by kernel_rfl) rfl rfl (by kernel_rfl) (by kernel_rfl) ho39 (by kernel_rfl) (by kernel_rfl) (by kernel_rfl) (by simp only [List.length_cons, List.length_nil]; omega) (.inl rfl) (fun w48 ho49 g50 s51 => ?_)
        have ho49 := own_setS hmx ho49
        refine W.endF 35 [(0, .slice A2 n2 c2), (1, .slice A3 n3 c3), (4, .slice none 0 0), (5, .slice (some ⟨g27, 0, none⟩) n0_5 c0_5), (6, .int .i64 ((i : Nat) : Int)), (11, .int .i64 (((0 + n2) : Nat) : Int)), (12, .int .i64 ((i : Nat) : Int)), (13, .bool true)] (fun U52 => ?_)
        have c53 := (SG.belowR c22 s51 (fun kq e => (World.ownsRow.lt ho0_5 kq e).1))
        refine h8 _ _ ?_
        refine W.region_quiet [(0, false), (1, false)] (by kernel_rfl) ?_
        refine W.q (v := .int .i64 ((i + 1 : Nat) : Int)) (hr := (r_add (m := ((i : Nat) : Int)) (n := 1) (z := ((i + 1 : Nat) : Int)) rfl (by kernel_rfl) (by kernel_rfl) (by omega) (by omega))) (h := ?_)
        refine W.mv (v := .int .i64 ((i + 1 : Nat) : Int)) (h := ?_)
        refine W.endF 35 [(0, .slice A2 n2 c2), (1, .slice A3 n3 c3), (4, .slice none 0 0), (5, .slice (some ⟨g27, 0, none⟩) n0_5 c0_5), (6, .int .i64 ((i : Nat) : Int)), (11, .int .i64 (((0 + n2) : Nat) : Int)), (12, .int .i64 ((i + 1 : Nat) : Int)), (13, .bool true)] (fun U54 => ?_)
        exact h5 _ _ _ (by omega : (n2 - (i + 1)) < _) ⟨i + 1, (some ⟨g27, 0, none⟩), n0_5, c0_5, (fun iU9 => lk [(0, .slice A2 n2 c2), (1, .slice A3 n3 c3), (4, .slice none 0 0), (5, .slice (some ⟨g27, 0, none⟩) n0_5 c0_5), (6, .int .i64 ((i : Nat) : Int)), (11, .int .i64 (((0 + n2) : Nat) : Int)), (12, .int .i64 ((i + 1 : Nat) : Int)), (13, .bool true)] iU9 (U54 iU9)), (by kernel_rfl), rfl, (by omega), (by rw [(mixV_next hx9).trans (by rw [shutX_false q28 q40])]; exact ho49), c53⟩
  · refine W.q (v := .bool false) (hr := (r_lss (m := ((i : Nat) : Int)) (n := (((0 + n2) : Nat) : Int)) rfl (by kernel_rfl) (by kernel_rfl) (decide_eq_false q23))) (h := ?_)
    refine W.endF 35 [(0, .slice A2 n2 c2), (1, .slice A3 n3 c3), (4, .slice none 0 0), (5, .slice A0_5 n0_5 c0_5), (11, .int .i64 (((0 + n2) : Nat) : Int)), (12, .int .i64 ((i : Nat) : Int)), (13, .bool false)] (fun U55 => ?_)
    refine h6 _ _ ?_
    refine wp_seq_k (fun K10 h10 => ?_)
    refine wp_cond_false (by kernel_rfl) ?_
    refine wp_exit ?_
    refine h3 _ _ ?_
    refine wp_seq_k (fun K11 h11 => ?_)
    refine W.region_quiet [(0, false), (1, false)] (by kernel_rfl) ?_
    refine W.mv (v := .slice A0_5 n0_5 c0_5) (h := ?_)
    refine W.as (v := .slice A0_5 n0_5 c0_5) (h := ?_)
    refine W.endF 35 [(0, .slice A2 n2 c2), (1, .slice A3 n3 c3), (4, .slice A0_5 n0_5 c0_5), (5, .slice A0_5 n0_5 c0_5), (11, .int .i64 (((0 + n2) : Nat) : Int)), (12, .int .i64 ((i : Nat) : Int)), (13, .bool false)] (fun U56 => ?_)
    refine h11 _ _ ?_
    refine wp_ret ?_
    try simp only [Exit.then]
    refine ret1 (v := .slice A0_5 n0_5 c0_5) rfl (by kernel_rfl) ?_
    exact ⟨_, _, _, rfl, (by rw [← mixV_end (vs := vs) (plan := pl) (i := i) (by omega)]; exact ho0_5), c22⟩

set_option maxRecDepth 100000 in
set_option maxHeartbeats 1000000 in
theorem l5Shut_any (A2 : Option Addr) (n2 c2 : Nat) (vs : List Vv) (A3 : Option Addr) (n3 c3 : Nat) (pl : List Int) (w : World) (hb : Rd w 4 A2 n2 (valvesV vs)) (hn2 : n2 ≤ 1000000) (hfm2 : Fm A2 n2 c2) (hp3 : Rd w 1 A3 n3 (intsV pl)) (hn3 : n3 ≤ 1000000) :
    Calls Try.prog 108 #[.slice A2 n2 c2, .slice A3 n3 c3] w fun e w' => ∃ A' n' c', e = .returned (.slice A' n' c') ∧ w'.ownsRow w.heap.size 60 4 (.slice A' n' c') n' (valvesV (shutV vs pl)) ∧ Below w.heap.size w w' := by
  have hl2 := rd_valves_len hb
  have hl3 := rd_ints_len hp3
  go_enter Try.func108, Try.ntmps108
  refine wp_seq_k (fun K1 h1 => ?_)
  refine W.region_quiet [(0, false)] (by kernel_rfl) ?_
  refine W.as (v := .slice none 0 0) (h := ?_)
  refine W.endF 27 [(0, .slice A2 n2 c2), (1, .slice A3 n3 c3), (4, .slice none 0 0)] (fun U1 => ?_)
  refine h1 _ _ ?_
  refine wp_seq_k (fun K2 h2 => ?_)
  refine W.region_plain (row := none) [(0, true), (1, false), (2, true), (3, false)] (by kernel_rfl) ?_
  have s2 := SG.self w none
  refine W.sn (fun b => .slice (some ⟨b, 0, none⟩) 0 0) #[] 60 s2 rfl (by kernel_rfl) rfl (fun _ => by kernel_rfl) (fun b3 w4 hb5 k6 x7 s8 => ?_)
  have lo9 : w.heap.size ≤ b3 := by have := ((SG.belowR (Below.refl _ _) s2 (fun kq e => by cases e))).size; omega
  refine W.mv (v := .slice A2 n2 c2) (h := ?_)
  have ho10 := own_empty (base := w.heap.size) (size := 4) x7 lo9
  replace ho10 : World.ownsRow _ _ _ _ _ _ (valvesV []) := ho10
  replace ho10 : World.ownsRow _ _ _ _ _ _ (valvesV []) := ho10
  refine W.sapR (e := 60) (size := 4) (base := w.heap.size) (v := .slice (some ⟨b3, 0, none⟩) 0 0) (A := A2) (m := n2) (c := c2) s8 rfl rfl rfl rfl (by kernel_rfl) (by kernel_rfl) (by kernel_rfl) ho10 (Rd.kept hb (SG.belowR (Below.refl _ _) s8 (fun kq e => by cases e))) hfm2 (valves_one _) (by omega) (by have := ((SG.belowR (Below.refl _ _) s8 (fun kq e => by cases e))).size; omega) (.inr (fun kq e => by have := World.grownBy.size s2; have := hb5; have e' := Option.some.inj e; simp at e'; omega)) (fun A11 cap12 w13 ho14 hg15 hat16 s17 => ?_)
  have ho14 := own_joinV ho14
  have fr18 : ∀ kq, (.slice A11 (0 + n2) cap12 : Value).ownBlock = some kq → w.heap.size ≤ kq := fun kq e => by
    have hs := World.grownBy.size s8
    rcases hat16 with h | h
    · exact (show ∀ kq, Value.ownBlock _ = some kq → w.heap.size ≤ kq from (fun kq e => by have := World.grownBy.size s2; have := hb5; have e' := Option.some.inj e; simp at e'; omega)) kq (h.symm.trans e)
    · have := Option.some.inj (h.symm.trans e); omega
  replace ho14 : World.ownsRow _ _ _ _ _ _ (valvesV vs) := ho14
  refine W.as (v := .slice A11 (0 + n2) cap12) (h := ?_)
  refine W.endF 27 [(0, .slice A2 n2 c2), (1, .slice A3 n3 c3), (4, .slice none 0 0), (5, .slice A11 (0 + n2) cap12)] (fun U19 => ?_)
  have c20 := (SG.belowR (Below.refl _ _) s17 (fun kq e => by cases e))
  refine h2 _ _ ?_
  refine wp_seq_k (fun K3 h3 => ?_)
  refine wp_seq_k (fun K4 h4 => ?_)
  refine W.region_quiet [(0, false)] (by kernel_rfl) ?_
  refine W.as (v := .int .i64 0) (h := ?_)
  refine W.endF 27 [(0, .slice A2 n2 c2), (1, .slice A3 n3 c3), (4, .slice none 0 0), (5, .slice A11 (0 + n2) cap12), (6, .int .i64 0)] (fun U21 => ?_)
  refine h4 _ _ ?_
  refine wp_block ?_
  refine loopK (fun am0 aa0 wl0 => ∃ (i : Nat) (A0_5 : Option Addr) (n0_5 : Nat) (c0_5 : Nat) (U0 : Nat → Value), aa0 = ⟨(fr U0 [(0, .slice A2 n2 c2), (1, .slice A3 n3 c3), (4, .slice none 0 0), (5, .slice A0_5 n0_5 c0_5), (6, .int .i64 ((i : Nat) : Int))] 27 0).toArray, []⟩ ∧ (am0 = n2 - i) ∧ (i ≤ n2) ∧ (wl0.ownsRow w.heap.size 60 4 (.slice A0_5 n0_5 c0_5) n0_5 (valvesV (mixV vs pl i))) ∧ (Below w.heap.size w wl0)) (n2 - 0) ?_ ?_
  · exact ⟨0, A11, (0 + n2), cap12, (fun iU9 => lk [(0, .slice A2 n2 c2), (1, .slice A3 n3 c3), (4, .slice none 0 0), (5, .slice A11 (0 + n2) cap12), (6, .int .i64 0)] iU9 (U21 iU9)), (by kernel_rfl), rfl, (Nat.zero_le _), (by rw [mixV_zero]; exact ho14), c20⟩
  rintro am0 aa0 wl0 K5 h5 ⟨i, A0_5, n0_5, c0_5, U0, rfl, rfl, hi, ho0_5, c22⟩
  have hml := mixV_len vs pl i
  have hln := rd_valves_len (own_rd ho0_5)
  refine wp_seq_k (fun K6 h6 => ?_)
  refine wp_seq_k (fun K7 h7 => ?_)
  refine W.region_quiet [(0, false), (1, false), (2, false), (3, false)] (by kernel_rfl) ?_
  refine W.mv (v := .int .i64 ((i : Nat) : Int)) (h := ?_)
  refine W.mv (v := .slice A0_5 n0_5 c0_5) (h := ?_)
  refine W.q (v := .int .i64 ((n0_5 : Nat) : Int)) (hr := (r_len (A := A0_5) (n := n0_5) (c := c0_5) rfl (by kernel_rfl) (by kernel_rfl))) (h := ?_)
  by_cases q23 : (((i : Nat) : Int) : Int) < (((n0_5 : Nat) : Int) : Int)
  · refine W.q (v := .bool true) (hr := (r_lss (m := ((i : Nat) : Int)) (n := ((n0_5 : Nat) : Int)) rfl (by kernel_rfl) (by kernel_rfl) (decide_eq_true q23))) (h := ?_)
    refine W.endF 27 [(0, .slice A2 n2 c2), (1, .slice A3 n3 c3), (4, .slice none 0 0), (5, .slice A0_5 n0_5 c0_5), (6, .int .i64 ((i : Nat) : Int)), (13, .bool true)] (fun U24 => ?_)
    refine h7 _ _ ?_
    refine wp_cond_true (by kernel_rfl) ?_
    refine wp_skip ?_
    refine h6 _ _ ?_
    refine wp_seq_k (fun K8 h8 => ?_)
    refine wp_block ?_
    refine wp_seq_k (fun K9 h9 => ?_)
    refine W.region_plain (row := none) [(0, false), (1, false), (2, false), (3, false), (4, false), (5, false), (6, true)] (by kernel_rfl) ?_
    have s25 := SG.self wl0 none
    refine W.mv (v := .slice A3 n3 c3) (h := ?_)
    refine W.mv (v := .slice A0_5 n0_5 c0_5) (h := ?_)
    refine W.mv (v := .int .i64 ((i : Nat) : Int)) (h := ?_)
    obtain ⟨x9, hx9⟩ := get_of (zs := vs) (k := i) (by omega)
    have hmx := mixV_at (plan := pl) hx9
    obtain ⟨g26, rfl, _, _⟩ := own_addr ho0_5 (by omega)
    refine W.q (v := .pointer (some ⟨g26, 0 + i * 4, none⟩)) (hr := (r_idx (n := n0_5) (c := c0_5) (k := i) (size := 4) rfl (by kernel_rfl) rfl (by kernel_rfl) (by kernel_rfl) (by omega))) (h := ?_)
    refine W.q (v := .pointer (some ⟨g26, 0 + i * 4, none⟩)) (hr := (r_field0 rfl (by kernel_rfl) (by kernel_rfl))) (h := ?_)
    refine W.ld (v := .int .i64 x9.id) (hc := (sgS ((own_atV ho0_5 hmx).1) (by simp))) (h := ?_)
    refine W.sc (vs := [.slice A3 n3 c3, .int .i64 x9.id]) rfl rfl (by kernel_rfl) (by kernel_rfl) (by kernel_rfl) rfl (l1Has_any A3 n3 c3 pl x9.id _ (Rd.kept hp3 (SG.belowR c22 s25 (fun kq e => by cases e))) (by omega)) ?_
    rintro e w28 ⟨rfl, b27⟩
    have s29 := SG.of_below s25 b27
    refine ⟨_, rfl, s29, ?_⟩
    have ho30 := own_kept ho0_5 b27
    rcases Bool.eq_false_or_eq_true (pl.contains x9.id) with q31 | q31
    · rw [q31]
      refine W.endF 27 [(0, .slice A2 n2 c2), (1, .slice A3 n3 c3), (4, .slice none 0 0), (5, .slice (some ⟨g26, 0, none⟩) n0_5 c0_5), (6, .int .i64 ((i : Nat) : Int)), (13, .bool true), (22, .bool true)] (fun U32 => ?_)
      have c33 := (SG.belowR c22 s29 (fun kq e => by cases e))
      refine h9 _ _ ?_
      refine wp_cond_true (by kernel_rfl) ?_
      refine W.region_plain (row := none) [(0, false), (1, false), (2, true), (3, false)] (by kernel_rfl) ?_
      have s34 := SG.self w28 none
      refine W.mv (v := .slice (some ⟨g26, 0, none⟩) n0_5 c0_5) (h := ?_)
      refine W.mv (v := .int .i64 ((i : Nat) : Int)) (h := ?_)
      have z40 := ((SG.belowR c33 s34 (fun kq e => by cases e))).size
      refine W.sc (vs := [.slice (some ⟨g26, 0, none⟩) n0_5 c0_5, .int .i64 ((i : Nat) : Int), .bool true]) rfl rfl (by kernel_rfl) (by kernel_rfl) (by kernel_rfl) rfl (l4Turned_any (some ⟨g26, 0, none⟩) n0_5 c0_5 (mixV vs pl i) i x9 true _ (own_rd ho30) (by omega) (own_fm ho30) hmx) ?_
      rintro e w43 ⟨A35, n36, c37, rfl, ho38, b42⟩
      have s44 := SG.of_below s34 b42
      refine ⟨_, rfl, s44, ?_⟩
      have ho45 := own_kept ho30 b42
      have ho39 := own_base (base' := w.heap.size) ho38 z40
      refine W.as (v := .slice A35 n36 c37) (h := ?_)
      refine W.endF 27 [(0, .slice A2 n2 c2), (1, .slice A3 n3 c3), (4, .slice none 0 0), (5, .slice A35 n36 c37), (6, .int .i64 ((i : Nat) : Int)), (13, .bool true), (22, .bool true)] (fun U46 => ?_)
      have c47 := (SG.belowR c33 s44 (fun kq e => by cases e))
      refine h8 _ _ ?_
      refine W.region_quiet [(0, false), (1, false), (2, false)] (by kernel_rfl) ?_
      refine W.mv (v := .int .i64 ((i : Nat) : Int)) (h := ?_)
      refine W.q (v := .int .i64 ((i + 1 : Nat) : Int)) (hr := (r_add (m := ((i : Nat) : Int)) (n := 1) (z := ((i + 1 : Nat) : Int)) rfl (by kernel_rfl) (by kernel_rfl) (by omega) (by omega))) (h := ?_)
      refine W.as (v := .int .i64 ((i + 1 : Nat) : Int)) (h := ?_)
      refine W.endF 27 [(0, .slice A2 n2 c2), (1, .slice A3 n3 c3), (4, .slice none 0 0), (5, .slice A35 n36 c37), (6, .int .i64 ((i + 1 : Nat) : Int)), (13, .bool true), (22, .bool true)] (fun U48 => ?_)
      exact h5 _ _ _ (by omega : (n2 - (i + 1)) < _) ⟨i + 1, A35, n36, c37, (fun iU9 => lk [(0, .slice A2 n2 c2), (1, .slice A3 n3 c3), (4, .slice none 0 0), (5, .slice A35 n36 c37), (6, .int .i64 ((i + 1 : Nat) : Int)), (13, .bool true), (22, .bool true)] iU9 (U48 iU9)), (by kernel_rfl), rfl, (by omega), (by rw [(mixV_next hx9).trans (by rw [shutX_true (.inr q31)])]; exact ho39), c47⟩
    · rw [q31]
      refine W.endF 27 [(0, .slice A2 n2 c2), (1, .slice A3 n3 c3), (4, .slice none 0 0), (5, .slice (some ⟨g26, 0, none⟩) n0_5 c0_5), (6, .int .i64 ((i : Nat) : Int)), (13, .bool true), (22, .bool false)] (fun U49 => ?_)
      have c50 := (SG.belowR c22 s29 (fun kq e => by cases e))
      refine h9 _ _ ?_
      refine wp_cond_false (by kernel_rfl) ?_
      refine wp_skip ?_
      refine h8 _ _ ?_
      refine W.region_quiet [(0, false), (1, false), (2, false)] (by kernel_rfl) ?_
      refine W.mv (v := .int .i64 ((i : Nat) : Int)) (h := ?_)
      refine W.q (v := .int .i64 ((i + 1 : Nat) : Int)) (hr := (r_add (m := ((i : Nat) : Int)) (n := 1) (z := ((i + 1 : Nat) : Int)) rfl (by kernel_rfl) (by kernel_rfl) (by omega) (by omega))) (h := ?_)
      refine W.as (v := .int .i64 ((i + 1 : Nat) : Int)) (h := ?_)
      refine W.endF 27 [(0, .slice A2 n2 c2), (1, .slice A3 n3 c3), (4, .slice none 0 0), (5, .slice (some ⟨g26, 0, none⟩) n0_5 c0_5), (6, .int .i64 ((i + 1 : Nat) : Int)), (13, .bool true), (22, .bool false)] (fun U51 => ?_)
      exact h5 _ _ _ (by omega : (n2 - (i + 1)) < _) ⟨i + 1, (some ⟨g26, 0, none⟩), n0_5, c0_5, (fun iU9 => lk [(0, .slice A2 n2 c2), (1, .slice A3 n3 c3), (4, .slice none 0 0), (5, .slice (some ⟨g26, 0, none⟩) n0_5 c0_5), (6, .int .i64 ((i + 1 : Nat) : Int)), (13, .bool true), (22, .bool false)] iU9 (U51 iU9)), (by kernel_rfl), rfl, (by omega), (by rw [mixV_skip hx9 q31]; exact ho30), c50⟩
  · refine W.q (v := .bool false) (hr := (r_lss (m := ((i : Nat) : Int)) (n := ((n0_5 : Nat) : Int)) rfl (by kernel_rfl) (by kernel_rfl) (decide_eq_false q23))) (h := ?_)
    refine W.endF 27 [(0, .slice A2 n2 c2), (1, .slice A3 n3 c3), (4, .slice none 0 0), (5, .slice A0_5 n0_5 c0_5), (6, .int .i64 ((i : Nat) : Int)), (13, .bool false)] (fun U52 => ?_)
    refine h7 _ _ ?_
    refine wp_cond_false (by kernel_rfl) ?_
    refine wp_exit ?_
    refine h3 _ _ ?_
    refine wp_seq_k (fun K10 h10 => ?_)
    refine W.region_quiet [(0, false), (1, false)] (by kernel_rfl) ?_
    refine W.mv (v := .slice A0_5 n0_5 c0_5) (h := ?_)
    refine W.as (v := .slice A0_5 n0_5 c0_5) (h := ?_)
    refine W.endF 27 [(0, .slice A2 n2 c2), (1, .slice A3 n3 c3), (4, .slice A0_5 n0_5 c0_5), (5, .slice A0_5 n0_5 c0_5), (6, .int .i64 ((i : Nat) : Int)), (13, .bool false)] (fun U53 => ?_)
    refine h10 _ _ ?_
    refine wp_ret ?_
    try simp only [Exit.then]
    refine ret1 (v := .slice A0_5 n0_5 c0_5) rfl (by kernel_rfl) ?_
    exact ⟨_, _, _, rfl, (by rw [← mixV_end (vs := vs) (plan := pl) (i := i) (by omega)]; exact ho0_5), c22⟩

set_option maxRecDepth 100000 in
set_option maxHeartbeats 1000000 in
theorem isolates_any (m : Int) (A : Option Addr) (n c : Nat) (ps : List Pp) (A2 : Option Addr) (n2 c2 : Nat) (vs : List Vv) (s id : Int) (A3 : Option Addr) (n3 c3 : Nat) (pl : List Int) (w : World) (ha : Rd w 4 A n (pipesV ps)) (hb : Rd w 4 A2 n2 (valvesV vs)) (hn : n ≤ 1048576) (hn2 : n2 ≤ 1048576) (hfm2 : Fm A2 n2 c2) (hv9 : GoodVal m ps vs) (hs : 1 ≤ s ∧ s ≤ m) (hfa : 0 ≤ findL ps id) (hp3 : Rd w 1 A3 n3 (intsV pl)) (hn3 : n3 ≤ 1000000) :
    Calls Try.prog 59 #[.agg #[.int .i64 m, .slice A n c], .slice A2 n2 c2, .int .i64 s, .int .i64 id, .slice A3 n3 c3] w fun e w' => e = .returned (.bool (cutB ps vs s id pl)) ∧ Below w.heap.size w w' := by
  have hl := rd_pipes_len ha
  have hl2 := rd_valves_len hb
  have hl3 := rd_ints_len hp3
  have hg := hv9.net
  have hgl := hg.lo
  have hgh := hg.hi
  have hp := hg.pipesIn
  have hlen10 := hg.len
  have hu := hv9.uniq
  have hvl := hv9.len
  have hfl := findL_lt ps id
  go_enter Try.func59, Try.ntmps59
  refine wp_seq_k (fun K1 h1 => ?_)
  refine W.region_plain (row := none) [(0, true), (1, false)] (by kernel_rfl) ?_
  have s1 := SG.self w none
  refine W.sn (fun b => .pointer (some ⟨b, 0, none⟩)) #[.int .i64 m, .slice A n c] 32 s1 rfl (by kernel_rfl) rfl (fun _ => by kernel_rfl) (fun b2 w3 hb4 k5 x6 s7 => ?_)
  have lo8 : w.heap.size ≤ b2 := by have := ((SG.belowR (Below.refl _ _) s1 (fun kq e => by cases e))).size; omega
  refine W.as (v := .bool false) (h := ?_)
  refine W.endF 25 [(0, .agg #[.int .i64 m, .slice A n c]), (1, .slice A2 n2 c2), (2, .int .i64 s), (3, .int .i64 id), (4, .slice A3 n3 c3), (5, .pointer (some ⟨b2, 0, none⟩)), (10, .bool false)] (fun U9 => ?_)
  have c10 := (SG.belowR (Below.refl _ _) s7 (fun kq e => by cases e))
  refine h1 _ _ ?_
  refine wp_seq_k (fun K2 h2 => ?_)
  refine W.region_sch (row := none) (Sch.of [(0, false), (1, false), (2, false), (4, false), (6, false), (7, false), (3, true), (5, true), (10, false), (8, true), (9, true), (11, false), (12, true), (13, false), (14, false)]) (by kernel_rfl) (by kernel_rfl) (fun _ d _ _ _ h => by cases d <;> exact h) (by kernel_rfl) (fun w11 e12 s13 => ?_)
  refine W.q (v := .agg #[.int .i64 m, .slice A n c]) (hr := (r_load2 rfl (by kernel_rfl) (by kernel_rfl) (by kernel_rfl) (sgS (blk_cell (j := 0) x6 (by kernel_rfl)) (by simp)) (sgS (blk_cell (j := 1) x6 (by kernel_rfl)) (by simp)))) (h := ?_)
  refine W.mv (v := .slice A2 n2 c2) (h := ?_)
  refine W.mv (v := .slice A3 n3 c3) (h := ?_)
  refine W.mv (v := .int .i64 s) (h := ?_)
  refine W.q (v := .agg #[.int .i64 m, .slice A n c]) (hr := (r_load2 rfl (by kernel_rfl) (by kernel_rfl) (by kernel_rfl) (sgS (blk_cell (j := 0) x6 (by kernel_rfl)) (by simp)) (sgS (blk_cell (j := 1) x6 (by kernel_rfl)) (by simp)))) (h := ?_)
  refine W.mv (v := .int .i64 id) (h := ?_)
  refine W.sc (vs := [.slice A2 n2 c2, .slice A3 n3 c3]) rfl rfl (by kernel_rfl) (by kernel_rfl) (by kernel_rfl) rfl (shutToo_any A2 n2 c2 vs A3 n3 c3 pl _ (Rd.kept hb (SG.belowR c10 s13 (fun kq e => by cases e))) (by omega) hfm2 (Rd.kept hp3 (SG.belowR c10 s13 (fun kq e => by cases e))) (by omega)) ?_
  rintro e w23 ⟨A14, n15, c16, rfl, ho17, b22⟩
  have s24 := SG.of_below s13 b22
  refine ⟨_, rfl, s24, ?_⟩
  have rd18 := own_rd ho17
  have fm21 := own_fm ho17
  have hl19 := rd_valves_len rd18
  have sp25 := sp_freshB (g := b2) ho17 (Nat.lt_of_lt_of_le (blk_lt x6) (World.grownBy.size s13))
  have := shutV_len vs pl
  refine W.sc (vs := [.agg #[.int .i64 m, .slice A n c], .slice A14 n15 c16, .int .i64 s]) rfl rfl (by kernel_rfl) (by kernel_rfl) (by kernel_rfl) rfl (watered_any m A n c ps A14 n15 c16 (shutV vs pl) (s) (s).toNat _ (Rd.kept ha (SG.belowR c10 s24 (fun kq e => by cases e))) rd18 (by omega) (by omega) hp (by omega) (by omega) (uniqV_shut hu pl) (by omega) (by omega)) ?_
  rintro e w32 ⟨pb26, rfl, lo30, rd27, b31⟩
  have s33 := SG.of_below s24 b31
  refine ⟨_, rfl, s33, ?_⟩
  have rd34 := Rd.kept rd18 b31
  have sp35 : Sp (some ⟨pb26, 0, none⟩) 19 (some b2) := sp_ptrB (Nat.lt_of_lt_of_le (Nat.lt_of_lt_of_le (blk_lt x6) (World.grownBy.size s24)) lo30)
  have hl28 := rd_bools_len rd27
  rw [wetL_len] at hl28
  have hl28 : (wetL (linked ps (openQ (shutV vs pl) true)) (s)).length = 19 := wetL_len _ _
  refine W.q (v := .pointer (some ⟨pb26, 0, none⟩)) (hr := (r_nilCheck rfl (by kernel_rfl))) (h := ?_)
  refine W.sc (vs := [.agg #[.int .i64 m, .slice A n c], .int .i64 id]) rfl rfl (by kernel_rfl) (by kernel_rfl) (by kernel_rfl) rfl (pipeIndex_any m A n c ps id _ (Rd.kept ha (SG.belowR c10 s33 (fun kq e => by cases e))) (by omega)) ?_
  rintro e w37 ⟨rfl, b36⟩
  have s38 := SG.of_below s33 b36
  refine ⟨_, rfl, s38, ?_⟩
  have rd39 := Rd.kept rd34 b36
  have rd40 := Rd.kept rd27 b36
  refine W.sc (vs := [.int .i64 (findL ps id)]) rfl rfl (by kernel_rfl) (by kernel_rfl) (by kernel_rfl) rfl (element_any (findL ps id) _ (by omega)) ?_
  rintro e w' ⟨rfl, rfl⟩
  refine ⟨_, rfl, s38, ?_⟩
  obtain ⟨x43, hx44⟩ := get_of (zs := (wetL (linked ps (openQ (shutV vs pl) true)) (s))) (k := (9 + findL ps id).toNat) (by have := hl28; omega)
  obtain ⟨hb45, hc46⟩ := Rd.elBool rd40 hx44
  refine W.q (v := .pointer (some ⟨pb26, (9 + findL ps id).toNat, none⟩)) (hr := (r_idxA (len := 19) (k := (9 + findL ps id).toNat) rfl (by kernel_rfl) (evk (z := 9 + (findL ps id)) (by kernel_rfl) (by omega)) (by kernel_rfl) (by omega))) (h := ?_)
  refine W.slq (v := .bool x43) s38 rfl (r_load rfl (by kernel_rfl) (by kernel_rfl) (eqS hc46)) (by kernel_rfl) rfl ?_
  refine W.q (v := .bool (!x43)) (hr := (r_not (b := x43) rfl (by kernel_rfl) rfl)) (h := ?_)
  refine W.as (v := .bool (!x43)) (h := ?_)
  refine W.endF 25 [(0, .agg #[.int .i64 m, .slice A n c]), (1, .slice A2 n2 c2), (2, .int .i64 s), (3, .int .i64 id), (4, .slice A3 n3 c3), (5, .pointer (some ⟨b2, 0, none⟩)), (10, .bool (!x43))] (fun U47 => ?_)
  have x6 := SG.blk s38 x6 (by simp)
  have c48 := (SG.belowR c10 s38 (fun kq e => by cases e))
  refine h2 _ _ ?_
  refine wp_ret ?_
  try simp only [Exit.then]
  refine ret1 (v := .bool (!x43)) rfl (by kernel_rfl) ?_
  exact ⟨by unfold cutB; rw [← wet_eqI (b := 9 + findL ps id) hx44 (by omega)], c48⟩

set_option maxRecDepth 100000 in
set_option maxHeartbeats 1000000 in
theorem l5Cut_any (m : Int) (A : Option Addr) (n c : Nat) (ps : List Pp) (A2 : Option Addr) (n2 c2 : Nat) (vs : List Vv) (s id : Int) (A3 : Option Addr) (n3 c3 : Nat) (pl : List Int) (w : World) (ha : Rd w 4 A n (pipesV ps)) (hb : Rd w 4 A2 n2 (valvesV vs)) (hn : n ≤ 1048576) (hn2 : n2 ≤ 1048576) (hfm2 : Fm A2 n2 c2) (hv9 : GoodVal m ps vs) (hs : 1 ≤ s ∧ s ≤ m) (hfa : 0 ≤ findL ps id) (hp3 : Rd w 1 A3 n3 (intsV pl)) (hn3 : n3 ≤ 1000000) :
    Calls Try.prog 75 #[.agg #[.int .i64 m, .slice A n c], .slice A2 n2 c2, .int .i64 s, .int .i64 id, .slice A3 n3 c3] w fun e w' => e = .returned (.bool (cutB ps vs s id pl)) ∧ Below w.heap.size w w' := by
  have hl := rd_pipes_len ha
  have hl2 := rd_valves_len hb
  have hl3 := rd_ints_len hp3
  have hg := hv9.net
  have hgl := hg.lo
  have hgh := hg.hi
  have hp := hg.pipesIn
  have hlen10 := hg.len
  have hu := hv9.uniq
  have hvl := hv9.len
  have hfl := findL_lt ps id
  go_enter Try.func75, Try.ntmps75
  refine wp_seq_k (fun K1 h1 => ?_)
  refine W.region_plain (row := none) [(0, true), (1, false)] (by kernel_rfl) ?_
  have s1 := SG.self w none
  refine W.sn (fun b => .pointer (some ⟨b, 0, none⟩)) #[.int .i64 m, .slice A n c] 32 s1 rfl (by kernel_rfl) rfl (fun _ => by kernel_rfl) (fun b2 w3 hb4 k5 x6 s7 => ?_)
  have lo8 : w.heap.size ≤ b2 := by have := ((SG.belowR (Below.refl _ _) s1 (fun kq e => by cases e))).size; omega
  refine W.as (v := .bool false) (h := ?_)
  refine W.endF 27 [(0, .agg #[.int .i64 m, .slice A n c]), (1, .slice A2 n2 c2), (2, .int .i64 s), (3, .int .i64 id), (4, .slice A3 n3 c3), (5, .pointer (some ⟨b2, 0, none⟩)), (10, .bool false)] (fun U9 => ?_)
  have c10 := (SG.belowR (Below.refl _ _) s7 (fun kq e => by cases e))
  refine h1 _ _ ?_
  refine wp_seq_k (fun K2 h2 => ?_)
  refine W.region_sch (row := none) (Sch.of [(0, false), (1, false), (2, false), (4, false), (3, true), (5, true), (6, false), (7, false), (8, false), (9, false), (10, false)]) (by kernel_rfl) (by kernel_rfl) (fun _ d _ _ _ h => by cases d <;> exact h) (by kernel_rfl) (fun w11 e12 s13 => ?_)
  refine W.q (v := .agg #[.int .i64 m, .slice A n c]) (hr := (r_load2 rfl (by kernel_rfl) (by kernel_rfl) (by kernel_rfl) (sgS (blk_cell (j := 0) x6 (by kernel_rfl)) (by simp)) (sgS (blk_cell (j := 1) x6 (by kernel_rfl)) (by simp)))) (h := ?_)
  refine W.mv (v := .slice A2 n2 c2) (h := ?_)
  refine W.mv (v := .slice A3 n3 c3) (h := ?_)
  refine W.mv (v := .int .i64 s) (h := ?_)
  refine W.sc (vs := [.slice A2 n2 c2, .slice A3 n3 c3]) rfl rfl (by kernel_rfl) (by kernel_rfl) (by kernel_rfl) rfl (l5Shut_any A2 n2 c2 vs A3 n3 c3 pl _ (Rd.kept hb (SG.belowR c10 s13 (fun kq e => by cases e))) (by omega) hfm2 (Rd.kept hp3 (SG.belowR c10 s13 (fun kq e => by cases e))) (by omega)) ?_
  rintro e w23 ⟨A14, n15, c16, rfl, ho17, b22⟩
  have s24 := SG.of_below s13 b22
  refine ⟨_, rfl, s24, ?_⟩
  have rd18 := own_rd ho17
  have fm21 := own_fm ho17
  have hl19 := rd_valves_len rd18
  have sp25 := sp_freshB (g := b2) ho17 (Nat.lt_of_lt_of_le (blk_lt x6) (World.grownBy.size s13))
  have := shutV_len vs pl
  refine W.sc (vs := [.agg #[.int .i64 m, .slice A n c], .slice A14 n15 c16, .int .i64 s]) rfl rfl (by kernel_rfl) (by kernel_rfl) (by kernel_rfl) rfl (l4Dry_any m A n c ps A14 n15 c16 (shutV vs pl) s _ (Rd.kept ha (SG.belowR c10 s24 (fun kq e => by cases e))) rd18 (by omega) (by omega) hp (by omega) (by omega) (by omega)) ?_
  rintro e w41 ⟨A26, n27, c28, A29, n30, c31, rfl, rd32, fm33, rd34, fm35, b40⟩
  have s42 := SG.of_below s24 b40
  refine ⟨_, rfl, s42, ?_⟩
  have rd43 := Rd.kept rd18 b40
  have hl38 := rd_ints_len rd32
  have hl39 := rd_ints_len rd34
  have := nodesL_len (linked ps (openQ (shutV vs pl) true)) m.toNat s false
  have := idxL_len (linked ps (openQ (shutV vs pl) true)) ps.length s false
  refine W.mv (v := .tuple #[.slice A26 n27 c28, .slice A29 n30 c31]) (h := ?_)
  refine W.q (v := .slice A26 n27 c28) (hr := (r_extract (vs := #[.slice A26 n27 c28, .slice A29 n30 c31]) rfl (by kernel_rfl) (by kernel_rfl))) (h := ?_)
  refine W.q (v := .slice A29 n30 c31) (hr := (r_extract (vs := #[.slice A26 n27 c28, .slice A29 n30 c31]) rfl (by kernel_rfl) (by kernel_rfl))) (h := ?_)
  refine W.as (v := .slice A26 n27 c28) (h := ?_)
  refine W.as (v := .slice A29 n30 c31) (h := ?_)
  refine W.endF 27 [(0, .agg #[.int .i64 m, .slice A n c]), (1, .slice A2 n2 c2), (2, .int .i64 s), (3, .int .i64 id), (4, .slice A3 n3 c3), (5, .pointer (some ⟨b2, 0, none⟩)), (10, .bool false), (12, .slice A29 n30 c31)] (fun U44 => ?_)
  have x6 := SG.blk s42 x6 (by simp)
  have c45 := (SG.belowR c10 s42 (fun kq e => by cases e))
  refine h2 _ _ ?_
  refine wp_seq_k (fun K3 h3 => ?_)
  refine W.region_plain (row := none) [(0, false), (1, false), (2, false), (3, true), (4, true), (5, false)] (by kernel_rfl) ?_
  have s46 := SG.self w41 none
  refine W.mv (v := .slice A29 n30 c31) (h := ?_)
  refine W.q (v := .agg #[.int .i64 m, .slice A n c]) (hr := (r_load2 rfl (by kernel_rfl) (by kernel_rfl) (by kernel_rfl) (sgS (blk_cell (j := 0) x6 (by kernel_rfl)) (by simp)) (sgS (blk_cell (j := 1) x6 (by kernel_rfl)) (by simp)))) (h := ?_)
  refine W.mv (v := .int .i64 id) (h := ?_)
  refine W.sc (vs := [.agg #[.int .i64 m, .slice A n c], .int .i64 id]) rfl rfl (by kernel_rfl) (by kernel_rfl) (by kernel_rfl) rfl (l2Find_any m A n c ps id _ (Rd.kept ha (SG.belowR c45 s46 (fun kq e => by cases e))) (by omega)) ?_
  rintro e w48 ⟨rfl, b47⟩
  have s49 := SG.of_below s46 b47
  refine ⟨_, rfl, s49, ?_⟩
  refine W.sc (vs := [.slice A29 n30 c31, .int .i64 (findL ps id)]) rfl rfl (by kernel_rfl) (by kernel_rfl) (by kernel_rfl) rfl (l1Has_any A29 n30 c31 (idxL (linked ps (openQ (shutV vs pl) true)) ps.length s false) (findL ps id) _ (Rd.kept rd34 (SG.below s49)) (by omega)) ?_
  rintro e w51 ⟨rfl, b50⟩
  have s52 := SG.of_below s49 b50
  refine ⟨_, rfl, s52, ?_⟩
  refine W.as (v := .bool ((idxL (linked ps (openQ (shutV vs pl) true)) ps.length s false).contains (findL ps id))) (h := ?_)
  refine W.endF 27 [(0, .agg #[.int .i64 m, .slice A n c]), (1, .slice A2 n2 c2), (2, .int .i64 s), (3, .int .i64 id), (4, .slice A3 n3 c3), (5, .pointer (some ⟨b2, 0, none⟩)), (10, .bool ((idxL (linked ps (openQ (shutV vs pl) true)) ps.length s false).contains (findL ps id))), (12, .slice A29 n30 c31)] (fun U53 => ?_)
  have x6 := SG.blk s52 x6 (by simp)
  have c54 := (SG.belowR c45 s52 (fun kq e => by cases e))
  have rd55 := Rd.kept rd43 (SG.below s52)
  have rd56 := Rd.kept rd32 (SG.below s52)
  have rd57 := Rd.kept rd34 (SG.below s52)
  refine h3 _ _ ?_
  refine wp_ret ?_
  try simp only [Exit.then]
  refine ret1 (v := .bool ((idxL (linked ps (openQ (shutV vs pl) true)) ps.length s false).contains (findL ps id))) rfl (by kernel_rfl) ?_
  exact ⟨by unfold cutB; rw [idxL_hasF (by omega)], c54⟩

set_option maxRecDepth 100000 in
set_option maxHeartbeats 1000000 in
theorem canBurst_any (m : Int) (A : Option Addr) (n c : Nat) (ps : List Pp) (A2 : Option Addr) (n2 c2 : Nat) (vs : List Vv) (s id : Int) (w : World) (ha : Rd w 4 A n (pipesV ps)) (hb : Rd w 4 A2 n2 (valvesV vs)) (hn : n ≤ 1048576) (hn2 : n2 ≤ 1048576) (hfm2 : Fm A2 n2 c2) :
    Calls Try.prog 56 #[.agg #[.int .i64 m, .slice A n c], .slice A2 n2 c2, .int .i64 s, .int .i64 id] w fun e w' => e = .returned (.bool (canB m ps vs s id)) ∧ Below w.heap.size w w' := by
  have hl := rd_pipes_len ha
  have hl2 := rd_valves_len hb
  go_enter Try.func56, Try.ntmps56
  refine wp_seq_k (fun K1 h1 => ?_)
  refine W.region_plain (row := none) [(0, true), (1, false)] (by kernel_rfl) ?_
  have s1 := SG.self w none
  refine W.sn (fun b => .pointer (some ⟨b, 0, none⟩)) #[.int .i64 m, .slice A n c] 32 s1 rfl (by kernel_rfl) rfl (fun _ => by kernel_rfl) (fun b2 w3 hb4 k5 x6 s7 => ?_)
  have lo8 : w.heap.size ≤ b2 := by have := ((SG.belowR (Below.refl _ _) s1 (fun kq e => by cases e))).size; omega
  refine W.as (v := .bool false) (h := ?_)
  refine W.endF 23 [(0, .agg #[.int .i64 m, .slice A n c]), (1, .slice A2 n2 c2), (2, .int .i64 s), (3, .int .i64 id), (4, .pointer (some ⟨b2, 0, none⟩)), (8, .bool false)] (fun U9 => ?_)
  have c10 := (SG.belowR (Below.refl _ _) s7 (fun kq e => by cases e))
  refine h1 _ _ ?_
  refine wp_seq_k (fun K2 h2 => ?_)
  refine W.region_plain (row := none) [(0, false), (1, false), (2, true), (3, false), (4, false), (5, false), (6, true), (7, false), (8, false), (9, false), (10, false), (11, true), (12, false), (13, false), (14, false)] (by kernel_rfl) ?_
  have s11 := SG.self w3 none
  refine W.q (v := .agg #[.int .i64 m, .slice A n c]) (hr := (r_load2 rfl (by kernel_rfl) (by kernel_rfl) (by kernel_rfl) (sgS (blk_cell (j := 0) x6 (by kernel_rfl)) (by simp)) (sgS (blk_cell (j := 1) x6 (by kernel_rfl)) (by simp)))) (h := ?_)
  refine W.mv (v := .slice A2 n2 c2) (h := ?_)
  refine W.sc (vs := [.agg #[.int .i64 m, .slice A n c], .slice A2 n2 c2]) rfl rfl (by kernel_rfl) (by kernel_rfl) (by kernel_rfl) rfl (IsValidValves_any m A n c ps A2 n2 c2 vs _ (Rd.kept ha (SG.belowR c10 s11 (fun kq e => by cases e))) (Rd.kept hb (SG.belowR c10 s11 (fun kq e => by cases e))) (by omega) (by omega) hfm2) ?_
  rintro e w13 ⟨rfl, b12⟩
  have s14 := SG.of_below s11 b12
  refine ⟨_, rfl, s14, ?_⟩
  rcases Bool.eq_false_or_eq_true (goodV m ps vs) with q15 | q15
  · rw [q15]
    have hv9 := goodV_of q15
    have hg := hv9.net
    have hgl := hg.lo
    have hgh := hg.hi
    have hp := hg.pipesIn
    have hlen10 := hg.len
    have hu := hv9.uniq
    have hvl := hv9.len
    have hfl := findL_lt ps id
    refine W.mv (v := .bool true) (h := ?_)
    refine W.q (v := .agg #[.int .i64 m, .slice A n c]) (hr := (r_load2 rfl (by kernel_rfl) (by kernel_rfl) (by kernel_rfl) (sgS (blk_cell (j := 0) x6 (by kernel_rfl)) (by simp)) (sgS (blk_cell (j := 1) x6 (by kernel_rfl)) (by simp)))) (h := ?_)
    refine W.mv (v := .int .i64 s) (h := ?_)
    refine W.sc (vs := [.agg #[.int .i64 m, .slice A n c], .int .i64 s]) rfl rfl (by kernel_rfl) (by kernel_rfl) (by kernel_rfl) rfl (has_any m A n c ps s _) ?_
    rintro e w17 ⟨rfl, b16⟩
    have s18 := SG.of_below s14 b16
    refine ⟨_, rfl, s18, ?_⟩
    rcases Bool.eq_false_or_eq_true (inB s 1 m) with q19 | q19
    · rw [q19]
      refine W.q (v := .bool true) (hr := (r_pick (b := true) rfl (by kernel_rfl) (by kernel_rfl))) (h := ?_)
      refine W.mv (v := .bool true) (h := ?_)
      refine W.q (v := .agg #[.int .i64 m, .slice A n c]) (hr := (r_load2 rfl (by kernel_rfl) (by kernel_rfl) (by kernel_rfl) (sgS (blk_cell (j := 0) x6 (by kernel_rfl)) (by simp)) (sgS (blk_cell (j := 1) x6 (by kernel_rfl)) (by simp)))) (h := ?_)
      refine W.mv (v := .int .i64 id) (h := ?_)
      refine W.sc (vs := [.agg #[.int .i64 m, .slice A n c], .int .i64 id]) rfl rfl (by kernel_rfl) (by kernel_rfl) (by kernel_rfl) rfl (pipeIndex_any m A n c ps id _ (Rd.kept ha (SG.belowR c10 s18 (fun kq e => by cases e))) (by omega)) ?_
      rintro e w21 ⟨rfl, b20⟩
      have s22 := SG.of_below s18 b20
      refine ⟨_, rfl, s22, ?_⟩
      by_cases q23 : (findL ps id : Int) ≥ (0 : Int)
      · refine W.q (v := .bool true) (hr := (r_geq (m := findL ps id) (n := 0) rfl (by kernel_rfl) (by kernel_rfl) (decide_eq_true q23))) (h := ?_)
        refine W.q (v := .bool true) (hr := (r_pick (b := true) rfl (by kernel_rfl) (by kernel_rfl))) (h := ?_)
        refine W.as (v := .bool true) (h := ?_)
        refine W.endF 23 [(0, .agg #[.int .i64 m, .slice A n c]), (1, .slice A2 n2 c2), (2, .int .i64 s), (3, .int .i64 id), (4, .pointer (some ⟨b2, 0, none⟩)), (8, .bool true)] (fun U24 => ?_)
        have x6 := SG.blk s22 x6 (by simp)
        have c25 := (SG.belowR c10 s22 (fun kq e => by cases e))
        refine h2 _ _ ?_
        refine wp_ret ?_
        try simp only [Exit.then]
        refine ret1 (v := .bool true) rfl (by kernel_rfl) ?_
        exact ⟨by unfold canB; rw [q15, q19, decide_eq_true q23]; rfl, c25⟩
      · refine W.q (v := .bool false) (hr := (r_geq (m := findL ps id) (n := 0) rfl (by kernel_rfl) (by kernel_rfl) (decide_eq_false q23))) (h := ?_)
        refine W.q (v := .bool false) (hr := (r_pick (b := true) rfl (by kernel_rfl) (by kernel_rfl))) (h := ?_)
        refine W.as (v := .bool false) (h := ?_)
        refine W.endF 23 [(0, .agg #[.int .i64 m, .slice A n c]), (1, .slice A2 n2 c2), (2, .int .i64 s), (3, .int .i64 id), (4, .pointer (some ⟨b2, 0, none⟩)), (8, .bool false)] (fun U26 => ?_)
        have x6 := SG.blk s22 x6 (by simp)
        have c27 := (SG.belowR c10 s22 (fun kq e => by cases e))
        refine h2 _ _ ?_
        refine wp_ret ?_
        try simp only [Exit.then]
        refine ret1 (v := .bool false) rfl (by kernel_rfl) ?_
        exact ⟨by unfold canB; rw [decide_eq_false q23, Bool.and_false], c27⟩
    · rw [q19]
      refine W.q (v := .bool false) (hr := (r_pick (b := true) rfl (by kernel_rfl) (by kernel_rfl))) (h := ?_)
      refine W.mv (v := .bool false) (h := ?_)
      refine W.sp s18 (h := ?_)
      refine W.sp s18 (h := ?_)
      refine W.sp s18 (h := ?_)
      refine W.sp s18 (h := ?_)
      refine W.q (v := .bool false) (hr := (r_pick (b := false) rfl (by kernel_rfl) (by kernel_rfl))) (h := ?_)
      refine W.as (v := .bool false) (h := ?_)
      refine W.endF 23 [(0, .agg #[.int .i64 m, .slice A n c]), (1, .slice A2 n2 c2), (2, .int .i64 s), (3, .int .i64 id), (4, .pointer (some ⟨b2, 0, none⟩)), (8, .bool false)] (fun U28 => ?_)
      have x6 := SG.blk s18 x6 (by simp)
      have c29 := (SG.belowR c10 s18 (fun kq e => by cases e))
      refine h2 _ _ ?_
      refine wp_ret ?_
      try simp only [Exit.then]
      refine ret1 (v := .bool false) rfl (by kernel_rfl) ?_
      exact ⟨by unfold canB; rw [q19, Bool.and_false, Bool.false_and], c29⟩
  · rw [q15]
    refine W.mv (v := .bool false) (h := ?_)
    refine W.sp s14 (h := ?_)
    refine W.sp s14 (h := ?_)
    refine W.sp s14 (h := ?_)
    refine W.q (v := .bool false) (hr := (r_pick (b := false) rfl (by kernel_rfl) (by kernel_rfl))) (h := ?_)
    refine W.mv (v := .bool false) (h := ?_)
    refine W.sp s14 (h := ?_)
    refine W.sp s14 (h := ?_)
    refine W.sp s14 (h := ?_)
    refine W.sp s14 (h := ?_)
    refine W.q (v := .bool false) (hr := (r_pick (b := false) rfl (by kernel_rfl) (by kernel_rfl))) (h := ?_)
    refine W.as (v := .bool false) (h := ?_)
    refine W.endF 23 [(0, .agg #[.int .i64 m, .slice A n c]), (1, .slice A2 n2 c2), (2, .int .i64 s), (3, .int .i64 id), (4, .pointer (some ⟨b2, 0, none⟩)), (8, .bool false)] (fun U30 => ?_)
    have x6 := SG.blk s14 x6 (by simp)
    have c31 := (SG.belowR c10 s14 (fun kq e => by cases e))
    refine h2 _ _ ?_
    refine wp_ret ?_
    try simp only [Exit.then]
    refine ret1 (v := .bool false) rfl (by kernel_rfl) ?_
    exact ⟨by unfold canB; rw [q15]; rfl, c31⟩

set_option maxRecDepth 100000 in
set_option maxHeartbeats 1000000 in
theorem l5Asked_any (m : Int) (A : Option Addr) (n c : Nat) (ps : List Pp) (A2 : Option Addr) (n2 c2 : Nat) (vs : List Vv) (s id : Int) (w : World) (ha : Rd w 4 A n (pipesV ps)) (hb : Rd w 4 A2 n2 (valvesV vs)) (hn : n ≤ 1048576) (hn2 : n2 ≤ 1048576) (hfm2 : Fm A2 n2 c2) :
    Calls Try.prog 62 #[.agg #[.int .i64 m, .slice A n c], .slice A2 n2 c2, .int .i64 s, .int .i64 id] w fun e w' => e = .returned (.bool (canB m ps vs s id)) ∧ Below w.heap.size w w' := by
  have hl := rd_pipes_len ha
  have hl2 := rd_valves_len hb
  go_enter Try.func62, Try.ntmps62
  refine wp_seq_k (fun K1 h1 => ?_)
  refine W.region_plain (row := none) [(0, true), (1, false)] (by kernel_rfl) ?_
  have s1 := SG.self w none
  refine W.sn (fun b => .pointer (some ⟨b, 0, none⟩)) #[.int .i64 m, .slice A n c] 32 s1 rfl (by kernel_rfl) rfl (fun _ => by kernel_rfl) (fun b2 w3 hb4 k5 x6 s7 => ?_)
  have lo8 : w.heap.size ≤ b2 := by have := ((SG.belowR (Below.refl _ _) s1 (fun kq e => by cases e))).size; omega
  refine W.as (v := .bool false) (h := ?_)
  refine W.endF 23 [(0, .agg #[.int .i64 m, .slice A n c]), (1, .slice A2 n2 c2), (2, .int .i64 s), (3, .int .i64 id), (4, .pointer (some ⟨b2, 0, none⟩)), (8, .bool false)] (fun U9 => ?_)
  have c10 := (SG.belowR (Below.refl _ _) s7 (fun kq e => by cases e))
  refine h1 _ _ ?_
  refine wp_seq_k (fun K2 h2 => ?_)
  refine W.region_plain (row := none) [(0, false), (1, false), (2, true), (3, false), (4, false), (5, false), (6, true), (7, false), (8, false), (9, false), (10, false), (11, true), (12, false), (13, false), (14, false)] (by kernel_rfl) ?_
  have s11 := SG.self w3 none
  refine W.q (v := .agg #[.int .i64 m, .slice A n c]) (hr := (r_load2 rfl (by kernel_rfl) (by kernel_rfl) (by kernel_rfl) (sgS (blk_cell (j := 0) x6 (by kernel_rfl)) (by simp)) (sgS (blk_cell (j := 1) x6 (by kernel_rfl)) (by simp)))) (h := ?_)
  refine W.mv (v := .slice A2 n2 c2) (h := ?_)
  refine W.sc (vs := [.agg #[.int .i64 m, .slice A n c], .slice A2 n2 c2]) rfl rfl (by kernel_rfl) (by kernel_rfl) (by kernel_rfl) rfl (l4Good_any m A n c ps A2 n2 c2 vs _ (Rd.kept ha (SG.belowR c10 s11 (fun kq e => by cases e))) (Rd.kept hb (SG.belowR c10 s11 (fun kq e => by cases e))) (by omega) (by omega)) ?_
  rintro e w13 ⟨rfl, b12⟩
  have s14 := SG.of_below s11 b12
  refine ⟨_, rfl, s14, ?_⟩
  rcases Bool.eq_false_or_eq_true (goodV m ps vs) with q15 | q15
  · rw [q15]
    have hv9 := goodV_of q15
    have hg := hv9.net
    have hgl := hg.lo
    have hgh := hg.hi
    have hp := hg.pipesIn
    have hlen10 := hg.len
    have hu := hv9.uniq
    have hvl := hv9.len
    have hfl := findL_lt ps id
    refine W.mv (v := .bool true) (h := ?_)
    refine W.q (v := .agg #[.int .i64 m, .slice A n c]) (hr := (r_load2 rfl (by kernel_rfl) (by kernel_rfl) (by kernel_rfl) (sgS (blk_cell (j := 0) x6 (by kernel_rfl)) (by simp)) (sgS (blk_cell (j := 1) x6 (by kernel_rfl)) (by simp)))) (h := ?_)
    refine W.mv (v := .int .i64 s) (h := ?_)
    refine W.sc (vs := [.agg #[.int .i64 m, .slice A n c], .int .i64 s]) rfl rfl (by kernel_rfl) (by kernel_rfl) (by kernel_rfl) rfl (l2Node_any m A n c ps s _ (Rd.kept ha (SG.belowR c10 s14 (fun kq e => by cases e))) (by omega)) ?_
    rintro e w17 ⟨rfl, b16⟩
    have s18 := SG.of_below s14 b16
    refine ⟨_, rfl, s18, ?_⟩
    rcases Bool.eq_false_or_eq_true (goodN m ps && inB s 1 m) with q19 | q19
    · rw [q19]
      have q20 : inB s 1 m = true := (Bool.and_eq_true_iff.1 q19).2
      refine W.q (v := .bool true) (hr := (r_pick (b := true) rfl (by kernel_rfl) (by kernel_rfl))) (h := ?_)
      refine W.mv (v := .bool true) (h := ?_)
      refine W.q (v := .agg #[.int .i64 m, .slice A n c]) (hr := (r_load2 rfl (by kernel_rfl) (by kernel_rfl) (by kernel_rfl) (sgS (blk_cell (j := 0) x6 (by kernel_rfl)) (by simp)) (sgS (blk_cell (j := 1) x6 (by kernel_rfl)) (by simp)))) (h := ?_)
      refine W.mv (v := .int .i64 id) (h := ?_)
      refine W.sc (vs := [.agg #[.int .i64 m, .slice A n c], .int .i64 id]) rfl rfl (by kernel_rfl) (by kernel_rfl) (by kernel_rfl) rfl (l2Find_any m A n c ps id _ (Rd.kept ha (SG.belowR c10 s18 (fun kq e => by cases e))) (by omega)) ?_
      rintro e w22 ⟨rfl, b21⟩
      have s23 := SG.of_below s18 b21
      refine ⟨_, rfl, s23, ?_⟩
      by_cases q24 : (findL ps id : Int) ≥ (0 : Int)
      · refine W.q (v := .bool true) (hr := (r_geq (m := findL ps id) (n := 0) rfl (by kernel_rfl) (by kernel_rfl) (decide_eq_true q24))) (h := ?_)
        refine W.q (v := .bool true) (hr := (r_pick (b := true) rfl (by kernel_rfl) (by kernel_rfl))) (h := ?_)
        refine W.as (v := .bool true) (h := ?_)
        refine W.endF 23 [(0, .agg #[.int .i64 m, .slice A n c]), (1, .slice A2 n2 c2), (2, .int .i64 s), (3, .int .i64 id), (4, .pointer (some ⟨b2, 0, none⟩)), (8, .bool true)] (fun U25 => ?_)
        have x6 := SG.blk s23 x6 (by simp)
        have c26 := (SG.belowR c10 s23 (fun kq e => by cases e))
        refine h2 _ _ ?_
        refine wp_ret ?_
        try simp only [Exit.then]
        refine ret1 (v := .bool true) rfl (by kernel_rfl) ?_
        exact ⟨by unfold canB; rw [q15, q20, decide_eq_true q24]; rfl, c26⟩
      · refine W.q (v := .bool false) (hr := (r_geq (m := findL ps id) (n := 0) rfl (by kernel_rfl) (by kernel_rfl) (decide_eq_false q24))) (h := ?_)
        refine W.q (v := .bool false) (hr := (r_pick (b := true) rfl (by kernel_rfl) (by kernel_rfl))) (h := ?_)
        refine W.as (v := .bool false) (h := ?_)
        refine W.endF 23 [(0, .agg #[.int .i64 m, .slice A n c]), (1, .slice A2 n2 c2), (2, .int .i64 s), (3, .int .i64 id), (4, .pointer (some ⟨b2, 0, none⟩)), (8, .bool false)] (fun U27 => ?_)
        have x6 := SG.blk s23 x6 (by simp)
        have c28 := (SG.belowR c10 s23 (fun kq e => by cases e))
        refine h2 _ _ ?_
        refine wp_ret ?_
        try simp only [Exit.then]
        refine ret1 (v := .bool false) rfl (by kernel_rfl) ?_
        exact ⟨by unfold canB; rw [decide_eq_false q24, Bool.and_false], c28⟩
    · rw [q19]
      have q29 : inB s 1 m = false := by have h9 := q19; rw [hv9.good, Bool.true_and] at h9; exact h9
      refine W.q (v := .bool false) (hr := (r_pick (b := true) rfl (by kernel_rfl) (by kernel_rfl))) (h := ?_)
      refine W.mv (v := .bool false) (h := ?_)
      refine W.sp s18 (h := ?_)
      refine W.sp s18 (h := ?_)
      refine W.sp s18 (h := ?_)
      refine W.sp s18 (h := ?_)
      refine W.q (v := .bool false) (hr := (r_pick (b := false) rfl (by kernel_rfl) (by kernel_rfl))) (h := ?_)
      refine W.as (v := .bool false) (h := ?_)
      refine W.endF 23 [(0, .agg #[.int .i64 m, .slice A n c]), (1, .slice A2 n2 c2), (2, .int .i64 s), (3, .int .i64 id), (4, .pointer (some ⟨b2, 0, none⟩)), (8, .bool false)] (fun U30 => ?_)
      have x6 := SG.blk s18 x6 (by simp)
      have c31 := (SG.belowR c10 s18 (fun kq e => by cases e))
      refine h2 _ _ ?_
      refine wp_ret ?_
      try simp only [Exit.then]
      refine ret1 (v := .bool false) rfl (by kernel_rfl) ?_
      exact ⟨by unfold canB; rw [q29, Bool.and_false, Bool.false_and], c31⟩
  · rw [q15]
    refine W.mv (v := .bool false) (h := ?_)
    refine W.sp s14 (h := ?_)
    refine W.sp s14 (h := ?_)
    refine W.sp s14 (h := ?_)
    refine W.q (v := .bool false) (hr := (r_pick (b := false) rfl (by kernel_rfl) (by kernel_rfl))) (h := ?_)
    refine W.mv (v := .bool false) (h := ?_)
    refine W.sp s14 (h := ?_)
    refine W.sp s14 (h := ?_)
    refine W.sp s14 (h := ?_)
    refine W.sp s14 (h := ?_)
    refine W.q (v := .bool false) (hr := (r_pick (b := false) rfl (by kernel_rfl) (by kernel_rfl))) (h := ?_)
    refine W.as (v := .bool false) (h := ?_)
    refine W.endF 23 [(0, .agg #[.int .i64 m, .slice A n c]), (1, .slice A2 n2 c2), (2, .int .i64 s), (3, .int .i64 id), (4, .pointer (some ⟨b2, 0, none⟩)), (8, .bool false)] (fun U32 => ?_)
    have x6 := SG.blk s14 x6 (by simp)
    have c33 := (SG.belowR c10 s14 (fun kq e => by cases e))
    refine h2 _ _ ?_
    refine wp_ret ?_
    try simp only [Exit.then]
    refine ret1 (v := .bool false) rfl (by kernel_rfl) ?_
    exact ⟨by unfold canB; rw [q15]; rfl, c33⟩

set_option maxRecDepth 100000 in
set_option maxHeartbeats 1000000 in
theorem l5Open_any (A2 : Option Addr) (n2 c2 : Nat) (vs : List Vv) (w : World) (hb : Rd w 4 A2 n2 (valvesV vs)) (hn2 : n2 ≤ 1000000) :
    Calls Try.prog 73 #[.slice A2 n2 c2] w fun e w' => ∃ A' n' c', e = .returned (.slice A' n' c') ∧ w'.ownsRow w.heap.size 3 1 (.slice A' n' c') n' (intsV (openIds vs)) ∧ Below w.heap.size w w' := by
  have hl2 := rd_valves_len hb
  go_enter Try.func73, Try.ntmps73
  refine wp_seq_k (fun K1 h1 => ?_)
  refine W.region_quiet [(0, false)] (by kernel_rfl) ?_
  refine W.as (v := .slice none 0 0) (h := ?_)
  refine W.endF 27 [(0, .slice A2 n2 c2), (2, .slice none 0 0)] (fun U1 => ?_)
  refine h1 _ _ ?_
  refine wp_seq_k (fun K2 h2 => ?_)
  refine W.region_plain (row := none) [(0, true), (1, false)] (by kernel_rfl) ?_
  have s2 := SG.self w none
  refine W.sn (fun b => .slice (some ⟨b, 0, none⟩) 0 0) #[] 3 s2 rfl (by kernel_rfl) rfl (fun _ => by kernel_rfl) (fun b3 w4 hb5 k6 x7 s8 => ?_)
  have lo9 : w.heap.size ≤ b3 := by have := ((SG.belowR (Below.refl _ _) s2 (fun kq e => by cases e))).size; omega
  refine W.as (v := .slice (some ⟨b3, 0, none⟩) 0 0) (h := ?_)
  refine W.endF 27 [(0, .slice A2 n2 c2), (2, .slice none 0 0), (3, .slice (some ⟨b3, 0, none⟩) 0 0)] (fun U10 => ?_)
  have c11 := (SG.belowR (Below.refl _ _) s8 (fun kq e => by cases e))
  refine h2 _ _ ?_
  refine wp_seq_k (fun K3 h3 => ?_)
  refine wp_seq_k (fun K4 h4 => ?_)
  refine W.region_quiet [(0, false)] (by kernel_rfl) ?_
  refine W.as (v := .int .i64 0) (h := ?_)
  refine W.endF 27 [(0, .slice A2 n2 c2), (2, .slice none 0 0), (3, .slice (some ⟨b3, 0, none⟩) 0 0), (4, .int .i64 0)] (fun U12 => ?_)
  refine h4 _ _ ?_
  refine wp_block ?_
  have ho13 := own_empty (base := w.heap.size) (size := 1) x7 lo9
  replace ho13 : World.ownsRow _ _ _ _ _ _ (intsV []) := ho13
  refine loopK (fun am0 aa0 wl0 => ∃ (i : Nat) (A0_3 : Option Addr) (n0_3 : Nat) (c0_3 : Nat) (U0 : Nat → Value), aa0 = ⟨(fr U0 [(0, .slice A2 n2 c2), (2, .slice none 0 0), (3, .slice A0_3 n0_3 c0_3), (4, .int .i64 ((i : Nat) : Int))] 27 0).toArray, []⟩ ∧ (am0 = n2 - i) ∧ (i ≤ n2) ∧ (n0_3 ≤ i) ∧ (wl0.ownsRow w.heap.size 3 1 (.slice A0_3 n0_3 c0_3) n0_3 (intsV (openIds (vs.take i)))) ∧ (Below w.heap.size w wl0)) (n2 - 0) ?_ ?_
  · exact ⟨0, (some ⟨b3, 0, none⟩), 0, 0, (fun iU9 => lk [(0, .slice A2 n2 c2), (2, .slice none 0 0), (3, .slice (some ⟨b3, 0, none⟩) 0 0), (4, .int .i64 0)] iU9 (U12 iU9)), (by kernel_rfl), rfl, (Nat.zero_le _), (Nat.zero_le _), ho13, c11⟩
  rintro am0 aa0 wl0 K5 h5 ⟨i, A0_3, n0_3, c0_3, U0, rfl, rfl, hi, hb3, ho0_3, c14⟩
  refine wp_seq_k (fun K6 h6 => ?_)
  refine wp_seq_k (fun K7 h7 => ?_)
  refine W.region_quiet [(0, false), (1, false), (2, false), (3, false)] (by kernel_rfl) ?_
  refine W.mv (v := .int .i64 ((i : Nat) : Int)) (h := ?_)
  refine W.mv (v := .slice A2 n2 c2) (h := ?_)
  refine W.q (v := .int .i64 ((n2 : Nat) : Int)) (hr := (r_len (A := A2) (n := n2) (c := c2) rfl (by kernel_rfl) (by kernel_rfl))) (h := ?_)
  by_cases q15 : (((i : Nat) : Int) : Int) < (((n2 : Nat) : Int) : Int)
  · refine W.q (v := .bool true) (hr := (r_lss (m := ((i : Nat) : Int)) (n := ((n2 : Nat) : Int)) rfl (by kernel_rfl) (by kernel_rfl) (decide_eq_true q15))) (h := ?_)
    refine W.endF 27 [(0, .slice A2 n2 c2), (2, .slice none 0 0), (3, .slice A0_3 n0_3 c0_3), (4, .int .i64 ((i : Nat) : Int)), (9, .bool true)] (fun U16 => ?_)
    refine h7 _ _ ?_
    refine wp_cond_true (by kernel_rfl) ?_
    refine wp_skip ?_
    refine h6 _ _ ?_
    refine wp_seq_k (fun K8 h8 => ?_)
    refine wp_block ?_
    refine wp_seq_k (fun K9 h9 => ?_)
    refine W.region_quiet [(0, false), (1, false), (2, false), (3, false), (4, false), (5, false)] (by kernel_rfl) ?_
    refine W.mv (v := .slice A2 n2 c2) (h := ?_)
    refine W.mv (v := .int .i64 ((i : Nat) : Int)) (h := ?_)
    obtain ⟨x17, hx18⟩ := get_of (zs := vs) (k := i) (by have := hl2; omega)
    obtain ⟨b19, o20, hA21, hb22, hc23, hc24, hc25, hc26⟩ := Rd.elValve hb hx18
    refine W.q (v := .pointer (some ⟨b19, o20 + i * 4, none⟩)) (hr := (r_idx (n := n2) (c := c2) (k := i) rfl (by kernel_rfl) hA21 (by kernel_rfl) (by kernel_rfl) (by have := hl2; omega))) (h := ?_)
    refine W.q (v := .pointer (some ⟨b19, o20 + i * 4 + 3, none⟩)) (hr := (r_field (k := 3) rfl (by kernel_rfl) (by kernel_rfl))) (h := ?_)
    refine W.ld (v := .bool x17.shut) (hc := (eqS (later c14 hc26))) (h := ?_)
    refine W.q (v := .bool (!x17.shut)) (hr := (r_not (b := x17.shut) rfl (by kernel_rfl) rfl)) (h := ?_)
    refine W.endF 27 [(0, .slice A2 n2 c2), (2, .slice none 0 0), (3, .slice A0_3 n0_3 c0_3), (4, .int .i64 ((i : Nat) : Int)), (9, .bool true), (17, .bool (!x17.shut))] (fun U27 => ?_)
    refine h9 _ _ ?_
    rcases Bool.eq_false_or_eq_true (!x17.shut) with q28 | q28
    · rw [q28]
      refine wp_cond_true (by kernel_rfl) ?_
      refine W.region_plain (row := (Value.ownBlock (.slice A0_3 n0_3 c0_3))) [(0, false), (1, false), (2, false), (3, false), (4, false), (5, false), (6, true), (7, true), (8, false)] (by kernel_rfl) ?_
      have s29 := SG.self wl0 (Value.ownBlock (.slice A0_3 n0_3 c0_3))
      refine W.mv (v := .slice A0_3 n0_3 c0_3) (h := ?_)
      refine W.mv (v := .slice A2 n2 c2) (h := ?_)
      refine W.mv (v := .int .i64 ((i : Nat) : Int)) (h := ?_)
      refine W.q (v := .pointer (some ⟨b19, o20 + i * 4, none⟩)) (hr := (r_idx (n := n2) (c := c2) (k := i) rfl (by kernel_rfl) hA21 (by kernel_rfl) (by kernel_rfl) (by have := hl2; omega))) (h := ?_)
      refine W.q (v := .pointer (some ⟨b19, o20 + i * 4, none⟩)) (hr := (r_field0 rfl (by kernel_rfl) (by kernel_rfl))) (h := ?_)
      refine W.ld (v := .int .i64 x17.id) (hc := (sgS (later c14 hc23) (nb_lo ho0_3 hb22))) (h := ?_)
      refine W.sn (fun b => .slice (some ⟨b, 0, none⟩) 1 1) #[.int .i64 x17.id] 3 s29 rfl (by kernel_rfl) rfl (fun _ => by kernel_rfl) (fun b30 w31 hb32 k33 x34 s35 => ?_)
      have lo36 : w.heap.size ≤ b30 := by have := ((SG.belowR c14 s29 (fun kq e => (World.ownsRow.lt ho0_3 kq e).1))).size; omega
      have nb37 : Nb b30 (.slice A0_3 n0_3 c0_3) := nb_hi ho0_3 (Nat.le_of_eq hb32)
      have ho38 := own_kept ho0_3 k33
      refine W.sap (e := 3) (size := 1) (base := w.heap.size) (m := 1) (v := .slice A0_3 n0_3 c0_3) (c := 1) s35 rfl rfl rfl rfl (by kernel_rfl) (by kernel_rfl) (by kernel_rfl) ho38 x34 (by kernel_rfl) (by kernel_rfl) (by omega) (by omega) (by have := ((SG.belowR c14 s35 (fun kq e => (World.ownsRow.lt ho0_3 kq e).1))).size; omega) (.inl rfl) (fun g39 cap40 w41 ho42 hg43 hat44 hlt45 s46 => ?_)
      have nb47 : Nb b30 (.slice (some ⟨g39, 0, none⟩) (n0_3 + 1) cap40) := nb_app nb37 (blk_lt x34) hat44
      have x34 := (hg43.block _ (blk_lt x34) nb37).trans x34
      have ho42 := own_snoc ho42
      refine W.as (v := .slice (some ⟨g39, 0, none⟩) (n0_3 + 1) cap40) (h := ?_)
      refine W.endF 27 [(0, .slice A2 n2 c2), (2, .slice none 0 0), (3, .slice (some ⟨g39, 0, none⟩) (n0_3 + 1) cap40), (4, .int .i64 ((i : Nat) : Int)), (9, .bool true), (17, .bool true)] (fun U48 => ?_)
      have c49 := (SG.belowR c14 s46 (fun kq e => (World.ownsRow.lt ho0_3 kq e).1))
      refine h8 _ _ ?_
      refine W.region_quiet [(0, false), (1, false), (2, false)] (by kernel_rfl) ?_
      refine W.mv (v := .int .i64 ((i : Nat) : Int)) (h := ?_)
      refine W.q (v := .int .i64 ((i + 1 : Nat) : Int)) (hr := (r_add (m := ((i : Nat) : Int)) (n := 1) (z := ((i + 1 : Nat) : Int)) rfl (by kernel_rfl) (by kernel_rfl) (by omega) (by omega))) (h := ?_)
      refine W.as (v := .int .i64 ((i + 1 : Nat) : Int)) (h := ?_)
      refine W.endF 27 [(0, .slice A2 n2 c2), (2, .slice none 0 0), (3, .slice (some ⟨g39, 0, none⟩) (n0_3 + 1) cap40), (4, .int .i64 ((i + 1 : Nat) : Int)), (9, .bool true), (17, .bool true)] (fun U50 => ?_)
      exact h5 _ _ _ (by omega : (n2 - (i + 1)) < _) ⟨i + 1, (some ⟨g39, 0, none⟩), (n0_3 + 1), cap40, (fun iU9 => lk [(0, .slice A2 n2 c2), (2, .slice none 0 0), (3, .slice (some ⟨g39, 0, none⟩) (n0_3 + 1) cap40), (4, .int .i64 ((i + 1 : Nat) : Int)), (9, .bool true), (17, .bool true)] iU9 (U50 iU9)), (by kernel_rfl), rfl, (by omega), (by omega), (by rw [openIds_yes hx18 (by simpa using q28)]; exact ho42), c49⟩
    · rw [q28]
      refine wp_cond_false (by kernel_rfl) ?_
      refine wp_skip ?_
      refine h8 _ _ ?_
      refine W.region_quiet [(0, false), (1, false), (2, false)] (by kernel_rfl) ?_
      refine W.mv (v := .int .i64 ((i : Nat) : Int)) (h := ?_)
      refine W.q (v := .int .i64 ((i + 1 : Nat) : Int)) (hr := (r_add (m := ((i : Nat) : Int)) (n := 1) (z := ((i + 1 : Nat) : Int)) rfl (by kernel_rfl) (by kernel_rfl) (by omega) (by omega))) (h := ?_)
      refine W.as (v := .int .i64 ((i + 1 : Nat) : Int)) (h := ?_)
      refine W.endF 27 [(0, .slice A2 n2 c2), (2, .slice none 0 0), (3, .slice A0_3 n0_3 c0_3), (4, .int .i64 ((i + 1 : Nat) : Int)), (9, .bool true), (17, .bool false)] (fun U51 => ?_)
      exact h5 _ _ _ (by omega : (n2 - (i + 1)) < _) ⟨i + 1, A0_3, n0_3, c0_3, (fun iU9 => lk [(0, .slice A2 n2 c2), (2, .slice none 0 0), (3, .slice A0_3 n0_3 c0_3), (4, .int .i64 ((i + 1 : Nat) : Int)), (9, .bool true), (17, .bool false)] iU9 (U51 iU9)), (by kernel_rfl), rfl, (by omega), (by omega), (by rw [openIds_no hx18 (by simpa using q28)]; exact ho0_3), c14⟩
  · refine W.q (v := .bool false) (hr := (r_lss (m := ((i : Nat) : Int)) (n := ((n2 : Nat) : Int)) rfl (by kernel_rfl) (by kernel_rfl) (decide_eq_false q15))) (h := ?_)
    refine W.endF 27 [(0, .slice A2 n2 c2), (2, .slice none 0 0), (3, .slice A0_3 n0_3 c0_3), (4, .int .i64 ((i : Nat) : Int)), (9, .bool false)] (fun U52 => ?_)
    refine h7 _ _ ?_
    refine wp_cond_false (by kernel_rfl) ?_
    refine wp_exit ?_
    refine h3 _ _ ?_
    refine wp_seq_k (fun K10 h10 => ?_)
    refine W.region_quiet [(0, false), (1, false)] (by kernel_rfl) ?_
    refine W.mv (v := .slice A0_3 n0_3 c0_3) (h := ?_)
    refine W.as (v := .slice A0_3 n0_3 c0_3) (h := ?_)
    refine W.endF 27 [(0, .slice A2 n2 c2), (2, .slice A0_3 n0_3 c0_3), (3, .slice A0_3 n0_3 c0_3), (4, .int .i64 ((i : Nat) : Int)), (9, .bool false)] (fun U53 => ?_)
    refine h10 _ _ ?_
    refine wp_ret ?_
    try simp only [Exit.then]
    refine ret1 (v := .slice A0_3 n0_3 c0_3) rfl (by kernel_rfl) ?_
    have h9 := ho0_3
    rw [List.take_of_length_le (by omega)] at h9
    exact ⟨_, _, _, rfl, h9, c14⟩

set_option maxRecDepth 100000 in
set_option maxHeartbeats 1000000 in
theorem custF_any (z : Int) (w : World) :
    Calls Try.prog 110 #[.int .i64 z] w fun e w' => e = .returned (.bool (!inB z 0 1000)) ∧ Below w.heap.size w w' := by
  go_enter Try.func110, Try.ntmps110
  refine wp_seq_k (fun K1 h1 => ?_)
  refine W.region_quiet [(0, false)] (by kernel_rfl) ?_
  refine W.as (v := .bool false) (h := ?_)
  refine W.endF 6 [(0, .int .i64 z), (2, .bool false)] (fun U1 => ?_)
  refine h1 _ _ ?_
  refine wp_seq_k (fun K2 h2 => ?_)
  refine W.region_plain (row := none) [(0, false), (1, true), (2, false), (3, false)] (by kernel_rfl) ?_
  have s2 := SG.self w none
  refine W.mv (v := .int .i64 z) (h := ?_)
  refine W.sc (vs := [.int .i64 z, .int .i64 0, .int .i64 1000]) rfl rfl (by kernel_rfl) (by kernel_rfl) (by kernel_rfl) rfl (inside_any z 0 1000 _) ?_
  rintro e w' ⟨rfl, rfl⟩
  refine ⟨_, rfl, s2, ?_⟩
  rcases Bool.eq_false_or_eq_true (inB z 0 1000) with q5 | q5
  · rw [q5]
    refine W.q (v := .bool false) (hr := (r_not (b := true) rfl (by kernel_rfl) rfl)) (h := ?_)
    refine W.as (v := .bool false) (h := ?_)
    refine W.endF 6 [(0, .int .i64 z), (2, .bool false)] (fun U6 => ?_)
    have c7 := (SG.belowR (Below.refl _ _) s2 (fun kq e => by cases e))
    refine h2 _ _ ?_
    refine wp_ret ?_
    try simp only [Exit.then]
    refine ret1 (v := .bool false) rfl (by kernel_rfl) ?_
    exact ⟨by rw [q5]; rfl, c7⟩
  · rw [q5]
    refine W.q (v := .bool true) (hr := (r_not (b := false) rfl (by kernel_rfl) rfl)) (h := ?_)
    refine W.as (v := .bool true) (h := ?_)
    refine W.endF 6 [(0, .int .i64 z), (2, .bool true)] (fun U8 => ?_)
    have c9 := (SG.belowR (Below.refl _ _) s2 (fun kq e => by cases e))
    refine h2 _ _ ?_
    refine wp_ret ?_
    try simp only [Exit.then]
    refine ret1 (v := .bool true) rfl (by kernel_rfl) ?_
    exact ⟨by rw [q5]; rfl, c9⟩

set_option maxRecDepth 100000 in
set_option maxHeartbeats 1000000 in
theorem areCustomers_any (m : Int) (A : Option Addr) (n c : Nat) (ps : List Pp) (A4 : Option Addr) (n4 c4 : Nat) (cs : List Int) (w : World) (ha : Rd w 4 A n (pipesV ps)) (hn : n ≤ 1048576) (hc4 : Rd w 1 A4 n4 (intsV cs)) (hn4 : n4 ≤ 1048576) :
    Calls Try.prog 69 #[.agg #[.int .i64 m, .slice A n c], .slice A4 n4 c4] w fun e w' => e = .returned (.bool (custOk m cs)) ∧ Below w.heap.size w w' := by
  have hl := rd_pipes_len ha
  have hl4 := rd_ints_len hc4
  go_enter Try.func69, Try.ntmps69
  refine wp_seq_k (fun K1 h1 => ?_)
  refine W.region_plain (row := none) [(0, true), (1, false)] (by kernel_rfl) ?_
  have s1 := SG.self w none
  refine W.sn (fun b => .pointer (some ⟨b, 0, none⟩)) #[.int .i64 m, .slice A n c] 32 s1 rfl (by kernel_rfl) rfl (fun _ => by kernel_rfl) (fun b2 w3 hb4 k5 x6 s7 => ?_)
  have lo8 : w.heap.size ≤ b2 := by have := ((SG.belowR (Below.refl _ _) s1 (fun kq e => by cases e))).size; omega
  refine W.as (v := .bool false) (h := ?_)
  refine W.endF 15 [(0, .agg #[.int .i64 m, .slice A n c]), (1, .slice A4 n4 c4), (2, .pointer (some ⟨b2, 0, none⟩)), (4, .bool false)] (fun U9 => ?_)
  have c10 := (SG.belowR (Below.refl _ _) s7 (fun kq e => by cases e))
  refine h1 _ _ ?_
  refine wp_seq_k (fun K2 h2 => ?_)
  refine W.region_plain (row := none) [(0, false), (1, false), (2, false), (3, false), (4, false), (5, false), (6, false), (7, true), (8, false), (9, false), (10, false)] (by kernel_rfl) ?_
  have s11 := SG.self w3 none
  refine W.mv (v := .slice A4 n4 c4) (h := ?_)
  refine W.q (v := .int .i64 ((n4 : Nat) : Int)) (hr := (r_len (A := A4) (n := n4) (c := c4) rfl (by kernel_rfl) (by kernel_rfl))) (h := ?_)
  refine W.q (v := .pointer (some ⟨b2, 0, none⟩)) (hr := (r_field0 rfl (by kernel_rfl) (by kernel_rfl))) (h := ?_)
  refine W.ld (v := .int .i64 m) (hc := (sgS (blk_cell (j := 0) x6 (by kernel_rfl)) (by simp))) (h := ?_)
  by_cases q12 : (((n4 : Nat) : Int) : Int) = (m : Int)
  · refine W.q (v := .bool true) (hr := (r_eql (m := ((n4 : Nat) : Int)) (n := m) rfl (by kernel_rfl) (by kernel_rfl) (decide_eq_true q12))) (h := ?_)
    refine W.mv (v := .bool true) (h := ?_)
    refine W.mv (v := .slice A4 n4 c4) (h := ?_)
    refine W.sc (vs := [.slice A4 n4 c4, .func (.func 110) #[] #[]]) rfl rfl (by kernel_rfl) (by kernel_rfl) (by kernel_rfl) rfl (slContainsFunc_any A4 n4 c4 cs 110 #[] (fun c => !inB c 0 1000) _ (Rd.kept hc4 (SG.belowR c10 s11 (fun kq e => by cases e))) (by omega) (by kernel_rfl) (fun W v hW => custF_any v W)) ?_
    rintro e w14 ⟨rfl, b13⟩
    have s15 := SG.of_below s11 b13
    refine ⟨_, rfl, s15, ?_⟩
    rcases Bool.eq_false_or_eq_true (cs.any (fun c => !inB c 0 1000)) with q16 | q16
    · rw [q16]
      refine W.q (v := .bool false) (hr := (r_not (b := true) rfl (by kernel_rfl) rfl)) (h := ?_)
      refine W.q (v := .bool false) (hr := (r_pick (b := true) rfl (by kernel_rfl) (by kernel_rfl))) (h := ?_)
      refine W.as (v := .bool false) (h := ?_)
      refine W.endF 15 [(0, .agg #[.int .i64 m, .slice A n c]), (1, .slice A4 n4 c4), (2, .pointer (some ⟨b2, 0, none⟩)), (4, .bool false)] (fun U17 => ?_)
      have x6 := SG.blk s15 x6 (by simp)
      have c18 := (SG.belowR c10 s15 (fun kq e => by cases e))
      refine h2 _ _ ?_
      refine wp_ret ?_
      try simp only [Exit.then]
      refine ret1 (v := .bool false) rfl (by kernel_rfl) ?_
      exact ⟨by have h9 := q16; rw [all_any, Bool.not_eq_true'] at h9; unfold custOk; rw [h9, Bool.and_false], c18⟩
    · rw [q16]
      refine W.q (v := .bool true) (hr := (r_not (b := false) rfl (by kernel_rfl) rfl)) (h := ?_)
      refine W.q (v := .bool true) (hr := (r_pick (b := true) rfl (by kernel_rfl) (by kernel_rfl))) (h := ?_)
      refine W.as (v := .bool true) (h := ?_)
      refine W.endF 15 [(0, .agg #[.int .i64 m, .slice A n c]), (1, .slice A4 n4 c4), (2, .pointer (some ⟨b2, 0, none⟩)), (4, .bool true)] (fun U19 => ?_)
      have x6 := SG.blk s15 x6 (by simp)
      have c20 := (SG.belowR c10 s15 (fun kq e => by cases e))
      refine h2 _ _ ?_
      refine wp_ret ?_
      try simp only [Exit.then]
      refine ret1 (v := .bool true) rfl (by kernel_rfl) ?_
      exact ⟨by have h9 := q16; rw [all_any, Bool.not_eq_false'] at h9; unfold custOk; rw [h9, decide_eq_true (by omega)]; rfl, c20⟩
  · refine W.q (v := .bool false) (hr := (r_eql (m := ((n4 : Nat) : Int)) (n := m) rfl (by kernel_rfl) (by kernel_rfl) (decide_eq_false q12))) (h := ?_)
    refine W.mv (v := .bool false) (h := ?_)
    refine W.sp s11 (h := ?_)
    refine W.sp s11 (h := ?_)
    refine W.sp s11 (h := ?_)
    refine W.q (v := .bool false) (hr := (r_pick (b := false) rfl (by kernel_rfl) (by kernel_rfl))) (h := ?_)
    refine W.as (v := .bool false) (h := ?_)
    refine W.endF 15 [(0, .agg #[.int .i64 m, .slice A n c]), (1, .slice A4 n4 c4), (2, .pointer (some ⟨b2, 0, none⟩)), (4, .bool false)] (fun U21 => ?_)
    have x6 := SG.blk s11 x6 (by simp)
    have c22 := (SG.belowR c10 s11 (fun kq e => by cases e))
    refine h2 _ _ ?_
    refine wp_ret ?_
    try simp only [Exit.then]
    refine ret1 (v := .bool false) rfl (by kernel_rfl) ?_
    exact ⟨by unfold custOk; rw [decide_eq_false (by omega)]; rfl, c22⟩

set_option maxRecDepth 100000 in
set_option maxHeartbeats 1000000 in
theorem l5Customers_any (m : Int) (A : Option Addr) (n c : Nat) (ps : List Pp) (A4 : Option Addr) (n4 c4 : Nat) (cs : List Int) (w : World) (ha : Rd w 4 A n (pipesV ps)) (hn : n ≤ 1048576) (hc4 : Rd w 1 A4 n4 (intsV cs)) (hn4 : n4 ≤ 1048576) :
    Calls Try.prog 67 #[.agg #[.int .i64 m, .slice A n c], .slice A4 n4 c4] w fun e w' => e = .returned (.bool (custOk m cs)) ∧ Below w.heap.size w w' := by
  have hl := rd_pipes_len ha
  have hl4 := rd_ints_len hc4
  go_enter Try.func67, Try.ntmps67
  refine wp_seq_k (fun K1 h1 => ?_)
  refine W.region_plain (row := none) [(0, true), (1, false)] (by kernel_rfl) ?_
  have s1 := SG.self w none
  refine W.sn (fun b => .pointer (some ⟨b, 0, none⟩)) #[.int .i64 m, .slice A n c] 32 s1 rfl (by kernel_rfl) rfl (fun _ => by kernel_rfl) (fun b2 w3 hb4 k5 x6 s7 => ?_)
  have lo8 : w.heap.size ≤ b2 := by have := ((SG.belowR (Below.refl _ _) s1 (fun kq e => by cases e))).size; omega
  refine W.as (v := .bool false) (h := ?_)
  refine W.endF 23 [(0, .agg #[.int .i64 m, .slice A n c]), (1, .slice A4 n4 c4), (2, .pointer (some ⟨b2, 0, none⟩)), (4, .bool false)] (fun U9 => ?_)
  have c10 := (SG.belowR (Below.refl _ _) s7 (fun kq e => by cases e))
  refine h1 _ _ ?_
  refine wp_seq_k (fun K2 h2 => ?_)
  refine wp_seq_k (fun K3 h3 => ?_)
  refine W.region_quiet [(0, false)] (by kernel_rfl) ?_
  refine W.as (v := .int .i64 0) (h := ?_)
  refine W.endF 23 [(0, .agg #[.int .i64 m, .slice A n c]), (1, .slice A4 n4 c4), (2, .pointer (some ⟨b2, 0, none⟩)), (4, .bool false), (5, .int .i64 0)] (fun U11 => ?_)
  refine h3 _ _ ?_
  refine wp_block ?_
  refine loopK (fun am0 aa0 wl0 => ∃ (k : Nat) (U0 : Nat → Value), aa0 = ⟨(fr U0 [(0, .agg #[.int .i64 m, .slice A n c]), (1, .slice A4 n4 c4), (2, .pointer (some ⟨b2, 0, none⟩)), (4, .bool false), (5, .int .i64 ((k : Nat) : Int))] 23 0).toArray, []⟩ ∧ (am0 = n4 - k) ∧ (k ≤ n4) ∧ (∀ j z, j < k → cs[j]? = some z → inB z 0 1000 = true) ∧ (wl0.heap[b2]? = some (.cells #[.int .i64 m, .slice A n c] 32 (0, 0))) ∧ (Below w.heap.size w wl0)) (n4 - 0) ?_ ?_
  · exact ⟨0, (fun iU9 => lk [(0, .agg #[.int .i64 m, .slice A n c]), (1, .slice A4 n4 c4), (2, .pointer (some ⟨b2, 0, none⟩)), (4, .bool false), (5, .int .i64 0)] iU9 (U11 iU9)), (by kernel_rfl), rfl, (Nat.zero_le _), (fun j z hj => absurd hj (by omega)), x6, c10⟩
  rintro am0 aa0 wl0 K4 h4 ⟨k, U0, rfl, rfl, hk, hno, x6, c12⟩
  refine wp_seq_k (fun K5 h5 => ?_)
  refine wp_seq_k (fun K6 h6 => ?_)
  refine W.region_quiet [(0, false), (1, false), (2, false), (3, false)] (by kernel_rfl) ?_
  refine W.mv (v := .int .i64 ((k : Nat) : Int)) (h := ?_)
  refine W.mv (v := .slice A4 n4 c4) (h := ?_)
  refine W.q (v := .int .i64 ((n4 : Nat) : Int)) (hr := (r_len (A := A4) (n := n4) (c := c4) rfl (by kernel_rfl) (by kernel_rfl))) (h := ?_)
  by_cases q13 : (((k : Nat) : Int) : Int) < (((n4 : Nat) : Int) : Int)
  · refine W.q (v := .bool true) (hr := (r_lss (m := ((k : Nat) : Int)) (n := ((n4 : Nat) : Int)) rfl (by kernel_rfl) (by kernel_rfl) (decide_eq_true q13))) (h := ?_)
    refine W.endF 23 [(0, .agg #[.int .i64 m, .slice A n c]), (1, .slice A4 n4 c4), (2, .pointer (some ⟨b2, 0, none⟩)), (4, .bool false), (5, .int .i64 ((k : Nat) : Int)), (9, .bool true)] (fun U14 => ?_)
    refine h6 _ _ ?_
    refine wp_cond_true (by kernel_rfl) ?_
    refine wp_skip ?_
    refine h5 _ _ ?_
    refine wp_seq_k (fun K7 h7 => ?_)
    refine wp_block ?_
    refine wp_seq_k (fun K8 h8 => ?_)
    refine W.region_plain (row := none) [(0, false), (1, false), (2, false), (3, false), (4, true), (5, false)] (by kernel_rfl) ?_
    have s15 := SG.self wl0 none
    refine W.mv (v := .slice A4 n4 c4) (h := ?_)
    refine W.mv (v := .int .i64 ((k : Nat) : Int)) (h := ?_)
    obtain ⟨x16, hx17⟩ := get_of (zs := cs) (k := k) (by have := hl4; omega)
    obtain ⟨b18, o19, hA20, hb21, hc22⟩ := Rd.elInt hc4 hx17
    refine W.q (v := .pointer (some ⟨b18, o19 + k, none⟩)) (hr := (r_idx1 (n := n4) (c := c4) (k := k) rfl (by kernel_rfl) hA20 (by kernel_rfl) (by kernel_rfl) (by have := hl4; omega))) (h := ?_)
    refine W.ld (v := .int .i64 x16) (hc := (sgS (later c12 hc22) (by simp))) (h := ?_)
    refine W.sc (vs := [.int .i64 x16, .int .i64 0, .int .i64 1000]) rfl rfl (by kernel_rfl) (by kernel_rfl) (by kernel_rfl) rfl (l1In_any x16 0 1000 _) ?_
    rintro e w' ⟨rfl, rfl⟩
    refine ⟨_, rfl, s15, ?_⟩
    rcases Bool.eq_false_or_eq_true (inB x16 0 1000) with q25 | q25
    · rw [q25]
      refine W.q (v := .bool false) (hr := (r_not (b := true) rfl (by kernel_rfl) rfl)) (h := ?_)
      refine W.endF 23 [(0, .agg #[.int .i64 m, .slice A n c]), (1, .slice A4 n4 c4), (2, .pointer (some ⟨b2, 0, none⟩)), (4, .bool false), (5, .int .i64 ((k : Nat) : Int)), (9, .bool true), (17, .bool false)] (fun U26 => ?_)
      have x6 := SG.blk s15 x6 (by simp)
      have c27 := (SG.belowR c12 s15 (fun kq e => by cases e))
      refine h8 _ _ ?_
      refine wp_cond_false (by kernel_rfl) ?_
      refine wp_skip ?_
      refine h7 _ _ ?_
      refine W.region_quiet [(0, false), (1, false), (2, false)] (by kernel_rfl) ?_
      refine W.mv (v := .int .i64 ((k : Nat) : Int)) (h := ?_)
      refine W.q (v := .int .i64 ((k + 1 : Nat) : Int)) (hr := (r_add (m := ((k : Nat) : Int)) (n := 1) (z := ((k + 1 : Nat) : Int)) rfl (by kernel_rfl) (by kernel_rfl) (by omega) (by omega))) (h := ?_)
      refine W.as (v := .int .i64 ((k + 1 : Nat) : Int)) (h := ?_)
      refine W.endF 23 [(0, .agg #[.int .i64 m, .slice A n c]), (1, .slice A4 n4 c4), (2, .pointer (some ⟨b2, 0, none⟩)), (4, .bool false), (5, .int .i64 ((k + 1 : Nat) : Int)), (9, .bool true), (17, .bool false)] (fun U28 => ?_)
      exact h4 _ _ _ (by omega : (n4 - (k + 1)) < _) ⟨k + 1, (fun iU9 => lk [(0, .agg #[.int .i64 m, .slice A n c]), (1, .slice A4 n4 c4), (2, .pointer (some ⟨b2, 0, none⟩)), (4, .bool false), (5, .int .i64 ((k + 1 : Nat) : Int)), (9, .bool true), (17, .bool false)] iU9 (U28 iU9)), (by kernel_rfl), rfl, (by omega), (upto_succ (Q := fun z => inB z 0 1000 = true) hno hx17 q25), x6, c27⟩
    · rw [q25]
      refine W.q (v := .bool true) (hr := (r_not (b := false) rfl (by kernel_rfl) rfl)) (h := ?_)
      refine W.endF 23 [(0, .agg #[.int .i64 m, .slice A n c]), (1, .slice A4 n4 c4), (2, .pointer (some ⟨b2, 0, none⟩)), (4, .bool false), (5, .int .i64 ((k : Nat) : Int)), (9, .bool true), (17, .bool true)] (fun U29 => ?_)
      have x6 := SG.blk s15 x6 (by simp)
      have c30 := (SG.belowR c12 s15 (fun kq e => by cases e))
      refine h8 _ _ ?_
      refine wp_cond_true (by kernel_rfl) ?_
      refine wp_seq_k (fun K9 h9 => ?_)
      refine W.region_quiet [(0, false)] (by kernel_rfl) ?_
      refine W.as (v := .bool false) (h := ?_)
      refine W.endF 23 [(0, .agg #[.int .i64 m, .slice A n c]), (1, .slice A4 n4 c4), (2, .pointer (some ⟨b2, 0, none⟩)), (4, .bool false), (5, .int .i64 ((k : Nat) : Int)), (9, .bool true), (17, .bool true)] (fun U31 => ?_)
      refine h9 _ _ ?_
      refine wp_ret ?_
      try simp only [Exit.then, Exit.inBlock]
      refine ret1 (v := .bool false) rfl (by kernel_rfl) ?_
      exact ⟨by unfold custOk; rw [show cs.all (fun c => inB c 0 1000) = false from Bool.eq_false_iff.2 (fun h9 => by have := List.all_eq_true.1 h9 x16 (List.mem_of_getElem? hx17); rw [q25] at this; cases this), Bool.and_false], c30⟩
  · refine W.q (v := .bool false) (hr := (r_lss (m := ((k : Nat) : Int)) (n := ((n4 : Nat) : Int)) rfl (by kernel_rfl) (by kernel_rfl) (decide_eq_false q13))) (h := ?_)
    refine W.endF 23 [(0, .agg #[.int .i64 m, .slice A n c]), (1, .slice A4 n4 c4), (2, .pointer (some ⟨b2, 0, none⟩)), (4, .bool false), (5, .int .i64 ((k : Nat) : Int)), (9, .bool false)] (fun U32 => ?_)
    refine h6 _ _ ?_
    refine wp_cond_false (by kernel_rfl) ?_
    refine wp_exit ?_
    refine h2 _ _ ?_
    refine wp_seq_k (fun K10 h10 => ?_)
    refine W.region_quiet [(0, false), (1, false), (2, false), (3, false), (4, false), (5, false)] (by kernel_rfl) ?_
    refine W.mv (v := .slice A4 n4 c4) (h := ?_)
    refine W.q (v := .int .i64 ((n4 : Nat) : Int)) (hr := (r_len (A := A4) (n := n4) (c := c4) rfl (by kernel_rfl) (by kernel_rfl))) (h := ?_)
    refine W.q (v := .pointer (some ⟨b2, 0, none⟩)) (hr := (r_field0 rfl (by kernel_rfl) (by kernel_rfl))) (h := ?_)
    refine W.ld (v := .int .i64 m) (hc := (eqS (blk_cell (j := 0) x6 (by kernel_rfl)))) (h := ?_)
    by_cases q33 : (((n4 : Nat) : Int) : Int) = (m : Int)
    · refine W.q (v := .bool true) (hr := (r_eql (m := ((n4 : Nat) : Int)) (n := m) rfl (by kernel_rfl) (by kernel_rfl) (decide_eq_true q33))) (h := ?_)
      refine W.as (v := .bool true) (h := ?_)
      refine W.endF 23 [(0, .agg #[.int .i64 m, .slice A n c]), (1, .slice A4 n4 c4), (2, .pointer (some ⟨b2, 0, none⟩)), (4, .bool true), (5, .int .i64 ((k : Nat) : Int)), (9, .bool false)] (fun U34 => ?_)
      refine h10 _ _ ?_
      refine wp_ret ?_
      try simp only [Exit.then]
      refine ret1 (v := .bool true) rfl (by kernel_rfl) ?_
      have e8 : cs.all (fun c => inB c 0 1000) = true := List.all_eq_true.2 (fun c hc => by obtain ⟨j, hj, e⟩ := List.getElem_of_mem hc; exact hno j c (by omega) (by rw [List.getElem?_eq_getElem hj, e]))
      exact ⟨by unfold custOk; rw [e8, decide_eq_true (by omega)]; rfl, c12⟩
    · refine W.q (v := .bool false) (hr := (r_eql (m := ((n4 : Nat) : Int)) (n := m) rfl (by kernel_rfl) (by kernel_rfl) (decide_eq_false q33))) (h := ?_)
      refine W.as (v := .bool false) (h := ?_)
      refine W.endF 23 [(0, .agg #[.int .i64 m, .slice A n c]), (1, .slice A4 n4 c4), (2, .pointer (some ⟨b2, 0, none⟩)), (4, .bool false), (5, .int .i64 ((k : Nat) : Int)), (9, .bool false)] (fun U35 => ?_)
      refine h10 _ _ ?_
      refine wp_ret ?_
      try simp only [Exit.then]
      refine ret1 (v := .bool false) rfl (by kernel_rfl) ?_
      have e8 : cs.all (fun c => inB c 0 1000) = true := List.all_eq_true.2 (fun c hc => by obtain ⟨j, hj, e⟩ := List.getElem_of_mem hc; exact hno j c (by omega) (by rw [List.getElem?_eq_getElem hj, e]))
      exact ⟨by unfold custOk; rw [e8, decide_eq_false (by omega)]; rfl, c12⟩

set_option maxRecDepth 100000 in
set_option maxHeartbeats 1000000 in
theorem harmOf_any (m : Int) (A : Option Addr) (n c : Nat) (ps : List Pp) (A2 : Option Addr) (n2 c2 : Nat) (vs : List Vv) (s : Int) (A3 : Option Addr) (n3 c3 : Nat) (pl : List Int) (A4 : Option Addr) (n4 c4 : Nat) (cs : List Int) (w : World) (ha : Rd w 4 A n (pipesV ps)) (hb : Rd w 4 A2 n2 (valvesV vs)) (hn : n ≤ 1048576) (hn2 : n2 ≤ 1048576) (hfm2 : Fm A2 n2 c2) (hv9 : GoodVal m ps vs) (hs : 1 ≤ s ∧ s ≤ m) (hp3 : Rd w 1 A3 n3 (intsV pl)) (hn3 : n3 ≤ 1000000) (hc4 : Rd w 1 A4 n4 (intsV cs)) (hn4 : n4 ≤ 1048576) (hco : custOk m cs = true) :
    Calls Try.prog 70 #[.agg #[.int .i64 m, .slice A n c], .slice A2 n2 c2, .int .i64 s, .slice A3 n3 c3, .slice A4 n4 c4] w fun e w' => e = .returned (.int .i64 (harmL ps vs s cs pl)) ∧ Below w.heap.size w w' := by
  have hl := rd_pipes_len ha
  have hl2 := rd_valves_len hb
  have hl3 := rd_ints_len hp3
  have hg := hv9.net
  have hgl := hg.lo
  have hgh := hg.hi
  have hp := hg.pipesIn
  have hlen10 := hg.len
  have hu := hv9.uniq
  have hvl := hv9.len
  have hl4 := rd_ints_len hc4
  obtain ⟨hcl, hcb⟩ := custOk_of hco
  go_enter Try.func70, Try.ntmps70
  refine wp_seq_k (fun K1 h1 => ?_)
  refine W.region_plain (row := none) [(0, true), (1, false)] (by kernel_rfl) ?_
  have s1 := SG.self w none
  refine W.sn (fun b => .pointer (some ⟨b, 0, none⟩)) #[.int .i64 m, .slice A n c] 32 s1 rfl (by kernel_rfl) rfl (fun _ => by kernel_rfl) (fun b2 w3 hb4 k5 x6 s7 => ?_)
  have lo8 : w.heap.size ≤ b2 := by have := ((SG.belowR (Below.refl _ _) s1 (fun kq e => by cases e))).size; omega
  refine W.as (v := .int .i64 0) (h := ?_)
  refine W.endF 40 [(0, .agg #[.int .i64 m, .slice A n c]), (1, .slice A2 n2 c2), (2, .int .i64 s), (3, .slice A3 n3 c3), (4, .slice A4 n4 c4), (5, .pointer (some ⟨b2, 0, none⟩)), (10, .int .i64 0)] (fun U9 => ?_)
  have c10 := (SG.belowR (Below.refl _ _) s7 (fun kq e => by cases e))
  refine h1 _ _ ?_
  refine wp_seq_k (fun K2 h2 => ?_)
  refine W.region_sch (row := none) (Sch.of [(0, false), (1, false), (2, false), (4, false), (3, true), (5, true), (6, false), (7, false)]) (by kernel_rfl) (by kernel_rfl) (fun _ d _ _ _ h => by cases d <;> exact h) (by kernel_rfl) (fun w11 e12 s13 => ?_)
  refine W.q (v := .agg #[.int .i64 m, .slice A n c]) (hr := (r_load2 rfl (by kernel_rfl) (by kernel_rfl) (by kernel_rfl) (sgS (blk_cell (j := 0) x6 (by kernel_rfl)) (by simp)) (sgS (blk_cell (j := 1) x6 (by kernel_rfl)) (by simp)))) (h := ?_)
  refine W.mv (v := .slice A2 n2 c2) (h := ?_)
  refine W.mv (v := .slice A3 n3 c3) (h := ?_)
  refine W.mv (v := .int .i64 s) (h := ?_)
  refine W.sc (vs := [.slice A2 n2 c2, .slice A3 n3 c3]) rfl rfl (by kernel_rfl) (by kernel_rfl) (by kernel_rfl) rfl (shutToo_any A2 n2 c2 vs A3 n3 c3 pl _ (Rd.kept hb (SG.belowR c10 s13 (fun kq e => by cases e))) (by omega) hfm2 (Rd.kept hp3 (SG.belowR c10 s13 (fun kq e => by cases e))) (by omega)) ?_
  rintro e w23 ⟨A14, n15, c16, rfl, ho17, b22⟩
  have s24 := SG.of_below s13 b22
  refine ⟨_, rfl, s24, ?_⟩
  have rd18 := own_rd ho17
  have fm21 := own_fm ho17
  have hl19 := rd_valves_len rd18
  have sp25 := sp_freshB (g := b2) ho17 (Nat.lt_of_lt_of_le (blk_lt x6) (World.grownBy.size s13))
  have := shutV_len vs pl
  refine W.sc (vs := [.agg #[.int .i64 m, .slice A n c], .slice A14 n15 c16, .int .i64 s]) rfl rfl (by kernel_rfl) (by kernel_rfl) (by kernel_rfl) rfl (watered_any m A n c ps A14 n15 c16 (shutV vs pl) (s) (s).toNat _ (Rd.kept ha (SG.belowR c10 s24 (fun kq e => by cases e))) rd18 (by omega) (by omega) hp (by omega) (by omega) (uniqV_shut hu pl) (by omega) (by omega)) ?_
  rintro e w32 ⟨pb26, rfl, lo30, rd27, b31⟩
  have s33 := SG.of_below s24 b31
  refine ⟨_, rfl, s33, ?_⟩
  have rd34 := Rd.kept rd18 b31
  have sp35 : Sp (some ⟨pb26, 0, none⟩) 19 (some b2) := sp_ptrB (Nat.lt_of_lt_of_le (Nat.lt_of_lt_of_le (blk_lt x6) (World.grownBy.size s24)) lo30)
  have hl28 := rd_bools_len rd27
  rw [wetL_len] at hl28
  have hl28 : (wetL (linked ps (openQ (shutV vs pl) true)) (s)).length = 19 := wetL_len _ _
  refine W.as (v := .pointer (some ⟨pb26, 0, none⟩)) (h := ?_)
  refine W.as (v := .int .i64 0) (h := ?_)
  refine W.endF 40 [(0, .agg #[.int .i64 m, .slice A n c]), (1, .slice A2 n2 c2), (2, .int .i64 s), (3, .slice A3 n3 c3), (4, .slice A4 n4 c4), (5, .pointer (some ⟨b2, 0, none⟩)), (10, .int .i64 0), (11, .pointer (some ⟨pb26, 0, none⟩)), (12, .int .i64 0)] (fun U36 => ?_)
  have x6 := SG.blk s33 x6 (by simp)
  have c37 := (SG.belowR c10 s33 (fun kq e => by cases e))
  refine h2 _ _ ?_
  refine wp_seq_k (fun K3 h3 => ?_)
  refine wp_seq_k (fun K4 h4 => ?_)
  refine W.region_quiet [(0, false), (1, false), (2, false)] (by kernel_rfl) ?_
  refine W.mv (v := .slice A4 n4 c4) (h := ?_)
  refine W.q (v := .int .i64 ((n4 : Nat) : Int)) (hr := (r_len (A := A4) (n := n4) (c := c4) rfl (by kernel_rfl) (by kernel_rfl))) (h := ?_)
  refine W.mv (v := .int .i64 0) (h := ?_)
  refine W.endF 40 [(0, .agg #[.int .i64 m, .slice A n c]), (1, .slice A2 n2 c2), (2, .int .i64 s), (3, .slice A3 n3 c3), (4, .slice A4 n4 c4), (5, .pointer (some ⟨b2, 0, none⟩)), (10, .int .i64 0), (11, .pointer (some ⟨pb26, 0, none⟩)), (12, .int .i64 0), (21, .slice A4 n4 c4), (22, .int .i64 ((n4 : Nat) : Int)), (23, .int .i64 0)] (fun U38 => ?_)
  refine h4 _ _ ?_
  refine wp_block ?_
  refine loopK (fun am0 aa0 wl0 => ∃ (i : Nat) (u : Int) (U0 : Nat → Value), aa0 = ⟨(fr U0 [(0, .agg #[.int .i64 m, .slice A n c]), (1, .slice A2 n2 c2), (2, .int .i64 s), (3, .slice A3 n3 c3), (4, .slice A4 n4 c4), (5, .pointer (some ⟨b2, 0, none⟩)), (10, .int .i64 0), (11, .pointer (some ⟨pb26, 0, none⟩)), (12, .int .i64 u), (21, .slice A4 n4 c4), (22, .int .i64 ((n4 : Nat) : Int)), (23, .int .i64 ((i : Nat) : Int))] 40 0).toArray, []⟩ ∧ (am0 = n4 - i) ∧ (i ≤ n4) ∧ (u = harmTo (linked ps (openQ (shutV vs pl) true)) s cs i) ∧ (wl0.heap[b2]? = some (.cells #[.int .i64 m, .slice A n c] 32 (0, 0))) ∧ (Rd wl0 1 (some ⟨pb26, 0, none⟩) 19 (boolsV (wetL (linked ps (openQ (shutV vs pl) true)) (s)))) ∧ (Below w.heap.size w wl0)) (n4 - 0) ?_ ?_
  · exact ⟨0, 0, (fun iU9 => lk [(0, .agg #[.int .i64 m, .slice A n c]), (1, .slice A2 n2 c2), (2, .int .i64 s), (3, .slice A3 n3 c3), (4, .slice A4 n4 c4), (5, .pointer (some ⟨b2, 0, none⟩)), (10, .int .i64 0), (11, .pointer (some ⟨pb26, 0, none⟩)), (12, .int .i64 0), (21, .slice A4 n4 c4), (22, .int .i64 ((n4 : Nat) : Int)), (23, .int .i64 0)] iU9 (U38 iU9)), (by kernel_rfl), rfl, (Nat.zero_le _), rfl, x6, rd27, c37⟩
  rintro am0 aa0 wl0 K5 h5 ⟨i, u, U0, rfl, rfl, hi, hsum, x6, rd0_11, c39⟩
  have hbd := harmTo_bd (E := (linked ps (openQ (shutV vs pl) true))) (s := s) hcb i (by omega)
  refine wp_seq_k (fun K6 h6 => ?_)
  refine W.region_quiet [(0, false)] (by kernel_rfl) ?_
  by_cases q40 : (((i : Nat) : Int) : Int) < (((n4 : Nat) : Int) : Int)
  · refine W.q (v := .bool true) (hr := (r_lss (m := ((i : Nat) : Int)) (n := ((n4 : Nat) : Int)) rfl (by kernel_rfl) (by kernel_rfl) (decide_eq_true q40))) (h := ?_)
    refine W.endF 40 [(0, .agg #[.int .i64 m, .slice A n c]), (1, .slice A2 n2 c2), (2, .int .i64 s), (3, .slice A3 n3 c3), (4, .slice A4 n4 c4), (5, .pointer (some ⟨b2, 0, none⟩)), (10, .int .i64 0), (11, .pointer (some ⟨pb26, 0, none⟩)), (12, .int .i64 u), (21, .slice A4 n4 c4), (22, .int .i64 ((n4 : Nat) : Int)), (23, .int .i64 ((i : Nat) : Int)), (24, .bool true)] (fun U41 => ?_)
    refine h6 _ _ ?_
    refine wp_seq_k (fun K7 h7 => ?_)
    refine wp_cond_true (by kernel_rfl) ?_
    refine wp_skip ?_
    refine h7 _ _ ?_
    refine wp_seq_k (fun K8 h8 => ?_)
    refine wp_block ?_
    refine wp_seq_k (fun K9 h9 => ?_)
    refine W.region_quiet [(0, false), (1, false), (2, false), (3, false), (4, false)] (by kernel_rfl) ?_
    refine W.mv (v := .int .i64 ((i : Nat) : Int)) (h := ?_)
    obtain ⟨x42, hx43⟩ := get_of (zs := cs) (k := i) (by have := hl4; omega)
    have hcx := hcb x42 (List.mem_of_getElem? hx43)
    obtain ⟨b44, o45, hA46, hb47, hc48⟩ := Rd.elInt hc4 hx43
    refine W.q (v := .pointer (some ⟨b44, o45 + i, none⟩)) (hr := (r_idx1 (n := n4) (c := c4) (k := i) rfl (by kernel_rfl) hA46 (by kernel_rfl) (by kernel_rfl) (by have := hl4; omega))) (h := ?_)
    refine W.ld (v := .int .i64 x42) (hc := (eqS (later c39 hc48))) (h := ?_)
    refine W.as (v := .int .i64 ((i : Nat) : Int)) (h := ?_)
    refine W.as (v := .int .i64 x42) (h := ?_)
    refine W.endF 40 [(0, .agg #[.int .i64 m, .slice A n c]), (1, .slice A2 n2 c2), (2, .int .i64 s), (3, .slice A3 n3 c3), (4, .slice A4 n4 c4), (5, .pointer (some ⟨b2, 0, none⟩)), (10, .int .i64 0), (11, .pointer (some ⟨pb26, 0, none⟩)), (12, .int .i64 u), (13, .int .i64 ((i : Nat) : Int)), (14, .int .i64 x42), (21, .slice A4 n4 c4), (22, .int .i64 ((n4 : Nat) : Int)), (23, .int .i64 ((i : Nat) : Int)), (24, .bool true)] (fun U49 => ?_)
    refine h9 _ _ ?_
    refine wp_seq_k (fun K10 h10 => ?_)
    refine W.region_quiet [(0, false), (1, false), (2, false), (3, false), (4, false), (5, false), (6, false)] (by kernel_rfl) ?_
    refine W.mv (v := .pointer (some ⟨pb26, 0, none⟩)) (h := ?_)
    refine W.mv (v := .int .i64 ((i : Nat) : Int)) (h := ?_)
    refine W.q (v := .int .i64 ((i + 1 : Nat) : Int)) (hr := (r_add (m := ((i : Nat) : Int)) (n := 1) (z := ((i + 1 : Nat) : Int)) rfl (by kernel_rfl) (by kernel_rfl) (by omega) (by omega))) (h := ?_)
    refine W.q (v := .pointer (some ⟨pb26, 0, none⟩)) (hr := (r_nilCheck rfl (by kernel_rfl))) (h := ?_)
    obtain ⟨x50, hx51⟩ := get_of (zs := (wetL (linked ps (openQ (shutV vs pl) true)) (s))) (k := i + 1) (by have := hl28; omega)
    obtain ⟨hb52, hc53⟩ := Rd.elBool rd0_11 hx51
    refine W.q (v := .pointer (some ⟨pb26, i + 1, none⟩)) (hr := (r_idxA (len := 19) (k := i + 1) rfl (by kernel_rfl) (by kernel_rfl) (by kernel_rfl) (by omega))) (h := ?_)
    refine W.ld (v := .bool x50) (hc := (eqS hc53)) (h := ?_)
    refine W.q (v := .bool (!x50)) (hr := (r_not (b := x50) rfl (by kernel_rfl) rfl)) (h := ?_)
    refine W.endF 40 [(0, .agg #[.int .i64 m, .slice A n c]), (1, .slice A2 n2 c2), (2, .int .i64 s), (3, .slice A3 n3 c3), (4, .slice A4 n4 c4), (5, .pointer (some ⟨b2, 0, none⟩)), (10, .int .i64 0), (11, .pointer (some ⟨pb26, 0, none⟩)), (12, .int .i64 u), (13, .int .i64 ((i : Nat) : Int)), (14, .int .i64 x42), (21, .slice A4 n4 c4), (22, .int .i64 ((n4 : Nat) : Int)), (23, .int .i64 ((i : Nat) : Int)), (24, .bool true), (34, .bool (!x50))] (fun U54 => ?_)
    refine h10 _ _ ?_
    rcases Bool.eq_false_or_eq_true (!x50) with q55 | q55
    · rw [q55]
      refine wp_cond_true (by kernel_rfl) ?_
      refine W.region_quiet [(0, false), (1, false), (2, false), (3, false)] (by kernel_rfl) ?_
      refine W.mv (v := .int .i64 u) (h := ?_)
      refine W.mv (v := .int .i64 x42) (h := ?_)
      refine W.q (v := .int .i64 (u + x42)) (hr := (r_add (m := u) (n := x42) (z := u + x42) rfl (by kernel_rfl) (by kernel_rfl) (rfl) (by omega))) (h := ?_)
      refine W.as (v := .int .i64 (u + x42)) (h := ?_)
      refine W.endF 40 [(0, .agg #[.int .i64 m, .slice A n c]), (1, .slice A2 n2 c2), (2, .int .i64 s), (3, .slice A3 n3 c3), (4, .slice A4 n4 c4), (5, .pointer (some ⟨b2, 0, none⟩)), (10, .int .i64 0), (11, .pointer (some ⟨pb26, 0, none⟩)), (12, .int .i64 (u + x42)), (13, .int .i64 ((i : Nat) : Int)), (14, .int .i64 x42), (21, .slice A4 n4 c4), (22, .int .i64 ((n4 : Nat) : Int)), (23, .int .i64 ((i : Nat) : Int)), (24, .bool true), (34, .bool true)] (fun U56 => ?_)
      refine h8 _ _ ?_
      refine W.region_quiet [(0, false), (1, false)] (by kernel_rfl) ?_
      refine W.q (v := .int .i64 ((i + 1 : Nat) : Int)) (hr := (r_add (m := ((i : Nat) : Int)) (n := 1) (z := ((i + 1 : Nat) : Int)) rfl (by kernel_rfl) (by kernel_rfl) (by omega) (by omega))) (h := ?_)
      refine W.mv (v := .int .i64 ((i + 1 : Nat) : Int)) (h := ?_)
      refine W.endF 40 [(0, .agg #[.int .i64 m, .slice A n c]), (1, .slice A2 n2 c2), (2, .int .i64 s), (3, .slice A3 n3 c3), (4, .slice A4 n4 c4), (5, .pointer (some ⟨b2, 0, none⟩)), (10, .int .i64 0), (11, .pointer (some ⟨pb26, 0, none⟩)), (12, .int .i64 (u + x42)), (13, .int .i64 ((i : Nat) : Int)), (14, .int .i64 x42), (21, .slice A4 n4 c4), (22, .int .i64 ((n4 : Nat) : Int)), (23, .int .i64 ((i + 1 : Nat) : Int)), (24, .bool true), (34, .bool true)] (fun U57 => ?_)
      exact h5 _ _ _ (by omega : (n4 - (i + 1)) < _) ⟨i + 1, u + x42, (fun iU9 => lk [(0, .agg #[.int .i64 m, .slice A n c]), (1, .slice A2 n2 c2), (2, .int .i64 s), (3, .slice A3 n3 c3), (4, .slice A4 n4 c4), (5, .pointer (some ⟨b2, 0, none⟩)), (10, .int .i64 0), (11, .pointer (some ⟨pb26, 0, none⟩)), (12, .int .i64 (u + x42)), (13, .int .i64 ((i : Nat) : Int)), (14, .int .i64 x42), (21, .slice A4 n4 c4), (22, .int .i64 ((n4 : Nat) : Int)), (23, .int .i64 ((i + 1 : Nat) : Int)), (24, .bool true), (34, .bool true)] iU9 (U57 iU9)), (by kernel_rfl), rfl, (by omega), (by rw [hsum, harmTo_yes hx43 ((wet_eq1 hx51).trans (show x50 = false by simpa using q55))]), x6, rd0_11, c39⟩
    · rw [q55]
      refine wp_cond_false (by kernel_rfl) ?_
      refine wp_skip ?_
      refine h8 _ _ ?_
      refine W.region_quiet [(0, false), (1, false)] (by kernel_rfl) ?_
      refine W.q (v := .int .i64 ((i + 1 : Nat) : Int)) (hr := (r_add (m := ((i : Nat) : Int)) (n := 1) (z := ((i + 1 : Nat) : Int)) rfl (by kernel_rfl) (by kernel_rfl) (by omega) (by omega))) (h := ?_)
      refine W.mv (v := .int .i64 ((i + 1 : Nat) : Int)) (h := ?_)
      refine W.endF 40 [(0, .agg #[.int .i64 m, .slice A n c]), (1, .slice A2 n2 c2), (2, .int .i64 s), (3, .slice A3 n3 c3), (4, .slice A4 n4 c4), (5, .pointer (some ⟨b2, 0, none⟩)), (10, .int .i64 0), (11, .pointer (some ⟨pb26, 0, none⟩)), (12, .int .i64 u), (13, .int .i64 ((i : Nat) : Int)), (14, .int .i64 x42), (21, .slice A4 n4 c4), (22, .int .i64 ((n4 : Nat) : Int)), (23, .int .i64 ((i + 1 : Nat) : Int)), (24, .bool true), (34, .bool false)] (fun U58 => ?_)
      exact h5 _ _ _ (by omega : (n4 - (i + 1)) < _) ⟨i + 1, u, (fun iU9 => lk [(0, .agg #[.int .i64 m, .slice A n c]), (1, .slice A2 n2 c2), (2, .int .i64 s), (3, .slice A3 n3 c3), (4, .slice A4 n4 c4), (5, .pointer (some ⟨b2, 0, none⟩)), (10, .int .i64 0), (11, .pointer (some ⟨pb26, 0, none⟩)), (12, .int .i64 u), (13, .int .i64 ((i : Nat) : Int)), (14, .int .i64 x42), (21, .slice A4 n4 c4), (22, .int .i64 ((n4 : Nat) : Int)), (23, .int .i64 ((i + 1 : Nat) : Int)), (24, .bool true), (34, .bool false)] iU9 (U58 iU9)), (by kernel_rfl), rfl, (by omega), (by rw [hsum, harmTo_no ((wet_eq1 hx51).trans (show x50 = true by simpa using q55))]), x6, rd0_11, c39⟩
  · refine W.q (v := .bool false) (hr := (r_lss (m := ((i : Nat) : Int)) (n := ((n4 : Nat) : Int)) rfl (by kernel_rfl) (by kernel_rfl) (decide_eq_false q40))) (h := ?_)
    refine W.endF 40 [(0, .agg #[.int .i64 m, .slice A n c]), (1, .slice A2 n2 c2), (2, .int .i64 s), (3, .slice A3 n3 c3), (4, .slice A4 n4 c4), (5, .pointer (some ⟨b2, 0, none⟩)), (10, .int .i64 0), (11, .pointer (some ⟨pb26, 0, none⟩)), (12, .int .i64 u), (21, .slice A4 n4 c4), (22, .int .i64 ((n4 : Nat) : Int)), (23, .int .i64 ((i : Nat) : Int)), (24, .bool false)] (fun U59 => ?_)
    refine h6 _ _ ?_
    refine wp_seq_k (fun K11 h11 => ?_)
    refine wp_cond_false (by kernel_rfl) ?_
    refine wp_exit ?_
    refine h3 _ _ ?_
    refine wp_seq_k (fun K12 h12 => ?_)
    refine W.region_quiet [(0, false), (1, false)] (by kernel_rfl) ?_
    refine W.mv (v := .int .i64 u) (h := ?_)
    refine W.as (v := .int .i64 u) (h := ?_)
    refine W.endF 40 [(0, .agg #[.int .i64 m, .slice A n c]), (1, .slice A2 n2 c2), (2, .int .i64 s), (3, .slice A3 n3 c3), (4, .slice A4 n4 c4), (5, .pointer (some ⟨b2, 0, none⟩)), (10, .int .i64 u), (11, .pointer (some ⟨pb26, 0, none⟩)), (12, .int .i64 u), (21, .slice A4 n4 c4), (22, .int .i64 ((n4 : Nat) : Int)), (23, .int .i64 ((i : Nat) : Int)), (24, .bool false)] (fun U60 => ?_)
    refine h12 _ _ ?_
    refine wp_ret ?_
    try simp only [Exit.then]
    refine ret1 (v := .int .i64 u) rfl (by kernel_rfl) ?_
    exact ⟨by unfold harmL; rw [show cs.length = i by omega, ← hsum], c39⟩

set_option maxRecDepth 100000 in
set_option maxHeartbeats 1000000 in
theorem l5Harm_any (m : Int) (A : Option Addr) (n c : Nat) (ps : List Pp) (A2 : Option Addr) (n2 c2 : Nat) (vs : List Vv) (s : Int) (A3 : Option Addr) (n3 c3 : Nat) (pl : List Int) (A4 : Option Addr) (n4 c4 : Nat) (cs : List Int) (w : World) (ha : Rd w 4 A n (pipesV ps)) (hb : Rd w 4 A2 n2 (valvesV vs)) (hn : n ≤ 1048576) (hn2 : n2 ≤ 1048576) (hfm2 : Fm A2 n2 c2) (hv9 : GoodVal m ps vs) (hs : 1 ≤ s ∧ s ≤ m) (hp3 : Rd w 1 A3 n3 (intsV pl)) (hn3 : n3 ≤ 1000000) (hc4 : Rd w 1 A4 n4 (intsV cs)) (hn4 : n4 ≤ 1048576) (hco : custOk m cs = true) :
    Calls Try.prog 68 #[.agg #[.int .i64 m, .slice A n c], .slice A2 n2 c2, .int .i64 s, .slice A3 n3 c3, .slice A4 n4 c4] w fun e w' => e = .returned (.int .i64 (harmL ps vs s cs pl)) ∧ Below w.heap.size w w' := by
  have hl := rd_pipes_len ha
  have hl2 := rd_valves_len hb
  have hl3 := rd_ints_len hp3
  have hg := hv9.net
  have hgl := hg.lo
  have hgh := hg.hi
  have hp := hg.pipesIn
  have hlen10 := hg.len
  have hu := hv9.uniq
  have hvl := hv9.len
  have hl4 := rd_ints_len hc4
  obtain ⟨hcl, hcb⟩ := custOk_of hco
  go_enter Try.func68, Try.ntmps68
  refine wp_seq_k (fun K1 h1 => ?_)
  refine W.region_plain (row := none) [(0, true), (1, false)] (by kernel_rfl) ?_
  have s1 := SG.self w none
  refine W.sn (fun b => .pointer (some ⟨b, 0, none⟩)) #[.int .i64 m, .slice A n c] 32 s1 rfl (by kernel_rfl) rfl (fun _ => by kernel_rfl) (fun b2 w3 hb4 k5 x6 s7 => ?_)
  have lo8 : w.heap.size ≤ b2 := by have := ((SG.belowR (Below.refl _ _) s1 (fun kq e => by cases e))).size; omega
  refine W.as (v := .int .i64 0) (h := ?_)
  refine W.endF 41 [(0, .agg #[.int .i64 m, .slice A n c]), (1, .slice A2 n2 c2), (2, .int .i64 s), (3, .slice A3 n3 c3), (4, .slice A4 n4 c4), (5, .pointer (some ⟨b2, 0, none⟩)), (10, .int .i64 0)] (fun U9 => ?_)
  have c10 := (SG.belowR (Below.refl _ _) s7 (fun kq e => by cases e))
  refine h1 _ _ ?_
  refine wp_seq_k (fun K2 h2 => ?_)
  refine W.region_sch (row := none) (Sch.of [(0, false), (1, false), (2, false), (4, false), (3, true), (5, true), (6, false), (7, false), (8, false), (9, false), (10, false)]) (by kernel_rfl) (by kernel_rfl) (fun _ d _ _ _ h => by cases d <;> exact h) (by kernel_rfl) (fun w11 e12 s13 => ?_)
  refine W.q (v := .agg #[.int .i64 m, .slice A n c]) (hr := (r_load2 rfl (by kernel_rfl) (by kernel_rfl) (by kernel_rfl) (sgS (blk_cell (j := 0) x6 (by kernel_rfl)) (by simp)) (sgS (blk_cell (j := 1) x6 (by kernel_rfl)) (by simp)))) (h := ?_)
  refine W.mv (v := .slice A2 n2 c2) (h := ?_)
  refine W.mv (v := .slice A3 n3 c3) (h := ?_)
  refine W.mv (v := .int .i64 s) (h := ?_)
  refine W.sc (vs := [.slice A2 n2 c2, .slice A3 n3 c3]) rfl rfl (by kernel_rfl) (by kernel_rfl) (by kernel_rfl) rfl (l5Shut_any A2 n2 c2 vs A3 n3 c3 pl _ (Rd.kept hb (SG.belowR c10 s13 (fun kq e => by cases e))) (by omega) hfm2 (Rd.kept hp3 (SG.belowR c10 s13 (fun kq e => by cases e))) (by omega)) ?_
  rintro e w23 ⟨A14, n15, c16, rfl, ho17, b22⟩
  have s24 := SG.of_below s13 b22
  refine ⟨_, rfl, s24, ?_⟩
  have rd18 := own_rd ho17
  have fm21 := own_fm ho17
  have hl19 := rd_valves_len rd18
  have sp25 := sp_freshB (g := b2) ho17 (Nat.lt_of_lt_of_le (blk_lt x6) (World.grownBy.size s13))
  have := shutV_len vs pl
  refine W.sc (vs := [.agg #[.int .i64 m, .slice A n c], .slice A14 n15 c16, .int .i64 s]) rfl rfl (by kernel_rfl) (by kernel_rfl) (by kernel_rfl) rfl (l4Dry_any m A n c ps A14 n15 c16 (shutV vs pl) s _ (Rd.kept ha (SG.belowR c10 s24 (fun kq e => by cases e))) rd18 (by omega) (by omega) hp (by omega) (by omega) (by omega)) ?_
  rintro e w41 ⟨A26, n27, c28, A29, n30, c31, rfl, rd32, fm33, rd34, fm35, b40⟩
  have s42 := SG.of_below s24 b40
  refine ⟨_, rfl, s42, ?_⟩
  have rd43 := Rd.kept rd18 b40
  have hl38 := rd_ints_len rd32
  have hl39 := rd_ints_len rd34
  have := nodesL_len (linked ps (openQ (shutV vs pl) true)) m.toNat s false
  have := idxL_len (linked ps (openQ (shutV vs pl) true)) ps.length s false
  refine W.mv (v := .tuple #[.slice A26 n27 c28, .slice A29 n30 c31]) (h := ?_)
  refine W.q (v := .slice A26 n27 c28) (hr := (r_extract (vs := #[.slice A26 n27 c28, .slice A29 n30 c31]) rfl (by kernel_rfl) (by kernel_rfl))) (h := ?_)
  refine W.q (v := .slice A29 n30 c31) (hr := (r_extract (vs := #[.slice A26 n27 c28, .slice A29 n30 c31]) rfl (by kernel_rfl) (by kernel_rfl))) (h := ?_)
  refine W.as (v := .slice A26 n27 c28) (h := ?_)
  refine W.as (v := .slice A29 n30 c31) (h := ?_)
  refine W.endF 41 [(0, .agg #[.int .i64 m, .slice A n c]), (1, .slice A2 n2 c2), (2, .int .i64 s), (3, .slice A3 n3 c3), (4, .slice A4 n4 c4), (5, .pointer (some ⟨b2, 0, none⟩)), (10, .int .i64 0), (11, .slice A26 n27 c28)] (fun U44 => ?_)
  have x6 := SG.blk s42 x6 (by simp)
  have c45 := (SG.belowR c10 s42 (fun kq e => by cases e))
  refine h2 _ _ ?_
  refine wp_seq_k (fun K3 h3 => ?_)
  refine W.region_quiet [(0, false)] (by kernel_rfl) ?_
  refine W.as (v := .int .i64 0) (h := ?_)
  refine W.endF 41 [(0, .agg #[.int .i64 m, .slice A n c]), (1, .slice A2 n2 c2), (2, .int .i64 s), (3, .slice A3 n3 c3), (4, .slice A4 n4 c4), (5, .pointer (some ⟨b2, 0, none⟩)), (10, .int .i64 0), (11, .slice A26 n27 c28), (13, .int .i64 0)] (fun U46 => ?_)
  refine h3 _ _ ?_
  refine wp_seq_k (fun K4 h4 => ?_)
  refine wp_seq_k (fun K5 h5 => ?_)
  refine W.region_quiet [(0, false)] (by kernel_rfl) ?_
  refine W.as (v := .int .i64 0) (h := ?_)
  refine W.endF 41 [(0, .agg #[.int .i64 m, .slice A n c]), (1, .slice A2 n2 c2), (2, .int .i64 s), (3, .slice A3 n3 c3), (4, .slice A4 n4 c4), (5, .pointer (some ⟨b2, 0, none⟩)), (10, .int .i64 0), (11, .slice A26 n27 c28), (13, .int .i64 0), (14, .int .i64 0)] (fun U47 => ?_)
  refine h5 _ _ ?_
  refine wp_block ?_
  refine loopK (fun am0 aa0 wl0 => ∃ (i : Nat) (u : Int) (U0 : Nat → Value), aa0 = ⟨(fr U0 [(0, .agg #[.int .i64 m, .slice A n c]), (1, .slice A2 n2 c2), (2, .int .i64 s), (3, .slice A3 n3 c3), (4, .slice A4 n4 c4), (5, .pointer (some ⟨b2, 0, none⟩)), (10, .int .i64 0), (11, .slice A26 n27 c28), (13, .int .i64 u), (14, .int .i64 ((i : Nat) : Int))] 41 0).toArray, []⟩ ∧ (am0 = n27 - i) ∧ (i ≤ n27) ∧ (u = sumAt cs ((nodesL (linked ps (openQ (shutV vs pl) true)) m.toNat s false).take i)) ∧ (wl0.heap[b2]? = some (.cells #[.int .i64 m, .slice A n c] 32 (0, 0))) ∧ (Rd wl0 1 A26 n27 (intsV (nodesL (linked ps (openQ (shutV vs pl) true)) m.toNat s false))) ∧ (Below w.heap.size w wl0)) (n27 - 0) ?_ ?_
  · exact ⟨0, 0, (fun iU9 => lk [(0, .agg #[.int .i64 m, .slice A n c]), (1, .slice A2 n2 c2), (2, .int .i64 s), (3, .slice A3 n3 c3), (4, .slice A4 n4 c4), (5, .pointer (some ⟨b2, 0, none⟩)), (10, .int .i64 0), (11, .slice A26 n27 c28), (13, .int .i64 0), (14, .int .i64 0)] iU9 (U47 iU9)), (by kernel_rfl), rfl, (Nat.zero_le _), rfl, x6, rd32, c45⟩
  rintro am0 aa0 wl0 K6 h6 ⟨i, u, U0, rfl, rfl, hi, hsum, x6, rd0_11, c48⟩
  have hbd := sumAt_bd hcb ((nodesL (linked ps (openQ (shutV vs pl) true)) m.toNat s false).take i)
  have htl := List.length_take_le i (nodesL (linked ps (openQ (shutV vs pl) true)) m.toNat s false)
  refine wp_seq_k (fun K7 h7 => ?_)
  refine wp_seq_k (fun K8 h8 => ?_)
  refine W.region_quiet [(0, false), (1, false), (2, false), (3, false)] (by kernel_rfl) ?_
  refine W.mv (v := .int .i64 ((i : Nat) : Int)) (h := ?_)
  refine W.mv (v := .slice A26 n27 c28) (h := ?_)
  refine W.q (v := .int .i64 ((n27 : Nat) : Int)) (hr := (r_len (A := A26) (n := n27) (c := c28) rfl (by kernel_rfl) (by kernel_rfl))) (h := ?_)
  by_cases q49 : (((i : Nat) : Int) : Int) < (((n27 : Nat) : Int) : Int)
  · refine W.q (v := .bool true) (hr := (r_lss (m := ((i : Nat) : Int)) (n := ((n27 : Nat) : Int)) rfl (by kernel_rfl) (by kernel_rfl) (decide_eq_true q49))) (h := ?_)
    refine W.endF 41 [(0, .agg #[.int .i64 m, .slice A n c]), (1, .slice A2 n2 c2), (2, .int .i64 s), (3, .slice A3 n3 c3), (4, .slice A4 n4 c4), (5, .pointer (some ⟨b2, 0, none⟩)), (10, .int .i64 0), (11, .slice A26 n27 c28), (13, .int .i64 u), (14, .int .i64 ((i : Nat) : Int)), (27, .bool true)] (fun U50 => ?_)
    refine h8 _ _ ?_
    refine wp_cond_true (by kernel_rfl) ?_
    refine wp_skip ?_
    refine h7 _ _ ?_
    refine wp_seq_k (fun K9 h9 => ?_)
    refine wp_block ?_
    refine W.region_quiet [(0, false), (1, false), (2, false), (3, false), (4, false), (5, false), (6, false), (7, false), (8, false), (9, false), (10, false)] (by kernel_rfl) ?_
    refine W.mv (v := .int .i64 u) (h := ?_)
    refine W.mv (v := .slice A4 n4 c4) (h := ?_)
    refine W.mv (v := .slice A26 n27 c28) (h := ?_)
    refine W.mv (v := .int .i64 ((i : Nat) : Int)) (h := ?_)
    obtain ⟨x51, hx52⟩ := get_of (zs := (nodesL (linked ps (openQ (shutV vs pl) true)) m.toNat s false)) (k := i) (by have := hl38; omega)
    have hnb := mem_nodesL.1 (List.mem_of_getElem? hx52)
    obtain ⟨b53, o54, hA55, hb56, hc57⟩ := Rd.elInt rd0_11 hx52
    refine W.q (v := .pointer (some ⟨b53, o54 + i, none⟩)) (hr := (r_idx1 (n := n27) (c := c28) (k := i) rfl (by kernel_rfl) hA55 (by kernel_rfl) (by kernel_rfl) (by have := hl38; omega))) (h := ?_)
    refine W.ld (v := .int .i64 x51) (hc := (eqS hc57)) (h := ?_)
    refine W.q (v := .int .i64 (x51 - 1)) (hr := (r_sub (m := x51) (n := 1) (z := x51 - 1) rfl (by kernel_rfl) (by kernel_rfl) (rfl) (by omega))) (h := ?_)
    obtain ⟨c958, hc959⟩ := get_of (zs := cs) (k := (x51 - 1).toNat) (by omega)
    have hcx := hcb c958 (List.mem_of_getElem? hc959)
    obtain ⟨b60, o61, hA62, hb63, hc64⟩ := Rd.elInt hc4 hc959
    refine W.q (v := .pointer (some ⟨b60, o61 + ((x51 - 1).toNat), none⟩)) (hr := (r_idx1 (n := n4) (c := c4) (k := (x51 - 1).toNat) rfl (by kernel_rfl) hA62 (evk (z := x51 - 1) (by kernel_rfl) (by omega)) (by kernel_rfl) (by have := hl4; omega))) (h := ?_)
    refine W.ld (v := .int .i64 c958) (hc := (eqS (later c48 hc64))) (h := ?_)
    refine W.q (v := .int .i64 (u + c958)) (hr := (r_add (m := u) (n := c958) (z := u + c958) rfl (by kernel_rfl) (by kernel_rfl) (rfl) (by omega))) (h := ?_)
    refine W.as (v := .int .i64 (u + c958)) (h := ?_)
    refine W.endF 41 [(0, .agg #[.int .i64 m, .slice A n c]), (1, .slice A2 n2 c2), (2, .int .i64 s), (3, .slice A3 n3 c3), (4, .slice A4 n4 c4), (5, .pointer (some ⟨b2, 0, none⟩)), (10, .int .i64 0), (11, .slice A26 n27 c28), (13, .int .i64 (u + c958)), (14, .int .i64 ((i : Nat) : Int)), (27, .bool true)] (fun U65 => ?_)
    refine h9 _ _ ?_
    refine W.region_quiet [(0, false), (1, false), (2, false)] (by kernel_rfl) ?_
    refine W.mv (v := .int .i64 ((i : Nat) : Int)) (h := ?_)
    refine W.q (v := .int .i64 ((i + 1 : Nat) : Int)) (hr := (r_add (m := ((i : Nat) : Int)) (n := 1) (z := ((i + 1 : Nat) : Int)) rfl (by kernel_rfl) (by kernel_rfl) (by omega) (by omega))) (h := ?_)
    refine W.as (v := .int .i64 ((i + 1 : Nat) : Int)) (h := ?_)
    refine W.endF 41 [(0, .agg #[.int .i64 m, .slice A n c]), (1, .slice A2 n2 c2), (2, .int .i64 s), (3, .slice A3 n3 c3), (4, .slice A4 n4 c4), (5, .pointer (some ⟨b2, 0, none⟩)), (10, .int .i64 0), (11, .slice A26 n27 c28), (13, .int .i64 (u + c958)), (14, .int .i64 ((i + 1 : Nat) : Int)), (27, .bool true)] (fun U66 => ?_)
    exact h6 _ _ _ (by omega : (n27 - (i + 1)) < _) ⟨i + 1, u + c958, (fun iU9 => lk [(0, .agg #[.int .i64 m, .slice A n c]), (1, .slice A2 n2 c2), (2, .int .i64 s), (3, .slice A3 n3 c3), (4, .slice A4 n4 c4), (5, .pointer (some ⟨b2, 0, none⟩)), (10, .int .i64 0), (11, .slice A26 n27 c28), (13, .int .i64 (u + c958)), (14, .int .i64 ((i + 1 : Nat) : Int)), (27, .bool true)] iU9 (U66 iU9)), (by kernel_rfl), rfl, (by omega), (by rw [hsum, sumAt_next hx52 hc959]), x6, rd0_11, c48⟩
  · refine W.q (v := .bool false) (hr := (r_lss (m := ((i : Nat) : Int)) (n := ((n27 : Nat) : Int)) rfl (by kernel_rfl) (by kernel_rfl) (decide_eq_false q49))) (h := ?_)
    refine W.endF 41 [(0, .agg #[.int .i64 m, .slice A n c]), (1, .slice A2 n2 c2), (2, .int .i64 s), (3, .slice A3 n3 c3), (4, .slice A4 n4 c4), (5, .pointer (some ⟨b2, 0, none⟩)), (10, .int .i64 0), (11, .slice A26 n27 c28), (13, .int .i64 u), (14, .int .i64 ((i : Nat) : Int)), (27, .bool false)] (fun U67 => ?_)
    refine h8 _ _ ?_
    refine wp_cond_false (by kernel_rfl) ?_
    refine wp_exit ?_
    refine h4 _ _ ?_
    refine wp_seq_k (fun K10 h10 => ?_)
    refine W.region_quiet [(0, false), (1, false)] (by kernel_rfl) ?_
    refine W.mv (v := .int .i64 u) (h := ?_)
    refine W.as (v := .int .i64 u) (h := ?_)
    refine W.endF 41 [(0, .agg #[.int .i64 m, .slice A n c]), (1, .slice A2 n2 c2), (2, .int .i64 s), (3, .slice A3 n3 c3), (4, .slice A4 n4 c4), (5, .pointer (some ⟨b2, 0, none⟩)), (10, .int .i64 u), (11, .slice A26 n27 c28), (13, .int .i64 u), (14, .int .i64 ((i : Nat) : Int)), (27, .bool false)] (fun U68 => ?_)
    refine h10 _ _ ?_
    refine wp_ret ?_
    try simp only [Exit.then]
    refine ret1 (v := .int .i64 u) rfl (by kernel_rfl) ?_
    exact ⟨by unfold harmL; rw [hsum, List.take_of_length_le (by omega), sumAt_harm, show cs.length = m.toNat by omega], c48⟩

end Go.Proofs.Ytnfmdkbelbppdaa
