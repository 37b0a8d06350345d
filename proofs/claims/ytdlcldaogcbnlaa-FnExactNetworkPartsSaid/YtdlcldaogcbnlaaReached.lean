/- The nodes that are connected with a node: the reference's list. -/
import Derived.Test.YtdlcldaogcbnlaaPut
namespace Go.Proofs.Ytdlcldaogcbnlaa
open Go.RowKit
set_option linter.unusedVariables false

theorem putL_same {n : Int} : ∀ {zs : List Int}, sorted zs → n ∈ zs → putL zs n = zs
  | [], _, h => by cases h
  | z :: zs, hs, h => by
    have h' := List.pairwise_cons.1 hs
    unfold putL
    rcases List.mem_cons.1 h with e | e
    · rw [if_neg (by omega), if_pos e.symm]
    · have := h'.1 n e
      rw [if_pos this, putL_same h'.2 e]
theorem putL_len_le (zs : List Int) (n : Int) : (putL zs n).length ≤ zs.length + 1 := by
  induction zs with
  | nil => simp [putL]
  | cons z zs ih => unfold putL; split
                    · simp; omega
                    · split <;> simp
theorem putL_len_ge (zs : List Int) (n : Int) : zs.length ≤ (putL zs n).length := by
  induction zs with
  | nil => simp [putL]
  | cons z zs ih => unfold putL; split
                    · simp; omega
                    · split <;> simp
theorem put2_len {ys : List Int} {a c : Int} (h : ys.contains a ≠ ys.contains c) : ys.length < (putL (putL ys a) c).length := by
  by_cases ha : a ∈ ys
  · have hc : c ∉ ys := fun hc => h (by rw [List.contains_iff_mem.2 ha, List.contains_iff_mem.2 hc])
    have hc' : c ∉ putL ys a := fun hm => by
      rcases (mem_putL c a ys).1 hm with e | e
      · subst e; exact hc ha
      · exact hc e
    have := putL_len_ge ys a
    rw [putL_len hc']; omega
  · have := putL_len_ge (putL ys a) c
    rw [putL_len ha] at this; omega
/-- What the reference's search keeps. -/
structure Fnd (ps : List Pp) (m : Nat) (v : Int) (ys : List Int) : Prop where
  s : sorted ys
  h0 : v ∈ ys
  r : ∀ b, b ∈ ys → Reach (joined ps) v b
theorem Fnd.len {ps : List Pp} {m : Nat} {v : Int} {ys : List Int} (h : Fnd ps m v ys) (hp : pipesIn ps m) (hv : 1 ≤ v ∧ v ≤ m) : ys.length ≤ m :=
  sorted_len h.s (fun b hb => reach_in (joined_in hp) hv (h.r b hb))
theorem Fnd.start (ps : List Pp) (m : Nat) (v : Int) : Fnd ps m v [v] := ⟨by simp [sorted], by simp, fun b hb => by simp at hb; subst hb; exact reach_refl _ _⟩
theorem Fnd.put {ps : List Pp} {m : Nat} {v : Int} {ys : List Int} (h : Fnd ps m v ys) {k : Nat} {x : Pp} (hx : ps[k]? = some x) (hne : ys.contains x.fr ≠ ys.contains x.to) : Fnd ps m v (putL (putL ys x.fr) x.to) := by
  refine ⟨sorted_putL _ _ (sorted_putL _ _ h.s), (mem_putL _ _ _).2 (.inr ((mem_putL _ _ _).2 (.inr h.h0))), fun b hb => ?_⟩
  have hj : joined ps x.fr x.to := ⟨x, List.mem_of_getElem? hx, .inl ⟨rfl, rfl⟩⟩
  have hone : x.fr ∈ ys ∨ x.to ∈ ys := by
    by_cases h1 : x.fr ∈ ys
    · exact .inl h1
    · by_cases h2 : x.to ∈ ys
      · exact .inr h2
      · exact absurd (by rw [show ys.contains x.fr = false by simpa using h1, show ys.contains x.to = false by simpa using h2]) hne
  have hr : Reach (joined ps) v x.fr ∧ Reach (joined ps) v x.to := by
    rcases hone with h1 | h1
    · exact ⟨h.r _ h1, reach_step (h.r _ h1) hj⟩
    · exact ⟨reach_step (h.r _ h1) (joined_symm ps _ _ hj), h.r _ h1⟩
  rcases (mem_putL _ _ _).1 hb with e | e
  · rw [e]; exact hr.2
  · rcases (mem_putL _ _ _).1 e with e | e
    · rw [e]; exact hr.1
    · exact h.r b e
/-- Closed under the pipes before i. -/
def shutTo (ps : List Pp) (ys : List Int) (i : Nat) : Prop := ∀ j p, j < i → ps[j]? = some p → (p.fr ∈ ys ↔ p.to ∈ ys)
theorem shutTo.next {ps : List Pp} {ys : List Int} {i : Nat} {x : Pp} (h : shutTo ps ys i) (hx : ps[i]? = some x) (he : ys.contains x.fr = ys.contains x.to) : shutTo ps ys (i + 1) := by
  unfold shutTo at h ⊢
  exact upto_succ (Q := fun p => p.fr ∈ ys ↔ p.to ∈ ys) h hx (by rw [← List.contains_iff_mem, ← List.contains_iff_mem, he])
theorem Fnd.fin {ps : List Pp} {m : Nat} {v : Int} {ys : List Int} (h : Fnd ps m v ys) (hp : pipesIn ps m) (hv : 1 ≤ v ∧ v ≤ m) (hc : shutTo ps ys ps.length) : ys = reachList (joined ps) m v := by
  refine reachList_of (joined_in hp) hv h.s h.h0 h.r (fun b c hb hj => ?_)
  obtain ⟨p, hm, he⟩ := hj
  obtain ⟨i, hi, hg⟩ := List.getElem_of_mem hm
  have := hc i p hi (by rw [List.getElem?_eq_getElem hi, hg])
  rcases he with ⟨rfl, rfl⟩ | ⟨rfl, rfl⟩
  · exact this.1 hb
  · exact this.2 hb

set_option maxRecDepth 100000 in
set_option maxHeartbeats 1000000 in
theorem l2Reached_any (m : Int) (A : Option Addr) (n c : Nat) (ps : List Pp) (v : Int) (w : World) (ha : Rd w 4 A n (pipesV ps)) (hn : n ≤ 1048576) (hp : pipesIn ps m.toNat) (hm : 1 ≤ m ∧ m ≤ 8) (hv0 : 1 ≤ v ∧ v ≤ m) :
    Calls Try.prog 34 #[.agg #[.int .i64 m, .slice A n c], .int .i64 v] w fun e w' => ∃ A' n' c', e = .returned (.slice A' n' c') ∧ Rd w' 1 A' n' (intsV (reachList (joined ps) m.toNat v)) ∧ Fm A' n' c' ∧ Below w.heap.size w w' := by
  have hl := rd_pipes_len ha
  have hv : 1 ≤ v ∧ v ≤ (m.toNat : Int) := by omega
  go_enter Try.func34, Try.ntmps34
  refine wp_seq_k (fun K1 h1 => ?_)
  refine region_plain (row := none) [(0, true), (1, false)] rfl ?_
  have s1 := SG.self w none
  refine sn (fun b => .pointer (some ⟨b, 0, none⟩)) #[.int .i64 m, .slice A n c] 31 s1 rfl rfl rfl (fun _ => by kernel_rfl) (fun b2 w3 hb4 k5 x6 s7 => ?_)
  have lo8 : w.heap.size ≤ b2 := by have := ((SG.belowR (Below.refl _ _) s1 (fun kq e => by cases e))).size; omega
  refine sq (v := .slice none 0 0) rfl (r_assign rfl rfl) rfl rfl rfl ?_
  refine sch_end ?_
  simp only [List.set_cons_zero, List.set_cons_succ]
  have c9 := (SG.belowR (Below.refl _ _) s7 (fun kq e => by cases e))
  refine h1 _ _ ?_
  refine wp_seq_k (fun K2 h2 => ?_)
  refine region_plain (row := none) [(0, false), (1, true), (2, false)] rfl ?_
  have s10 := SG.self w3 none
  refine sq (v := .int .i64 v) rfl (r_move rfl rfl) rfl rfl rfl ?_
  refine sn (fun b => .slice (some ⟨b, 0, none⟩) 1 1) #[.int .i64 v] 3 s10 rfl rfl rfl (fun _ => by kernel_rfl) (fun b11 w12 hb13 k14 x15 s16 => ?_)
  have lo17 : w.heap.size ≤ b11 := by have := ((SG.belowR c9 s10 (fun kq e => by cases e))).size; omega
  have ne18 : b2 ≠ b11 := by have := blk_lt x6; have := World.grownBy.size s10; omega
  refine sq (v := .slice (some ⟨b11, 0, none⟩) 1 1) rfl (r_assign rfl rfl) rfl rfl rfl ?_
  refine sch_end ?_
  simp only [List.set_cons_zero, List.set_cons_succ]
  have x6 := SG.blk s16 x6 (by simp)
  have c19 := (SG.belowR c9 s16 (fun kq e => by cases e))
  refine h2 _ _ ?_
  refine wp_seq_k (fun K3 h3 => ?_)
  refine wp_seq_k (fun K4 h4 => ?_)
  refine region_quiet [(0, false)] rfl ?_
  refine sq (v := .bool true) rfl (r_assign rfl rfl) rfl rfl rfl ?_
  refine sch_end ?_
  simp only [List.set_cons_zero, List.set_cons_succ]
  refine h4 _ _ ?_
  refine wp_block ?_
  have ho20 := own_blk (base := w.heap.size) (size := 1) (n := 1) x15 lo17 rfl (by omega)
  replace ho20 : World.ownsRow _ _ _ _ _ _ (intsV [v]) := ho20
  have nb21 : Nb b2 (.slice (some ⟨b11, 0, none⟩) 1 1) := nb_new (by have := ne18; omega)
  have rd23 := own_rd ho20
  have hl24 := rd_ints_len rd23
  refine loopK (fun am0 aa0 wl0 => ∃ (zs : List Int) (mo : Bool) (A0_5 : Option Addr) (n0_5 : Nat) (c0_5 : Nat) (u0_7 u0_8 u0_9 u0_12 u0_13 u0_14 u0_15 u0_16 u0_17 u0_18 u0_19 u0_20 u0_21 u0_22 u0_23 u0_24 u0_25 u0_26 u0_27 u0_28 u0_29 u0_30 u0_31 u0_32 u0_33 u0_34 u0_35 u0_36 u0_37 u0_38 u0_39 u0_40 u0_41 u0_42 u0_43 u0_44 u0_45 u0_46 u0_47 u0_48 u0_49 u0_50 u0_51 u0_52 u0_53 : Value), aa0 = ⟨[.agg #[.int .i64 m, .slice A n c], .int .i64 v, .pointer (some ⟨b2, 0, none⟩), undef, .slice none 0 0, .slice A0_5 n0_5 c0_5, .bool mo, u0_7, u0_8, u0_9, .int .i64 v, .slice (some ⟨b11, 0, none⟩) 1 1, u0_12, u0_13, u0_14, u0_15, u0_16, u0_17, u0_18, u0_19, u0_20, u0_21, u0_22, u0_23, u0_24, u0_25, u0_26, u0_27, u0_28, u0_29, u0_30, u0_31, u0_32, u0_33, u0_34, u0_35, u0_36, u0_37, u0_38, u0_39, u0_40, u0_41, u0_42, u0_43, u0_44, u0_45, u0_46, u0_47, u0_48, u0_49, u0_50, u0_51, u0_52, u0_53, undef].toArray, []⟩ ∧ (am0 = 2 * (9 - zs.length) + mo.toNat) ∧ (Fnd ps m.toNat v zs) ∧ (mo = false → shutTo ps zs ps.length) ∧ (wl0.heap[b2]? = some (.cells #[.int .i64 m, .slice A n c] 31 (0, 0))) ∧ (Fm A0_5 n0_5 c0_5) ∧ (Rd wl0 1 A0_5 n0_5 (intsV zs)) ∧ (Below w.heap.size w wl0)) (2 * (9 - ([v]).length) + true.toNat) ?_ ?_
  · exact ⟨[v], true, (some ⟨b11, 0, none⟩), 1, 1, _, _, _, _, _, _, _, _, _, _, _, _, _, _, _, _, _, _, _, _, _, _, _, _, _, _, _, _, _, _, _, _, _, _, _, _, _, _, _, _, _, _, _, _, _, rfl, rfl, (Fnd.start _ _ _), (fun e => by cases e), x6, (own_fm ho20), rd23, c19⟩
  rintro am0 aa0 wl0 K5 h5 ⟨zs, mo, A0_5, n0_5, c0_5, u0_7, u0_8, u0_9, u0_12, u0_13, u0_14, u0_15, u0_16, u0_17, u0_18, u0_19, u0_20, u0_21, u0_22, u0_23, u0_24, u0_25, u0_26, u0_27, u0_28, u0_29, u0_30, u0_31, u0_32, u0_33, u0_34, u0_35, u0_36, u0_37, u0_38, u0_39, u0_40, u0_41, u0_42, u0_43, u0_44, u0_45, u0_46, u0_47, u0_48, u0_49, u0_50, u0_51, u0_52, u0_53, rfl, rfl, hf, hsh, x6, fm0_5, rd0_5, c25⟩
  have hl0_5 := rd_ints_len rd0_5
  have hfl := hf.len hp hv
  refine wp_seq_k (fun K6 h6 => ?_)
  refine wp_seq_k (fun K7 h7 => ?_)
  refine region_quiet [(0, false)] rfl ?_
  refine sq (v := .bool mo) rfl (r_move rfl rfl) rfl rfl rfl ?_
  refine sch_end ?_
  simp only [List.set_cons_zero, List.set_cons_succ]
  refine h7 _ _ ?_
  rcases Bool.eq_false_or_eq_true mo with q26 | q26
  · rw [q26]
    have qmo := q26
    refine wp_cond_true rfl ?_
    refine wp_skip ?_
    refine h6 _ _ ?_
    refine wp_block ?_
    refine wp_seq_k (fun K8 h8 => ?_)
    refine region_quiet [(0, false)] rfl ?_
    refine sq (v := .bool false) rfl (r_assign rfl rfl) rfl rfl rfl ?_
    refine sch_end ?_
    simp only [List.set_cons_zero, List.set_cons_succ]
    refine h8 _ _ ?_
    refine wp_seq_k (fun K9 h9 => ?_)
    refine region_quiet [(0, false)] rfl ?_
    refine sq (v := .int .i64 0) rfl (r_assign rfl rfl) rfl rfl rfl ?_
    refine sch_end ?_
    simp only [List.set_cons_zero, List.set_cons_succ]
    refine h9 _ _ ?_
    refine wp_block ?_
    refine loopK (fun am1 aa1 wl1 => ∃ (i : Nat) (ys : List Int) (mo2 : Bool) (A1_5 : Option Addr) (n1_5 : Nat) (c1_5 : Nat) (u1_8 u1_9 u1_13 u1_14 u1_15 u1_16 u1_17 u1_18 u1_19 u1_20 u1_21 u1_22 u1_23 u1_24 u1_25 u1_26 u1_27 u1_28 u1_29 u1_30 u1_31 u1_32 u1_33 u1_34 u1_35 u1_36 u1_37 u1_38 u1_39 u1_40 u1_41 u1_42 u1_43 u1_44 u1_45 u1_46 u1_47 u1_48 u1_49 u1_50 u1_51 u1_52 u1_53 : Value), aa1 = ⟨[.agg #[.int .i64 m, .slice A n c], .int .i64 v, .pointer (some ⟨b2, 0, none⟩), undef, .slice none 0 0, .slice A1_5 n1_5 c1_5, .bool mo2, .int .i64 ((i : Nat) : Int), u1_8, u1_9, .int .i64 v, .slice (some ⟨b11, 0, none⟩) 1 1, .bool true, u1_13, u1_14, u1_15, u1_16, u1_17, u1_18, u1_19, u1_20, u1_21, u1_22, u1_23, u1_24, u1_25, u1_26, u1_27, u1_28, u1_29, u1_30, u1_31, u1_32, u1_33, u1_34, u1_35, u1_36, u1_37, u1_38, u1_39, u1_40, u1_41, u1_42, u1_43, u1_44, u1_45, u1_46, u1_47, u1_48, u1_49, u1_50, u1_51, u1_52, u1_53, undef].toArray, []⟩ ∧ (am1 = n - i) ∧ (i ≤ n) ∧ (Fnd ps m.toNat v ys) ∧ (zs.length ≤ ys.length) ∧ (mo2 = true → zs.length < ys.length) ∧ (mo2 = false → ys = zs ∧ shutTo ps ys i) ∧ (wl1.heap[b2]? = some (.cells #[.int .i64 m, .slice A n c] 31 (0, 0))) ∧ (Fm A1_5 n1_5 c1_5) ∧ (Rd wl1 1 A1_5 n1_5 (intsV ys)) ∧ (Below w.heap.size w wl1)) (n - 0) ?_ ?_
    · exact ⟨0, zs, false, A0_5, n0_5, c0_5, _, _, _, _, _, _, _, _, _, _, _, _, _, _, _, _, _, _, _, _, _, _, _, _, _, _, _, _, _, _, _, _, _, _, _, _, _, _, _, _, _, _, _, rfl, rfl, (Nat.zero_le _), hf, (Nat.le_refl _), (fun e => by cases e), (fun _ => ⟨rfl, fun j p hj => absurd hj (by omega)⟩), x6, fm0_5, rd0_5, c25⟩
    rintro am1 aa1 wl1 K10 h10 ⟨i, ys, mo2, A1_5, n1_5, c1_5, u1_8, u1_9, u1_13, u1_14, u1_15, u1_16, u1_17, u1_18, u1_19, u1_20, u1_21, u1_22, u1_23, u1_24, u1_25, u1_26, u1_27, u1_28, u1_29, u1_30, u1_31, u1_32, u1_33, u1_34, u1_35, u1_36, u1_37, u1_38, u1_39, u1_40, u1_41, u1_42, u1_43, u1_44, u1_45, u1_46, u1_47, u1_48, u1_49, u1_50, u1_51, u1_52, u1_53, rfl, rfl, hi, hf2, hle, hmt, hmf, x6, fm1_5, rd1_5, c27⟩
    have hl1_5 := rd_ints_len rd1_5
    have hfl2 := hf2.len hp hv
    refine wp_seq_k (fun K11 h11 => ?_)
    refine wp_seq_k (fun K12 h12 => ?_)
    refine region_quiet [(0, false), (1, false), (2, false), (3, false), (4, false)] rfl ?_
    refine sq (v := .int .i64 ((i : Nat) : Int)) rfl (r_move rfl rfl) rfl rfl rfl ?_
    refine sq (v := .pointer (some ⟨b2, 1, none⟩)) rfl (r_field (k := 1) rfl rfl (by kernel_rfl)) rfl rfl rfl ?_
    refine sq (v := .slice A n c) rfl (r_load rfl rfl (by kernel_rfl) (eqS (blk_cell (j := 1) x6 rfl))) rfl rfl rfl ?_
    refine sq (v := .int .i64 ((n : Nat) : Int)) rfl (r_len rfl rfl (by kernel_rfl)) rfl rfl rfl ?_
    by_cases q28 : (((i : Nat) : Int) : Int) < (((n : Nat) : Int) : Int)
    · refine sq (v := .bool true) rfl (r_lss rfl rfl rfl (decide_eq_true q28)) rfl rfl rfl ?_
      simp only [List.set_cons_zero, List.set_cons_succ]
      refine sch_end ?_
      refine h12 _ _ ?_
      refine wp_cond_true rfl ?_
      refine wp_skip ?_
      refine h11 _ _ ?_
      refine wp_seq_k (fun K13 h13 => ?_)
      refine wp_block ?_
      refine wp_seq_k (fun K14 h14 => ?_)
      refine region_sch (row := none) (Sch.of [(0, false), (1, false), (2, false), (3, false), (4, false), (5, false), (6, false), (8, false), (9, false), (10, false), (11, false), (12, false), (13, false), (14, false), (7, true), (15, true), (16, false), (17, false)]) (by kernel_rfl) (by kernel_rfl) (fun _ d _ _ _ h => by cases d <;> exact h) (by kernel_rfl) (fun w29 e30 s31 => ?_)
      refine sq (v := .slice A1_5 n1_5 c1_5) rfl (r_move rfl rfl) rfl rfl rfl ?_
      refine sq (v := .pointer (some ⟨b2, 1, none⟩)) rfl (r_field (k := 1) rfl rfl (by kernel_rfl)) rfl rfl rfl ?_
      refine sq (v := .slice A n c) rfl (r_load rfl rfl (by kernel_rfl) (sgS (blk_cell (j := 1) x6 rfl) (by simp))) rfl rfl rfl ?_
      refine sq (v := .int .i64 ((i : Nat) : Int)) rfl (r_move rfl rfl) rfl rfl rfl ?_
      obtain ⟨x32, hx33⟩ := get_of (zs := ps) (k := i) (by have := hl; omega)
      obtain ⟨b34, o35, hA36, hb37, hc38, hc39, hc40, hc41⟩ := Rd.elPipe ha hx33
      refine sq (v := .pointer (some ⟨b34, o35 + i * 4, none⟩)) rfl (r_idx (k := i) rfl rfl hA36 rfl (by kernel_rfl) (by have := hl; omega)) rfl rfl rfl ?_
      simp only [List.set_cons_zero, List.set_cons_succ]
      refine sq (v := .pointer (some ⟨b34, o35 + i * 4 + 1, none⟩)) rfl (r_field (k := 1) rfl rfl (by kernel_rfl)) rfl rfl rfl ?_
      refine sq (v := .int .i64 x32.fr) rfl (r_load rfl rfl (by kernel_rfl) (sgS (later c27 hc39) (by simp))) rfl rfl rfl ?_
      refine sq (v := .slice A1_5 n1_5 c1_5) rfl (r_move rfl rfl) rfl rfl rfl ?_
      refine sq (v := .pointer (some ⟨b2, 1, none⟩)) rfl (r_field (k := 1) rfl rfl (by kernel_rfl)) rfl rfl rfl ?_
      refine sq (v := .slice A n c) rfl (r_load rfl rfl (by kernel_rfl) (sgS (blk_cell (j := 1) x6 rfl) (by simp))) rfl rfl rfl ?_
      simp only [List.set_cons_zero, List.set_cons_succ]
      refine sq (v := .int .i64 ((i : Nat) : Int)) rfl (r_move rfl rfl) rfl rfl rfl ?_
      refine sq (v := .pointer (some ⟨b34, o35 + i * 4, none⟩)) rfl (r_idx (k := i) rfl rfl hA36 rfl (by kernel_rfl) (by have := hl; omega)) rfl rfl rfl ?_
      refine sq (v := .pointer (some ⟨b34, o35 + i * 4 + 2, none⟩)) rfl (r_field (k := 2) rfl rfl (by kernel_rfl)) rfl rfl rfl ?_
      refine sq (v := .int .i64 x32.to) rfl (r_load rfl rfl (by kernel_rfl) (sgS (later c27 hc40) (by simp))) rfl rfl rfl ?_
      refine sc (vs := [.slice A1_5 n1_5 c1_5, .int .i64 x32.fr]) rfl rfl rfl (by kernel_rfl) rfl rfl (l1Has_any A1_5 n1_5 c1_5 ys x32.fr _ (Rd.kept rd1_5 (SG.below s31)) (by omega)) ?_
      rintro e w43 ⟨rfl, b42⟩
      have s44 := SG.of_below s31 b42
      refine ⟨_, rfl, s44, ?_⟩
      rcases Bool.eq_false_or_eq_true (ys.contains x32.fr) with q45 | q45
      · rw [q45]
        refine sc (vs := [.slice A1_5 n1_5 c1_5, .int .i64 x32.to]) rfl rfl rfl (by kernel_rfl) rfl rfl (l1Has_any A1_5 n1_5 c1_5 ys x32.to _ (Rd.kept rd1_5 (SG.below s44)) (by omega)) ?_
        rintro e w47 ⟨rfl, b46⟩
        have s48 := SG.of_below s44 b46
        refine ⟨_, rfl, s48, ?_⟩
        rcases Bool.eq_false_or_eq_true (ys.contains x32.to) with q49 | q49
        · rw [q49]
          refine sq (v := .bool true) rfl (r_assign rfl rfl) rfl rfl rfl ?_
          simp only [List.set_cons_zero, List.set_cons_succ]
          refine sq (v := .bool true) rfl (r_assign rfl rfl) rfl rfl rfl ?_
          refine sch_end ?_
          simp only [List.set_cons_zero, List.set_cons_succ]
          have x6 := SG.blk s48 x6 (by simp)
          have c50 := (SG.belowR c27 s48 (fun kq e => by cases e))
          have rd51 := Rd.kept rd1_5 (SG.below s48)
          refine h14 _ _ ?_
          refine wp_seq_k (fun K15 h15 => ?_)
          refine wp_seq_k (fun K16 h16 => ?_)
          refine region_quiet [(0, false), (1, false), (2, false)] rfl ?_
          refine sq (v := .bool true) rfl (r_move rfl rfl) rfl rfl rfl ?_
          refine sq (v := .bool true) rfl (r_move rfl rfl) rfl rfl rfl ?_
          refine sq (v := .bool true) rfl (r_eqlB rfl rfl rfl (by kernel_rfl) rfl) rfl rfl rfl ?_
          refine sch_end ?_
          simp only [List.set_cons_zero, List.set_cons_succ]
          refine h16 _ _ ?_
          refine wp_cond_true rfl ?_
          refine wp_exit ?_
          refine h13 _ _ ?_
          refine region_quiet [(0, false), (1, false), (2, false)] rfl ?_
          refine sq (v := .int .i64 ((i : Nat) : Int)) rfl (r_move rfl rfl) rfl rfl rfl ?_
          refine sq (v := .int .i64 ((i + 1 : Nat) : Int)) rfl (r_add (z := ((i + 1 : Nat) : Int)) rfl rfl rfl (by omega) (by omega)) rfl rfl rfl ?_
          refine sq (v := .int .i64 ((i + 1 : Nat) : Int)) rfl (r_assign rfl rfl) rfl rfl rfl ?_
          refine sch_end ?_
          simp only [List.set_cons_zero, List.set_cons_succ]
          exact h10 _ _ _ (by omega : (n - (i + 1)) < _) ⟨i + 1, ys, mo2, A1_5, n1_5, c1_5, _, _, _, _, _, _, _, _, _, _, _, _, _, _, _, _, _, _, _, _, _, _, _, _, _, _, _, _, _, _, _, _, _, _, _, _, _, _, _, _, _, _, _, rfl, rfl, (by omega), hf2, hle, hmt, (fun e => ⟨(hmf e).1, shutTo.next (hmf e).2 hx33 (by rw [q45, q49])⟩), x6, fm1_5, rd51, c50⟩
        · rw [q49]
          refine sq (v := .bool true) rfl (r_assign rfl rfl) rfl rfl rfl ?_
          simp only [List.set_cons_zero, List.set_cons_succ]
          refine sq (v := .bool false) rfl (r_assign rfl rfl) rfl rfl rfl ?_
          refine sch_end ?_
          simp only [List.set_cons_zero, List.set_cons_succ]
          have x6 := SG.blk s48 x6 (by simp)
          have c52 := (SG.belowR c27 s48 (fun kq e => by cases e))
          have rd53 := Rd.kept rd1_5 (SG.below s48)
          refine h14 _ _ ?_
          refine wp_seq_k (fun K17 h17 => ?_)
          refine wp_seq_k (fun K18 h18 => ?_)
          refine region_quiet [(0, false), (1, false), (2, false)] rfl ?_
          refine sq (v := .bool true) rfl (r_move rfl rfl) rfl rfl rfl ?_
          refine sq (v := .bool false) rfl (r_move rfl rfl) rfl rfl rfl ?_
          refine sq (v := .bool false) rfl (r_eqlB rfl rfl rfl (by kernel_rfl) rfl) rfl rfl rfl ?_
          refine sch_end ?_
          simp only [List.set_cons_zero, List.set_cons_succ]
          refine h18 _ _ ?_
          refine wp_cond_false rfl ?_
          refine wp_skip ?_
          refine h17 _ _ ?_
          refine wp_seq_k (fun K19 h19 => ?_)
          refine region_sch (row := none) (Sch.of [(0, false), (1, false), (2, false), (3, false), (4, false), (5, false), (6, false), (8, false), (9, false), (10, false), (11, false), (12, false), (13, false), (7, true), (14, true), (15, false)]) (by kernel_rfl) (by kernel_rfl) (fun _ d _ _ _ h => by cases d <;> exact h) (by kernel_rfl) (fun w54 e55 s56 => ?_)
          refine sq (v := .slice A1_5 n1_5 c1_5) rfl (r_move rfl rfl) rfl rfl rfl ?_
          refine sq (v := .pointer (some ⟨b2, 1, none⟩)) rfl (r_field (k := 1) rfl rfl (by kernel_rfl)) rfl rfl rfl ?_
          refine sq (v := .slice A n c) rfl (r_load rfl rfl (by kernel_rfl) (sgS (blk_cell (j := 1) x6 rfl) (by simp))) rfl rfl rfl ?_
          refine sq (v := .int .i64 ((i : Nat) : Int)) rfl (r_move rfl rfl) rfl rfl rfl ?_
          refine sq (v := .pointer (some ⟨b34, o35 + i * 4, none⟩)) rfl (r_idx (k := i) rfl rfl hA36 rfl (by kernel_rfl) (by have := hl; omega)) rfl rfl rfl ?_
          simp only [List.set_cons_zero, List.set_cons_succ]
          refine sq (v := .pointer (some ⟨b34, o35 + i * 4 + 1, none⟩)) rfl (r_field (k := 1) rfl rfl (by kernel_rfl)) rfl rfl rfl ?_
          refine sq (v := .int .i64 x32.fr) rfl (r_load rfl rfl (by kernel_rfl) (sgS (later c52 hc39) (by simp))) rfl rfl rfl ?_
          refine sq (v := .pointer (some ⟨b2, 1, none⟩)) rfl (r_field (k := 1) rfl rfl (by kernel_rfl)) rfl rfl rfl ?_
          refine sq (v := .slice A n c) rfl (r_load rfl rfl (by kernel_rfl) (sgS (blk_cell (j := 1) x6 rfl) (by simp))) rfl rfl rfl ?_
          refine sq (v := .int .i64 ((i : Nat) : Int)) rfl (r_move rfl rfl) rfl rfl rfl ?_
          simp only [List.set_cons_zero, List.set_cons_succ]
          refine sq (v := .pointer (some ⟨b34, o35 + i * 4, none⟩)) rfl (r_idx (k := i) rfl rfl hA36 rfl (by kernel_rfl) (by have := hl; omega)) rfl rfl rfl ?_
          refine sq (v := .pointer (some ⟨b34, o35 + i * 4 + 2, none⟩)) rfl (r_field (k := 2) rfl rfl (by kernel_rfl)) rfl rfl rfl ?_
          refine sq (v := .int .i64 x32.to) rfl (r_load rfl rfl (by kernel_rfl) (sgS (later c52 hc40) (by simp))) rfl rfl rfl ?_
          refine sc (vs := [.slice A1_5 n1_5 c1_5, .int .i64 x32.fr]) rfl rfl rfl (by kernel_rfl) rfl rfl (l1Put_any A1_5 n1_5 c1_5 ys x32.fr _ (Rd.kept rd53 (SG.below s56)) fm1_5 (by have h7 := hl1_5; first | omega)) ?_
          rintro e w65 ⟨A57, n58, c59, rfl, rd60, fm61, b64⟩
          have s66 := SG.of_below s56 b64
          refine ⟨_, rfl, s66, ?_⟩
          have hl62 := rd_ints_len rd60
          refine sc (vs := [.slice A57 n58 c59, .int .i64 x32.to]) rfl rfl rfl (by kernel_rfl) rfl rfl (l1Put_any A57 n58 c59 (putL ys x32.fr) x32.to _ rd60 fm61 (by have h7 := hl62; first | omega | (have h8 := putL_len_le ys x32.fr; omega))) ?_
          rintro e w75 ⟨A67, n68, c69, rfl, rd70, fm71, b74⟩
          have s76 := SG.of_below s66 b74
          refine ⟨_, rfl, s76, ?_⟩
          have rd77 := Rd.kept rd60 b74
          have hl72 := rd_ints_len rd70
          refine sq (v := .slice A67 n68 c69) rfl (r_assign rfl rfl) rfl rfl rfl ?_
          simp only [List.set_cons_zero, List.set_cons_succ]
          refine sch_end ?_
          have x6 := SG.blk s76 x6 (by simp)
          have c78 := (SG.belowR c52 s76 (fun kq e => by cases e))
          have rd79 := Rd.kept rd53 (SG.below s76)
          refine h19 _ _ ?_
          refine region_quiet [(0, false)] rfl ?_
          refine sq (v := .bool true) rfl (r_assign rfl rfl) rfl rfl rfl ?_
          refine sch_end ?_
          simp only [List.set_cons_zero, List.set_cons_succ]
          refine h13 _ _ ?_
          refine region_quiet [(0, false), (1, false), (2, false)] rfl ?_
          refine sq (v := .int .i64 ((i : Nat) : Int)) rfl (r_move rfl rfl) rfl rfl rfl ?_
          refine sq (v := .int .i64 ((i + 1 : Nat) : Int)) rfl (r_add (z := ((i + 1 : Nat) : Int)) rfl rfl rfl (by omega) (by omega)) rfl rfl rfl ?_
          refine sq (v := .int .i64 ((i + 1 : Nat) : Int)) rfl (r_assign rfl rfl) rfl rfl rfl ?_
          refine sch_end ?_
          simp only [List.set_cons_zero, List.set_cons_succ]
          exact h10 _ _ _ (by omega : (n - (i + 1)) < _) ⟨i + 1, putL (putL ys x32.fr) x32.to, true, A67, n68, c69, _, _, _, _, _, _, _, _, _, _, _, _, _, _, _, _, _, _, _, _, _, _, _, _, _, _, _, _, _, _, _, _, _, _, _, _, _, _, _, _, _, _, _, rfl, rfl, (by omega), (Fnd.put hf2 hx33 (by rw [q45, q49]; decide)), (by have h9 := put2_len (ys := ys) (a := x32.fr) (c := x32.to) (by rw [q45, q49]; decide); omega), (fun _ => by have h9 := put2_len (ys := ys) (a := x32.fr) (c := x32.to) (by rw [q45, q49]; decide); omega), (fun e => by cases e), x6, fm71, rd70, c78⟩
      · rw [q45]
        refine sc (vs := [.slice A1_5 n1_5 c1_5, .int .i64 x32.to]) rfl rfl rfl (by kernel_rfl) rfl rfl (l1Has_any A1_5 n1_5 c1_5 ys x32.to _ (Rd.kept rd1_5 (SG.below s44)) (by omega)) ?_
        rintro e w81 ⟨rfl, b80⟩
        have s82 := SG.of_below s44 b80
        refine ⟨_, rfl, s82, ?_⟩
        rcases Bool.eq_false_or_eq_true (ys.contains x32.to) with q83 | q83
        · rw [q83]
          refine sq (v := .bool false) rfl (r_assign rfl rfl) rfl rfl rfl ?_
          simp only [List.set_cons_zero, List.set_cons_succ]
          refine sq (v := .bool true) rfl (r_assign rfl rfl) rfl rfl rfl ?_
          refine sch_end ?_
          simp only [List.set_cons_zero, List.set_cons_succ]
          have x6 := SG.blk s82 x6 (by simp)
          have c84 := (SG.belowR c27 s82 (fun kq e => by cases e))
          have rd85 := Rd.kept rd1_5 (SG.below s82)
          refine h14 _ _ ?_
          refine wp_seq_k (fun K20 h20 => ?_)
          refine wp_seq_k (fun K21 h21 => ?_)
          refine region_quiet [(0, false), (1, false), (2, false)] rfl ?_
          refine sq (v := .bool false) rfl (r_move rfl rfl) rfl rfl rfl ?_
          refine sq (v := .bool true) rfl (r_move rfl rfl) rfl rfl rfl ?_
          refine sq (v := .bool false) rfl (r_eqlB rfl rfl rfl (by kernel_rfl) rfl) rfl rfl rfl ?_
          refine sch_end ?_
          simp only [List.set_cons_zero, List.set_cons_succ]
          refine h21 _ _ ?_
          refine wp_cond_false rfl ?_
          refine wp_skip ?_
          refine h20 _ _ ?_
          refine wp_seq_k (fun K22 h22 => ?_)
          refine region_sch (row := none) (Sch.of [(0, false), (1, false), (2, false), (3, false), (4, false), (5, false), (6, false), (8, false), (9, false), (10, false), (11, false), (12, false), (13, false), (7, true), (14, true), (15, false)]) (by kernel_rfl) (by kernel_rfl) (fun _ d _ _ _ h => by cases d <;> exact h) (by kernel_rfl) (fun w86 e87 s88 => ?_)
          refine sq (v := .slice A1_5 n1_5 c1_5) rfl (r_move rfl rfl) rfl rfl rfl ?_
          refine sq (v := .pointer (some ⟨b2, 1, none⟩)) rfl (r_field (k := 1) rfl rfl (by kernel_rfl)) rfl rfl rfl ?_
          refine sq (v := .slice A n c) rfl (r_load rfl rfl (by kernel_rfl) (sgS (blk_cell (j := 1) x6 rfl) (by simp))) rfl rfl rfl ?_
          refine sq (v := .int .i64 ((i : Nat) : Int)) rfl (r_move rfl rfl) rfl rfl rfl ?_
          refine sq (v := .pointer (some ⟨b34, o35 + i * 4, none⟩)) rfl (r_idx (k := i) rfl rfl hA36 rfl (by kernel_rfl) (by have := hl; omega)) rfl rfl rfl ?_
          simp only [List.set_cons_zero, List.set_cons_succ]
          refine sq (v := .pointer (some ⟨b34, o35 + i * 4 + 1, none⟩)) rfl (r_field (k := 1) rfl rfl (by kernel_rfl)) rfl rfl rfl ?_
          refine sq (v := .int .i64 x32.fr) rfl (r_load rfl rfl (by kernel_rfl) (sgS (later c84 hc39) (by simp))) rfl rfl rfl ?_
          refine sq (v := .pointer (some ⟨b2, 1, none⟩)) rfl (r_field (k := 1) rfl rfl (by kernel_rfl)) rfl rfl rfl ?_
          refine sq (v := .slice A n c) rfl (r_load rfl rfl (by kernel_rfl) (sgS (blk_cell (j := 1) x6 rfl) (by simp))) rfl rfl rfl ?_
          refine sq (v := .int .i64 ((i : Nat) : Int)) rfl (r_move rfl rfl) rfl rfl rfl ?_
          simp only [List.set_cons_zero, List.set_cons_succ]
          refine sq (v := .pointer (some ⟨b34, o35 + i * 4, none⟩)) rfl (r_idx (k := i) rfl rfl hA36 rfl (by kernel_rfl) (by have := hl; omega)) rfl rfl rfl ?_
          refine sq (v := .pointer (some ⟨b34, o35 + i * 4 + 2, none⟩)) rfl (r_field (k := 2) rfl rfl (by kernel_rfl)) rfl rfl rfl ?_
          refine sq (v := .int .i64 x32.to) rfl (r_load rfl rfl (by kernel_rfl) (sgS (later c84 hc40) (by simp))) rfl rfl rfl ?_
          refine sc (vs := [.slice A1_5 n1_5 c1_5, .int .i64 x32.fr]) rfl rfl rfl (by kernel_rfl) rfl rfl (l1Put_any A1_5 n1_5 c1_5 ys x32.fr _ (Rd.kept rd85 (SG.below s88)) fm1_5 (by have h7 := hl1_5; first | omega)) ?_
          rintro e w97 ⟨A89, n90, c91, rfl, rd92, fm93, b96⟩
          have s98 := SG.of_below s88 b96
          refine ⟨_, rfl, s98, ?_⟩
          have hl94 := rd_ints_len rd92
          refine sc (vs := [.slice A89 n90 c91, .int .i64 x32.to]) rfl rfl rfl (by kernel_rfl) rfl rfl (l1Put_any A89 n90 c91 (putL ys x32.fr) x32.to _ rd92 fm93 (by have h7 := hl94; first | omega | (have h8 := putL_len_le ys x32.fr; omega))) ?_
          rintro e w107 ⟨A99, n100, c101, rfl, rd102, fm103, b106⟩
          have s108 := SG.of_below s98 b106
          refine ⟨_, rfl, s108, ?_⟩
          have rd109 := Rd.kept rd92 b106
          have hl104 := rd_ints_len rd102
          refine sq (v := .slice A99 n100 c101) rfl (r_assign rfl rfl) rfl rfl rfl ?_
          simp only [List.set_cons_zero, List.set_cons_succ]
          refine sch_end ?_
          have x6 := SG.blk s108 x6 (by simp)
          have c110 := (SG.belowR c84 s108 (fun kq e => by cases e))
          have rd111 := Rd.kept rd85 (SG.below s108)
          refine h22 _ _ ?_
          refine region_quiet [(0, false)] rfl ?_
          refine sq (v := .bool true) rfl (r_assign rfl rfl) rfl rfl rfl ?_
          refine sch_end ?_
          simp only [List.set_cons_zero, List.set_cons_succ]
          refine h13 _ _ ?_
          refine region_quiet [(0, false), (1, false), (2, false)] rfl ?_
          refine sq (v := .int .i64 ((i : Nat) : Int)) rfl (r_move rfl rfl) rfl rfl rfl ?_
          refine sq (v := .int .i64 ((i + 1 : Nat) : Int)) rfl (r_add (z := ((i + 1 : Nat) : Int)) rfl rfl rfl (by omega) (by omega)) rfl rfl rfl ?_
          refine sq (v := .int .i64 ((i + 1 : Nat) : Int)) rfl (r_assign rfl rfl) rfl rfl rfl ?_
          refine sch_end ?_
          simp only [List.set_cons_zero, List.set_cons_succ]
          exact h10 _ _ _ (by omega : (n - (i + 1)) < _) ⟨i + 1, putL (putL ys x32.fr) x32.to, true, A99, n100, c101, _, _, _, _, _, _, _, _, _, _, _, _, _, _, _, _, _, _, _, _, _, _, _, _, _, _, _, _, _, _, _, _, _, _, _, _, _, _, _, _, _, _, _, rfl, rfl, (by omega), (Fnd.put hf2 hx33 (by rw [q45, q83]; decide)), (by have h9 := put2_len (ys := ys) (a := x32.fr) (c := x32.to) (by rw [q45, q83]; decide); omega), (fun _ => by have h9 := put2_len (ys := ys) (a := x32.fr) (c := x32.to) (by rw [q45, q83]; decide); omega), (fun e => by cases e), x6, fm103, rd102, c110⟩
        · rw [q83]
          refine sq (v := .bool false) rfl (r_assign rfl rfl) rfl rfl rfl ?_
          simp only [List.set_cons_zero, List.set_cons_succ]
          refine sq (v := .bool false) rfl (r_assign rfl rfl) rfl rfl rfl ?_
          refine sch_end ?_
          simp only [List.set_cons_zero, List.set_cons_succ]
          have x6 := SG.blk s82 x6 (by simp)
          have c112 := (SG.belowR c27 s82 (fun kq e => by cases e))
          have rd113 := Rd.kept rd1_5 (SG.below s82)
          refine h14 _ _ ?_
          refine wp_seq_k (fun K23 h23 => ?_)
          refine wp_seq_k (fun K24 h24 => ?_)
          refine region_quiet [(0, false), (1, false), (2, false)] rfl ?_
          refine sq (v := .bool false) rfl (r_move rfl rfl) rfl rfl rfl ?_
          refine sq (v := .bool false) rfl (r_move rfl rfl) rfl rfl rfl ?_
          refine sq (v := .bool true) rfl (r_eqlB rfl rfl rfl (by kernel_rfl) rfl) rfl rfl rfl ?_
          refine sch_end ?_
          simp only [List.set_cons_zero, List.set_cons_succ]
          refine h24 _ _ ?_
          refine wp_cond_true rfl ?_
          refine wp_exit ?_
          refine h13 _ _ ?_
          refine region_quiet [(0, false), (1, false), (2, false)] rfl ?_
          refine sq (v := .int .i64 ((i : Nat) : Int)) rfl (r_move rfl rfl) rfl rfl rfl ?_
          refine sq (v := .int .i64 ((i + 1 : Nat) : Int)) rfl (r_add (z := ((i + 1 : Nat) : Int)) rfl rfl rfl (by omega) (by omega)) rfl rfl rfl ?_
          refine sq (v := .int .i64 ((i + 1 : Nat) : Int)) rfl (r_assign rfl rfl) rfl rfl rfl ?_
          refine sch_end ?_
          simp only [List.set_cons_zero, List.set_cons_succ]
          exact h10 _ _ _ (by omega : (n - (i + 1)) < _) ⟨i + 1, ys, mo2, A1_5, n1_5, c1_5, _, _, _, _, _, _, _, _, _, _, _, _, _, _, _, _, _, _, _, _, _, _, _, _, _, _, _, _, _, _, _, _, _, _, _, _, _, _, _, _, _, _, _, rfl, rfl, (by omega), hf2, hle, hmt, (fun e => ⟨(hmf e).1, shutTo.next (hmf e).2 hx33 (by rw [q45, q83])⟩), x6, fm1_5, rd113, c112⟩
    · refine sq (v := .bool false) rfl (r_lss rfl rfl rfl (decide_eq_false q28)) rfl rfl rfl ?_
      simp only [List.set_cons_zero, List.set_cons_succ]
      refine sch_end ?_
      refine h12 _ _ ?_
      refine wp_cond_false rfl ?_
      refine wp_exit ?_
      exact h5 _ _ _ (by rcases Bool.eq_false_or_eq_true mo2 with e | e <;> rw [e] <;> simp only [Bool.toNat_true, Bool.toNat_false, qmo] <;> first | (have h9 := hmt e; have h8 := hf2.len hp hv; omega) | (rw [(hmf e).1]; omega) : (2 * (9 - ys.length) + mo2.toNat) < _) ⟨ys, mo2, A1_5, n1_5, c1_5, _, _, _, _, _, _, _, _, _, _, _, _, _, _, _, _, _, _, _, _, _, _, _, _, _, _, _, _, _, _, _, _, _, _, _, _, _, _, _, _, _, _, _, _, _, rfl, rfl, hf2, (fun e => (hmf e).2 |> fun h => (by have hi := (by omega : i = n); subst hi; rw [← hl] at h; exact h)), x6, fm1_5, rd1_5, c27⟩
  · rw [q26]
    have qmo := q26
    refine wp_cond_false rfl ?_
    refine wp_exit ?_
    refine h3 _ _ ?_
    refine wp_seq_k (fun K25 h25 => ?_)
    refine region_quiet [(0, false), (1, false)] rfl ?_
    refine sq (v := .slice A0_5 n0_5 c0_5) rfl (r_move rfl rfl) rfl rfl rfl ?_
    refine sq (v := .slice A0_5 n0_5 c0_5) rfl (r_assign rfl rfl) rfl rfl rfl ?_
    refine sch_end ?_
    simp only [List.set_cons_zero, List.set_cons_succ]
    refine h25 _ _ ?_
    refine wp_ret ?_
    try simp only [Exit.then]
    refine ret1 rfl rfl ?_
    have e9 := Fnd.fin hf hp hv (hsh q26)
    exact ⟨_, _, _, rfl, (by rw [← e9]; exact rd0_5), fm0_5, c25⟩

end Go.Proofs.Ytdlcldaogcbnlaa
