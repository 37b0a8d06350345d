/- The program's distances from a node, by a queue. -/
import Derived.Test.YtdlcldaogcbnlaaNetC
import Derived.Test.YtdlcldaogcbnlaaQueue
namespace Go.Proofs.Ytdlcldaogcbnlaa
open Go.RowKit
set_option linter.unusedVariables false

theorem fill_set (N k : Nat) (h : k < N) : List.replicate (k + 1) (-1 : Int) ++ List.replicate (N - (k + 1)) 0 = (List.replicate k (-1 : Int) ++ List.replicate (N - k) 0).set k (-1) := by
  rw [List.set_append_right _ _ (by simp), List.length_replicate, Nat.sub_self]
  obtain ⟨d, hd⟩ : ∃ d, N - k = d + 1 := ⟨N - k - 1, by omega⟩
  rw [hd, show N - (k + 1) = d by omega, List.replicate_succ (n := d), List.set_cons_zero, List.replicate_succ', List.append_assoc]; rfl
theorem q_split {q : List Int} {n : Nat} (hl : q.length = n) (h : 0 < n) : ∃ h rest, q = h :: rest := by
  cases q with
  | nil => simp at hl; omega
  | cons h r => exact ⟨h, r, rfl⟩
theorem bare_start (N : Nat) (u : Int) (hu : 1 ≤ u ∧ u ≤ N) : bare ((List.replicate (N + 1) (-1)).set u.toNat 0) = N := by
  have h1 : bare (List.replicate (N + 1) (-1 : Int)) = N + 1 := by unfold bare; rw [List.countP_replicate]; simp
  have := bare_set (out := List.replicate (N + 1) (-1 : Int)) (i := u.toNat) (z := -1) (v := 0) (by rw [List.getElem?_replicate, if_pos (by omega)]) (by omega) (by omega)
  omega
/-- Labels stay small. -/
def small (N : Nat) (out : List Int) : Prop := ∀ b, lab out b + (bare out : Int) ≤ (N : Int) + 1
theorem small_start (N : Nat) (u : Int) (hu : 1 ≤ u ∧ u ≤ N) : small N ((List.replicate (N + 1) (-1)).set u.toNat 0) := fun b => by
  rw [bare_start N u hu, lab_set (by omega) (by simp; omega), lab_fill]
  split <;> omega
theorem small_set {N : Nat} {out : List Int} (h : small N out) {v : Int} (h0 : 0 ≤ v) (h1 : v < out.length) (hn : lab out v < 0) {u : Int} (hu : 0 ≤ lab out u) : small N (out.set v.toNat (lab out u + 1)) ∧ bare (out.set v.toNat (lab out u + 1)) + 1 = bare out := by
  have hb := bare_set (lab_get h0 h1) hn (v := lab out u + 1) (by omega)
  refine ⟨fun b => ?_, hb⟩
  rw [lab_set h0 h1]
  have h2 := h u
  have h3 := h b
  split <;> omega
/-- All neighbours over the pipes before i have their labels. -/
def nearTo (ps : List Pp) (wo h : Int) (out : List Int) (i : Nat) : Prop := ∀ j p, j < i → ps[j]? = some p → p.id ≠ wo → 0 < otherOf p h → 0 ≤ lab out (otherOf p h) ∧ lab out (otherOf p h) ≤ lab out h + 1
theorem nearTo.skip {ps : List Pp} {wo h : Int} {out : List Int} {i : Nat} {x : Pp} (H : nearTo ps wo h out i) (hx : ps[i]? = some x) (hs : ¬ (x.id ≠ wo ∧ 0 < otherOf x h) ∨ (0 ≤ lab out (otherOf x h) ∧ lab out (otherOf x h) ≤ lab out h + 1)) : nearTo ps wo h out (i + 1) := by
  intro j p hj hp h1 h2
  by_cases e : j = i
  · subst e; rw [hx] at hp; cases hp
    rcases hs with hs | hs
    · exact absurd ⟨h1, h2⟩ hs
    · exact hs
  · exact H j p (by omega) hp h1 h2
theorem nearTo.mono {ps : List Pp} {wo h : Int} {out out' : List Int} {i : Nat} (H : nearTo ps wo h out i) (hk : ∀ b, 0 ≤ lab out b → lab out' b = lab out b) (h0 : 0 ≤ lab out h) : nearTo ps wo h out' i := by
  intro j p hj hp h1 h2
  have := H j p hj hp h1 h2
  rw [hk _ this.1, hk _ h0]; exact this
theorem nearTo.all {ps : List Pp} {wo h : Int} {out : List Int} {N : Nat} (hp : pipesIn ps N) (H : nearTo ps wo h out ps.length) : ∀ v, joined (without ps wo) h v → 0 ≤ lab out v ∧ lab out v ≤ lab out h + 1 := by
  rintro v ⟨p, hm, he⟩
  obtain ⟨hm, hid⟩ := mem_without.1 hm
  have hin := hp p hm
  have e := ends_other hin.2.2 he
  obtain ⟨j, hj, hg⟩ := List.getElem_of_mem hm
  have := H j p hj (by rw [List.getElem?_eq_getElem hj, hg]) hid (by rw [e]; rcases he with ⟨rfl, rfl⟩ | ⟨rfl, rfl⟩ <;> omega)
  rwa [e] at this
theorem other_in {ps : List Pp} {N : Nat} (hp : pipesIn ps N) {i : Nat} {x : Pp} (hx : ps[i]? = some x) {h : Int} (ho : 0 < otherOf x h) : (1 ≤ otherOf x h ∧ otherOf x h ≤ N) ∧ (1 ≤ h ∧ h ≤ N) := by
  have hin := hp x (List.mem_of_getElem? hx)
  rcases other_ends ho with ⟨e1, e2⟩ | ⟨e1, e2⟩
  · rw [← e2, ← e1]; omega
  · rw [← e1, ← e2]; omega
theorem other_join {ps : List Pp} {wo : Int} {i : Nat} {x : Pp} (hx : ps[i]? = some x) {h : Int} (ho : 0 < otherOf x h) (hid : x.id ≠ wo) : joined (without ps wo) h (otherOf x h) := ⟨x, mem_without.2 ⟨List.mem_of_getElem? hx, hid⟩, other_ends ho⟩

set_option maxRecDepth 100000 in
set_option maxHeartbeats 1000000 in
theorem distances_any (m : Int) (A : Option Addr) (n c : Nat) (ps : List Pp) (u wo : Int) (w : World) (ha : Rd w 4 A n (pipesV ps)) (hn : n ≤ 1048576) (hp : pipesIn ps m.toNat) (hm : 1 ≤ m ∧ m ≤ 8) (hu0 : 1 ≤ u ∧ u ≤ m) :
    Calls Try.prog 51 #[.agg #[.int .i64 m, .slice A n c], .int .i64 u, .int .i64 wo] w fun e w' => ∃ A' n' c', e = .returned (.slice A' n' c') ∧ w'.ownsRow w.heap.size 3 1 (.slice A' n' c') n' (intsV (distList (joined (without ps wo)) m.toNat u)) ∧ Below w.heap.size w w' := by
  have hl := rd_pipes_len ha
  have hu : 1 ≤ u ∧ u ≤ (m.toNat : Int) := by omega
  go_enter Try.func51, Try.ntmps51
  refine wp_seq_k (fun K1 h1 => ?_)
  refine region_plain (row := none) [(0, true), (1, false)] rfl ?_
  have s1 := SG.self w none
  refine sn (fun b => .pointer (some ⟨b, 0, none⟩)) #[.int .i64 m, .slice A n c] 31 s1 rfl rfl rfl (fun _ => by kernel_rfl) (fun b2 w3 hb4 k5 x6 s7 => ?_)
  have lo8 : w.heap.size ≤ b2 := by have := ((SG.belowR (Below.refl _ _) s1 (fun kq e => by cases e))).size; omega
  refine sq (v := .slice none 0 0) rfl (r_assign rfl rfl) rfl rfl rfl ?_
  refine sch_end ?_
  simp only [List.set_cons_zero, List.set_cons_succ]
  have c9 := (SG.belowR (Below.refl _ _) s7 (fun kq e => by cases e))
  refine h1 _ _ ?_
  refine wp_seq_k (fun K2 h2 => ?_)
  refine region_plain (row := none) [(0, false), (1, false), (2, false), (3, true), (4, false)] rfl ?_
  have s10 := SG.self w3 none
  refine sq (v := .pointer (some ⟨b2, 0, none⟩)) rfl (r_field0 rfl rfl (by kernel_rfl)) rfl rfl rfl ?_
  refine sq (v := .int .i64 m) rfl (r_load rfl rfl (by kernel_rfl) (sgS (blk_cell (j := 0) x6 rfl) (by simp))) rfl rfl rfl ?_
  refine sq (v := .int .i64 (((m.toNat + 1) : Nat) : Int)) rfl (r_add (z := (((m.toNat + 1) : Nat) : Int)) rfl rfl rfl (by omega) (by omega)) rfl rfl rfl ?_
  refine sm (e := 3) (n := (m.toNat + 1)) w.heap.size s10 rfl rfl rfl rfl rfl rfl (by kernel_rfl) ⟨_, rfl, by kernel_rfl⟩ (by omega) (by have := ((SG.belowR c9 s10 (fun kq e => by cases e))).size; omega) (fun b11 w12 hb13 k14 ho15 s16 => ?_)
  have nb17 : Nb b2 (.slice (some ⟨b11, 0, none⟩) (m.toNat + 1) (m.toNat + 1)) := nb_new (by have h9 := Nat.lt_of_lt_of_le (blk_lt x6) (World.grownBy.size s10); omega)
  refine sq (v := .slice (some ⟨b11, 0, none⟩) (m.toNat + 1) (m.toNat + 1)) rfl (r_assign rfl rfl) rfl rfl rfl ?_
  simp only [List.set_cons_zero, List.set_cons_succ]
  refine sch_end ?_
  have x6 := SG.blk s16 x6 (by simp)
  have c18 := (SG.belowR c9 s16 (fun kq e => by cases e))
  refine h2 _ _ ?_
  refine wp_seq_k (fun K3 h3 => ?_)
  refine wp_seq_k (fun K4 h4 => ?_)
  refine region_quiet [(0, false), (1, false), (2, false)] rfl ?_
  refine sq (v := .slice (some ⟨b11, 0, none⟩) (m.toNat + 1) (m.toNat + 1)) rfl (r_move rfl rfl) rfl rfl rfl ?_
  refine sq (v := .int .i64 (((m.toNat + 1) : Nat) : Int)) rfl (r_len rfl rfl (by kernel_rfl)) rfl rfl rfl ?_
  refine sq (v := .int .i64 0) rfl (r_move rfl rfl) rfl rfl rfl ?_
  refine sch_end ?_
  simp only [List.set_cons_zero, List.set_cons_succ]
  refine h4 _ _ ?_
  refine wp_block ?_
  refine loopK (fun am0 aa0 wl0 => ∃ (k : Nat) (u0_8 u0_20 u0_21 u0_22 u0_23 u0_24 u0_25 : Value), aa0 = ⟨[.agg #[.int .i64 m, .slice A n c], .int .i64 u, .int .i64 wo, .pointer (some ⟨b2, 0, none⟩), undef, undef, .slice none 0 0, .slice (some ⟨b11, 0, none⟩) (m.toNat + 1) (m.toNat + 1), u0_8, undef, undef, undef, undef, .pointer (some ⟨b2, 0, none⟩), .int .i64 m, .int .i64 (((m.toNat + 1) : Nat) : Int), .slice (some ⟨b11, 0, none⟩) (m.toNat + 1) (m.toNat + 1), .slice (some ⟨b11, 0, none⟩) (m.toNat + 1) (m.toNat + 1), .int .i64 (((m.toNat + 1) : Nat) : Int), .int .i64 ((k : Nat) : Int), u0_20, u0_21, u0_22, u0_23, u0_24, u0_25, undef, undef, undef, undef, undef, undef, undef, undef, undef, undef, undef, undef, undef, undef, undef, undef, undef, undef, undef, undef, undef, undef, undef, undef, undef, undef, undef, undef, undef, undef, undef, undef, undef, undef, undef, undef, undef, undef, undef, undef, undef, undef, undef, undef, undef, undef, undef, undef, undef, undef, undef, undef, undef].toArray, []⟩ ∧ (am0 = (m.toNat + 1) - k) ∧ (k ≤ m.toNat + 1) ∧ (wl0.heap[b2]? = some (.cells #[.int .i64 m, .slice A n c] 31 (0, 0))) ∧ (wl0.ownsRow w.heap.size 3 1 (.slice (some ⟨b11, 0, none⟩) (m.toNat + 1) (m.toNat + 1)) (m.toNat + 1) (intsV (List.replicate k (-1) ++ List.replicate (m.toNat + 1 - k) 0))) ∧ (Below w.heap.size w wl0)) ((m.toNat + 1) - 0) ?_ ?_
  · exact ⟨0, _, _, _, _, _, _, _, rfl, rfl, (Nat.zero_le _), x6, ho15, c18⟩
  rintro am0 aa0 wl0 K5 h5 ⟨k, u0_8, u0_20, u0_21, u0_22, u0_23, u0_24, u0_25, rfl, rfl, hk, x6, ho0_7, c19⟩
  refine wp_seq_k (fun K6 h6 => ?_)
  refine region_quiet [(0, false)] rfl ?_
  by_cases q20 : (((k : Nat) : Int) : Int) < ((((m.toNat + 1) : Nat) : Int) : Int)
  · refine sq (v := .bool true) rfl (r_lss rfl rfl rfl (decide_eq_true q20)) rfl rfl rfl ?_
    refine sch_end ?_
    simp only [List.set_cons_zero, List.set_cons_succ]
    refine h6 _ _ ?_
    refine wp_seq_k (fun K7 h7 => ?_)
    refine wp_cond_true rfl ?_
    refine wp_skip ?_
    refine h7 _ _ ?_
    refine wp_seq_k (fun K8 h8 => ?_)
    refine wp_block ?_
    refine wp_seq_k (fun K9 h9 => ?_)
    refine region_quiet [(0, false), (1, false)] rfl ?_
    refine sq (v := .int .i64 ((k : Nat) : Int)) rfl (r_move rfl rfl) rfl rfl rfl ?_
    refine sq (v := .int .i64 ((k : Nat) : Int)) rfl (r_assign rfl rfl) rfl rfl rfl ?_
    refine sch_end ?_
    simp only [List.set_cons_zero, List.set_cons_succ]
    refine h9 _ _ ?_
    refine region_plain (row := (Value.ownBlock (.slice (some ⟨b11, 0, none⟩) (m.toNat + 1) (m.toNat + 1)))) [(0, false), (1, false), (2, false), (3, true)] rfl ?_
    have s21 := SG.self wl0 (Value.ownBlock (.slice (some ⟨b11, 0, none⟩) (m.toNat + 1) (m.toNat + 1)))
    refine sq (v := .slice (some ⟨b11, 0, none⟩) (m.toNat + 1) (m.toNat + 1)) rfl (r_move rfl rfl) rfl rfl rfl ?_
    refine sq (v := .int .i64 ((k : Nat) : Int)) rfl (r_move rfl rfl) rfl rfl rfl ?_
    refine sq (v := .pointer (some ⟨b11, k, none⟩)) rfl (r_idx0 (k := k) rfl rfl rfl (by kernel_rfl) (by omega)) rfl rfl rfl ?_
    refine ssr (base := w.heap.size) (e := 3) (j := k) (u := .int .i64 (-1)) s21 rfl rfl rfl rfl rfl rfl ho0_7 (by kernel_rfl) rfl rfl (by omega) (.inl rfl) (fun w22 ho23 g24 s25 => ?_)
    have ho23 := own_setI ho23
    refine sch_end ?_
    simp only [List.set_cons_zero, List.set_cons_succ]
    have x6 := SG.blk s25 x6 nb17
    have c26 := (SG.belowR c19 s25 (fun kq e => (World.ownsRow.lt ho0_7 kq e).1))
    refine h8 _ _ ?_
    refine region_quiet [(0, false), (1, false)] rfl ?_
    refine sq (v := .int .i64 ((k + 1 : Nat) : Int)) rfl (r_add (z := ((k + 1 : Nat) : Int)) rfl rfl rfl (by omega) (by omega)) rfl rfl rfl ?_
    refine sq (v := .int .i64 ((k + 1 : Nat) : Int)) rfl (r_move rfl rfl) rfl rfl rfl ?_
    refine sch_end ?_
    simp only [List.set_cons_zero, List.set_cons_succ]
    exact h5 _ _ _ (by omega : ((m.toNat + 1) - (k + 1)) < _) ⟨k + 1, _, _, _, _, _, _, _, rfl, rfl, (by omega), x6, (by rw [fill_set (m.toNat + 1) k (by omega)]; exact ho23), c26⟩
  · refine sq (v := .bool false) rfl (r_lss rfl rfl rfl (decide_eq_false q20)) rfl rfl rfl ?_
    refine sch_end ?_
    simp only [List.set_cons_zero, List.set_cons_succ]
    refine h6 _ _ ?_
    refine wp_seq_k (fun K10 h10 => ?_)
    refine wp_cond_false rfl ?_
    refine wp_exit ?_
    refine h3 _ _ ?_
    refine wp_seq_k (fun K11 h11 => ?_)
    refine region_plain (row := (Value.ownBlock (.slice (some ⟨b11, 0, none⟩) (m.toNat + 1) (m.toNat + 1)))) [(0, false), (1, false), (2, false), (3, true)] rfl ?_
    have s27 := SG.self wl0 (Value.ownBlock (.slice (some ⟨b11, 0, none⟩) (m.toNat + 1) (m.toNat + 1)))
    refine sq (v := .slice (some ⟨b11, 0, none⟩) (m.toNat + 1) (m.toNat + 1)) rfl (r_move rfl rfl) rfl rfl rfl ?_
    refine sq (v := .int .i64 u) rfl (r_move rfl rfl) rfl rfl rfl ?_
    refine sq (v := .pointer (some ⟨b11, (u).toNat, none⟩)) rfl (r_idx0 (k := (u).toNat) rfl rfl (by show Value.int .i64 u = _; rw [Int.toNat_of_nonneg (by omega)]) (by kernel_rfl) (by omega)) rfl rfl rfl ?_
    refine ssr (base := w.heap.size) (e := 3) (j := (u).toNat) (u := .int .i64 0) s27 rfl rfl rfl rfl rfl rfl ho0_7 (by kernel_rfl) rfl rfl (by omega) (.inl rfl) (fun w28 ho29 g30 s31 => ?_)
    have ho29 := own_setI ho29
    refine sch_end ?_
    simp only [List.set_cons_zero, List.set_cons_succ]
    have x6 := SG.blk s31 x6 nb17
    have c32 := (SG.belowR c19 s31 (fun kq e => (World.ownsRow.lt ho0_7 kq e).1))
    refine h11 _ _ ?_
    refine wp_seq_k (fun K12 h12 => ?_)
    refine wp_seq_k (fun K13 h13 => ?_)
    refine region_plain (row := none) [(0, false), (1, true), (2, false)] rfl ?_
    have s33 := SG.self w28 none
    refine sq (v := .int .i64 u) rfl (r_move rfl rfl) rfl rfl rfl ?_
    refine sn (fun b => .slice (some ⟨b, 0, none⟩) 1 1) #[.int .i64 u] 3 s33 rfl rfl rfl (fun _ => by kernel_rfl) (fun b34 w35 hb36 k37 x38 s39 => ?_)
    have lo40 : w.heap.size ≤ b34 := by have := ((SG.belowR c32 s33 (fun kq e => by cases e))).size; omega
    have ne41 : b2 ≠ b34 := by have := blk_lt x6; have := World.grownBy.size s33; omega
    have nb42 : Nb b34 (.slice (some ⟨b11, 0, none⟩) (m.toNat + 1) (m.toNat + 1)) := nb_hi ho29 (Nat.le_of_eq hb36)
    have ho43 := own_kept ho29 k37
    refine sq (v := .slice (some ⟨b34, 0, none⟩) 1 1) rfl (r_assign rfl rfl) rfl rfl rfl ?_
    refine sch_end ?_
    simp only [List.set_cons_zero, List.set_cons_succ]
    have x6 := SG.blk s39 x6 (by simp)
    have c44 := (SG.belowR c32 s39 (fun kq e => by cases e))
    refine h13 _ _ ?_
    refine wp_block ?_
    have ho45 := own_blk (base := w.heap.size) (size := 1) (n := 1) x38 lo40 rfl (by omega)
    replace ho45 : World.ownsRow _ _ _ _ _ _ (intsV [u]) := ho45
    have nr46 : NbR (.slice (some ⟨b34, 0, none⟩) 1 1) (.slice (some ⟨b11, 0, none⟩) (m.toNat + 1) (m.toNat + 1)) := nbr_new nb42
    have nb47 : Nb b2 (.slice (some ⟨b34, 0, none⟩) 1 1) := nb_new (by have := ne41; omega)
    obtain rfl : k = m.toNat + 1 := by omega
    refine loopK (fun am1 aa1 wl1 => ∃ (out : List Int) (qu : List Int) (A1_9 : Option Addr) (n1_9 : Nat) (c1_9 : Nat) (u1_11 u1_12 u1_31 u1_32 u1_33 u1_34 u1_35 u1_36 u1_37 u1_38 u1_39 u1_40 u1_41 u1_42 u1_43 u1_44 u1_45 u1_46 u1_47 u1_48 u1_49 u1_50 u1_51 u1_52 u1_53 u1_54 u1_55 u1_56 u1_57 u1_58 u1_59 u1_60 u1_61 u1_62 u1_63 u1_64 u1_65 u1_66 u1_67 u1_68 u1_69 u1_70 u1_71 u1_72 u1_73 u1_74 u1_75 u1_76 u1_77 : Value), aa1 = ⟨[.agg #[.int .i64 m, .slice A n c], .int .i64 u, .int .i64 wo, .pointer (some ⟨b2, 0, none⟩), undef, undef, .slice none 0 0, .slice (some ⟨b11, 0, none⟩) (m.toNat + 1) (m.toNat + 1), u0_8, .slice A1_9 n1_9 c1_9, undef, u1_11, u1_12, .pointer (some ⟨b2, 0, none⟩), .int .i64 m, .int .i64 (((m.toNat + 1) : Nat) : Int), .slice (some ⟨b11, 0, none⟩) (m.toNat + 1) (m.toNat + 1), .slice (some ⟨b11, 0, none⟩) (m.toNat + 1) (m.toNat + 1), .int .i64 (((m.toNat + 1) : Nat) : Int), .int .i64 (((m.toNat + 1) : Nat) : Int), .bool false, u0_21, u0_22, u0_23, u0_24, u0_25, .slice (some ⟨b11, 0, none⟩) (m.toNat + 1) (m.toNat + 1), .int .i64 u, .pointer (some ⟨b11, (u).toNat, none⟩), .int .i64 u, .slice (some ⟨b34, 0, none⟩) 1 1, u1_31, u1_32, u1_33, u1_34, u1_35, u1_36, u1_37, u1_38, u1_39, u1_40, u1_41, u1_42, u1_43, u1_44, u1_45, u1_46, u1_47, u1_48, u1_49, u1_50, u1_51, u1_52, u1_53, u1_54, u1_55, u1_56, u1_57, u1_58, u1_59, u1_60, u1_61, u1_62, u1_63, u1_64, u1_65, u1_66, u1_67, u1_68, u1_69, u1_70, u1_71, u1_72, u1_73, u1_74, u1_75, u1_76, u1_77, undef].toArray, []⟩ ∧ (am1 = bare out + qu.length) ∧ (Bfs (joined (without ps wo)) m.toNat u out qu) ∧ (small m.toNat out) ∧ (bare out + qu.length ≤ m.toNat + 1) ∧ (wl1.heap[b2]? = some (.cells #[.int .i64 m, .slice A n c] 31 (0, 0))) ∧ (wl1.ownsRow w.heap.size 3 1 (.slice (some ⟨b11, 0, none⟩) (m.toNat + 1) (m.toNat + 1)) (m.toNat + 1) (intsV out)) ∧ (QRow wl1 w.heap.size A1_9 n1_9 c1_9 qu) ∧ (Nb b2 (.slice A1_9 n1_9 c1_9)) ∧ (NbR (.slice A1_9 n1_9 c1_9) (.slice (some ⟨b11, 0, none⟩) (m.toNat + 1) (m.toNat + 1))) ∧ (Below w.heap.size w wl1)) (bare ((List.replicate (m.toNat + 1) (-1)).set u.toNat 0) + ([u]).length) ?_ ?_
    · exact ⟨(List.replicate (m.toNat + 1) (-1)).set u.toNat 0, [u], (some ⟨b34, 0, none⟩), 1, 1, _, _, _, _, _, _, _, _, _, _, _, _, _, _, _, _, _, _, _, _, _, _, _, _, _, _, _, _, _, _, _, _, _, _, _, _, _, _, _, _, _, _, _, _, _, _, _, _, _, rfl, rfl, (Bfs.init hu), (small_start _ _ hu), (by rw [bare_start _ _ hu]; simp), x6, (by rw [(show (List.replicate (m.toNat + 1) (-1)).set u.toNat 0 = (List.replicate (m.toNat + 1) (-1) ++ List.replicate (m.toNat + 1 - (m.toNat + 1)) 0).set u.toNat 0 from by rw [Nat.sub_self, List.replicate_zero, List.append_nil])]; exact ho43), (QRow.of ho45 (by simp)), nb47, nr46, c44⟩
    rintro am1 aa1 wl1 K14 h14 ⟨out, qu, A1_9, n1_9, c1_9, u1_11, u1_12, u1_31, u1_32, u1_33, u1_34, u1_35, u1_36, u1_37, u1_38, u1_39, u1_40, u1_41, u1_42, u1_43, u1_44, u1_45, u1_46, u1_47, u1_48, u1_49, u1_50, u1_51, u1_52, u1_53, u1_54, u1_55, u1_56, u1_57, u1_58, u1_59, u1_60, u1_61, u1_62, u1_63, u1_64, u1_65, u1_66, u1_67, u1_68, u1_69, u1_70, u1_71, u1_72, u1_73, u1_74, u1_75, u1_76, u1_77, rfl, rfl, hB, hsm, hbd, x6, ho1_7, ho1_9, nb1_9_b2, nr1_1_0, c48⟩
    refine wp_seq_k (fun K15 h15 => ?_)
    refine wp_seq_k (fun K16 h16 => ?_)
    refine region_quiet [(0, false), (1, false), (2, false)] rfl ?_
    refine sq (v := .slice A1_9 n1_9 c1_9) rfl (r_move rfl rfl) rfl rfl rfl ?_
    refine sq (v := .int .i64 ((n1_9 : Nat) : Int)) rfl (r_len rfl rfl (by kernel_rfl)) rfl rfl rfl ?_
    by_cases q49 : (((n1_9 : Nat) : Int) : Int) > (0 : Int)
    · obtain ⟨h, rest, rfl⟩ := q_split (rd_ints_len (QRow.rd ho1_9)) (by omega)
      refine sq (v := .bool true) rfl (r_gtr rfl rfl rfl (decide_eq_true q49)) rfl rfl rfl ?_
      refine sch_end ?_
      simp only [List.set_cons_zero, List.set_cons_succ]
      refine h16 _ _ ?_
      refine wp_cond_true rfl ?_
      refine wp_skip ?_
      refine h15 _ _ ?_
      refine wp_seq_k (fun K17 h17 => ?_)
      refine wp_block ?_
      refine wp_seq_k (fun K18 h18 => ?_)
      refine region_quiet [(0, false), (1, false), (2, false), (3, false)] rfl ?_
      refine sq (v := .pointer (some ⟨b2, 1, none⟩)) rfl (r_field (k := 1) rfl rfl (by kernel_rfl)) rfl rfl rfl ?_
      refine sq (v := .slice A n c) rfl (r_load rfl rfl (by kernel_rfl) (eqS (blk_cell (j := 1) x6 rfl))) rfl rfl rfl ?_
      refine sq (v := .int .i64 ((n : Nat) : Int)) rfl (r_len rfl rfl (by kernel_rfl)) rfl rfl rfl ?_
      refine sq (v := .int .i64 0) rfl (r_move rfl rfl) rfl rfl rfl ?_
      refine sch_end ?_
      simp only [List.set_cons_zero, List.set_cons_succ]
      refine h18 _ _ ?_
      refine wp_block ?_
      refine loopK (fun am2 aa2 wl2 => ∃ (i : Nat) (o2 : List Int) (r2 : List Int) (A2_9 : Option Addr) (n2_9 : Nat) (c2_9 : Nat) (u2_11 u2_12 u2_40 u2_41 u2_42 u2_43 u2_44 u2_45 u2_46 u2_47 u2_48 u2_49 u2_50 u2_51 u2_52 u2_53 u2_54 u2_55 u2_56 u2_57 u2_58 u2_59 u2_60 u2_61 u2_62 u2_63 u2_64 u2_65 u2_66 u2_67 u2_68 u2_69 u2_70 u2_71 u2_72 u2_73 u2_74 u2_75 u2_76 u2_77 : Value), aa2 = ⟨[.agg #[.int .i64 m, .slice A n c], .int .i64 u, .int .i64 wo, .pointer (some ⟨b2, 0, none⟩), undef, undef, .slice none 0 0, .slice (some ⟨b11, 0, none⟩) (m.toNat + 1) (m.toNat + 1), u0_8, .slice A2_9 n2_9 c2_9, undef, u2_11, u2_12, .pointer (some ⟨b2, 0, none⟩), .int .i64 m, .int .i64 (((m.toNat + 1) : Nat) : Int), .slice (some ⟨b11, 0, none⟩) (m.toNat + 1) (m.toNat + 1), .slice (some ⟨b11, 0, none⟩) (m.toNat + 1) (m.toNat + 1), .int .i64 (((m.toNat + 1) : Nat) : Int), .int .i64 (((m.toNat + 1) : Nat) : Int), .bool false, u0_21, u0_22, u0_23, u0_24, u0_25, .slice (some ⟨b11, 0, none⟩) (m.toNat + 1) (m.toNat + 1), .int .i64 u, .pointer (some ⟨b11, (u).toNat, none⟩), .int .i64 u, .slice (some ⟨b34, 0, none⟩) 1 1, .slice A1_9 n1_9 c1_9, .int .i64 ((n1_9 : Nat) : Int), .bool true, u1_34, u1_35, .pointer (some ⟨b2, 1, none⟩), .slice A n c, .int .i64 ((n : Nat) : Int), .int .i64 ((i : Nat) : Int), u2_40, u2_41, u2_42, u2_43, u2_44, u2_45, u2_46, u2_47, u2_48, u2_49, u2_50, u2_51, u2_52, u2_53, u2_54, u2_55, u2_56, u2_57, u2_58, u2_59, u2_60, u2_61, u2_62, u2_63, u2_64, u2_65, u2_66, u2_67, u2_68, u2_69, u2_70, u2_71, u2_72, u2_73, u2_74, u2_75, u2_76, u2_77, undef].toArray, []⟩ ∧ (am2 = n - i) ∧ (i ≤ n) ∧ (Bfs (joined (without ps wo)) m.toNat u o2 (h :: r2)) ∧ (small m.toNat o2) ∧ (bare o2 + r2.length = bare out + rest.length) ∧ (nearTo ps wo h o2 i) ∧ (wl2.heap[b2]? = some (.cells #[.int .i64 m, .slice A n c] 31 (0, 0))) ∧ (wl2.ownsRow w.heap.size 3 1 (.slice (some ⟨b11, 0, none⟩) (m.toNat + 1) (m.toNat + 1)) (m.toNat + 1) (intsV o2)) ∧ (QRow wl2 w.heap.size A2_9 n2_9 c2_9 (h :: r2)) ∧ (Nb b2 (.slice A2_9 n2_9 c2_9)) ∧ (NbR (.slice A2_9 n2_9 c2_9) (.slice (some ⟨b11, 0, none⟩) (m.toNat + 1) (m.toNat + 1))) ∧ (Below w.heap.size w wl2)) (n - 0) ?_ ?_
      · exact ⟨0, out, rest, A1_9, n1_9, c1_9, _, _, _, _, _, _, _, _, _, _, _, _, _, _, _, _, _, _, _, _, _, _, _, _, _, _, _, _, _, _, _, _, _, _, _, _, _, _, _, _, rfl, rfl, (Nat.zero_le _), hB, hsm, rfl, (fun j p hj => absurd hj (by omega)), x6, ho1_7, ho1_9, nb1_9_b2, nr1_1_0, c48⟩
      rintro am2 aa2 wl2 K19 h19 ⟨i, o2, r2, A2_9, n2_9, c2_9, u2_11, u2_12, u2_40, u2_41, u2_42, u2_43, u2_44, u2_45, u2_46, u2_47, u2_48, u2_49, u2_50, u2_51, u2_52, u2_53, u2_54, u2_55, u2_56, u2_57, u2_58, u2_59, u2_60, u2_61, u2_62, u2_63, u2_64, u2_65, u2_66, u2_67, u2_68, u2_69, u2_70, u2_71, u2_72, u2_73, u2_74, u2_75, u2_76, u2_77, rfl, rfl, hi, hB2, hsm2, hcnt, hnr, x6, ho2_7, ho2_9, nb2_9_b2, nr2_1_0, c50⟩
      have hlh := hB2.inq h (by simp)
      have hlb := hsm2 h
      have hl9 := rd_ints_len (QRow.rd ho2_9)
      rw [List.length_cons] at hl9 hbd
      refine wp_seq_k (fun K20 h20 => ?_)
      refine region_quiet [(0, false)] rfl ?_
      by_cases q51 : (((i : Nat) : Int) : Int) < (((n : Nat) : Int) : Int)
      · refine sq (v := .bool true) rfl (r_lss rfl rfl rfl (decide_eq_true q51)) rfl rfl rfl ?_
        refine sch_end ?_
        simp only [List.set_cons_zero, List.set_cons_succ]
        refine h20 _ _ ?_
        refine wp_seq_k (fun K21 h21 => ?_)
        refine wp_cond_true rfl ?_
        refine wp_skip ?_
        refine h21 _ _ ?_
        refine wp_seq_k (fun K22 h22 => ?_)
        refine wp_block ?_
        refine wp_seq_k (fun K23 h23 => ?_)
        refine region_plain (row := none) [(0, false), (1, false), (2, true), (3, true)] rfl ?_
        have s52 := SG.self wl2 none
        obtain ⟨x53, hx54⟩ := get_of (zs := ps) (k := i) (by have := hl; omega)
        obtain ⟨b55, o56, hA57, hb58, hc59, hc60, hc61, hc62⟩ := Rd.elPipe ha hx54
        refine sq (v := .pointer (some ⟨b55, o56 + i * 4, none⟩)) rfl (r_idx (k := i) rfl rfl hA57 rfl (by kernel_rfl) (by have := hl; omega)) rfl rfl rfl ?_
        refine sq (v := .agg #[.int .i64 x53.id, .int .i64 x53.fr, .int .i64 x53.to, .int .i64 x53.sz]) rfl (r_load4 rfl rfl (by kernel_rfl) (by kernel_rfl) (sgS (later c50 hc59) (by simp)) (sgS (later c50 hc60) (by simp)) (sgS (later c50 hc61) (by simp)) (sgS (later c50 hc62) (by simp))) rfl rfl rfl ?_
        refine sn (fun b => .pointer (some ⟨b, 0, none⟩)) #[.int .i64 0, .int .i64 0, .int .i64 0, .int .i64 0] 51 s52 rfl rfl rfl (fun _ => by kernel_rfl) (fun b63 w64 hb65 k66 x67 s68 => ?_)
        have lo69 : w.heap.size ≤ b63 := by have := ((SG.belowR c50 s52 (fun kq e => by cases e))).size; omega
        have ne70 : b2 ≠ b63 := by have := blk_lt x6; have := World.grownBy.size s52; omega
        have nb71 : Nb b63 (.slice (some ⟨b11, 0, none⟩) (m.toNat + 1) (m.toNat + 1)) := nb_hi ho2_7 (Nat.le_of_eq hb65)
        have nb72 : Nb b63 (.slice A2_9 n2_9 c2_9) := (fun e9 => by have h9 := (QRow.lt ho2_9 b63 e9.symm).2; omega)
        have ho73 := own_kept ho2_7 k66
        have ho74 := QRow.kept ho2_9 k66
        refine ss (j := 0) (news := [.int .i64 x53.id, .int .i64 x53.fr, .int .i64 x53.to, .int .i64 x53.sz]) (cs' := #[.int .i64 x53.id, .int .i64 x53.fr, .int .i64 x53.to, .int .i64 x53.sz]) s68 rfl rfl rfl rfl rfl rfl x67 rfl (by kernel_rfl) (by simp) rfl rfl (.inr (by have := World.grownBy.size s52; have := hb65; omega)) (fun w75 g76 x77 s78 => ?_)
        have ho79 := own_grown ho73 g76 (fun j e1 e2 => by cases e2; exact nb71 e1.symm)
        have ho80 := QRow.grown ho74 g76 (fun j e1 e2 => by cases e2; exact nb72 e1.symm)
        refine sch_end ?_
        simp only [List.set_cons_zero, List.set_cons_succ]
        have x6 := SG.blk s78 x6 (by simp)
        have c81 := (SG.belowR c50 s78 (fun kq e => by cases e))
        refine h23 _ _ ?_
        refine wp_seq_k (fun K24 h24 => ?_)
        refine region_sch (row := none) (Sch.of [(0, false), (1, false), (2, false), (3, false), (4, true), (5, false)]) (by kernel_rfl) (by kernel_rfl) (fun _ d _ _ _ h => by cases d <;> exact h) (by kernel_rfl) (fun w82 e83 s84 => ?_)
        have ho85 := own_heap ho79 e83
        have ho86 := QRow.heap ho80 e83
        refine sq (v := .agg #[.int .i64 x53.id, .int .i64 x53.fr, .int .i64 x53.to, .int .i64 x53.sz]) rfl (r_load4 rfl rfl (by kernel_rfl) (by kernel_rfl) (sgS (blk_cell (j := 0) x77 rfl) (by simp)) (sgS (blk_cell (j := 1) x77 rfl) (by simp)) (sgS (blk_cell (j := 2) x77 rfl) (by simp)) (sgS (blk_cell (j := 3) x77 rfl) (by simp))) rfl rfl rfl ?_
        refine sq (v := .slice A2_9 n2_9 c2_9) rfl (r_move rfl rfl) rfl rfl rfl ?_
        obtain ⟨b87, o88, hA89, hb90, hc91⟩ := Rd.elInt (QRow.rd ho80) (show (h :: r2)[0]? = some h from rfl)
        refine sq (v := .pointer (some ⟨b87, o88 + 0, none⟩)) rfl (r_idx1 (k := 0) rfl rfl hA89 (show _ = Value.int .i64 ((0 : Nat) : Int) from rfl) (by kernel_rfl) (by have h9 := rd_ints_len (QRow.rd ho86); have h8 := (List.getElem?_eq_some_iff.1 (show (h :: r2)[0]? = some h from rfl)).1; omega)) rfl rfl rfl ?_
        refine sq (v := .int .i64 h) rfl (r_load rfl rfl (by kernel_rfl) (sgS hc91 (by simp))) rfl rfl rfl ?_
        refine sc (vs := [.agg #[.int .i64 x53.id, .int .i64 x53.fr, .int .i64 x53.to, .int .i64 x53.sz], .int .i64 h]) rfl rfl rfl (by kernel_rfl) rfl rfl (other_any x53 h _) ?_
        rintro e w93 ⟨rfl, b92⟩
        have s94 := SG.of_below s84 b92
        refine ⟨_, rfl, s94, ?_⟩
        have ho95 := own_kept ho85 b92
        have ho96 := QRow.kept ho86 b92
        refine sq (v := .int .i64 (otherOf x53 h)) rfl (r_assign rfl rfl) rfl rfl rfl ?_
        simp only [List.set_cons_zero, List.set_cons_succ]
        refine sch_end ?_
        have x6 := SG.blk s94 x6 (by simp)
        have x77 := SG.blk s94 x77 (by simp)
        have c97 := (SG.belowR c81 s94 (fun kq e => by cases e))
        refine h24 _ _ ?_
        refine wp_seq_k (fun K25 h25 => ?_)
        refine region_quiet [(0, false), (1, false), (2, false), (3, false), (4, false), (5, false), (6, false), (7, false), (8, false), (9, false), (10, false), (11, false), (12, false), (13, false), (14, false)] rfl ?_
        refine sq (v := .int .i64 (otherOf x53 h)) rfl (r_move rfl rfl) rfl rfl rfl ?_
        by_cases q98 : (otherOf x53 h : Int) > (0 : Int)
        · have hin := other_in hp hx54 q98
          refine sq (v := .bool true) rfl (r_gtr rfl rfl rfl (decide_eq_true q98)) rfl rfl rfl ?_
          refine sq (v := .bool true) rfl (r_move rfl rfl) rfl rfl rfl ?_
          refine sq (v := .pointer (some ⟨b63, 0, none⟩)) rfl (r_field0 rfl rfl (by kernel_rfl)) rfl rfl rfl ?_
          refine sq (v := .int .i64 x53.id) rfl (r_load rfl rfl (by kernel_rfl) (eqS (blk_cell (j := 0) x77 rfl))) rfl rfl rfl ?_
          simp only [List.set_cons_zero, List.set_cons_succ]
          refine sq (v := .int .i64 wo) rfl (r_move rfl rfl) rfl rfl rfl ?_
          by_cases q99 : (x53.id : Int) ≠ (wo : Int)
          · refine sq (v := .bool true) rfl (r_neq rfl rfl rfl (decide_eq_true q99)) rfl rfl rfl ?_
            refine sq (v := .bool true) rfl (r_pick rfl rfl rfl) rfl rfl rfl ?_
            refine sq (v := .bool true) rfl (r_move rfl rfl) rfl rfl rfl ?_
            refine sq (v := .slice (some ⟨b11, 0, none⟩) (m.toNat + 1) (m.toNat + 1)) rfl (r_move rfl rfl) rfl rfl rfl ?_
            simp only [List.set_cons_zero, List.set_cons_succ]
            refine sq (v := .int .i64 (otherOf x53 h)) rfl (r_move rfl rfl) rfl rfl rfl ?_
            refine sq (v := .pointer (some ⟨b11, (otherOf x53 h).toNat, none⟩)) rfl (r_idx0 (k := (otherOf x53 h).toNat) rfl rfl (by show Value.int .i64 (otherOf x53 h) = _; rw [Int.toNat_of_nonneg (by omega)]) (by kernel_rfl) (by omega)) rfl rfl rfl ?_
            refine sq (v := .int .i64 (lab o2 (otherOf x53 h))) rfl (r_load rfl rfl (by kernel_rfl) (eqS (own_atI ho95 (lab_get (by omega) (by have h9 := hB2.len; omega))))) rfl rfl rfl ?_
            by_cases q100 : (lab o2 (otherOf x53 h) : Int) < (0 : Int)
            · refine sq (v := .bool true) rfl (r_lss rfl rfl rfl (decide_eq_true q100)) rfl rfl rfl ?_
              refine sq (v := .bool true) rfl (r_pick rfl rfl rfl) rfl rfl rfl ?_
              simp only [List.set_cons_zero, List.set_cons_succ]
              refine sch_end ?_
              refine h25 _ _ ?_
              refine wp_cond_true rfl ?_
              refine wp_seq_k (fun K26 h26 => ?_)
              refine region_plain (row := (Value.ownBlock (.slice (some ⟨b11, 0, none⟩) (m.toNat + 1) (m.toNat + 1)))) [(0, false), (1, false), (2, false), (3, false), (4, false), (5, true), (6, false), (7, true), (8, false), (9, false), (10, true)] rfl ?_
              have s101 := SG.self w93 (Value.ownBlock (.slice (some ⟨b11, 0, none⟩) (m.toNat + 1) (m.toNat + 1)))
              refine sq (v := .slice (some ⟨b11, 0, none⟩) (m.toNat + 1) (m.toNat + 1)) rfl (r_move rfl rfl) rfl rfl rfl ?_
              refine sq (v := .int .i64 (otherOf x53 h)) rfl (r_move rfl rfl) rfl rfl rfl ?_
              refine sq (v := .slice (some ⟨b11, 0, none⟩) (m.toNat + 1) (m.toNat + 1)) rfl (r_move rfl rfl) rfl rfl rfl ?_
              refine sq (v := .slice A2_9 n2_9 c2_9) rfl (r_move rfl rfl) rfl rfl rfl ?_
              obtain ⟨b102, o103, hA104, hb105, hc106⟩ := Rd.elInt (QRow.rd ho96) (show (h :: r2)[0]? = some h from rfl)
              refine sq (v := .pointer (some ⟨b102, o103 + 0, none⟩)) rfl (r_idx1 (k := 0) rfl rfl hA104 (show _ = Value.int .i64 ((0 : Nat) : Int) from rfl) (by kernel_rfl) (by have h9 := rd_ints_len (QRow.rd ho96); have h8 := (List.getElem?_eq_some_iff.1 (show (h :: r2)[0]? = some h from rfl)).1; omega)) rfl rfl rfl ?_
              simp only [List.set_cons_zero, List.set_cons_succ]
              refine slq (v := .int .i64 h) s101 rfl (r_load rfl rfl (by kernel_rfl) (eqS hc106)) rfl rfl ?_
              refine sq (v := .pointer (some ⟨b11, (h).toNat, none⟩)) rfl (r_idx0 (k := (h).toNat) rfl rfl (by show Value.int .i64 h = _; rw [Int.toNat_of_nonneg (by omega)]) (by kernel_rfl) (by omega)) rfl rfl rfl ?_
              refine slq (v := .int .i64 (lab o2 h)) s101 rfl (r_load rfl rfl (by kernel_rfl) (eqS (own_atI ho95 (lab_get (by omega) (by have h9 := hB2.len; omega))))) rfl rfl ?_
              refine sq (v := .int .i64 (lab o2 h + 1)) rfl (r_add (z := lab o2 h + 1) rfl rfl rfl (rfl) (by omega)) rfl rfl rfl ?_
              refine sq (v := .pointer (some ⟨b11, (otherOf x53 h).toNat, none⟩)) rfl (r_idx0 (k := (otherOf x53 h).toNat) rfl rfl (by show Value.int .i64 (otherOf x53 h) = _; rw [Int.toNat_of_nonneg (by omega)]) (by kernel_rfl) (by omega)) rfl rfl rfl ?_
              simp only [List.set_cons_zero, List.set_cons_succ]
              refine ssr (base := w.heap.size) (e := 3) (j := (otherOf x53 h).toNat) (u := .int .i64 (lab o2 h + 1)) s101 rfl rfl rfl rfl rfl rfl ho95 (by kernel_rfl) rfl rfl (by omega) (.inl rfl) (fun w107 ho108 g109 s110 => ?_)
              have ho108 := own_setI ho108
              have ho111 := QRow.grown ho96 g109 nr2_1_0
              refine sch_end ?_
              have x6 := SG.blk s110 x6 nb17
              have x77 := SG.blk s110 x77 nb71
              have c112 := (SG.belowR c97 s110 (fun kq e => (World.ownsRow.lt ho95 kq e).1))
              refine h26 _ _ ?_
              refine region_plain (row := (Value.ownBlock (.slice A2_9 n2_9 c2_9))) [(0, false), (1, false), (2, true), (3, true), (4, false)] rfl ?_
              have s113 := SG.self w107 (Value.ownBlock (.slice A2_9 n2_9 c2_9))
              refine sq (v := .slice A2_9 n2_9 c2_9) rfl (r_move rfl rfl) rfl rfl rfl ?_
              refine sq (v := .int .i64 (otherOf x53 h)) rfl (r_move rfl rfl) rfl rfl rfl ?_
              refine sn (fun b => .slice (some ⟨b, 0, none⟩) 1 1) #[.int .i64 (otherOf x53 h)] 3 s113 rfl rfl rfl (fun _ => by kernel_rfl) (fun b114 w115 hb116 k117 x118 s119 => ?_)
              have lo120 : w.heap.size ≤ b114 := by have := ((SG.belowR c112 s113 (fun kq e => (QRow.lt ho111 kq e).1))).size; omega
              have ne121 : b2 ≠ b114 := by have := blk_lt x6; have := World.grownBy.size s113; omega
              have ne122 : b63 ≠ b114 := by have := blk_lt x77; have := World.grownBy.size s113; omega
              have nb123 : Nb b114 (.slice (some ⟨b11, 0, none⟩) (m.toNat + 1) (m.toNat + 1)) := nb_hi ho108 (Nat.le_of_eq hb116)
              have nb124 : Nb b114 (.slice A2_9 n2_9 c2_9) := (fun e9 => by have h9 := (QRow.lt ho111 b114 e9.symm).2; omega)
              have ho125 := own_kept ho108 k117
              have ho126 := QRow.kept ho111 k117
              refine sapQ (e := 3) (base := w.heap.size) s119 rfl rfl rfl rfl rfl rfl (by kernel_rfl) ho126 x118 (by omega) (by have := ((SG.belowR c112 s119 (fun kq e => (QRow.lt ho111 kq e).1))).size; omega) (.inl rfl) (fun A127 cap128 w129 ho130 hg131 hat132 s133 => ?_)
              have nb134 : Nb b2 (.slice A127 (n2_9 + 1) cap128) := nb_app3 nb2_9_b2 (Nat.lt_of_lt_of_le (blk_lt x6) (World.grownBy.size s119)) hat132
              have nb135 : Nb b63 (.slice A127 (n2_9 + 1) cap128) := nb_app3 nb72 (Nat.lt_of_lt_of_le (blk_lt x77) (World.grownBy.size s119)) hat132
              have nb136 : Nb b114 (.slice A127 (n2_9 + 1) cap128) := nb_app3 nb124 (blk_lt x118) hat132
              have x118 := (hg131.block _ (blk_lt x118) nb124).trans x118
              have nr137 : NbR (.slice A127 (n2_9 + 1) cap128) (.slice (some ⟨b11, 0, none⟩) (m.toNat + 1) (m.toNat + 1)) := nbr_app nr2_1_0 (fun j h => (World.ownsRow.lt ho125 j h).2) hat132
              have ho138 := own_grown ho125 hg131 (NbR.symm nr2_1_0)
              refine sq (v := .slice A127 (n2_9 + 1) cap128) rfl (r_assign rfl rfl) rfl rfl rfl ?_
              simp only [List.set_cons_zero, List.set_cons_succ]
              refine sch_end ?_
              have x6 := SG.blk s133 x6 nb2_9_b2
              have x77 := SG.blk s133 x77 nb72
              have c139 := (SG.belowR c112 s133 (fun kq e => (QRow.lt ho111 kq e).1))
              refine h22 _ _ ?_
              refine region_quiet [(0, false), (1, false)] rfl ?_
              refine sq (v := .int .i64 ((i + 1 : Nat) : Int)) rfl (r_add (z := ((i + 1 : Nat) : Int)) rfl rfl rfl (by omega) (by omega)) rfl rfl rfl ?_
              refine sq (v := .int .i64 ((i + 1 : Nat) : Int)) rfl (r_move rfl rfl) rfl rfl rfl ?_
              refine sch_end ?_
              simp only [List.set_cons_zero, List.set_cons_succ]
              exact h19 _ _ _ (by omega : (n - (i + 1)) < _) ⟨i + 1, o2.set (otherOf x53 h).toNat (lab o2 h + 1), r2 ++ [otherOf x53 h], A127, (n2_9 + 1), cap128, _, _, _, _, _, _, _, _, _, _, _, _, _, _, _, _, _, _, _, _, _, _, _, _, _, _, _, _, _, _, _, _, _, _, _, _, _, _, _, _, rfl, rfl, (by omega), ((Bfs.visit hB2 hin.1 (other_join hx54 q98 q99) (by omega)).1), ((small_set hsm2 (by omega) (by have h9 := hB2.len; omega) (by omega) hlh).1), (by have h9 := (small_set hsm2 (v := otherOf x53 h) (by omega) (by have h9 := hB2.len; omega) (by omega) hlh).2; rw [List.length_append]; simp only [List.length_cons, List.length_nil]; omega), (nearTo.skip (nearTo.mono hnr (Bfs.visit hB2 hin.1 (other_join hx54 q98 q99) (by omega)).2.1 hlh) hx54 (.inr (by rw [(Bfs.visit hB2 hin.1 (other_join hx54 q98 q99) (by omega)).2.2, (Bfs.visit hB2 hin.1 (other_join hx54 q98 q99) (by omega)).2.1 h hlh]; omega))), x6, ho138, ho130, nb134, nr137, c139⟩
            · refine sq (v := .bool false) rfl (r_lss rfl rfl rfl (decide_eq_false q100)) rfl rfl rfl ?_
              refine sq (v := .bool false) rfl (r_pick rfl rfl rfl) rfl rfl rfl ?_
              simp only [List.set_cons_zero, List.set_cons_succ]
              refine sch_end ?_
              refine h25 _ _ ?_
              refine wp_cond_false rfl ?_
              refine wp_skip ?_
              refine h22 _ _ ?_
              refine region_quiet [(0, false), (1, false)] rfl ?_
              refine sq (v := .int .i64 ((i + 1 : Nat) : Int)) rfl (r_add (z := ((i + 1 : Nat) : Int)) rfl rfl rfl (by omega) (by omega)) rfl rfl rfl ?_
              refine sq (v := .int .i64 ((i + 1 : Nat) : Int)) rfl (r_move rfl rfl) rfl rfl rfl ?_
              refine sch_end ?_
              simp only [List.set_cons_zero, List.set_cons_succ]
              exact h19 _ _ _ (by omega : (n - (i + 1)) < _) ⟨i + 1, o2, r2, A2_9, n2_9, c2_9, _, _, _, _, _, _, _, _, _, _, _, _, _, _, _, _, _, _, _, _, _, _, _, _, _, _, _, _, _, _, _, _, _, _, _, _, _, _, _, _, rfl, rfl, (by omega), hB2, hsm2, hcnt, (nearTo.skip hnr hx54 (.inr ⟨by omega, hB2.near h r2 rfl _⟩)), x6, ho95, ho96, nb2_9_b2, nr2_1_0, c97⟩
          · refine sq (v := .bool false) rfl (r_neq rfl rfl rfl (decide_eq_false q99)) rfl rfl rfl ?_
            refine sq (v := .bool false) rfl (r_pick rfl rfl rfl) rfl rfl rfl ?_
            refine sq (v := .bool false) rfl (r_move rfl rfl) rfl rfl rfl ?_
            refine sk rfl rfl rfl rfl rfl ?_
            simp only [List.set_cons_zero, List.set_cons_succ]
            refine sk rfl rfl rfl rfl rfl ?_
            refine sk rfl rfl rfl rfl rfl ?_
            refine sk rfl rfl rfl rfl rfl ?_
            refine sk rfl rfl rfl rfl rfl ?_
            refine sq (v := .bool false) rfl (r_pick rfl rfl rfl) rfl rfl rfl ?_
            simp only [List.set_cons_zero, List.set_cons_succ]
            refine sch_end ?_
            refine h25 _ _ ?_
            refine wp_cond_false rfl ?_
            refine wp_skip ?_
            refine h22 _ _ ?_
            refine region_quiet [(0, false), (1, false)] rfl ?_
            refine sq (v := .int .i64 ((i + 1 : Nat) : Int)) rfl (r_add (z := ((i + 1 : Nat) : Int)) rfl rfl rfl (by omega) (by omega)) rfl rfl rfl ?_
            refine sq (v := .int .i64 ((i + 1 : Nat) : Int)) rfl (r_move rfl rfl) rfl rfl rfl ?_
            refine sch_end ?_
            simp only [List.set_cons_zero, List.set_cons_succ]
            exact h19 _ _ _ (by omega : (n - (i + 1)) < _) ⟨i + 1, o2, r2, A2_9, n2_9, c2_9, _, _, _, _, _, _, _, _, _, _, _, _, _, _, _, _, _, _, _, _, _, _, _, _, _, _, _, _, _, _, _, _, _, _, _, _, _, _, _, _, rfl, rfl, (by omega), hB2, hsm2, hcnt, (nearTo.skip hnr hx54 (.inl (fun h9 => by omega))), x6, ho95, ho96, nb2_9_b2, nr2_1_0, c97⟩
        · refine sq (v := .bool false) rfl (r_gtr rfl rfl rfl (decide_eq_false q98)) rfl rfl rfl ?_
          refine sq (v := .bool false) rfl (r_move rfl rfl) rfl rfl rfl ?_
          refine sk rfl rfl rfl rfl rfl ?_
          refine sk rfl rfl rfl rfl rfl ?_
          simp only [List.set_cons_zero, List.set_cons_succ]
          refine sk rfl rfl rfl rfl rfl ?_
          refine sk rfl rfl rfl rfl rfl ?_
          refine sq (v := .bool false) rfl (r_pick rfl rfl rfl) rfl rfl rfl ?_
          refine sq (v := .bool false) rfl (r_move rfl rfl) rfl rfl rfl ?_
          refine sk rfl rfl rfl rfl rfl ?_
          simp only [List.set_cons_zero, List.set_cons_succ]
          refine sk rfl rfl rfl rfl rfl ?_
          refine sk rfl rfl rfl rfl rfl ?_
          refine sk rfl rfl rfl rfl rfl ?_
          refine sk rfl rfl rfl rfl rfl ?_
          refine sq (v := .bool false) rfl (r_pick rfl rfl rfl) rfl rfl rfl ?_
          simp only [List.set_cons_zero, List.set_cons_succ]
          refine sch_end ?_
          refine h25 _ _ ?_
          refine wp_cond_false rfl ?_
          refine wp_skip ?_
          refine h22 _ _ ?_
          refine region_quiet [(0, false), (1, false)] rfl ?_
          refine sq (v := .int .i64 ((i + 1 : Nat) : Int)) rfl (r_add (z := ((i + 1 : Nat) : Int)) rfl rfl rfl (by omega) (by omega)) rfl rfl rfl ?_
          refine sq (v := .int .i64 ((i + 1 : Nat) : Int)) rfl (r_move rfl rfl) rfl rfl rfl ?_
          refine sch_end ?_
          simp only [List.set_cons_zero, List.set_cons_succ]
          exact h19 _ _ _ (by omega : (n - (i + 1)) < _) ⟨i + 1, o2, r2, A2_9, n2_9, c2_9, _, _, _, _, _, _, _, _, _, _, _, _, _, _, _, _, _, _, _, _, _, _, _, _, _, _, _, _, _, _, _, _, _, _, _, _, _, _, _, _, rfl, rfl, (by omega), hB2, hsm2, hcnt, (nearTo.skip hnr hx54 (.inl (fun h9 => by omega))), x6, ho95, ho96, nb2_9_b2, nr2_1_0, c97⟩
      · refine sq (v := .bool false) rfl (r_lss rfl rfl rfl (decide_eq_false q51)) rfl rfl rfl ?_
        refine sch_end ?_
        simp only [List.set_cons_zero, List.set_cons_succ]
        refine h20 _ _ ?_
        refine wp_seq_k (fun K27 h27 => ?_)
        refine wp_cond_false rfl ?_
        refine wp_exit ?_
        refine h17 _ _ ?_
        refine region_quiet [(0, false), (1, false), (2, false)] rfl ?_
        refine sq (v := .slice A2_9 n2_9 c2_9) rfl (r_move rfl rfl) rfl rfl rfl ?_
        refine sq (v := .slice (sFrom A2_9 c2_9 1 1) (n2_9 - 1) (c2_9 - 1)) rfl (r_sliceFrom (k := 1) (size := 1) rfl rfl (show _ = Value.int .i64 ((1 : Nat) : Int) from rfl) (by kernel_rfl) (by have h9 := rd_ints_len (QRow.rd ho2_9); simp at h9; omega)) rfl rfl rfl ?_
        have ho140 := (QRow.tail ho2_9).1
        have e141 := (QRow.tail ho2_9).2
        have nb142 : Nb b2 (.slice (sFrom A2_9 c2_9 1 1) (n2_9 - 1) (c2_9 - 1)) := nb_same nb2_9_b2 e141
        have nr143 : NbR (.slice (sFrom A2_9 c2_9 1 1) (n2_9 - 1) (c2_9 - 1)) (.slice (some ⟨b11, 0, none⟩) (m.toNat + 1) (m.toNat + 1)) := nbr_same nr2_1_0 e141
        refine sq (v := .slice (sFrom A2_9 c2_9 1 1) (n2_9 - 1) (c2_9 - 1)) rfl (r_assign rfl rfl) rfl rfl rfl ?_
        refine sch_end ?_
        simp only [List.set_cons_zero, List.set_cons_succ]
        exact h14 _ _ _ (by rw [hcnt, List.length_cons]; omega : (bare o2 + r2.length) < _) ⟨o2, r2, (sFrom A2_9 c2_9 1 1), (n2_9 - 1), (c2_9 - 1), _, _, _, _, _, _, _, _, _, _, _, _, _, _, _, _, _, _, _, _, _, _, _, _, _, _, _, _, _, _, _, _, _, _, _, _, _, _, _, _, _, _, _, _, _, _, _, _, _, rfl, rfl, (Bfs.pop hB2 (nearTo.all hp (by have e8 : i = ps.length := (by omega); rw [← e8]; exact hnr))), hsm2, (by rw [hcnt]; omega), x6, ho2_7, ho140, nb142, nr143, c50⟩
    · refine sq (v := .bool false) rfl (r_gtr rfl rfl rfl (decide_eq_false q49)) rfl rfl rfl ?_
      refine sch_end ?_
      simp only [List.set_cons_zero, List.set_cons_succ]
      refine h16 _ _ ?_
      refine wp_cond_false rfl ?_
      refine wp_exit ?_
      refine h12 _ _ ?_
      refine wp_seq_k (fun K28 h28 => ?_)
      refine region_quiet [(0, false), (1, false)] rfl ?_
      refine sq (v := .slice (some ⟨b11, 0, none⟩) (m.toNat + 1) (m.toNat + 1)) rfl (r_move rfl rfl) rfl rfl rfl ?_
      refine sq (v := .slice (some ⟨b11, 0, none⟩) (m.toNat + 1) (m.toNat + 1)) rfl (r_assign rfl rfl) rfl rfl rfl ?_
      refine sch_end ?_
      simp only [List.set_cons_zero, List.set_cons_succ]
      refine h28 _ _ ?_
      refine wp_ret ?_
      try simp only [Exit.then]
      refine ret1 rfl rfl ?_
      have e8 : qu = [] := List.eq_nil_of_length_eq_zero (by have h9 := rd_ints_len (QRow.rd ho1_9); omega)
      subst e8
      have e9 := Bfs.fin hB
      exact ⟨_, _, _, rfl, (by rw [← e9]; exact ho1_7), c48⟩

end Go.Proofs.Ytdlcldaogcbnlaa
