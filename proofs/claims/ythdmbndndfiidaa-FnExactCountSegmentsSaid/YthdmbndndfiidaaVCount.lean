/- How many segments there are: both packages answer alike. -/
import Derived.Test.YthdmbndndfiidaaVNeed
import Derived.Test.YthdmbndndfiidaaVRow
namespace Go.Proofs.Ythdmbndndfiidaa
open Go.RowKit
set_option linter.unusedVariables false
set_option linter.unusedSimpArgs false

/-- The elements at which a count may start. -/
def okS (m k t : Nat) : Bool := (decide (1 ≤ t) && decide (t ≤ m)) || (decide (9 ≤ t) && decide (t < 9 + k))
theorem okS_iff {m k t : Nat} : okS m k t = true ↔ (1 ≤ t ∧ t ≤ m) ∨ (9 ≤ t ∧ t < 9 + k) := by unfold okS; simp only [Bool.or_eq_true, Bool.and_eq_true, decide_eq_true_iff]
noncomputable def seenB (E : Int → Int → Prop) (m k s i : Nat) : Bool := (List.range s).any (fun t => okS m k t && rb E (t : Int) (i : Int))
noncomputable def seenL (E : Int → Int → Prop) (m k s : Nat) : List Bool := (List.range 19).map (seenB E m k s)
noncomputable def cntS (E : Int → Int → Prop) (m k s : Nat) : Nat := (List.range s).countP (fun t => okS m k t && !seenB E m k t t)
theorem seenB_iff {E : Int → Int → Prop} {m k s i : Nat} : seenB E m k s i = true ↔ ∃ t, t < s ∧ okS m k t = true ∧ Reach E (t : Int) (i : Int) := by
  unfold seenB; rw [List.any_eq_true]
  constructor
  · rintro ⟨t, ht, h⟩; rw [Bool.and_eq_true, rb_iff] at h; exact ⟨t, List.mem_range.1 ht, h.1, h.2⟩
  · rintro ⟨t, ht, h1, h2⟩; exact ⟨t, List.mem_range.2 ht, by rw [Bool.and_eq_true, rb_iff]; exact ⟨h1, h2⟩⟩
theorem seenB_succ (E : Int → Int → Prop) (m k s i : Nat) : seenB E m k (s + 1) i = (seenB E m k s i || (okS m k s && rb E (s : Int) (i : Int))) := by
  unfold seenB; rw [List.range_succ, List.any_append]; simp
theorem cntS_succ (E : Int → Int → Prop) (m k s : Nat) : cntS E m k (s + 1) = cntS E m k s + (if (okS m k s && !seenB E m k s s) = true then 1 else 0) := by
  unfold cntS; rw [List.range_succ, List.countP_append, List.countP_singleton]
theorem seenL_len (E : Int → Int → Prop) (m k s : Nat) : (seenL E m k s).length = 19 := by simp [seenL]
theorem seenL_at (E : Int → Int → Prop) (m k s : Nat) {i : Nat} (h : i < 19) : (seenL E m k s)[i]? = some (seenB E m k s i) := by simp [seenL, h]
theorem seenL_eq {E : Int → Int → Prop} {m k s i : Nat} {y : Bool} (h : (seenL E m k s)[i]? = some y) : y = seenB E m k s i := by
  have hi : i < 19 := by have := (List.getElem?_eq_some_iff.1 h).1; rw [seenL_len] at this; exact this
  rw [seenL_at E m k s hi] at h; exact (Option.some.inj h).symm
theorem seenL_one (E : Int → Int → Prop) (m k : Nat) : seenL E m k 1 = List.replicate 19 false := by
  have h : ∀ i, seenB E m k 1 i = false := fun i => by unfold seenB; simp [okS]
  unfold seenL
  rw [List.map_congr_left (fun i _ => h i)]; rfl
theorem seenL_of {E : Int → Int → Prop} {m k s : Nat} {bs : List Bool} (hl : bs.length = 19) (h : ∀ i, i < 19 → bs[i]? = some (seenB E m k s i)) : seenL E m k s = bs := by
  apply List.ext_getElem?
  intro i
  by_cases hi : i < 19
  · rw [seenL_at E m k s hi, h i hi]
  · rw [List.getElem?_eq_none (by rw [seenL_len]; omega), List.getElem?_eq_none (by omega)]
theorem seenL_same {E : Int → Int → Prop} (hE : Symm E) {m k s : Nat} (h : seenB E m k s s = true) : seenL E m k (s + 1) = seenL E m k s := by
  unfold seenL
  refine List.map_congr_left (fun i _ => ?_)
  rw [Bool.eq_iff_iff, seenB_iff, seenB_iff]
  obtain ⟨t, ht, hok, hr⟩ := seenB_iff.1 h
  constructor
  · rintro ⟨u, hu, h1, h2⟩
    by_cases e : u = s
    · subst e; exact ⟨t, ht, hok, reach_trans hr h2⟩
    · exact ⟨u, by omega, h1, h2⟩
  · rintro ⟨u, hu, h1, h2⟩; exact ⟨u, by omega, h1, h2⟩
theorem seenL_gap {E : Int → Int → Prop} {m k s : Nat} (h : okS m k s = false) : seenL E m k (s + 1) = seenL E m k s := by
  unfold seenL
  refine List.map_congr_left (fun i _ => ?_)
  rw [seenB_succ, h]; simp
theorem cntS_no {E : Int → Int → Prop} {m k s : Nat} (h : okS m k s = false ∨ seenB E m k s s = true) : cntS E m k (s + 1) = cntS E m k s := by
  rw [cntS_succ]
  rcases h with h | h <;> rw [h] <;> simp
theorem cntS_yes {E : Int → Int → Prop} {m k s : Nat} (h : okS m k s = true) (h' : seenB E m k s s = false) : cntS E m k (s + 1) = cntS E m k s + 1 := by
  rw [cntS_succ, h, h']; simp
theorem cntS_le (E : Int → Int → Prop) (m k s : Nat) : cntS E m k s ≤ s := by
  unfold cntS; have := List.countP_le_length (p := fun t => okS m k t && !seenB E m k t t) (l := List.range s); rwa [List.length_range] at this
theorem cntS_gap {E : Int → Int → Prop} {m k : Nat} : ∀ d, m + 1 + d ≤ 9 → cntS E m k (m + 1 + d) = cntS E m k (m + 1)
  | 0, _ => rfl
  | d + 1, h => by
    rw [← Nat.add_assoc, cntS_no (.inl ?_), cntS_gap d (by omega)]
    rw [← Bool.not_eq_true, okS_iff]; omega
theorem cntS_one (E : Int → Int → Prop) (m k : Nat) : cntS E m k 1 = 0 := by
  have := cntS_no (E := E) (m := m) (k := k) (s := 0) (.inl (by rw [← Bool.not_eq_true, okS_iff]; omega))
  rw [this]; rfl
/-- How the inner round goes on. -/
structure Mix (E : Int → Int → Prop) (m k s i : Nat) (bs : List Bool) : Prop where
  len : bs.length = 19
  lo : ∀ e, e < i → bs[e]? = some (seenB E m k (s + 1) e)
  hi : ∀ e, i ≤ e → e < 19 → bs[e]? = some (seenB E m k s e)
theorem Mix.start (E : Int → Int → Prop) (m k s : Nat) : Mix E m k s 0 (seenL E m k s) := ⟨seenL_len _ _ _ _, fun e h => absurd h (by omega), fun e _ h => seenL_at E m k s h⟩
theorem Mix.next {E : Int → Int → Prop} {m k s i : Nat} {bs : List Bool} (h : Mix E m k s i bs) (hi : i < 19) {y x z : Bool} (hy : bs[i]? = some y) (hx : x = rb E (s : Int) (i : Int)) (hok : okS m k s = true) (hz : z = (y || x)) : Mix E m k s (i + 1) (bs.set i z) := by
  have hl := h.len
  have e9 : y = seenB E m k s i := by have := h.hi i (Nat.le_refl _) hi; rw [hy] at this; exact Option.some.inj this
  refine ⟨by rw [List.length_set]; exact hl, fun e he => ?_, fun e he h9 => ?_⟩
  · by_cases e1 : e = i
    · subst e1; rw [List.getElem?_set_self (by omega), seenB_succ, hok, ← e9, ← hx, hz]; simp
    · rw [List.getElem?_set_ne (by omega)]; exact h.lo e (by omega)
  · rw [List.getElem?_set_ne (by omega)]; exact h.hi e (by omega) h9
theorem Mix.fin {E : Int → Int → Prop} {m k s i : Nat} {bs : List Bool} (h : Mix E m k s i bs) (hi : 19 ≤ i) : seenL E m k (s + 1) = bs := seenL_of h.len (fun e he => h.lo e (by omega))
/-- A node is the first of its segment when the segment's list begins with it. -/
theorem head_iff {E : Int → Int → Prop} (hE : Symm E) {m k v : Nat} (hv : 1 ≤ v ∧ v ≤ m) {x0 : Int} (h : (nodesL E m (v : Int) true)[0]? = some x0) : x0 = (v : Int) ↔ seenB E m k v v = false := by
  have hs : sorted (nodesL E m (v : Int) true) := sorted_filter _ (sorted_nodesTo m)
  have hm : (v : Int) ∈ nodesL E m (v : Int) true := mem_nodesL.2 ⟨by omega, rb_iff.2 (reach_refl _ _)⟩
  have hmin : ∀ b, b ∈ nodesL E m (v : Int) true → x0 ≤ b := fun b hb => by
    cases hq : nodesL E m (v : Int) true with
    | nil => rw [hq] at hb; cases hb
    | cons z zs =>
      rw [hq] at h hb hs
      simp at h; subst h
      rcases List.mem_cons.1 hb with e | e
      · omega
      · have := (List.pairwise_cons.1 hs).1 b e; omega
  have h0 := mem_nodesL.1 (List.mem_of_getElem? h)
  rw [← Bool.not_eq_true, seenB_iff]
  constructor
  · rintro rfl ⟨t, ht, hok, hr⟩
    rw [okS_iff] at hok
    have := hmin (t : Int) (mem_nodesL.2 ⟨by omega, rb_iff.2 (reach_symm hE hr)⟩)
    omega
  · intro hn
    have := hmin _ hm
    by_cases e : x0 = (v : Int)
    · exact e
    · exact absurd ⟨x0.toNat, by omega, okS_iff.2 (by omega), by rw [Int.toNat_of_nonneg (by omega)]; exact reach_symm hE (rb_iff.1 h0.2)⟩ hn
/-- A pipe is a segment of its own, or a node is in its segment. -/
theorem alone_iff {ps : List Pp} {q : Pp → Int → Bool} {m k i : Nat} (hp : pipesIn ps m) (hm : m ≤ 8) (hi : i < k) : (nodesL (linked ps q) m (9 + (i : Int)) true).length = 0 ↔ seenB (linked ps q) m k (9 + i) (9 + i) = false := by
  have hE := linked_symm ps q
  have ei : ((9 + i : Nat) : Int) = 9 + (i : Int) := by omega
  rw [← Bool.not_eq_true, seenB_iff, List.length_eq_zero_iff]
  constructor
  · rintro hn ⟨t, ht, hok, hr⟩
    rw [ei] at hr
    have hno : ∀ b : Int, 1 ≤ b → b ≤ m → ¬ Reach (linked ps q) (9 + (i : Int)) b := fun b h1 h2 h3 => by
      have : b ∈ nodesL (linked ps q) m (9 + (i : Int)) true := mem_nodesL.2 ⟨⟨h1, h2⟩, rb_iff.2 h3⟩
      rw [hn] at this; cases this
    rcases okS_iff.1 hok with h | h
    · exact hno t (by omega) (by omega) (reach_symm hE hr)
    · have : (t : Int) = 9 + (i : Int) := reach_closed (S := fun b => b = 9 + (i : Int)) rfl (fun b c hb he => by
        obtain ⟨j, p, v, hpj, hv, hq, he'⟩ := he
        have hpin := hp p (List.mem_of_getElem? hpj)
        rcases he' with ⟨e1, e2⟩ | ⟨e1, e2⟩
        · omega
        · exact absurd (reach_step (reach_refl _ _) ⟨j, p, v, hpj, hv, hq, .inr ⟨hb.symm.trans e1, rfl⟩⟩) (hno v (by omega) (by omega))) (reach_symm hE hr)
      omega
  · intro hn
    refine List.eq_nil_iff_forall_not_mem.2 (fun b hb => ?_)
    have hb' := mem_nodesL.1 hb
    exact hn ⟨b.toNat, by omega, okS_iff.2 (by omega), by rw [ei, Int.toNat_of_nonneg (by omega)]; exact reach_symm hE (rb_iff.1 hb'.2)⟩
theorem nodesL_pos {E : Int → Int → Prop} {m : Nat} {v : Int} (hv : 1 ≤ v ∧ v ≤ m) : 0 < (nodesL E m v true).length :=
  List.length_pos_of_mem (mem_nodesL.2 ⟨hv, rb_iff.2 (reach_refl _ _)⟩)
noncomputable def CountSegments_v0 (m : Int) (ps : List Pp) (vs : List Vv) : Int := if goodV m ps vs = true then ((cntS (linked ps (openQ vs false)) m.toNat ps.length (9 + ps.length) : Nat) : Int) else 0
def CountSegments_v1 (m : Int) (ps : List Pp) (vs : List Vv) : Bool := goodV m ps vs

set_option maxRecDepth 100000 in
set_option maxHeartbeats 1000000 in
theorem CountSegments_impl (m : Int) (A : Option Addr) (n c : Nat) (ps : List Pp) (A2 : Option Addr) (n2 c2 : Nat) (vs : List Vv) (w : World) (ha : Rd w 4 A n (pipesV ps)) (hb : Rd w 4 A2 n2 (valvesV vs)) (hn : n ≤ 1048576) (hn2 : n2 ≤ 1048576) (hfm : Fm A n c) (hfm2 : Fm A2 n2 c2) :
    Calls Try.prog 32 #[.agg #[.int .i64 m, .slice A n c], .slice A2 n2 c2] w fun e w' => e = .returned (.tuple #[.int .i64 (CountSegments_v0 m ps vs), .bool (CountSegments_v1 m ps vs)]) ∧ Below w.heap.size w w' := by
  have hl := rd_pipes_len ha
  have hl2 := rd_valves_len hb
  go_enter Try.func32, Try.ntmps32
  refine wp_seq_k (fun K1 h1 => ?_)
  refine W.region_plain (row := none) [(0, true), (1, false), (2, false)] (by kernel_rfl) ?_
  have s1 := SG.self w none
  refine W.sn (fun b => .pointer (some ⟨b, 0, none⟩)) #[.int .i64 m, .slice A n c] 31 s1 rfl (by kernel_rfl) rfl (fun _ => by kernel_rfl) (fun b2 w3 hb4 k5 x6 s7 => ?_)
  have lo8 : w.heap.size ≤ b2 := by have := ((SG.belowR (Below.refl _ _) s1 (fun kq e => by cases e))).size; omega
  refine W.sq (v := .int .i64 0) rfl (r_assign rfl (by kernel_rfl)) (by kernel_rfl) rfl rfl ?_
  refine W.sq (v := .bool false) rfl (r_assign rfl (by kernel_rfl)) (by kernel_rfl) rfl rfl ?_
  refine W.sch_end (l' := [.agg #[.int .i64 m, .slice A n c], .slice A2 n2 c2, .pointer (some ⟨b2, 0, none⟩), undef, .int .i64 0, .bool false, undef, undef, undef, undef, undef, undef, undef, undef, undef, undef, undef, undef, undef, undef, undef, undef, undef, undef, undef, undef, undef, undef, undef, undef, undef, undef, undef, undef, undef, undef, undef, undef, undef, undef, undef, undef, undef, undef, undef, undef, undef, undef, undef, undef, undef, undef, undef, undef, undef, undef, undef, undef, undef]) (by kernel_rfl) ?_
  have c9 := (SG.belowR (Below.refl _ _) s7 (fun kq e => by cases e))
  refine h1 _ _ ?_
  refine wp_seq_k (fun K2 h2 => ?_)
  refine wp_seq_k (fun K3 h3 => ?_)
  refine W.region_plain (row := none) [(0, false), (1, false), (2, true), (3, false)] (by kernel_rfl) ?_
  have s10 := SG.self w3 none
  refine W.sq (v := .agg #[.int .i64 m, .slice A n c]) rfl (r_load2 rfl (by kernel_rfl) (by kernel_rfl) (by kernel_rfl) (sgS (blk_cell (j := 0) x6 (by kernel_rfl)) (by simp)) (sgS (blk_cell (j := 1) x6 (by kernel_rfl)) (by simp))) (by kernel_rfl) rfl rfl ?_
  refine W.sq (v := .slice A2 n2 c2) rfl (r_move rfl (by kernel_rfl)) (by kernel_rfl) rfl rfl ?_
  refine W.sc (vs := [.agg #[.int .i64 m, .slice A n c], .slice A2 n2 c2]) rfl rfl (by kernel_rfl) (by kernel_rfl) (by kernel_rfl) rfl (IsValidValves_any m A n c ps A2 n2 c2 vs _ (Rd.kept ha (SG.belowR c9 s10 (fun kq e => by cases e))) (Rd.kept hb (SG.belowR c9 s10 (fun kq e => by cases e))) (by omega) (by omega) hfm2) ?_
  rintro e w12 ⟨rfl, b11⟩
  have s13 := SG.of_below s10 b11
  refine ⟨_, rfl, s13, ?_⟩
  rcases Bool.eq_false_or_eq_true (goodV m ps vs) with q14 | q14
  · rw [q14]
    have hv9 := goodV_of q14
    have hg := hv9.net
    have hgl := hg.lo
    have hgh := hg.hi
    have hp := hg.pipesIn
    have hlen10 := hg.len
    have hu := hv9.uniq
    have hvl := hv9.len
    refine W.sq (v := .bool false) rfl (r_not (b := true) rfl (by kernel_rfl) rfl) (by kernel_rfl) rfl rfl ?_
    refine W.sch_endU (fun U15 => [.agg #[.int .i64 m, .slice A n c], .slice A2 n2 c2, .pointer (some ⟨b2, 0, none⟩), undef, .int .i64 0, .bool false, undef, undef, undef, undef, undef, U15 11, U15 12, U15 13, .bool false, undef, undef, undef, undef, undef, undef, undef, undef, undef, undef, undef, undef, undef, undef, undef, undef, undef, undef, undef, undef, undef, undef, undef, undef, undef, undef, undef, undef, undef, undef, undef, undef, undef, undef, undef, undef, undef, undef, undef, undef, undef, undef, undef, undef]) (by kernel_rfl) (fun U15 => ?_)
    have x6 := SG.blk s13 x6 (by simp)
    have c16 := (SG.belowR c9 s13 (fun kq e => by cases e))
    refine h3 _ _ ?_
    refine wp_cond_false (by kernel_rfl) ?_
    refine wp_skip ?_
    refine h2 _ _ ?_
    refine wp_seq_k (fun K4 h4 => ?_)
    refine W.region_plain (row := none) [(0, false), (1, true), (2, false), (3, true)] (by kernel_rfl) ?_
    have s17 := SG.self w12 none
    refine W.sq (v := .agg #[.bool false, .bool false, .bool false, .bool false, .bool false, .bool false, .bool false, .bool false, .bool false, .bool false, .bool false, .bool false, .bool false, .bool false, .bool false, .bool false, .bool false, .bool false, .bool false]) rfl (r_build rfl (vs := []) (by kernel_rfl) (by kernel_rfl)) (by kernel_rfl) rfl rfl ?_
    refine W.sn (fun b => .pointer (some ⟨b, 0, none⟩)) #[.bool false, .bool false, .bool false, .bool false, .bool false, .bool false, .bool false, .bool false, .bool false, .bool false, .bool false, .bool false, .bool false, .bool false, .bool false, .bool false, .bool false, .bool false, .bool false] 88 s17 rfl (by kernel_rfl) rfl (fun _ => by kernel_rfl) (fun b18 w19 hb20 k21 x22 s23 => ?_)
    have lo24 : w.heap.size ≤ b18 := by have := ((SG.belowR c16 s17 (fun kq e => by cases e))).size; omega
    have ne25 : b2 ≠ b18 := by have := blk_lt x6; have := World.grownBy.size s17; omega
    refine W.sq (v := .int .i64 0) rfl (r_assign rfl (by kernel_rfl)) (by kernel_rfl) rfl rfl ?_
    refine W.ss (v := .agg #[.bool false, .bool false, .bool false, .bool false, .bool false, .bool false, .bool false, .bool false, .bool false, .bool false, .bool false, .bool false, .bool false, .bool false, .bool false, .bool false, .bool false, .bool false, .bool false]) (j := 0) (news := [.bool false, .bool false, .bool false, .bool false, .bool false, .bool false, .bool false, .bool false, .bool false, .bool false, .bool false, .bool false, .bool false, .bool false, .bool false, .bool false, .bool false, .bool false, .bool false]) (cs' := #[.bool false, .bool false, .bool false, .bool false, .bool false, .bool false, .bool false, .bool false, .bool false, .bool false, .bool false, .bool false, .bool false, .bool false, .bool false, .bool false, .bool false, .bool false, .bool false]) s23 rfl (by kernel_rfl) rfl rfl (by kernel_rfl) (by kernel_rfl) x22 (by kernel_rfl) (by kernel_rfl) (by simp) (by kernel_rfl) (by kernel_rfl) (.inr (by have := World.grownBy.size s17; have := hb20; omega)) (fun w26 g27 x28 s29 => ?_)
    refine W.sch_endU (fun U30 => [.agg #[.int .i64 m, .slice A n c], .slice A2 n2 c2, .pointer (some ⟨b2, 0, none⟩), undef, .int .i64 0, .bool false, .int .i64 0, .pointer (some ⟨b18, 0, none⟩), undef, undef, undef, (U15 11), (U15 12), (U15 13), .bool false, U30 15, undef, undef, undef, undef, undef, undef, undef, undef, undef, undef, undef, undef, undef, undef, undef, undef, undef, undef, undef, undef, undef, undef, undef, undef, undef, undef, undef, undef, undef, undef, undef, undef, undef, undef, undef, undef, undef, undef, undef, undef, undef, undef, undef]) (by kernel_rfl) (fun U30 => ?_)
    have x6 := SG.blk s29 x6 (by simp)
    have c31 := (SG.belowR c16 s29 (fun kq e => by cases e))
    refine h4 _ _ ?_
    refine wp_seq_k (fun K5 h5 => ?_)
    refine wp_seq_k (fun K6 h6 => ?_)
    refine W.region_quiet [(0, false)] (by kernel_rfl) ?_
    refine W.sq (v := .int .i64 1) rfl (r_assign rfl (by kernel_rfl)) (by kernel_rfl) rfl rfl ?_
    refine W.sch_end (l' := [.agg #[.int .i64 m, .slice A n c], .slice A2 n2 c2, .pointer (some ⟨b2, 0, none⟩), undef, .int .i64 0, .bool false, .int .i64 0, .pointer (some ⟨b18, 0, none⟩), .int .i64 1, undef, undef, (U15 11), (U15 12), (U15 13), .bool false, (U30 15), undef, undef, undef, undef, undef, undef, undef, undef, undef, undef, undef, undef, undef, undef, undef, undef, undef, undef, undef, undef, undef, undef, undef, undef, undef, undef, undef, undef, undef, undef, undef, undef, undef, undef, undef, undef, undef, undef, undef, undef, undef, undef, undef]) (by kernel_rfl) ?_
    refine h6 _ _ ?_
    refine wp_block ?_
    have ho32 := own_blk (base := w.heap.size) (size := 1) (n := 19) x28 lo24 rfl (by omega)
    replace ho32 : World.ownsRow _ _ _ _ _ _ (boolsV (List.replicate 19 false)) := ho32
    have nb33 : Nb b2 (.slice (some ⟨b18, 0, none⟩) 19 19) := nb_new (by have := ne25; omega)
    refine loopK (fun am0 aa0 wl0 => ∃ (s : Nat) (cnt : Nat) (U0 : Nat → Value), aa0 = ⟨[.agg #[.int .i64 m, .slice A n c], .slice A2 n2 c2, .pointer (some ⟨b2, 0, none⟩), undef, .int .i64 0, .bool false, .int .i64 ((cnt : Nat) : Int), .pointer (some ⟨b18, 0, none⟩), .int .i64 ((s : Nat) : Int), U0 9, U0 10, (U15 11), (U15 12), (U15 13), .bool false, (U30 15), U0 16, U0 17, U0 18, U0 19, U0 20, U0 21, U0 22, U0 23, U0 24, U0 25, U0 26, U0 27, U0 28, U0 29, U0 30, U0 31, U0 32, U0 33, U0 34, U0 35, U0 36, U0 37, U0 38, U0 39, U0 40, U0 41, U0 42, U0 43, U0 44, U0 45, U0 46, U0 47, U0 48, U0 49, U0 50, U0 51, U0 52, U0 53, U0 54, U0 55, U0 56, U0 57, undef].toArray, []⟩ ∧ (am0 = 9 + n - s) ∧ (1 ≤ s ∧ s ≤ 9 + n) ∧ (cnt = cntS (linked ps (openQ vs false)) m.toNat ps.length s) ∧ (wl0.heap[b2]? = some (.cells #[.int .i64 m, .slice A n c] 31 (0, 0))) ∧ (wl0.ownsRow w.heap.size 88 1 (.slice (some ⟨b18, 0, none⟩) 19 19) 19 (boolsV (seenL (linked ps (openQ vs false)) m.toNat ps.length s))) ∧ (Below w.heap.size w wl0)) (9 + n - 1) ?_ ?_
    · exact ⟨1, 0, (fun iU9 => [.agg #[.int .i64 m, .slice A n c], .slice A2 n2 c2, .pointer (some ⟨b2, 0, none⟩), undef, .int .i64 0, .bool false, .int .i64 0, .pointer (some ⟨b18, 0, none⟩), .int .i64 1, undef, undef, (U15 11), (U15 12), (U15 13), .bool false, (U30 15), undef, undef, undef, undef, undef, undef, undef, undef, undef, undef, undef, undef, undef, undef, undef, undef, undef, undef, undef, undef, undef, undef, undef, undef, undef, undef, undef, undef, undef, undef, undef, undef, undef, undef, undef, undef, undef, undef, undef, undef, undef, undef, undef].getD iU9 undef), (by kernel_rfl), rfl, (by omega), ((cntS_one (linked ps (openQ vs false)) m.toNat ps.length).symm), x6, (by rw [seenL_one (linked ps (openQ vs false)) m.toNat ps.length]; exact ho32), c31⟩
    rintro am0 aa0 wl0 K7 h7 ⟨s, cnt, U0, rfl, rfl, hs, hc, x6, ho0_7, c34⟩
    have hcl := cntS_le (linked ps (openQ vs false)) m.toNat ps.length s
    refine wp_seq_k (fun K8 h8 => ?_)
    refine wp_seq_k (fun K9 h9 => ?_)
    refine W.region_plain (row := none) [(0, false), (1, false), (2, false), (3, false), (4, true), (5, false)] (by kernel_rfl) ?_
    have s35 := SG.self wl0 none
    refine W.sq (v := .int .i64 ((s : Nat) : Int)) rfl (r_move rfl (by kernel_rfl)) (by kernel_rfl) rfl rfl ?_
    refine W.sq (v := .pointer (some ⟨b2, 1, none⟩)) rfl (r_field (k := 1) rfl (by kernel_rfl) (by kernel_rfl)) (by kernel_rfl) rfl rfl ?_
    refine W.sq (v := .slice A n c) rfl (r_load rfl (by kernel_rfl) (by kernel_rfl) (sgS (blk_cell (j := 1) x6 (by kernel_rfl)) (by simp))) (by kernel_rfl) rfl rfl ?_
    refine W.sq (v := .int .i64 ((n : Nat) : Int)) rfl (r_len (A := A) (n := n) (c := c) rfl (by kernel_rfl) (by kernel_rfl)) (by kernel_rfl) rfl rfl ?_
    refine W.sc (vs := [.int .i64 ((n : Nat) : Int)]) rfl rfl (by kernel_rfl) (by kernel_rfl) (by kernel_rfl) rfl (elementN_any n _ (by omega)) ?_
    rintro e w' ⟨rfl, rfl⟩
    refine ⟨_, rfl, s35, ?_⟩
    by_cases q38 : (((s : Nat) : Int) : Int) < (((9 + n : Nat) : Int) : Int)
    · refine W.sq (v := .bool true) rfl (r_lss (m := ((s : Nat) : Int)) (n := ((9 + n : Nat) : Int)) rfl (by kernel_rfl) (by kernel_rfl) (decide_eq_true q38)) (by kernel_rfl) rfl rfl ?_
      refine W.sch_endU (fun U39 => [.agg #[.int .i64 m, .slice A n c], .slice A2 n2 c2, .pointer (some ⟨b2, 0, none⟩), undef, .int .i64 0, .bool false, .int .i64 ((cnt : Nat) : Int), .pointer (some ⟨b18, 0, none⟩), .int .i64 ((s : Nat) : Int), (U0 9), (U0 10), (U15 11), (U15 12), (U15 13), .bool false, (U30 15), U39 16, U39 17, U39 18, U39 19, U39 20, .bool true, (U0 22), (U0 23), (U0 24), (U0 25), (U0 26), (U0 27), (U0 28), (U0 29), (U0 30), (U0 31), (U0 32), (U0 33), (U0 34), (U0 35), (U0 36), (U0 37), (U0 38), (U0 39), (U0 40), (U0 41), (U0 42), (U0 43), (U0 44), (U0 45), (U0 46), (U0 47), (U0 48), (U0 49), (U0 50), (U0 51), (U0 52), (U0 53), (U0 54), (U0 55), (U0 56), (U0 57), undef]) (by kernel_rfl) (fun U39 => ?_)
      have x6 := SG.blk s35 x6 (by simp)
      have c40 := (SG.belowR c34 s35 (fun kq e => by cases e))
      refine h9 _ _ ?_
      refine wp_cond_true (by kernel_rfl) ?_
      refine wp_skip ?_
      refine h8 _ _ ?_
      refine wp_seq_k (fun K10 h10 => ?_)
      refine wp_block ?_
      refine wp_seq_k (fun K11 h11 => ?_)
      refine wp_seq_k (fun K12 h12 => ?_)
      refine W.region_quiet [(0, false), (1, false), (2, false), (3, false), (4, false), (5, false), (6, false), (7, false), (8, false), (9, false), (10, false), (11, false), (12, false)] (by kernel_rfl) ?_
      refine W.sq (v := .int .i64 ((s : Nat) : Int)) rfl (r_move rfl (by kernel_rfl)) (by kernel_rfl) rfl rfl ?_
      refine W.sq (v := .pointer (some ⟨b18, s, none⟩)) rfl (r_idxA (len := 19) (k := s) rfl (by kernel_rfl) (by kernel_rfl) (by kernel_rfl) (by omega)) (by kernel_rfl) rfl rfl ?_
      obtain ⟨x41, hx42⟩ := get_of (zs := seenL (linked ps (openQ vs false)) m.toNat ps.length s) (k := s) (by have h9 := own_len ho0_7; rw [bools_len] at h9; omega)
      refine W.sq (v := .bool x41) rfl (r_load rfl (by kernel_rfl) (by kernel_rfl) (eqS (own_atB ho0_7 hx42))) (by kernel_rfl) rfl rfl ?_
      refine W.sq (v := .bool x41) rfl (r_move rfl (by kernel_rfl)) (by kernel_rfl) rfl rfl ?_
      rcases Bool.eq_false_or_eq_true x41 with q43 | q43
      · rw [q43]
        refine W.sk rfl rfl (by kernel_rfl) rfl rfl ?_
        refine W.sk rfl rfl (by kernel_rfl) rfl rfl ?_
        refine W.sk rfl rfl (by kernel_rfl) rfl rfl ?_
        refine W.sk rfl rfl (by kernel_rfl) rfl rfl ?_
        refine W.sk rfl rfl (by kernel_rfl) rfl rfl ?_
        refine W.sk rfl rfl (by kernel_rfl) rfl rfl ?_
        refine W.sk rfl rfl (by kernel_rfl) rfl rfl ?_
        refine W.sk rfl rfl (by kernel_rfl) rfl rfl ?_
        refine W.sq (v := .bool true) rfl (r_pick (b := true) rfl (by kernel_rfl) (by kernel_rfl)) (by kernel_rfl) rfl rfl ?_
        refine W.sch_endU (fun U44 => [.agg #[.int .i64 m, .slice A n c], .slice A2 n2 c2, .pointer (some ⟨b2, 0, none⟩), undef, .int .i64 0, .bool false, .int .i64 ((cnt : Nat) : Int), .pointer (some ⟨b18, 0, none⟩), .int .i64 ((s : Nat) : Int), (U0 9), (U0 10), (U15 11), (U15 12), (U15 13), .bool false, (U30 15), (U39 16), (U39 17), (U39 18), (U39 19), (U39 20), .bool true, (U0 22), (U0 23), U44 24, U44 25, U44 26, U44 27, undef, undef, undef, undef, undef, undef, undef, undef, .bool true, (U0 37), (U0 38), (U0 39), (U0 40), (U0 41), (U0 42), (U0 43), (U0 44), (U0 45), (U0 46), (U0 47), (U0 48), (U0 49), (U0 50), (U0 51), (U0 52), (U0 53), (U0 54), (U0 55), (U0 56), (U0 57), undef]) (by kernel_rfl) (fun U44 => ?_)
        refine h12 _ _ ?_
        refine wp_cond_true (by kernel_rfl) ?_
        refine wp_exit ?_
        refine h10 _ _ ?_
        refine W.region_quiet [(0, false), (1, false), (2, false)] (by kernel_rfl) ?_
        refine W.sq (v := .int .i64 ((s : Nat) : Int)) rfl (r_move rfl (by kernel_rfl)) (by kernel_rfl) rfl rfl ?_
        refine W.sq (v := .int .i64 ((s + 1 : Nat) : Int)) rfl (r_add (m := ((s : Nat) : Int)) (n := 1) (z := ((s + 1 : Nat) : Int)) rfl (by kernel_rfl) (by kernel_rfl) (by omega) (by omega)) (by kernel_rfl) rfl rfl ?_
        refine W.sq (v := .int .i64 ((s + 1 : Nat) : Int)) rfl (r_assign rfl (by kernel_rfl)) (by kernel_rfl) rfl rfl ?_
        refine W.sch_endU (fun U45 => [.agg #[.int .i64 m, .slice A n c], .slice A2 n2 c2, .pointer (some ⟨b2, 0, none⟩), undef, .int .i64 0, .bool false, .int .i64 ((cnt : Nat) : Int), .pointer (some ⟨b18, 0, none⟩), .int .i64 ((s + 1 : Nat) : Int), (U0 9), (U0 10), (U15 11), (U15 12), (U15 13), .bool false, (U30 15), (U39 16), (U39 17), (U39 18), (U39 19), (U39 20), .bool true, U45 22, U45 23, (U44 24), (U44 25), (U44 26), (U44 27), undef, undef, undef, undef, undef, undef, undef, undef, .bool true, (U0 37), (U0 38), (U0 39), (U0 40), (U0 41), (U0 42), (U0 43), (U0 44), (U0 45), (U0 46), (U0 47), (U0 48), (U0 49), (U0 50), (U0 51), (U0 52), (U0 53), (U0 54), (U0 55), (U0 56), (U0 57), undef]) (by kernel_rfl) (fun U45 => ?_)
        exact h7 _ _ _ (by omega : (9 + n - (s + 1)) < _) ⟨s + 1, cnt, (fun iU9 => [.agg #[.int .i64 m, .slice A n c], .slice A2 n2 c2, .pointer (some ⟨b2, 0, none⟩), undef, .int .i64 0, .bool false, .int .i64 ((cnt : Nat) : Int), .pointer (some ⟨b18, 0, none⟩), .int .i64 ((s + 1 : Nat) : Int), (U0 9), (U0 10), (U15 11), (U15 12), (U15 13), .bool false, (U30 15), (U39 16), (U39 17), (U39 18), (U39 19), (U39 20), .bool true, (U45 22), (U45 23), (U44 24), (U44 25), (U44 26), (U44 27), undef, undef, undef, undef, undef, undef, undef, undef, .bool true, (U0 37), (U0 38), (U0 39), (U0 40), (U0 41), (U0 42), (U0 43), (U0 44), (U0 45), (U0 46), (U0 47), (U0 48), (U0 49), (U0 50), (U0 51), (U0 52), (U0 53), (U0 54), (U0 55), (U0 56), (U0 57), undef].getD iU9 undef), (by kernel_rfl), rfl, (by omega), (by rw [hc, cntS_no (.inr ((seenL_eq hx42).symm.trans q43))]), x6, (by rw [seenL_same (linked_symm ps (openQ vs false)) ((seenL_eq hx42).symm.trans q43)]; exact ho0_7), c40⟩
      · rw [q43]
        refine W.sq (v := .int .i64 ((s : Nat) : Int)) rfl (r_move rfl (by kernel_rfl)) (by kernel_rfl) rfl rfl ?_
        refine W.sq (v := .pointer (some ⟨b2, 0, none⟩)) rfl (r_field0 rfl (by kernel_rfl) (by kernel_rfl)) (by kernel_rfl) rfl rfl ?_
        refine W.sq (v := .int .i64 m) rfl (r_load rfl (by kernel_rfl) (by kernel_rfl) (eqS (blk_cell (j := 0) x6 (by kernel_rfl)))) (by kernel_rfl) rfl rfl ?_
        by_cases q46 : (((s : Nat) : Int) : Int) > (m : Int)
        · refine W.sq (v := .bool true) rfl (r_gtr (m := ((s : Nat) : Int)) (n := m) rfl (by kernel_rfl) (by kernel_rfl) (decide_eq_true q46)) (by kernel_rfl) rfl rfl ?_
          refine W.sq (v := .bool true) rfl (r_move rfl (by kernel_rfl)) (by kernel_rfl) rfl rfl ?_
          refine W.sq (v := .int .i64 ((s : Nat) : Int)) rfl (r_move rfl (by kernel_rfl)) (by kernel_rfl) rfl rfl ?_
          by_cases q47 : (((s : Nat) : Int) : Int) ≤ (8 : Int)
          · refine W.sq (v := .bool true) rfl (r_leq (m := ((s : Nat) : Int)) (n := 8) rfl (by kernel_rfl) (by kernel_rfl) (decide_eq_true q47)) (by kernel_rfl) rfl rfl ?_
            refine W.sq (v := .bool true) rfl (r_pick (b := true) rfl (by kernel_rfl) (by kernel_rfl)) (by kernel_rfl) rfl rfl ?_
            refine W.sq (v := .bool true) rfl (r_pick (b := false) rfl (by kernel_rfl) (by kernel_rfl)) (by kernel_rfl) rfl rfl ?_
            refine W.sch_endU (fun U48 => [.agg #[.int .i64 m, .slice A n c], .slice A2 n2 c2, .pointer (some ⟨b2, 0, none⟩), undef, .int .i64 0, .bool false, .int .i64 ((cnt : Nat) : Int), .pointer (some ⟨b18, 0, none⟩), .int .i64 ((s : Nat) : Int), (U0 9), (U0 10), (U15 11), (U15 12), (U15 13), .bool false, (U30 15), (U39 16), (U39 17), (U39 18), (U39 19), (U39 20), .bool true, (U0 22), (U0 23), U48 24, U48 25, U48 26, U48 27, U48 28, U48 29, U48 30, U48 31, U48 32, U48 33, U48 34, U48 35, .bool true, (U0 37), (U0 38), (U0 39), (U0 40), (U0 41), (U0 42), (U0 43), (U0 44), (U0 45), (U0 46), (U0 47), (U0 48), (U0 49), (U0 50), (U0 51), (U0 52), (U0 53), (U0 54), (U0 55), (U0 56), (U0 57), undef]) (by kernel_rfl) (fun U48 => ?_)
            refine h12 _ _ ?_
            refine wp_cond_true (by kernel_rfl) ?_
            refine wp_exit ?_
            refine h10 _ _ ?_
            refine W.region_quiet [(0, false), (1, false), (2, false)] (by kernel_rfl) ?_
            refine W.sq (v := .int .i64 ((s : Nat) : Int)) rfl (r_move rfl (by kernel_rfl)) (by kernel_rfl) rfl rfl ?_
            refine W.sq (v := .int .i64 ((s + 1 : Nat) : Int)) rfl (r_add (m := ((s : Nat) : Int)) (n := 1) (z := ((s + 1 : Nat) : Int)) rfl (by kernel_rfl) (by kernel_rfl) (by omega) (by omega)) (by kernel_rfl) rfl rfl ?_
            refine W.sq (v := .int .i64 ((s + 1 : Nat) : Int)) rfl (r_assign rfl (by kernel_rfl)) (by kernel_rfl) rfl rfl ?_
            refine W.sch_endU (fun U49 => [.agg #[.int .i64 m, .slice A n c], .slice A2 n2 c2, .pointer (some ⟨b2, 0, none⟩), undef, .int .i64 0, .bool false, .int .i64 ((cnt : Nat) : Int), .pointer (some ⟨b18, 0, none⟩), .int .i64 ((s + 1 : Nat) : Int), (U0 9), (U0 10), (U15 11), (U15 12), (U15 13), .bool false, (U30 15), (U39 16), (U39 17), (U39 18), (U39 19), (U39 20), .bool true, U49 22, U49 23, (U48 24), (U48 25), (U48 26), (U48 27), (U48 28), (U48 29), (U48 30), (U48 31), (U48 32), (U48 33), (U48 34), (U48 35), .bool true, (U0 37), (U0 38), (U0 39), (U0 40), (U0 41), (U0 42), (U0 43), (U0 44), (U0 45), (U0 46), (U0 47), (U0 48), (U0 49), (U0 50), (U0 51), (U0 52), (U0 53), (U0 54), (U0 55), (U0 56), (U0 57), undef]) (by kernel_rfl) (fun U49 => ?_)
            exact h7 _ _ _ (by omega : (9 + n - (s + 1)) < _) ⟨s + 1, cnt, (fun iU9 => [.agg #[.int .i64 m, .slice A n c], .slice A2 n2 c2, .pointer (some ⟨b2, 0, none⟩), undef, .int .i64 0, .bool false, .int .i64 ((cnt : Nat) : Int), .pointer (some ⟨b18, 0, none⟩), .int .i64 ((s + 1 : Nat) : Int), (U0 9), (U0 10), (U15 11), (U15 12), (U15 13), .bool false, (U30 15), (U39 16), (U39 17), (U39 18), (U39 19), (U39 20), .bool true, (U49 22), (U49 23), (U48 24), (U48 25), (U48 26), (U48 27), (U48 28), (U48 29), (U48 30), (U48 31), (U48 32), (U48 33), (U48 34), (U48 35), .bool true, (U0 37), (U0 38), (U0 39), (U0 40), (U0 41), (U0 42), (U0 43), (U0 44), (U0 45), (U0 46), (U0 47), (U0 48), (U0 49), (U0 50), (U0 51), (U0 52), (U0 53), (U0 54), (U0 55), (U0 56), (U0 57), undef].getD iU9 undef), (by kernel_rfl), rfl, (by omega), (by rw [hc, cntS_no (.inl (by rw [← Bool.not_eq_true, okS_iff]; omega))]), x6, (by rw [seenL_gap (by rw [← Bool.not_eq_true, okS_iff]; omega)]; exact ho0_7), c40⟩
          · refine W.sq (v := .bool false) rfl (r_leq (m := ((s : Nat) : Int)) (n := 8) rfl (by kernel_rfl) (by kernel_rfl) (decide_eq_false q47)) (by kernel_rfl) rfl rfl ?_
            refine W.sq (v := .bool false) rfl (r_pick (b := true) rfl (by kernel_rfl) (by kernel_rfl)) (by kernel_rfl) rfl rfl ?_
            refine W.sq (v := .bool false) rfl (r_pick (b := false) rfl (by kernel_rfl) (by kernel_rfl)) (by kernel_rfl) rfl rfl ?_
            refine W.sch_endU (fun U50 => [.agg #[.int .i64 m, .slice A n c], .slice A2 n2 c2, .pointer (some ⟨b2, 0, none⟩), undef, .int .i64 0, .bool false, .int .i64 ((cnt : Nat) : Int), .pointer (some ⟨b18, 0, none⟩), .int .i64 ((s : Nat) : Int), (U0 9), (U0 10), (U15 11), (U15 12), (U15 13), .bool false, (U30 15), (U39 16), (U39 17), (U39 18), (U39 19), (U39 20), .bool true, (U0 22), (U0 23), U50 24, U50 25, U50 26, U50 27, U50 28, U50 29, U50 30, U50 31, U50 32, U50 33, U50 34, U50 35, .bool false, (U0 37), (U0 38), (U0 39), (U0 40), (U0 41), (U0 42), (U0 43), (U0 44), (U0 45), (U0 46), (U0 47), (U0 48), (U0 49), (U0 50), (U0 51), (U0 52), (U0 53), (U0 54), (U0 55), (U0 56), (U0 57), undef]) (by kernel_rfl) (fun U50 => ?_)
            refine h12 _ _ ?_
            refine wp_cond_false (by kernel_rfl) ?_
            refine wp_skip ?_
            refine h11 _ _ ?_
            refine wp_seq_k (fun K13 h13 => ?_)
            refine W.region_quiet [(0, false), (1, false), (2, false)] (by kernel_rfl) ?_
            refine W.sq (v := .int .i64 ((cnt : Nat) : Int)) rfl (r_move rfl (by kernel_rfl)) (by kernel_rfl) rfl rfl ?_
            refine W.sq (v := .int .i64 ((cnt + 1 : Nat) : Int)) rfl (r_add (m := ((cnt : Nat) : Int)) (n := 1) (z := ((cnt + 1 : Nat) : Int)) rfl (by kernel_rfl) (by kernel_rfl) (by omega) (by omega)) (by kernel_rfl) rfl rfl ?_
            refine W.sq (v := .int .i64 ((cnt + 1 : Nat) : Int)) rfl (r_assign rfl (by kernel_rfl)) (by kernel_rfl) rfl rfl ?_
            refine W.sch_endU (fun U51 => [.agg #[.int .i64 m, .slice A n c], .slice A2 n2 c2, .pointer (some ⟨b2, 0, none⟩), undef, .int .i64 0, .bool false, .int .i64 ((cnt + 1 : Nat) : Int), .pointer (some ⟨b18, 0, none⟩), .int .i64 ((s : Nat) : Int), (U0 9), (U0 10), (U15 11), (U15 12), (U15 13), .bool false, (U30 15), (U39 16), (U39 17), (U39 18), (U39 19), (U39 20), .bool true, (U0 22), (U0 23), (U50 24), (U50 25), (U50 26), (U50 27), (U50 28), (U50 29), (U50 30), (U50 31), (U50 32), (U50 33), (U50 34), (U50 35), .bool false, U51 37, U51 38, (U0 39), (U0 40), (U0 41), (U0 42), (U0 43), (U0 44), (U0 45), (U0 46), (U0 47), (U0 48), (U0 49), (U0 50), (U0 51), (U0 52), (U0 53), (U0 54), (U0 55), (U0 56), (U0 57), undef]) (by kernel_rfl) (fun U51 => ?_)
            refine h13 _ _ ?_
            refine wp_seq_k (fun K14 h14 => ?_)
            refine W.region_plain (row := none) [(0, false), (1, false), (2, false), (3, true), (4, false)] (by kernel_rfl) ?_
            have s52 := SG.self wl0 none
            refine W.sq (v := .agg #[.int .i64 m, .slice A n c]) rfl (r_load2 rfl (by kernel_rfl) (by kernel_rfl) (by kernel_rfl) (sgS (blk_cell (j := 0) x6 (by kernel_rfl)) (by simp)) (sgS (blk_cell (j := 1) x6 (by kernel_rfl)) (by simp))) (by kernel_rfl) rfl rfl ?_
            refine W.sq (v := .slice A2 n2 c2) rfl (r_move rfl (by kernel_rfl)) (by kernel_rfl) rfl rfl ?_
            refine W.sq (v := .int .i64 ((s : Nat) : Int)) rfl (r_move rfl (by kernel_rfl)) (by kernel_rfl) rfl rfl ?_
            refine W.sc (vs := [.agg #[.int .i64 m, .slice A n c], .slice A2 n2 c2, .int .i64 ((s : Nat) : Int)]) rfl rfl (by kernel_rfl) (by kernel_rfl) (by kernel_rfl) rfl (segmentOf_any m A n c ps A2 n2 c2 vs (((s : Nat) : Int)) (((s : Nat) : Int)).toNat _ (Rd.kept ha (SG.belowR c40 s52 (fun kq e => by cases e))) (Rd.kept hb (SG.belowR c40 s52 (fun kq e => by cases e))) (by omega) (by omega) hp (by omega) (by omega) (by omega) (by omega)) ?_
            rintro e w59 ⟨pb53, rfl, lo57, rd54, b58⟩
            have s60 := SG.of_below s52 b58
            refine ⟨_, rfl, s60, ?_⟩
            have ho61 := own_kept ho0_7 b58
            have sp62 : Sp (some ⟨pb53, 0, none⟩) 19 (some b2) := sp_ptrB (Nat.lt_of_lt_of_le (Nat.lt_of_lt_of_le (blk_lt x6) (World.grownBy.size s52)) lo57)
            have sp63 : Sp (some ⟨pb53, 0, none⟩) 19 (Value.ownBlock (.slice (some ⟨b18, 0, none⟩) 19 19)) := sp_ptrR (fun j e2 => Nat.lt_of_lt_of_le (World.ownsRow.lt ho0_7 j e2).2 lo57)
            have hl55 := rd_bools_len rd54
            rw [wetL_len] at hl55
            have hl55 : (wetL (linked ps (openQ vs false)) (((s : Nat) : Int))).length = 19 := wetL_len _ _
            refine W.sq (v := .int .i64 0) rfl (r_move rfl (by kernel_rfl)) (by kernel_rfl) rfl rfl ?_
            refine W.sch_endU (fun U64 => [.agg #[.int .i64 m, .slice A n c], .slice A2 n2 c2, .pointer (some ⟨b2, 0, none⟩), undef, .int .i64 0, .bool false, .int .i64 ((cnt + 1 : Nat) : Int), .pointer (some ⟨b18, 0, none⟩), .int .i64 ((s : Nat) : Int), (U0 9), (U0 10), (U15 11), (U15 12), (U15 13), .bool false, (U30 15), (U39 16), (U39 17), (U39 18), (U39 19), (U39 20), .bool true, (U0 22), (U0 23), (U50 24), (U50 25), (U50 26), (U50 27), (U50 28), (U50 29), (U50 30), (U50 31), (U50 32), (U50 33), (U50 34), (U50 35), .bool false, (U51 37), (U51 38), U64 39, U64 40, U64 41, .pointer (some ⟨pb53, 0, none⟩), .int .i64 0, (U0 44), (U0 45), (U0 46), (U0 47), (U0 48), (U0 49), (U0 50), (U0 51), (U0 52), (U0 53), (U0 54), (U0 55), (U0 56), (U0 57), undef]) (by kernel_rfl) (fun U64 => ?_)
            have x6 := SG.blk s60 x6 (by simp)
            have c65 := (SG.belowR c40 s60 (fun kq e => by cases e))
            refine h14 _ _ ?_
            refine wp_block ?_
            refine loopK (fun am1 aa1 wl1 => ∃ (i : Nat) (bs : List Bool) (U1 : Nat → Value), aa1 = ⟨[.agg #[.int .i64 m, .slice A n c], .slice A2 n2 c2, .pointer (some ⟨b2, 0, none⟩), undef, .int .i64 0, .bool false, .int .i64 ((cnt + 1 : Nat) : Int), .pointer (some ⟨b18, 0, none⟩), .int .i64 ((s : Nat) : Int), U1 9, U1 10, (U15 11), (U15 12), (U15 13), .bool false, (U30 15), (U39 16), (U39 17), (U39 18), (U39 19), (U39 20), .bool true, (U0 22), (U0 23), (U50 24), (U50 25), (U50 26), (U50 27), (U50 28), (U50 29), (U50 30), (U50 31), (U50 32), (U50 33), (U50 34), (U50 35), .bool false, (U51 37), (U51 38), (U64 39), (U64 40), (U64 41), .pointer (some ⟨pb53, 0, none⟩), .int .i64 ((i : Nat) : Int), U1 44, U1 45, U1 46, U1 47, U1 48, U1 49, U1 50, U1 51, U1 52, U1 53, U1 54, U1 55, U1 56, U1 57, undef].toArray, []⟩ ∧ (am1 = 19 - i) ∧ (i ≤ 19) ∧ (Mix (linked ps (openQ vs false)) m.toNat ps.length s i bs) ∧ (wl1.heap[b2]? = some (.cells #[.int .i64 m, .slice A n c] 31 (0, 0))) ∧ (wl1.ownsRow w.heap.size 88 1 (.slice (some ⟨b18, 0, none⟩) 19 19) 19 (boolsV bs)) ∧ (Rd wl1 1 (some ⟨pb53, 0, none⟩) 19 (boolsV (wetL (linked ps (openQ vs false)) (((s : Nat) : Int))))) ∧ (Below w.heap.size w wl1)) (19 - 0) ?_ ?_
            · exact ⟨0, seenL (linked ps (openQ vs false)) m.toNat ps.length s, (fun iU9 => [.agg #[.int .i64 m, .slice A n c], .slice A2 n2 c2, .pointer (some ⟨b2, 0, none⟩), undef, .int .i64 0, .bool false, .int .i64 ((cnt + 1 : Nat) : Int), .pointer (some ⟨b18, 0, none⟩), .int .i64 ((s : Nat) : Int), (U0 9), (U0 10), (U15 11), (U15 12), (U15 13), .bool false, (U30 15), (U39 16), (U39 17), (U39 18), (U39 19), (U39 20), .bool true, (U0 22), (U0 23), (U50 24), (U50 25), (U50 26), (U50 27), (U50 28), (U50 29), (U50 30), (U50 31), (U50 32), (U50 33), (U50 34), (U50 35), .bool false, (U51 37), (U51 38), (U64 39), (U64 40), (U64 41), .pointer (some ⟨pb53, 0, none⟩), .int .i64 0, (U0 44), (U0 45), (U0 46), (U0 47), (U0 48), (U0 49), (U0 50), (U0 51), (U0 52), (U0 53), (U0 54), (U0 55), (U0 56), (U0 57), undef].getD iU9 undef), (by kernel_rfl), rfl, (Nat.zero_le _), (Mix.start (linked ps (openQ vs false)) m.toNat ps.length s), x6, ho61, rd54, c65⟩
            rintro am1 aa1 wl1 K15 h15 ⟨i, bs, U1, rfl, rfl, hi, hmix, x6, ho1_7, rd1_42, c66⟩
            refine wp_seq_k (fun K16 h16 => ?_)
            refine W.region_quiet [(0, false)] (by kernel_rfl) ?_
            by_cases q67 : (((i : Nat) : Int) : Int) < (19 : Int)
            · refine W.sq (v := .bool true) rfl (r_lss (m := ((i : Nat) : Int)) (n := 19) rfl (by kernel_rfl) (by kernel_rfl) (decide_eq_true q67)) (by kernel_rfl) rfl rfl ?_
              refine W.sch_end (l' := [.agg #[.int .i64 m, .slice A n c], .slice A2 n2 c2, .pointer (some ⟨b2, 0, none⟩), undef, .int .i64 0, .bool false, .int .i64 ((cnt + 1 : Nat) : Int), .pointer (some ⟨b18, 0, none⟩), .int .i64 ((s : Nat) : Int), (U1 9), (U1 10), (U15 11), (U15 12), (U15 13), .bool false, (U30 15), (U39 16), (U39 17), (U39 18), (U39 19), (U39 20), .bool true, (U0 22), (U0 23), (U50 24), (U50 25), (U50 26), (U50 27), (U50 28), (U50 29), (U50 30), (U50 31), (U50 32), (U50 33), (U50 34), (U50 35), .bool false, (U51 37), (U51 38), (U64 39), (U64 40), (U64 41), .pointer (some ⟨pb53, 0, none⟩), .int .i64 ((i : Nat) : Int), .bool true, (U1 45), (U1 46), (U1 47), (U1 48), (U1 49), (U1 50), (U1 51), (U1 52), (U1 53), (U1 54), (U1 55), (U1 56), (U1 57), undef]) (by kernel_rfl) ?_
              refine h16 _ _ ?_
              refine wp_seq_k (fun K17 h17 => ?_)
              refine wp_cond_true (by kernel_rfl) ?_
              refine wp_skip ?_
              refine h17 _ _ ?_
              refine wp_seq_k (fun K18 h18 => ?_)
              refine wp_block ?_
              refine wp_seq_k (fun K19 h19 => ?_)
              refine W.region_sch (row := none) (Sch.of [(0, false), (1, false), (2, false), (3, false), (4, false), (5, false)]) (by kernel_rfl) (by kernel_rfl) (fun _ d _ _ _ h => by cases d <;> exact h) (by kernel_rfl) (fun w68 e69 s70 => ?_)
              have ho71 := own_heap ho1_7 e69
              refine W.sq (v := .int .i64 ((i : Nat) : Int)) rfl (r_move rfl (by kernel_rfl)) (by kernel_rfl) rfl rfl ?_
              refine W.sq (v := .pointer (some ⟨pb53, 0, none⟩)) rfl (r_nilCheck rfl (by kernel_rfl)) (by kernel_rfl) rfl rfl ?_
              obtain ⟨x72, hx73⟩ := get_of (zs := (wetL (linked ps (openQ vs false)) (((s : Nat) : Int)))) (k := i) (by have := hl55; omega)
              obtain ⟨hb74, hc75⟩ := Rd.elBool rd1_42 hx73
              refine W.sq (v := .pointer (some ⟨pb53, i, none⟩)) rfl (r_idxA (len := 19) (k := i) rfl (by kernel_rfl) (by kernel_rfl) (by kernel_rfl) (by omega)) (by kernel_rfl) rfl rfl ?_
              refine W.sq (v := .bool x72) rfl (r_load rfl (by kernel_rfl) (by kernel_rfl) (sgS hc75 (by simp))) (by kernel_rfl) rfl rfl ?_
              refine W.sq (v := .int .i64 ((i : Nat) : Int)) rfl (r_assign rfl (by kernel_rfl)) (by kernel_rfl) rfl rfl ?_
              refine W.sq (v := .bool x72) rfl (r_assign rfl (by kernel_rfl)) (by kernel_rfl) rfl rfl ?_
              refine W.sch_endU (fun U76 => [.agg #[.int .i64 m, .slice A n c], .slice A2 n2 c2, .pointer (some ⟨b2, 0, none⟩), undef, .int .i64 0, .bool false, .int .i64 ((cnt + 1 : Nat) : Int), .pointer (some ⟨b18, 0, none⟩), .int .i64 ((s : Nat) : Int), .int .i64 ((i : Nat) : Int), .bool x72, (U15 11), (U15 12), (U15 13), .bool false, (U30 15), (U39 16), (U39 17), (U39 18), (U39 19), (U39 20), .bool true, (U0 22), (U0 23), (U50 24), (U50 25), (U50 26), (U50 27), (U50 28), (U50 29), (U50 30), (U50 31), (U50 32), (U50 33), (U50 34), (U50 35), .bool false, (U51 37), (U51 38), (U64 39), (U64 40), (U64 41), .pointer (some ⟨pb53, 0, none⟩), .int .i64 ((i : Nat) : Int), .bool true, U76 45, U76 46, U76 47, U76 48, (U1 49), (U1 50), (U1 51), (U1 52), (U1 53), (U1 54), (U1 55), (U1 56), (U1 57), undef]) (by kernel_rfl) (fun U76 => ?_)
              have x6 := SG.blk s70 x6 (by simp)
              have c77 := (SG.belowR c66 s70 (fun kq e => by cases e))
              have rd78 := Rd.kept rd1_42 (SG.below s70)
              refine h19 _ _ ?_
              refine W.region_plain (row := (Value.ownBlock (.slice (some ⟨b18, 0, none⟩) 19 19))) [(0, false), (1, false), (2, false), (3, true), (4, false), (5, false), (6, false), (7, false), (8, true)] (by kernel_rfl) ?_
              have s79 := SG.self w68 (Value.ownBlock (.slice (some ⟨b18, 0, none⟩) 19 19))
              refine W.sq (v := .int .i64 ((i : Nat) : Int)) rfl (r_move rfl (by kernel_rfl)) (by kernel_rfl) rfl rfl ?_
              refine W.sq (v := .int .i64 ((i : Nat) : Int)) rfl (r_move rfl (by kernel_rfl)) (by kernel_rfl) rfl rfl ?_
              refine W.sq (v := .pointer (some ⟨b18, i, none⟩)) rfl (r_idxA (len := 19) (k := i) rfl (by kernel_rfl) (by kernel_rfl) (by kernel_rfl) (by omega)) (by kernel_rfl) rfl rfl ?_
              obtain ⟨x80, hx81⟩ := get_of (zs := bs) (k := i) (by have h9 := own_len ho71; rw [bools_len] at h9; omega)
              refine W.slq (v := .bool x80) s79 rfl (r_load rfl (by kernel_rfl) (by kernel_rfl) (eqS (own_atB ho71 hx81))) (by kernel_rfl) rfl ?_
              refine W.sq (v := .bool x80) rfl (r_move rfl (by kernel_rfl)) (by kernel_rfl) rfl rfl ?_
              rcases Bool.eq_false_or_eq_true x80 with q82 | q82
              · rw [q82]
                refine W.sk s79 rfl (by kernel_rfl) rfl rfl ?_
                refine W.sq (v := .bool true) rfl (r_pick (b := true) rfl (by kernel_rfl) (by kernel_rfl)) (by kernel_rfl) rfl rfl ?_
                refine W.sq (v := .pointer (some ⟨b18, i, none⟩)) rfl (r_idxA (len := 19) (k := i) rfl (by kernel_rfl) (by kernel_rfl) (by kernel_rfl) (by omega)) (by kernel_rfl) rfl rfl ?_
                refine W.ssr (base := w.heap.size) (e := 88) (j := i) (u := .bool true) s79 rfl (by kernel_rfl) rfl rfl (by kernel_rfl) (by kernel_rfl) ho71 (by kernel_rfl) (by kernel_rfl) (by kernel_rfl) (by omega) (.inl rfl) (fun w83 ho84 g85 s86 => ?_)
                have ho84 := own_setB ho84
                refine W.sch_endU (fun U87 => [.agg #[.int .i64 m, .slice A n c], .slice A2 n2 c2, .pointer (some ⟨b2, 0, none⟩), undef, .int .i64 0, .bool false, .int .i64 ((cnt + 1 : Nat) : Int), .pointer (some ⟨b18, 0, none⟩), .int .i64 ((s : Nat) : Int), .int .i64 ((i : Nat) : Int), .bool x72, (U15 11), (U15 12), (U15 13), .bool false, (U30 15), (U39 16), (U39 17), (U39 18), (U39 19), (U39 20), .bool true, (U0 22), (U0 23), (U50 24), (U50 25), (U50 26), (U50 27), (U50 28), (U50 29), (U50 30), (U50 31), (U50 32), (U50 33), (U50 34), (U50 35), .bool false, (U51 37), (U51 38), (U64 39), (U64 40), (U64 41), .pointer (some ⟨pb53, 0, none⟩), .int .i64 ((i : Nat) : Int), .bool true, (U76 45), (U76 46), (U76 47), (U76 48), U87 49, U87 50, U87 51, U87 52, U87 53, undef, U87 55, U87 56, (U1 57), undef]) (by kernel_rfl) (fun U87 => ?_)
                have x6 := SG.blk s86 x6 nb33
                have c88 := (SG.belowR c77 s86 (fun kq e => (World.ownsRow.lt ho71 kq e).1))
                have rd89 := rd_sep rd78 s86 sp63
                refine h18 _ _ ?_
                refine W.region_quiet [(0, false), (1, false)] (by kernel_rfl) ?_
                refine W.sq (v := .int .i64 ((i + 1 : Nat) : Int)) rfl (r_add (m := ((i : Nat) : Int)) (n := 1) (z := ((i + 1 : Nat) : Int)) rfl (by kernel_rfl) (by kernel_rfl) (by omega) (by omega)) (by kernel_rfl) rfl rfl ?_
                refine W.sq (v := .int .i64 ((i + 1 : Nat) : Int)) rfl (r_move rfl (by kernel_rfl)) (by kernel_rfl) rfl rfl ?_
                refine W.sch_endU (fun U90 => [.agg #[.int .i64 m, .slice A n c], .slice A2 n2 c2, .pointer (some ⟨b2, 0, none⟩), undef, .int .i64 0, .bool false, .int .i64 ((cnt + 1 : Nat) : Int), .pointer (some ⟨b18, 0, none⟩), .int .i64 ((s : Nat) : Int), .int .i64 ((i : Nat) : Int), .bool x72, (U15 11), (U15 12), (U15 13), .bool false, (U30 15), (U39 16), (U39 17), (U39 18), (U39 19), (U39 20), .bool true, (U0 22), (U0 23), (U50 24), (U50 25), (U50 26), (U50 27), (U50 28), (U50 29), (U50 30), (U50 31), (U50 32), (U50 33), (U50 34), (U50 35), .bool false, (U51 37), (U51 38), (U64 39), (U64 40), (U64 41), .pointer (some ⟨pb53, 0, none⟩), .int .i64 ((i + 1 : Nat) : Int), .bool true, (U76 45), (U76 46), (U76 47), (U76 48), (U87 49), (U87 50), (U87 51), (U87 52), (U87 53), undef, (U87 55), (U87 56), U90 57, undef]) (by kernel_rfl) (fun U90 => ?_)
                exact h15 _ _ _ (by omega : (19 - (i + 1)) < _) ⟨i + 1, (bs.set i true), (fun iU9 => [.agg #[.int .i64 m, .slice A n c], .slice A2 n2 c2, .pointer (some ⟨b2, 0, none⟩), undef, .int .i64 0, .bool false, .int .i64 ((cnt + 1 : Nat) : Int), .pointer (some ⟨b18, 0, none⟩), .int .i64 ((s : Nat) : Int), .int .i64 ((i : Nat) : Int), .bool x72, (U15 11), (U15 12), (U15 13), .bool false, (U30 15), (U39 16), (U39 17), (U39 18), (U39 19), (U39 20), .bool true, (U0 22), (U0 23), (U50 24), (U50 25), (U50 26), (U50 27), (U50 28), (U50 29), (U50 30), (U50 31), (U50 32), (U50 33), (U50 34), (U50 35), .bool false, (U51 37), (U51 38), (U64 39), (U64 40), (U64 41), .pointer (some ⟨pb53, 0, none⟩), .int .i64 ((i + 1 : Nat) : Int), .bool true, (U76 45), (U76 46), (U76 47), (U76 48), (U87 49), (U87 50), (U87 51), (U87 52), (U87 53), undef, (U87 55), (U87 56), (U90 57), undef].getD iU9 undef), (by kernel_rfl), rfl, (by omega), (hmix.next (by omega) hx81 (wet_eq hx73) (okS_iff.2 (by omega)) (by rw [q82]; rfl)), x6, ho84, rd89, c88⟩
              · rw [q82]
                refine W.sq (v := .bool x72) rfl (r_move rfl (by kernel_rfl)) (by kernel_rfl) rfl rfl ?_
                refine W.sq (v := .bool x72) rfl (r_pick (b := false) rfl (by kernel_rfl) (by kernel_rfl)) (by kernel_rfl) rfl rfl ?_
                refine W.sq (v := .pointer (some ⟨b18, i, none⟩)) rfl (r_idxA (len := 19) (k := i) rfl (by kernel_rfl) (by kernel_rfl) (by kernel_rfl) (by omega)) (by kernel_rfl) rfl rfl ?_
                refine W.ssr (base := w.heap.size) (e := 88) (j := i) (u := .bool x72) s79 rfl (by kernel_rfl) rfl rfl (by kernel_rfl) (by kernel_rfl) ho71 (by kernel_rfl) (by kernel_rfl) (by kernel_rfl) (by omega) (.inl rfl) (fun w91 ho92 g93 s94 => ?_)
                have ho92 := own_setB ho92
                refine W.sch_endU (fun U95 => [.agg #[.int .i64 m, .slice A n c], .slice A2 n2 c2, .pointer (some ⟨b2, 0, none⟩), undef, .int .i64 0, .bool false, .int .i64 ((cnt + 1 : Nat) : Int), .pointer (some ⟨b18, 0, none⟩), .int .i64 ((s : Nat) : Int), .int .i64 ((i : Nat) : Int), .bool x72, (U15 11), (U15 12), (U15 13), .bool false, (U30 15), (U39 16), (U39 17), (U39 18), (U39 19), (U39 20), .bool true, (U0 22), (U0 23), (U50 24), (U50 25), (U50 26), (U50 27), (U50 28), (U50 29), (U50 30), (U50 31), (U50 32), (U50 33), (U50 34), (U50 35), .bool false, (U51 37), (U51 38), (U64 39), (U64 40), (U64 41), .pointer (some ⟨pb53, 0, none⟩), .int .i64 ((i : Nat) : Int), .bool true, (U76 45), (U76 46), (U76 47), (U76 48), U95 49, U95 50, U95 51, U95 52, U95 53, U95 54, U95 55, U95 56, (U1 57), undef]) (by kernel_rfl) (fun U95 => ?_)
                have x6 := SG.blk s94 x6 nb33
                have c96 := (SG.belowR c77 s94 (fun kq e => (World.ownsRow.lt ho71 kq e).1))
                have rd97 := rd_sep rd78 s94 sp63
                refine h18 _ _ ?_
                refine W.region_quiet [(0, false), (1, false)] (by kernel_rfl) ?_
                refine W.sq (v := .int .i64 ((i + 1 : Nat) : Int)) rfl (r_add (m := ((i : Nat) : Int)) (n := 1) (z := ((i + 1 : Nat) : Int)) rfl (by kernel_rfl) (by kernel_rfl) (by omega) (by omega)) (by kernel_rfl) rfl rfl ?_
                refine W.sq (v := .int .i64 ((i + 1 : Nat) : Int)) rfl (r_move rfl (by kernel_rfl)) (by kernel_rfl) rfl rfl ?_
                refine W.sch_endU (fun U98 => [.agg #[.int .i64 m, .slice A n c], .slice A2 n2 c2, .pointer (some ⟨b2, 0, none⟩), undef, .int .i64 0, .bool false, .int .i64 ((cnt + 1 : Nat) : Int), .pointer (some ⟨b18, 0, none⟩), .int .i64 ((s : Nat) : Int), .int .i64 ((i : Nat) : Int), .bool x72, (U15 11), (U15 12), (U15 13), .bool false, (U30 15), (U39 16), (U39 17), (U39 18), (U39 19), (U39 20), .bool true, (U0 22), (U0 23), (U50 24), (U50 25), (U50 26), (U50 27), (U50 28), (U50 29), (U50 30), (U50 31), (U50 32), (U50 33), (U50 34), (U50 35), .bool false, (U51 37), (U51 38), (U64 39), (U64 40), (U64 41), .pointer (some ⟨pb53, 0, none⟩), .int .i64 ((i + 1 : Nat) : Int), .bool true, (U76 45), (U76 46), (U76 47), (U76 48), (U95 49), (U95 50), (U95 51), (U95 52), (U95 53), (U95 54), (U95 55), (U95 56), U98 57, undef]) (by kernel_rfl) (fun U98 => ?_)
                exact h15 _ _ _ (by omega : (19 - (i + 1)) < _) ⟨i + 1, (bs.set i x72), (fun iU9 => [.agg #[.int .i64 m, .slice A n c], .slice A2 n2 c2, .pointer (some ⟨b2, 0, none⟩), undef, .int .i64 0, .bool false, .int .i64 ((cnt + 1 : Nat) : Int), .pointer (some ⟨b18, 0, none⟩), .int .i64 ((s : Nat) : Int), .int .i64 ((i : Nat) : Int), .bool x72, (U15 11), (U15 12), (U15 13), .bool false, (U30 15), (U39 16), (U39 17), (U39 18), (U39 19), (U39 20), .bool true, (U0 22), (U0 23), (U50 24), (U50 25), (U50 26), (U50 27), (U50 28), (U50 29), (U50 30), (U50 31), (U50 32), (U50 33), (U50 34), (U50 35), .bool false, (U51 37), (U51 38), (U64 39), (U64 40), (U64 41), .pointer (some ⟨pb53, 0, none⟩), .int .i64 ((i + 1 : Nat) : Int), .bool true, (U76 45), (U76 46), (U76 47), (U76 48), (U95 49), (U95 50), (U95 51), (U95 52), (U95 53), (U95 54), (U95 55), (U95 56), (U98 57), undef].getD iU9 undef), (by kernel_rfl), rfl, (by omega), (hmix.next (by omega) hx81 (wet_eq hx73) (okS_iff.2 (by omega)) (by rw [q82]; exact (Bool.false_or _).symm)), x6, ho92, rd97, c96⟩
            · refine W.sq (v := .bool false) rfl (r_lss (m := ((i : Nat) : Int)) (n := 19) rfl (by kernel_rfl) (by kernel_rfl) (decide_eq_false q67)) (by kernel_rfl) rfl rfl ?_
              refine W.sch_end (l' := [.agg #[.int .i64 m, .slice A n c], .slice A2 n2 c2, .pointer (some ⟨b2, 0, none⟩), undef, .int .i64 0, .bool false, .int .i64 ((cnt + 1 : Nat) : Int), .pointer (some ⟨b18, 0, none⟩), .int .i64 ((s : Nat) : Int), (U1 9), (U1 10), (U15 11), (U15 12), (U15 13), .bool false, (U30 15), (U39 16), (U39 17), (U39 18), (U39 19), (U39 20), .bool true, (U0 22), (U0 23), (U50 24), (U50 25), (U50 26), (U50 27), (U50 28), (U50 29), (U50 30), (U50 31), (U50 32), (U50 33), (U50 34), (U50 35), .bool false, (U51 37), (U51 38), (U64 39), (U64 40), (U64 41), .pointer (some ⟨pb53, 0, none⟩), .int .i64 ((i : Nat) : Int), .bool false, (U1 45), (U1 46), (U1 47), (U1 48), (U1 49), (U1 50), (U1 51), (U1 52), (U1 53), (U1 54), (U1 55), (U1 56), (U1 57), undef]) (by kernel_rfl) ?_
              refine h16 _ _ ?_
              refine wp_seq_k (fun K20 h20 => ?_)
              refine wp_cond_false (by kernel_rfl) ?_
              refine wp_exit ?_
              refine h10 _ _ ?_
              refine W.region_quiet [(0, false), (1, false), (2, false)] (by kernel_rfl) ?_
              refine W.sq (v := .int .i64 ((s : Nat) : Int)) rfl (r_move rfl (by kernel_rfl)) (by kernel_rfl) rfl rfl ?_
              refine W.sq (v := .int .i64 ((s + 1 : Nat) : Int)) rfl (r_add (m := ((s : Nat) : Int)) (n := 1) (z := ((s + 1 : Nat) : Int)) rfl (by kernel_rfl) (by kernel_rfl) (by omega) (by omega)) (by kernel_rfl) rfl rfl ?_
              refine W.sq (v := .int .i64 ((s + 1 : Nat) : Int)) rfl (r_assign rfl (by kernel_rfl)) (by kernel_rfl) rfl rfl ?_
              refine W.sch_endU (fun U99 => [.agg #[.int .i64 m, .slice A n c], .slice A2 n2 c2, .pointer (some ⟨b2, 0, none⟩), undef, .int .i64 0, .bool false, .int .i64 ((cnt + 1 : Nat) : Int), .pointer (some ⟨b18, 0, none⟩), .int .i64 ((s + 1 : Nat) : Int), (U1 9), (U1 10), (U15 11), (U15 12), (U15 13), .bool false, (U30 15), (U39 16), (U39 17), (U39 18), (U39 19), (U39 20), .bool true, U99 22, U99 23, (U50 24), (U50 25), (U50 26), (U50 27), (U50 28), (U50 29), (U50 30), (U50 31), (U50 32), (U50 33), (U50 34), (U50 35), .bool false, (U51 37), (U51 38), (U64 39), (U64 40), (U64 41), .pointer (some ⟨pb53, 0, none⟩), .int .i64 ((i : Nat) : Int), .bool false, (U1 45), (U1 46), (U1 47), (U1 48), (U1 49), (U1 50), (U1 51), (U1 52), (U1 53), (U1 54), (U1 55), (U1 56), (U1 57), undef]) (by kernel_rfl) (fun U99 => ?_)
              exact h7 _ _ _ (by omega : (9 + n - (s + 1)) < _) ⟨s + 1, cnt + 1, (fun iU9 => [.agg #[.int .i64 m, .slice A n c], .slice A2 n2 c2, .pointer (some ⟨b2, 0, none⟩), undef, .int .i64 0, .bool false, .int .i64 ((cnt + 1 : Nat) : Int), .pointer (some ⟨b18, 0, none⟩), .int .i64 ((s + 1 : Nat) : Int), (U1 9), (U1 10), (U15 11), (U15 12), (U15 13), .bool false, (U30 15), (U39 16), (U39 17), (U39 18), (U39 19), (U39 20), .bool true, (U99 22), (U99 23), (U50 24), (U50 25), (U50 26), (U50 27), (U50 28), (U50 29), (U50 30), (U50 31), (U50 32), (U50 33), (U50 34), (U50 35), .bool false, (U51 37), (U51 38), (U64 39), (U64 40), (U64 41), .pointer (some ⟨pb53, 0, none⟩), .int .i64 ((i : Nat) : Int), .bool false, (U1 45), (U1 46), (U1 47), (U1 48), (U1 49), (U1 50), (U1 51), (U1 52), (U1 53), (U1 54), (U1 55), (U1 56), (U1 57), undef].getD iU9 undef), (by kernel_rfl), rfl, (by omega), (by rw [hc, cntS_yes (okS_iff.2 (by omega)) ((seenL_eq hx42).symm.trans q43)]), x6, (by rw [hmix.fin (by omega)]; exact ho1_7), c66⟩
        · refine W.sq (v := .bool false) rfl (r_gtr (m := ((s : Nat) : Int)) (n := m) rfl (by kernel_rfl) (by kernel_rfl) (decide_eq_false q46)) (by kernel_rfl) rfl rfl ?_
          refine W.sq (v := .bool false) rfl (r_move rfl (by kernel_rfl)) (by kernel_rfl) rfl rfl ?_
          refine W.sk rfl rfl (by kernel_rfl) rfl rfl ?_
          refine W.sk rfl rfl (by kernel_rfl) rfl rfl ?_
          refine W.sq (v := .bool false) rfl (r_pick (b := false) rfl (by kernel_rfl) (by kernel_rfl)) (by kernel_rfl) rfl rfl ?_
          refine W.sq (v := .bool false) rfl (r_pick (b := false) rfl (by kernel_rfl) (by kernel_rfl)) (by kernel_rfl) rfl rfl ?_
          refine W.sch_endU (fun U100 => [.agg #[.int .i64 m, .slice A n c], .slice A2 n2 c2, .pointer (some ⟨b2, 0, none⟩), undef, .int .i64 0, .bool false, .int .i64 ((cnt : Nat) : Int), .pointer (some ⟨b18, 0, none⟩), .int .i64 ((s : Nat) : Int), (U0 9), (U0 10), (U15 11), (U15 12), (U15 13), .bool false, (U30 15), (U39 16), (U39 17), (U39 18), (U39 19), (U39 20), .bool true, (U0 22), (U0 23), U100 24, U100 25, U100 26, U100 27, U100 28, U100 29, U100 30, U100 31, U100 32, undef, undef, U100 35, .bool false, (U0 37), (U0 38), (U0 39), (U0 40), (U0 41), (U0 42), (U0 43), (U0 44), (U0 45), (U0 46), (U0 47), (U0 48), (U0 49), (U0 50), (U0 51), (U0 52), (U0 53), (U0 54), (U0 55), (U0 56), (U0 57), undef]) (by kernel_rfl) (fun U100 => ?_)
          refine h12 _ _ ?_
          refine wp_cond_false (by kernel_rfl) ?_
          refine wp_skip ?_
          refine h11 _ _ ?_
          refine wp_seq_k (fun K21 h21 => ?_)
          refine W.region_quiet [(0, false), (1, false), (2, false)] (by kernel_rfl) ?_
          refine W.sq (v := .int .i64 ((cnt : Nat) : Int)) rfl (r_move rfl (by kernel_rfl)) (by kernel_rfl) rfl rfl ?_
          refine W.sq (v := .int .i64 ((cnt + 1 : Nat) : Int)) rfl (r_add (m := ((cnt : Nat) : Int)) (n := 1) (z := ((cnt + 1 : Nat) : Int)) rfl (by kernel_rfl) (by kernel_rfl) (by omega) (by omega)) (by kernel_rfl) rfl rfl ?_
          refine W.sq (v := .int .i64 ((cnt + 1 : Nat) : Int)) rfl (r_assign rfl (by kernel_rfl)) (by kernel_rfl) rfl rfl ?_
          refine W.sch_endU (fun U101 => [.agg #[.int .i64 m, .slice A n c], .slice A2 n2 c2, .pointer (some ⟨b2, 0, none⟩), undef, .int .i64 0, .bool false, .int .i64 ((cnt + 1 : Nat) : Int), .pointer (some ⟨b18, 0, none⟩), .int .i64 ((s : Nat) : Int), (U0 9), (U0 10), (U15 11), (U15 12), (U15 13), .bool false, (U30 15), (U39 16), (U39 17), (U39 18), (U39 19), (U39 20), .bool true, (U0 22), (U0 23), (U100 24), (U100 25), (U100 26), (U100 27), (U100 28), (U100 29), (U100 30), (U100 31), (U100 32), undef, undef, (U100 35), .bool false, U101 37, U101 38, (U0 39), (U0 40), (U0 41), (U0 42), (U0 43), (U0 44), (U0 45), (U0 46), (U0 47), (U0 48), (U0 49), (U0 50), (U0 51), (U0 52), (U0 53), (U0 54), (U0 55), (U0 56), (U0 57), undef]) (by kernel_rfl) (fun U101 => ?_)
          refine h21 _ _ ?_
          refine wp_seq_k (fun K22 h22 => ?_)
          refine W.region_plain (row := none) [(0, false), (1, false), (2, false), (3, true), (4, false)] (by kernel_rfl) ?_
          have s102 := SG.self wl0 none
          refine W.sq (v := .agg #[.int .i64 m, .slice A n c]) rfl (r_load2 rfl (by kernel_rfl) (by kernel_rfl) (by kernel_rfl) (sgS (blk_cell (j := 0) x6 (by kernel_rfl)) (by simp)) (sgS (blk_cell (j := 1) x6 (by kernel_rfl)) (by simp))) (by kernel_rfl) rfl rfl ?_
          refine W.sq (v := .slice A2 n2 c2) rfl (r_move rfl (by kernel_rfl)) (by kernel_rfl) rfl rfl ?_
          refine W.sq (v := .int .i64 ((s : Nat) : Int)) rfl (r_move rfl (by kernel_rfl)) (by kernel_rfl) rfl rfl ?_
          refine W.sc (vs := [.agg #[.int .i64 m, .slice A n c], .slice A2 n2 c2, .int .i64 ((s : Nat) : Int)]) rfl rfl (by kernel_rfl) (by kernel_rfl) (by kernel_rfl) rfl (segmentOf_any m A n c ps A2 n2 c2 vs (((s : Nat) : Int)) (((s : Nat) : Int)).toNat _ (Rd.kept ha (SG.belowR c40 s102 (fun kq e => by cases e))) (Rd.kept hb (SG.belowR c40 s102 (fun kq e => by cases e))) (by omega) (by omega) hp (by omega) (by omega) (by omega) (by omega)) ?_
          rintro e w109 ⟨pb103, rfl, lo107, rd104, b108⟩
          have s110 := SG.of_below s102 b108
          refine ⟨_, rfl, s110, ?_⟩
          have ho111 := own_kept ho0_7 b108
          have sp112 : Sp (some ⟨pb103, 0, none⟩) 19 (some b2) := sp_ptrB (Nat.lt_of_lt_of_le (Nat.lt_of_lt_of_le (blk_lt x6) (World.grownBy.size s102)) lo107)
          have sp113 : Sp (some ⟨pb103, 0, none⟩) 19 (Value.ownBlock (.slice (some ⟨b18, 0, none⟩) 19 19)) := sp_ptrR (fun j e2 => Nat.lt_of_lt_of_le (World.ownsRow.lt ho0_7 j e2).2 lo107)
          have hl105 := rd_bools_len rd104
          rw [wetL_len] at hl105
          have hl105 : (wetL (linked ps (openQ vs false)) (((s : Nat) : Int))).length = 19 := wetL_len _ _
          refine W.sq (v := .int .i64 0) rfl (r_move rfl (by kernel_rfl)) (by kernel_rfl) rfl rfl ?_
          refine W.sch_endU (fun U114 => [.agg #[.int .i64 m, .slice A n c], .slice A2 n2 c2, .pointer (some ⟨b2, 0, none⟩), undef, .int .i64 0, .bool false, .int .i64 ((cnt + 1 : Nat) : Int), .pointer (some ⟨b18, 0, none⟩), .int .i64 ((s : Nat) : Int), (U0 9), (U0 10), (U15 11), (U15 12), (U15 13), .bool false, (U30 15), (U39 16), (U39 17), (U39 18), (U39 19), (U39 20), .bool true, (U0 22), (U0 23), (U100 24), (U100 25), (U100 26), (U100 27), (U100 28), (U100 29), (U100 30), (U100 31), (U100 32), undef, undef, (U100 35), .bool false, (U101 37), (U101 38), U114 39, U114 40, U114 41, .pointer (some ⟨pb103, 0, none⟩), .int .i64 0, (U0 44), (U0 45), (U0 46), (U0 47), (U0 48), (U0 49), (U0 50), (U0 51), (U0 52), (U0 53), (U0 54), (U0 55), (U0 56), (U0 57), undef]) (by kernel_rfl) (fun U114 => ?_)
          have x6 := SG.blk s110 x6 (by simp)
          have c115 := (SG.belowR c40 s110 (fun kq e => by cases e))
          refine h22 _ _ ?_
          refine wp_block ?_
          refine loopK (fun am1 aa1 wl1 => ∃ (i : Nat) (bs : List Bool) (U1 : Nat → Value), aa1 = ⟨[.agg #[.int .i64 m, .slice A n c], .slice A2 n2 c2, .pointer (some ⟨b2, 0, none⟩), undef, .int .i64 0, .bool false, .int .i64 ((cnt + 1 : Nat) : Int), .pointer (some ⟨b18, 0, none⟩), .int .i64 ((s : Nat) : Int), U1 9, U1 10, (U15 11), (U15 12), (U15 13), .bool false, (U30 15), (U39 16), (U39 17), (U39 18), (U39 19), (U39 20), .bool true, (U0 22), (U0 23), (U100 24), (U100 25), (U100 26), (U100 27), (U100 28), (U100 29), (U100 30), (U100 31), (U100 32), undef, undef, (U100 35), .bool false, (U101 37), (U101 38), (U114 39), (U114 40), (U114 41), .pointer (some ⟨pb103, 0, none⟩), .int .i64 ((i : Nat) : Int), U1 44, U1 45, U1 46, U1 47, U1 48, U1 49, U1 50, U1 51, U1 52, U1 53, U1 54, U1 55, U1 56, U1 57, undef].toArray, []⟩ ∧ (am1 = 19 - i) ∧ (i ≤ 19) ∧ (Mix (linked ps (openQ vs false)) m.toNat ps.length s i bs) ∧ (wl1.heap[b2]? = some (.cells #[.int .i64 m, .slice A n c] 31 (0, 0))) ∧ (wl1.ownsRow w.heap.size 88 1 (.slice (some ⟨b18, 0, none⟩) 19 19) 19 (boolsV bs)) ∧ (Rd wl1 1 (some ⟨pb103, 0, none⟩) 19 (boolsV (wetL (linked ps (openQ vs false)) (((s : Nat) : Int))))) ∧ (Below w.heap.size w wl1)) (19 - 0) ?_ ?_
          · exact ⟨0, seenL (linked ps (openQ vs false)) m.toNat ps.length s, (fun iU9 => [.agg #[.int .i64 m, .slice A n c], .slice A2 n2 c2, .pointer (some ⟨b2, 0, none⟩), undef, .int .i64 0, .bool false, .int .i64 ((cnt + 1 : Nat) : Int), .pointer (some ⟨b18, 0, none⟩), .int .i64 ((s : Nat) : Int), (U0 9), (U0 10), (U15 11), (U15 12), (U15 13), .bool false, (U30 15), (U39 16), (U39 17), (U39 18), (U39 19), (U39 20), .bool true, (U0 22), (U0 23), (U100 24), (U100 25), (U100 26), (U100 27), (U100 28), (U100 29), (U100 30), (U100 31), (U100 32), undef, undef, (U100 35), .bool false, (U101 37), (U101 38), (U114 39), (U114 40), (U114 41), .pointer (some ⟨pb103, 0, none⟩), .int .i64 0, (U0 44), (U0 45), (U0 46), (U0 47), (U0 48), (U0 49), (U0 50), (U0 51), (U0 52), (U0 53), (U0 54), (U0 55), (U0 56), (U0 57), undef].getD iU9 undef), (by kernel_rfl), rfl, (Nat.zero_le _), (Mix.start (linked ps (openQ vs false)) m.toNat ps.length s), x6, ho111, rd104, c115⟩
          rintro am1 aa1 wl1 K23 h23 ⟨i, bs, U1, rfl, rfl, hi, hmix, x6, ho1_7, rd1_42, c116⟩
          refine wp_seq_k (fun K24 h24 => ?_)
          refine W.region_quiet [(0, false)] (by kernel_rfl) ?_
          by_cases q117 : (((i : Nat) : Int) : Int) < (19 : Int)
          · refine W.sq (v := .bool true) rfl (r_lss (m := ((i : Nat) : Int)) (n := 19) rfl (by kernel_rfl) (by kernel_rfl) (decide_eq_true q117)) (by kernel_rfl) rfl rfl ?_
            refine W.sch_end (l' := [.agg #[.int .i64 m, .slice A n c], .slice A2 n2 c2, .pointer (some ⟨b2, 0, none⟩), undef, .int .i64 0, .bool false, .int .i64 ((cnt + 1 : Nat) : Int), .pointer (some ⟨b18, 0, none⟩), .int .i64 ((s : Nat) : Int), (U1 9), (U1 10), (U15 11), (U15 12), (U15 13), .bool false, (U30 15), (U39 16), (U39 17), (U39 18), (U39 19), (U39 20), .bool true, (U0 22), (U0 23), (U100 24), (U100 25), (U100 26), (U100 27), (U100 28), (U100 29), (U100 30), (U100 31), (U100 32), undef, undef, (U100 35), .bool false, (U101 37), (U101 38), (U114 39), (U114 40), (U114 41), .pointer (some ⟨pb103, 0, none⟩), .int .i64 ((i : Nat) : Int), .bool true, (U1 45), (U1 46), (U1 47), (U1 48), (U1 49), (U1 50), (U1 51), (U1 52), (U1 53), (U1 54), (U1 55), (U1 56), (U1 57), undef]) (by kernel_rfl) ?_
            refine h24 _ _ ?_
            refine wp_seq_k (fun K25 h25 => ?_)
            refine wp_cond_true (by kernel_rfl) ?_
            refine wp_skip ?_
            refine h25 _ _ ?_
            refine wp_seq_k (fun K26 h26 => ?_)
            refine wp_block ?_
            refine wp_seq_k (fun K27 h27 => ?_)
            refine W.region_sch (row := none) (Sch.of [(0, false), (1, false), (2, false), (3, false), (4, false), (5, false)]) (by kernel_rfl) (by kernel_rfl) (fun _ d _ _ _ h => by cases d <;> exact h) (by kernel_rfl) (fun w118 e119 s120 => ?_)
            have ho121 := own_heap ho1_7 e119
            refine W.sq (v := .int .i64 ((i : Nat) : Int)) rfl (r_move rfl (by kernel_rfl)) (by kernel_rfl) rfl rfl ?_
            refine W.sq (v := .pointer (some ⟨pb103, 0, none⟩)) rfl (r_nilCheck rfl (by kernel_rfl)) (by kernel_rfl) rfl rfl ?_
            obtain ⟨x122, hx123⟩ := get_of (zs := (wetL (linked ps (openQ vs false)) (((s : Nat) : Int)))) (k := i) (by have := hl105; omega)
            obtain ⟨hb124, hc125⟩ := Rd.elBool rd1_42 hx123
            refine W.sq (v := .pointer (some ⟨pb103, i, none⟩)) rfl (r_idxA (len := 19) (k := i) rfl (by kernel_rfl) (by kernel_rfl) (by kernel_rfl) (by omega)) (by kernel_rfl) rfl rfl ?_
            refine W.sq (v := .bool x122) rfl (r_load rfl (by kernel_rfl) (by kernel_rfl) (sgS hc125 (by simp))) (by kernel_rfl) rfl rfl ?_
            refine W.sq (v := .int .i64 ((i : Nat) : Int)) rfl (r_assign rfl (by kernel_rfl)) (by kernel_rfl) rfl rfl ?_
            refine W.sq (v := .bool x122) rfl (r_assign rfl (by kernel_rfl)) (by kernel_rfl) rfl rfl ?_
            refine W.sch_endU (fun U126 => [.agg #[.int .i64 m, .slice A n c], .slice A2 n2 c2, .pointer (some ⟨b2, 0, none⟩), undef, .int .i64 0, .bool false, .int .i64 ((cnt + 1 : Nat) : Int), .pointer (some ⟨b18, 0, none⟩), .int .i64 ((s : Nat) : Int), .int .i64 ((i : Nat) : Int), .bool x122, (U15 11), (U15 12), (U15 13), .bool false, (U30 15), (U39 16), (U39 17), (U39 18), (U39 19), (U39 20), .bool true, (U0 22), (U0 23), (U100 24), (U100 25), (U100 26), (U100 27), (U100 28), (U100 29), (U100 30), (U100 31), (U100 32), undef, undef, (U100 35), .bool false, (U101 37), (U101 38), (U114 39), (U114 40), (U114 41), .pointer (some ⟨pb103, 0, none⟩), .int .i64 ((i : Nat) : Int), .bool true, U126 45, U126 46, U126 47, U126 48, (U1 49), (U1 50), (U1 51), (U1 52), (U1 53), (U1 54), (U1 55), (U1 56), (U1 57), undef]) (by kernel_rfl) (fun U126 => ?_)
            have x6 := SG.blk s120 x6 (by simp)
            have c127 := (SG.belowR c116 s120 (fun kq e => by cases e))
            have rd128 := Rd.kept rd1_42 (SG.below s120)
            refine h27 _ _ ?_
            refine W.region_plain (row := (Value.ownBlock (.slice (some ⟨b18, 0, none⟩) 19 19))) [(0, false), (1, false), (2, false), (3, true), (4, false), (5, false), (6, false), (7, false), (8, true)] (by kernel_rfl) ?_
            have s129 := SG.self w118 (Value.ownBlock (.slice (some ⟨b18, 0, none⟩) 19 19))
            refine W.sq (v := .int .i64 ((i : Nat) : Int)) rfl (r_move rfl (by kernel_rfl)) (by kernel_rfl) rfl rfl ?_
            refine W.sq (v := .int .i64 ((i : Nat) : Int)) rfl (r_move rfl (by kernel_rfl)) (by kernel_rfl) rfl rfl ?_
            refine W.sq (v := .pointer (some ⟨b18, i, none⟩)) rfl (r_idxA (len := 19) (k := i) rfl (by kernel_rfl) (by kernel_rfl) (by kernel_rfl) (by omega)) (by kernel_rfl) rfl rfl ?_
            obtain ⟨x130, hx131⟩ := get_of (zs := bs) (k := i) (by have h9 := own_len ho121; rw [bools_len] at h9; omega)
            refine W.slq (v := .bool x130) s129 rfl (r_load rfl (by kernel_rfl) (by kernel_rfl) (eqS (own_atB ho121 hx131))) (by kernel_rfl) rfl ?_
            refine W.sq (v := .bool x130) rfl (r_move rfl (by kernel_rfl)) (by kernel_rfl) rfl rfl ?_
            rcases Bool.eq_false_or_eq_true x130 with q132 | q132
            · rw [q132]
              refine W.sk s129 rfl (by kernel_rfl) rfl rfl ?_
              refine W.sq (v := .bool true) rfl (r_pick (b := true) rfl (by kernel_rfl) (by kernel_rfl)) (by kernel_rfl) rfl rfl ?_
              refine W.sq (v := .pointer (some ⟨b18, i, none⟩)) rfl (r_idxA (len := 19) (k := i) rfl (by kernel_rfl) (by kernel_rfl) (by kernel_rfl) (by omega)) (by kernel_rfl) rfl rfl ?_
              refine W.ssr (base := w.heap.size) (e := 88) (j := i) (u := .bool true) s129 rfl (by kernel_rfl) rfl rfl (by kernel_rfl) (by kernel_rfl) ho121 (by kernel_rfl) (by kernel_rfl) (by kernel_rfl) (by omega) (.inl rfl) (fun w133 ho134 g135 s136 => ?_)
              have ho134 := own_setB ho134
              refine W.sch_endU (fun U137 => [.agg #[.int .i64 m, .slice A n c], .slice A2 n2 c2, .pointer (some ⟨b2, 0, none⟩), undef, .int .i64 0, .bool false, .int .i64 ((cnt + 1 : Nat) : Int), .pointer (some ⟨b18, 0, none⟩), .int .i64 ((s : Nat) : Int), .int .i64 ((i : Nat) : Int), .bool x122, (U15 11), (U15 12), (U15 13), .bool false, (U30 15), (U39 16), (U39 17), (U39 18), (U39 19), (U39 20), .bool true, (U0 22), (U0 23), (U100 24), (U100 25), (U100 26), (U100 27), (U100 28), (U100 29), (U100 30), (U100 31), (U100 32), undef, undef, (U100 35), .bool false, (U101 37), (U101 38), (U114 39), (U114 40), (U114 41), .pointer (some ⟨pb103, 0, none⟩), .int .i64 ((i : Nat) : Int), .bool true, (U126 45), (U126 46), (U126 47), (U126 48), U137 49, U137 50, U137 51, U137 52, U137 53, undef, U137 55, U137 56, (U1 57), undef]) (by kernel_rfl) (fun U137 => ?_)
              have x6 := SG.blk s136 x6 nb33
              have c138 := (SG.belowR c127 s136 (fun kq e => (World.ownsRow.lt ho121 kq e).1))
              have rd139 := rd_sep rd128 s136 sp113
              refine h26 _ _ ?_
              refine W.region_quiet [(0, false), (1, false)] (by kernel_rfl) ?_
              refine W.sq (v := .int .i64 ((i + 1 : Nat) : Int)) rfl (r_add (m := ((i : Nat) : Int)) (n := 1) (z := ((i + 1 : Nat) : Int)) rfl (by kernel_rfl) (by kernel_rfl) (by omega) (by omega)) (by kernel_rfl) rfl rfl ?_
              refine W.sq (v := .int .i64 ((i + 1 : Nat) : Int)) rfl (r_move rfl (by kernel_rfl)) (by kernel_rfl) rfl rfl ?_
              refine W.sch_endU (fun U140 => [.agg #[.int .i64 m, .slice A n c], .slice A2 n2 c2, .pointer (some ⟨b2, 0, none⟩), undef, .int .i64 0, .bool false, .int .i64 ((cnt + 1 : Nat) : Int), .pointer (some ⟨b18, 0, none⟩), .int .i64 ((s : Nat) : Int), .int .i64 ((i : Nat) : Int), .bool x122, (U15 11), (U15 12), (U15 13), .bool false, (U30 15), (U39 16), (U39 17), (U39 18), (U39 19), (U39 20), .bool true, (U0 22), (U0 23), (U100 24), (U100 25), (U100 26), (U100 27), (U100 28), (U100 29), (U100 30), (U100 31), (U100 32), undef, undef, (U100 35), .bool false, (U101 37), (U101 38), (U114 39), (U114 40), (U114 41), .pointer (some ⟨pb103, 0, none⟩), .int .i64 ((i + 1 : Nat) : Int), .bool true, (U126 45), (U126 46), (U126 47), (U126 48), (U137 49), (U137 50), (U137 51), (U137 52), (U137 53), undef, (U137 55), (U137 56), U140 57, undef]) (by kernel_rfl) (fun U140 => ?_)
              exact h23 _ _ _ (by omega : (19 - (i + 1)) < _) ⟨i + 1, (bs.set i true), (fun iU9 => [.agg #[.int .i64 m, .slice A n c], .slice A2 n2 c2, .pointer (some ⟨b2, 0, none⟩), undef, .int .i64 0, .bool false, .int .i64 ((cnt + 1 : Nat) : Int), .pointer (some ⟨b18, 0, none⟩), .int .i64 ((s : Nat) : Int), .int .i64 ((i : Nat) : Int), .bool x122, (U15 11), (U15 12), (U15 13), .bool false, (U30 15), (U39 16), (U39 17), (U39 18), (U39 19), (U39 20), .bool true, (U0 22), (U0 23), (U100 24), (U100 25), (U100 26), (U100 27), (U100 28), (U100 29), (U100 30), (U100 31), (U100 32), undef, undef, (U100 35), .bool false, (U101 37), (U101 38), (U114 39), (U114 40), (U114 41), .pointer (some ⟨pb103, 0, none⟩), .int .i64 ((i + 1 : Nat) : Int), .bool true, (U126 45), (U126 46), (U126 47), (U126 48), (U137 49), (U137 50), (U137 51), (U137 52), (U137 53), undef, (U137 55), (U137 56), (U140 57), undef].getD iU9 undef), (by kernel_rfl), rfl, (by omega), (hmix.next (by omega) hx131 (wet_eq hx123) (okS_iff.2 (by omega)) (by rw [q132]; rfl)), x6, ho134, rd139, c138⟩
            · rw [q132]
              refine W.sq (v := .bool x122) rfl (r_move rfl (by kernel_rfl)) (by kernel_rfl) rfl rfl ?_
              refine W.sq (v := .bool x122) rfl (r_pick (b := false) rfl (by kernel_rfl) (by kernel_rfl)) (by kernel_rfl) rfl rfl ?_
              refine W.sq (v := .pointer (some ⟨b18, i, none⟩)) rfl (r_idxA (len := 19) (k := i) rfl (by kernel_rfl) (by kernel_rfl) (by kernel_rfl) (by omega)) (by kernel_rfl) rfl rfl ?_
              refine W.ssr (base := w.heap.size) (e := 88) (j := i) (u := .bool x122) s129 rfl (by kernel_rfl) rfl rfl (by kernel_rfl) (by kernel_rfl) ho121 (by kernel_rfl) (by kernel_rfl) (by kernel_rfl) (by omega) (.inl rfl) (fun w141 ho142 g143 s144 => ?_)
              have ho142 := own_setB ho142
              refine W.sch_endU (fun U145 => [.agg #[.int .i64 m, .slice A n c], .slice A2 n2 c2, .pointer (some ⟨b2, 0, none⟩), undef, .int .i64 0, .bool false, .int .i64 ((cnt + 1 : Nat) : Int), .pointer (some ⟨b18, 0, none⟩), .int .i64 ((s : Nat) : Int), .int .i64 ((i : Nat) : Int), .bool x122, (U15 11), (U15 12), (U15 13), .bool false, (U30 15), (U39 16), (U39 17), (U39 18), (U39 19), (U39 20), .bool true, (U0 22), (U0 23), (U100 24), (U100 25), (U100 26), (U100 27), (U100 28), (U100 29), (U100 30), (U100 31), (U100 32), undef, undef, (U100 35), .bool false, (U101 37), (U101 38), (U114 39), (U114 40), (U114 41), .pointer (some ⟨pb103, 0, none⟩), .int .i64 ((i : Nat) : Int), .bool true, (U126 45), (U126 46), (U126 47), (U126 48), U145 49, U145 50, U145 51, U145 52, U145 53, U145 54, U145 55, U145 56, (U1 57), undef]) (by kernel_rfl) (fun U145 => ?_)
              have x6 := SG.blk s144 x6 nb33
              have c146 := (SG.belowR c127 s144 (fun kq e => (World.ownsRow.lt ho121 kq e).1))
              have rd147 := rd_sep rd128 s144 sp113
              refine h26 _ _ ?_
              refine W.region_quiet [(0, false), (1, false)] (by kernel_rfl) ?_
              refine W.sq (v := .int .i64 ((i + 1 : Nat) : Int)) rfl (r_add (m := ((i : Nat) : Int)) (n := 1) (z := ((i + 1 : Nat) : Int)) rfl (by kernel_rfl) (by kernel_rfl) (by omega) (by omega)) (by kernel_rfl) rfl rfl ?_
              refine W.sq (v := .int .i64 ((i + 1 : Nat) : Int)) rfl (r_move rfl (by kernel_rfl)) (by kernel_rfl) rfl rfl ?_
              refine W.sch_endU (fun U148 => [.agg #[.int .i64 m, .slice A n c], .slice A2 n2 c2, .pointer (some ⟨b2, 0, none⟩), undef, .int .i64 0, .bool false, .int .i64 ((cnt + 1 : Nat) : Int), .pointer (some ⟨b18, 0, none⟩), .int .i64 ((s : Nat) : Int), .int .i64 ((i : Nat) : Int), .bool x122, (U15 11), (U15 12), (U15 13), .bool false, (U30 15), (U39 16), (U39 17), (U39 18), (U39 19), (U39 20), .bool true, (U0 22), (U0 23), (U100 24), (U100 25), (U100 26), (U100 27), (U100 28), (U100 29), (U100 30), (U100 31), (U100 32), undef, undef, (U100 35), .bool false, (U101 37), (U101 38), (U114 39), (U114 40), (U114 41), .pointer (some ⟨pb103, 0, none⟩), .int .i64 ((i + 1 : Nat) : Int), .bool true, (U126 45), (U126 46), (U126 47), (U126 48), (U145 49), (U145 50), (U145 51), (U145 52), (U145 53), (U145 54), (U145 55), (U145 56), U148 57, undef]) (by kernel_rfl) (fun U148 => ?_)
              exact h23 _ _ _ (by omega : (19 - (i + 1)) < _) ⟨i + 1, (bs.set i x122), (fun iU9 => [.agg #[.int .i64 m, .slice A n c], .slice A2 n2 c2, .pointer (some ⟨b2, 0, none⟩), undef, .int .i64 0, .bool false, .int .i64 ((cnt + 1 : Nat) : Int), .pointer (some ⟨b18, 0, none⟩), .int .i64 ((s : Nat) : Int), .int .i64 ((i : Nat) : Int), .bool x122, (U15 11), (U15 12), (U15 13), .bool false, (U30 15), (U39 16), (U39 17), (U39 18), (U39 19), (U39 20), .bool true, (U0 22), (U0 23), (U100 24), (U100 25), (U100 26), (U100 27), (U100 28), (U100 29), (U100 30), (U100 31), (U100 32), undef, undef, (U100 35), .bool false, (U101 37), (U101 38), (U114 39), (U114 40), (U114 41), .pointer (some ⟨pb103, 0, none⟩), .int .i64 ((i + 1 : Nat) : Int), .bool true, (U126 45), (U126 46), (U126 47), (U126 48), (U145 49), (U145 50), (U145 51), (U145 52), (U145 53), (U145 54), (U145 55), (U145 56), (U148 57), undef].getD iU9 undef), (by kernel_rfl), rfl, (by omega), (hmix.next (by omega) hx131 (wet_eq hx123) (okS_iff.2 (by omega)) (by rw [q132]; exact (Bool.false_or _).symm)), x6, ho142, rd147, c146⟩
          · refine W.sq (v := .bool false) rfl (r_lss (m := ((i : Nat) : Int)) (n := 19) rfl (by kernel_rfl) (by kernel_rfl) (decide_eq_false q117)) (by kernel_rfl) rfl rfl ?_
            refine W.sch_end (l' := [.agg #[.int .i64 m, .slice A n c], .slice A2 n2 c2, .pointer (some ⟨b2, 0, none⟩), undef, .int .i64 0, .bool false, .int .i64 ((cnt + 1 : Nat) : Int), .pointer (some ⟨b18, 0, none⟩), .int .i64 ((s : Nat) : Int), (U1 9), (U1 10), (U15 11), (U15 12), (U15 13), .bool false, (U30 15), (U39 16), (U39 17), (U39 18), (U39 19), (U39 20), .bool true, (U0 22), (U0 23), (U100 24), (U100 25), (U100 26), (U100 27), (U100 28), (U100 29), (U100 30), (U100 31), (U100 32), undef, undef, (U100 35), .bool false, (U101 37), (U101 38), (U114 39), (U114 40), (U114 41), .pointer (some ⟨pb103, 0, none⟩), .int .i64 ((i : Nat) : Int), .bool false, (U1 45), (U1 46), (U1 47), (U1 48), (U1 49), (U1 50), (U1 51), (U1 52), (U1 53), (U1 54), (U1 55), (U1 56), (U1 57), undef]) (by kernel_rfl) ?_
            refine h24 _ _ ?_
            refine wp_seq_k (fun K28 h28 => ?_)
            refine wp_cond_false (by kernel_rfl) ?_
            refine wp_exit ?_
            refine h10 _ _ ?_
            refine W.region_quiet [(0, false), (1, false), (2, false)] (by kernel_rfl) ?_
            refine W.sq (v := .int .i64 ((s : Nat) : Int)) rfl (r_move rfl (by kernel_rfl)) (by kernel_rfl) rfl rfl ?_
            refine W.sq (v := .int .i64 ((s + 1 : Nat) : Int)) rfl (r_add (m := ((s : Nat) : Int)) (n := 1) (z := ((s + 1 : Nat) : Int)) rfl (by kernel_rfl) (by kernel_rfl) (by omega) (by omega)) (by kernel_rfl) rfl rfl ?_
            refine W.sq (v := .int .i64 ((s + 1 : Nat) : Int)) rfl (r_assign rfl (by kernel_rfl)) (by kernel_rfl) rfl rfl ?_
            refine W.sch_endU (fun U149 => [.agg #[.int .i64 m, .slice A n c], .slice A2 n2 c2, .pointer (some ⟨b2, 0, none⟩), undef, .int .i64 0, .bool false, .int .i64 ((cnt + 1 : Nat) : Int), .pointer (some ⟨b18, 0, none⟩), .int .i64 ((s + 1 : Nat) : Int), (U1 9), (U1 10), (U15 11), (U15 12), (U15 13), .bool false, (U30 15), (U39 16), (U39 17), (U39 18), (U39 19), (U39 20), .bool true, U149 22, U149 23, (U100 24), (U100 25), (U100 26), (U100 27), (U100 28), (U100 29), (U100 30), (U100 31), (U100 32), undef, undef, (U100 35), .bool false, (U101 37), (U101 38), (U114 39), (U114 40), (U114 41), .pointer (some ⟨pb103, 0, none⟩), .int .i64 ((i : Nat) : Int), .bool false, (U1 45), (U1 46), (U1 47), (U1 48), (U1 49), (U1 50), (U1 51), (U1 52), (U1 53), (U1 54), (U1 55), (U1 56), (U1 57), undef]) (by kernel_rfl) (fun U149 => ?_)
            exact h7 _ _ _ (by omega : (9 + n - (s + 1)) < _) ⟨s + 1, cnt + 1, (fun iU9 => [.agg #[.int .i64 m, .slice A n c], .slice A2 n2 c2, .pointer (some ⟨b2, 0, none⟩), undef, .int .i64 0, .bool false, .int .i64 ((cnt + 1 : Nat) : Int), .pointer (some ⟨b18, 0, none⟩), .int .i64 ((s + 1 : Nat) : Int), (U1 9), (U1 10), (U15 11), (U15 12), (U15 13), .bool false, (U30 15), (U39 16), (U39 17), (U39 18), (U39 19), (U39 20), .bool true, (U149 22), (U149 23), (U100 24), (U100 25), (U100 26), (U100 27), (U100 28), (U100 29), (U100 30), (U100 31), (U100 32), undef, undef, (U100 35), .bool false, (U101 37), (U101 38), (U114 39), (U114 40), (U114 41), .pointer (some ⟨pb103, 0, none⟩), .int .i64 ((i : Nat) : Int), .bool false, (U1 45), (U1 46), (U1 47), (U1 48), (U1 49), (U1 50), (U1 51), (U1 52), (U1 53), (U1 54), (U1 55), (U1 56), (U1 57), undef].getD iU9 undef), (by kernel_rfl), rfl, (by omega), (by rw [hc, cntS_yes (okS_iff.2 (by omega)) ((seenL_eq hx42).symm.trans q43)]), x6, (by rw [hmix.fin (by omega)]; exact ho1_7), c116⟩
    · refine W.sq (v := .bool false) rfl (r_lss (m := ((s : Nat) : Int)) (n := ((9 + n : Nat) : Int)) rfl (by kernel_rfl) (by kernel_rfl) (decide_eq_false q38)) (by kernel_rfl) rfl rfl ?_
      refine W.sch_endU (fun U150 => [.agg #[.int .i64 m, .slice A n c], .slice A2 n2 c2, .pointer (some ⟨b2, 0, none⟩), undef, .int .i64 0, .bool false, .int .i64 ((cnt : Nat) : Int), .pointer (some ⟨b18, 0, none⟩), .int .i64 ((s : Nat) : Int), (U0 9), (U0 10), (U15 11), (U15 12), (U15 13), .bool false, (U30 15), U150 16, U150 17, U150 18, U150 19, U150 20, .bool false, (U0 22), (U0 23), (U0 24), (U0 25), (U0 26), (U0 27), (U0 28), (U0 29), (U0 30), (U0 31), (U0 32), (U0 33), (U0 34), (U0 35), (U0 36), (U0 37), (U0 38), (U0 39), (U0 40), (U0 41), (U0 42), (U0 43), (U0 44), (U0 45), (U0 46), (U0 47), (U0 48), (U0 49), (U0 50), (U0 51), (U0 52), (U0 53), (U0 54), (U0 55), (U0 56), (U0 57), undef]) (by kernel_rfl) (fun U150 => ?_)
      have x6 := SG.blk s35 x6 (by simp)
      have c151 := (SG.belowR c34 s35 (fun kq e => by cases e))
      refine h9 _ _ ?_
      refine wp_cond_false (by kernel_rfl) ?_
      refine wp_exit ?_
      refine h5 _ _ ?_
      refine wp_seq_k (fun K29 h29 => ?_)
      refine W.region_quiet [(0, false), (1, false), (2, false)] (by kernel_rfl) ?_
      refine W.sq (v := .int .i64 ((cnt : Nat) : Int)) rfl (r_move rfl (by kernel_rfl)) (by kernel_rfl) rfl rfl ?_
      refine W.sq (v := .int .i64 ((cnt : Nat) : Int)) rfl (r_assign rfl (by kernel_rfl)) (by kernel_rfl) rfl rfl ?_
      refine W.sq (v := .bool true) rfl (r_assign rfl (by kernel_rfl)) (by kernel_rfl) rfl rfl ?_
      refine W.sch_endU (fun U152 => [.agg #[.int .i64 m, .slice A n c], .slice A2 n2 c2, .pointer (some ⟨b2, 0, none⟩), undef, .int .i64 ((cnt : Nat) : Int), .bool true, .int .i64 ((cnt : Nat) : Int), .pointer (some ⟨b18, 0, none⟩), .int .i64 ((s : Nat) : Int), (U0 9), (U0 10), (U15 11), (U15 12), (U15 13), .bool false, (U30 15), (U150 16), (U150 17), (U150 18), (U150 19), (U150 20), .bool false, (U0 22), (U0 23), (U0 24), (U0 25), (U0 26), (U0 27), (U0 28), (U0 29), (U0 30), (U0 31), (U0 32), (U0 33), (U0 34), (U0 35), (U0 36), (U0 37), (U0 38), (U0 39), (U0 40), (U0 41), (U0 42), (U0 43), (U0 44), (U0 45), (U0 46), (U0 47), (U0 48), (U0 49), (U0 50), (U0 51), (U0 52), (U0 53), (U0 54), (U0 55), (U0 56), (U0 57), U152 58]) (by kernel_rfl) (fun U152 => ?_)
      refine h29 _ _ ?_
      refine wp_ret ?_
      try simp only [Exit.then]
      refine ret2 (v := .int .i64 ((cnt : Nat) : Int)) (x := .bool true) rfl (by kernel_rfl) (by kernel_rfl) ?_
      exact ⟨by unfold CountSegments_v0 CountSegments_v1; rw [if_pos q14, q14, show 9 + ps.length = s by omega, ← hc], c151⟩
  · rw [q14]
    refine W.sq (v := .bool true) rfl (r_not (b := false) rfl (by kernel_rfl) rfl) (by kernel_rfl) rfl rfl ?_
    refine W.sch_endU (fun U153 => [.agg #[.int .i64 m, .slice A n c], .slice A2 n2 c2, .pointer (some ⟨b2, 0, none⟩), undef, .int .i64 0, .bool false, undef, undef, undef, undef, undef, U153 11, U153 12, U153 13, .bool true, undef, undef, undef, undef, undef, undef, undef, undef, undef, undef, undef, undef, undef, undef, undef, undef, undef, undef, undef, undef, undef, undef, undef, undef, undef, undef, undef, undef, undef, undef, undef, undef, undef, undef, undef, undef, undef, undef, undef, undef, undef, undef, undef, undef]) (by kernel_rfl) (fun U153 => ?_)
    have x6 := SG.blk s13 x6 (by simp)
    have c154 := (SG.belowR c9 s13 (fun kq e => by cases e))
    refine h3 _ _ ?_
    refine wp_cond_true (by kernel_rfl) ?_
    refine wp_seq_k (fun K30 h30 => ?_)
    refine W.region_quiet [(0, false), (1, false)] (by kernel_rfl) ?_
    refine W.sq (v := .int .i64 0) rfl (r_assign rfl (by kernel_rfl)) (by kernel_rfl) rfl rfl ?_
    refine W.sq (v := .bool false) rfl (r_assign rfl (by kernel_rfl)) (by kernel_rfl) rfl rfl ?_
    refine W.sch_end (l' := [.agg #[.int .i64 m, .slice A n c], .slice A2 n2 c2, .pointer (some ⟨b2, 0, none⟩), undef, .int .i64 0, .bool false, undef, undef, undef, undef, undef, (U153 11), (U153 12), (U153 13), .bool true, undef, undef, undef, undef, undef, undef, undef, undef, undef, undef, undef, undef, undef, undef, undef, undef, undef, undef, undef, undef, undef, undef, undef, undef, undef, undef, undef, undef, undef, undef, undef, undef, undef, undef, undef, undef, undef, undef, undef, undef, undef, undef, undef, undef]) (by kernel_rfl) ?_
    refine h30 _ _ ?_
    refine wp_ret ?_
    try simp only [Exit.then]
    refine ret2 (v := .int .i64 0) (x := .bool false) rfl (by kernel_rfl) (by kernel_rfl) ?_
    exact ⟨by unfold CountSegments_v0 CountSegments_v1; rw [if_neg (by rw [q14]; simp), q14], c154⟩

set_option maxRecDepth 100000 in
set_option maxHeartbeats 1000000 in
theorem CountSegments_spec (m : Int) (A : Option Addr) (n c : Nat) (ps : List Pp) (A2 : Option Addr) (n2 c2 : Nat) (vs : List Vv) (w : World) (ha : Rd w 4 A n (pipesV ps)) (hb : Rd w 4 A2 n2 (valvesV vs)) (hn : n ≤ 1048576) (hn2 : n2 ≤ 1048576) (hfm : Fm A n c) (hfm2 : Fm A2 n2 c2) :
    Calls Try.prog 31 #[.agg #[.int .i64 m, .slice A n c], .slice A2 n2 c2] w fun e w' => e = .returned (.tuple #[.int .i64 (CountSegments_v0 m ps vs), .bool (CountSegments_v1 m ps vs)]) ∧ Below w.heap.size w w' := by
  have hl := rd_pipes_len ha
  have hl2 := rd_valves_len hb
  go_enter Try.func31, Try.ntmps31
  refine wp_seq_k (fun K1 h1 => ?_)
  refine W.region_plain (row := none) [(0, true), (1, false), (2, false)] (by kernel_rfl) ?_
  have s1 := SG.self w none
  refine W.sn (fun b => .pointer (some ⟨b, 0, none⟩)) #[.int .i64 m, .slice A n c] 31 s1 rfl (by kernel_rfl) rfl (fun _ => by kernel_rfl) (fun b2 w3 hb4 k5 x6 s7 => ?_)
  have lo8 : w.heap.size ≤ b2 := by have := ((SG.belowR (Below.refl _ _) s1 (fun kq e => by cases e))).size; omega
  refine W.sq (v := .int .i64 0) rfl (r_assign rfl (by kernel_rfl)) (by kernel_rfl) rfl rfl ?_
  refine W.sq (v := .bool false) rfl (r_assign rfl (by kernel_rfl)) (by kernel_rfl) rfl rfl ?_
  refine W.sch_end (l' := [.agg #[.int .i64 m, .slice A n c], .slice A2 n2 c2, .pointer (some ⟨b2, 0, none⟩), undef, .int .i64 0, .bool false, undef, undef, undef, undef, undef, undef, undef, undef, undef, undef, undef, undef, undef, undef, undef, undef, undef, undef, undef, undef, undef, undef, undef, undef, undef, undef, undef, undef, undef, undef, undef, undef, undef, undef, undef, undef, undef, undef, undef, undef, undef, undef, undef, undef, undef, undef, undef, undef, undef, undef, undef, undef, undef, undef, undef]) (by kernel_rfl) ?_
  have c9 := (SG.belowR (Below.refl _ _) s7 (fun kq e => by cases e))
  refine h1 _ _ ?_
  refine wp_seq_k (fun K2 h2 => ?_)
  refine wp_seq_k (fun K3 h3 => ?_)
  refine W.region_plain (row := none) [(0, false), (1, false), (2, true), (3, false)] (by kernel_rfl) ?_
  have s10 := SG.self w3 none
  refine W.sq (v := .agg #[.int .i64 m, .slice A n c]) rfl (r_load2 rfl (by kernel_rfl) (by kernel_rfl) (by kernel_rfl) (sgS (blk_cell (j := 0) x6 (by kernel_rfl)) (by simp)) (sgS (blk_cell (j := 1) x6 (by kernel_rfl)) (by simp))) (by kernel_rfl) rfl rfl ?_
  refine W.sq (v := .slice A2 n2 c2) rfl (r_move rfl (by kernel_rfl)) (by kernel_rfl) rfl rfl ?_
  refine W.sc (vs := [.agg #[.int .i64 m, .slice A n c], .slice A2 n2 c2]) rfl rfl (by kernel_rfl) (by kernel_rfl) (by kernel_rfl) rfl (l4Good_any m A n c ps A2 n2 c2 vs _ (Rd.kept ha (SG.belowR c9 s10 (fun kq e => by cases e))) (Rd.kept hb (SG.belowR c9 s10 (fun kq e => by cases e))) (by omega) (by omega)) ?_
  rintro e w12 ⟨rfl, b11⟩
  have s13 := SG.of_below s10 b11
  refine ⟨_, rfl, s13, ?_⟩
  rcases Bool.eq_false_or_eq_true (goodV m ps vs) with q14 | q14
  · rw [q14]
    have hv9 := goodV_of q14
    have hg := hv9.net
    have hgl := hg.lo
    have hgh := hg.hi
    have hp := hg.pipesIn
    have hlen10 := hg.len
    have hu := hv9.uniq
    have hvl := hv9.len
    refine W.sq (v := .bool false) rfl (r_not (b := true) rfl (by kernel_rfl) rfl) (by kernel_rfl) rfl rfl ?_
    refine W.sch_endU (fun U15 => [.agg #[.int .i64 m, .slice A n c], .slice A2 n2 c2, .pointer (some ⟨b2, 0, none⟩), undef, .int .i64 0, .bool false, undef, undef, undef, undef, undef, undef, undef, U15 13, U15 14, U15 15, .bool false, undef, undef, undef, undef, undef, undef, undef, undef, undef, undef, undef, undef, undef, undef, undef, undef, undef, undef, undef, undef, undef, undef, undef, undef, undef, undef, undef, undef, undef, undef, undef, undef, undef, undef, undef, undef, undef, undef, undef, undef, undef, undef, undef, undef]) (by kernel_rfl) (fun U15 => ?_)
    have x6 := SG.blk s13 x6 (by simp)
    have c16 := (SG.belowR c9 s13 (fun kq e => by cases e))
    refine h3 _ _ ?_
    refine wp_cond_false (by kernel_rfl) ?_
    refine wp_skip ?_
    refine h2 _ _ ?_
    refine wp_seq_k (fun K4 h4 => ?_)
    refine W.region_quiet [(0, false)] (by kernel_rfl) ?_
    refine W.sq (v := .int .i64 0) rfl (r_assign rfl (by kernel_rfl)) (by kernel_rfl) rfl rfl ?_
    refine W.sch_end (l' := [.agg #[.int .i64 m, .slice A n c], .slice A2 n2 c2, .pointer (some ⟨b2, 0, none⟩), undef, .int .i64 0, .bool false, .int .i64 0, undef, undef, undef, undef, undef, undef, (U15 13), (U15 14), (U15 15), .bool false, undef, undef, undef, undef, undef, undef, undef, undef, undef, undef, undef, undef, undef, undef, undef, undef, undef, undef, undef, undef, undef, undef, undef, undef, undef, undef, undef, undef, undef, undef, undef, undef, undef, undef, undef, undef, undef, undef, undef, undef, undef, undef, undef, undef]) (by kernel_rfl) ?_
    refine h4 _ _ ?_
    refine wp_seq_k (fun K5 h5 => ?_)
    refine wp_seq_k (fun K6 h6 => ?_)
    refine W.region_quiet [(0, false)] (by kernel_rfl) ?_
    refine W.sq (v := .int .i64 1) rfl (r_assign rfl (by kernel_rfl)) (by kernel_rfl) rfl rfl ?_
    refine W.sch_end (l' := [.agg #[.int .i64 m, .slice A n c], .slice A2 n2 c2, .pointer (some ⟨b2, 0, none⟩), undef, .int .i64 0, .bool false, .int .i64 0, .int .i64 1, undef, undef, undef, undef, undef, (U15 13), (U15 14), (U15 15), .bool false, undef, undef, undef, undef, undef, undef, undef, undef, undef, undef, undef, undef, undef, undef, undef, undef, undef, undef, undef, undef, undef, undef, undef, undef, undef, undef, undef, undef, undef, undef, undef, undef, undef, undef, undef, undef, undef, undef, undef, undef, undef, undef, undef, undef]) (by kernel_rfl) ?_
    refine h6 _ _ ?_
    refine wp_block ?_
    refine loopK (fun am0 aa0 wl0 => ∃ (j : Nat) (cnt : Nat) (U0 : Nat → Value), aa0 = ⟨[.agg #[.int .i64 m, .slice A n c], .slice A2 n2 c2, .pointer (some ⟨b2, 0, none⟩), undef, .int .i64 0, .bool false, .int .i64 ((cnt : Nat) : Int), .int .i64 ((j + 1 : Nat) : Int), U0 8, U0 9, undef, undef, undef, (U15 13), (U15 14), (U15 15), .bool false, U0 17, U0 18, U0 19, U0 20, U0 21, U0 22, U0 23, U0 24, U0 25, U0 26, U0 27, U0 28, U0 29, U0 30, U0 31, U0 32, U0 33, U0 34, U0 35, U0 36, U0 37, U0 38, undef, undef, undef, undef, undef, undef, undef, undef, undef, undef, undef, undef, undef, undef, undef, undef, undef, undef, undef, undef, undef, undef].toArray, []⟩ ∧ (am0 = m.toNat - j) ∧ (j ≤ m.toNat) ∧ (cnt = cntS (linked ps (openQ vs false)) m.toNat ps.length (j + 1)) ∧ (wl0.heap[b2]? = some (.cells #[.int .i64 m, .slice A n c] 31 (0, 0))) ∧ (Below w.heap.size w wl0)) (m.toNat - 0) ?_ ?_
    · exact ⟨0, 0, (fun iU9 => [.agg #[.int .i64 m, .slice A n c], .slice A2 n2 c2, .pointer (some ⟨b2, 0, none⟩), undef, .int .i64 0, .bool false, .int .i64 0, .int .i64 1, undef, undef, undef, undef, undef, (U15 13), (U15 14), (U15 15), .bool false, undef, undef, undef, undef, undef, undef, undef, undef, undef, undef, undef, undef, undef, undef, undef, undef, undef, undef, undef, undef, undef, undef, undef, undef, undef, undef, undef, undef, undef, undef, undef, undef, undef, undef, undef, undef, undef, undef, undef, undef, undef, undef, undef, undef].getD iU9 undef), (by kernel_rfl), rfl, (Nat.zero_le _), ((cntS_one (linked ps (openQ vs false)) m.toNat ps.length).symm), x6, c16⟩
    rintro am0 aa0 wl0 K7 h7 ⟨j, cnt, U0, rfl, rfl, hj, hc, x6, c17⟩
    have hcl := cntS_le (linked ps (openQ vs false)) m.toNat ps.length (j + 1)
    refine wp_seq_k (fun K8 h8 => ?_)
    refine wp_seq_k (fun K9 h9 => ?_)
    refine W.region_quiet [(0, false), (1, false), (2, false), (3, false)] (by kernel_rfl) ?_
    refine W.sq (v := .int .i64 ((j + 1 : Nat) : Int)) rfl (r_move rfl (by kernel_rfl)) (by kernel_rfl) rfl rfl ?_
    refine W.sq (v := .pointer (some ⟨b2, 0, none⟩)) rfl (r_field0 rfl (by kernel_rfl) (by kernel_rfl)) (by kernel_rfl) rfl rfl ?_
    refine W.sq (v := .int .i64 m) rfl (r_load rfl (by kernel_rfl) (by kernel_rfl) (eqS (blk_cell (j := 0) x6 (by kernel_rfl)))) (by kernel_rfl) rfl rfl ?_
    by_cases q18 : (((j + 1 : Nat) : Int) : Int) ≤ (m : Int)
    · refine W.sq (v := .bool true) rfl (r_leq (m := ((j + 1 : Nat) : Int)) (n := m) rfl (by kernel_rfl) (by kernel_rfl) (decide_eq_true q18)) (by kernel_rfl) rfl rfl ?_
      refine W.sch_endU (fun U19 => [.agg #[.int .i64 m, .slice A n c], .slice A2 n2 c2, .pointer (some ⟨b2, 0, none⟩), undef, .int .i64 0, .bool false, .int .i64 ((cnt : Nat) : Int), .int .i64 ((j + 1 : Nat) : Int), (U0 8), (U0 9), undef, undef, undef, (U15 13), (U15 14), (U15 15), .bool false, U19 17, U19 18, U19 19, .bool true, (U0 21), (U0 22), (U0 23), (U0 24), (U0 25), (U0 26), (U0 27), (U0 28), (U0 29), (U0 30), (U0 31), (U0 32), (U0 33), (U0 34), (U0 35), (U0 36), (U0 37), (U0 38), undef, undef, undef, undef, undef, undef, undef, undef, undef, undef, undef, undef, undef, undef, undef, undef, undef, undef, undef, undef, undef, undef]) (by kernel_rfl) (fun U19 => ?_)
      refine h9 _ _ ?_
      refine wp_cond_true (by kernel_rfl) ?_
      refine wp_skip ?_
      refine h8 _ _ ?_
      refine wp_seq_k (fun K10 h10 => ?_)
      refine wp_block ?_
      refine wp_seq_k (fun K11 h11 => ?_)
      refine W.region_plain (row := none) [(0, false), (1, false), (2, false), (3, true), (4, true), (5, true), (6, false), (7, false), (8, false), (9, false), (10, false)] (by kernel_rfl) ?_
      have s20 := SG.self wl0 none
      refine W.sq (v := .agg #[.int .i64 m, .slice A n c]) rfl (r_load2 rfl (by kernel_rfl) (by kernel_rfl) (by kernel_rfl) (sgS (blk_cell (j := 0) x6 (by kernel_rfl)) (by simp)) (sgS (blk_cell (j := 1) x6 (by kernel_rfl)) (by simp))) (by kernel_rfl) rfl rfl ?_
      refine W.sq (v := .slice A2 n2 c2) rfl (r_move rfl (by kernel_rfl)) (by kernel_rfl) rfl rfl ?_
      refine W.sq (v := .int .i64 ((j + 1 : Nat) : Int)) rfl (r_move rfl (by kernel_rfl)) (by kernel_rfl) rfl rfl ?_
      refine W.sn (fun b => .slice (some ⟨b, 0, none⟩) 1 1) #[.int .i64 ((j + 1 : Nat) : Int)] 3 s20 rfl (by kernel_rfl) rfl (fun _ => by kernel_rfl) (fun b21 w22 hb23 k24 x25 s26 => ?_)
      have lo27 : w.heap.size ≤ b21 := by have := ((SG.belowR c17 s20 (fun kq e => by cases e))).size; omega
      have ne28 : b2 ≠ b21 := by have := blk_lt x6; have := World.grownBy.size s20; omega
      refine W.sn (fun b => .slice (some ⟨b, 0, none⟩) 0 0) #[] 3 s26 rfl (by kernel_rfl) rfl (fun _ => by kernel_rfl) (fun b29 w30 hb31 k32 x33 s34 => ?_)
      have lo35 : w.heap.size ≤ b29 := by have := ((SG.belowR c17 s26 (fun kq e => by cases e))).size; omega
      have ne36 : b2 ≠ b29 := by have := blk_lt x6; have := World.grownBy.size s26; omega
      have ne37 : b21 ≠ b29 := by have := blk_lt x25; omega
      have x25 := (k32.block _ (blk_lt x25)).trans x25
      have ho38 := own_blk (base := w.heap.size) (size := 1) (n := 1) x25 lo27 rfl (by omega)
      replace ho38 : World.ownsRow _ _ _ _ _ _ (intsV [((j + 1 : Nat) : Int)]) := ho38
      have nb39 : Nb b2 (.slice (some ⟨b21, 0, none⟩) 1 1) := nb_new (by have := ne28; omega)
      have nb40 : Nb b29 (.slice (some ⟨b21, 0, none⟩) 1 1) := nb_new (by have := ne37; omega)
      have rd42 := own_rd ho38
      have hl43 := rd_ints_len rd42
      have ho44 := own_empty (base := w.heap.size) (size := 1) x33 lo35
      replace ho44 : World.ownsRow _ _ _ _ _ _ (intsV []) := ho44
      have nb45 : Nb b2 (.slice (some ⟨b29, 0, none⟩) 0 0) := nb_new (by have := ne36; omega)
      have rd47 := own_rd ho44
      have hl48 := rd_ints_len rd47
      refine W.sc (vs := [.agg #[.int .i64 m, .slice A n c], .slice A2 n2 c2, .bool false, .slice (some ⟨b21, 0, none⟩) 1 1, .slice (some ⟨b29, 0, none⟩) 0 0]) rfl rfl (by kernel_rfl) (by kernel_rfl) (by kernel_rfl) rfl (l4Spread_false m A n c ps A2 n2 c2 vs (((j + 1 : Nat) : Int)) (some ⟨b21, 0, none⟩) 1 1 ([((j + 1 : Nat) : Int)]) (some ⟨b29, 0, none⟩) 0 0 ([]) _ (Rd.kept ha (SG.belowR c17 s34 (fun kq e => by cases e))) (Rd.kept hb (SG.belowR c17 s34 (fun kq e => by cases e))) (by omega) (by omega) hp (by omega) (by omega) rd42 (own_fm ho38) rd47 (own_fm ho44) (FndQ.startN _ (by omega))) ?_
      rintro e w64 ⟨A49, n50, c51, A52, n53, c54, rfl, rd55, fm56, rd57, fm58, b63⟩
      have s65 := SG.of_below s34 b63
      refine ⟨_, rfl, s65, ?_⟩
      have rd66 := Rd.kept rd42 b63
      have rd67 := Rd.kept rd47 b63
      have hl61 := rd_ints_len rd55
      have hl62 := rd_ints_len rd57
      have := nodesL_len (linked ps (openQ vs false)) m.toNat (((j + 1 : Nat) : Int)) true
      have := idxL_len (linked ps (openQ vs false)) ps.length (((j + 1 : Nat) : Int)) true
      have := nodesL_pos (E := (linked ps (openQ vs false))) (m := m.toNat) (v := (((j + 1 : Nat) : Int))) (by omega)
      refine W.sq (v := .tuple #[.slice A49 n50 c51, .slice A52 n53 c54]) rfl (r_move rfl (by kernel_rfl)) (by kernel_rfl) rfl rfl ?_
      refine W.sq (v := .slice A49 n50 c51) rfl (r_extract (vs := #[.slice A49 n50 c51, .slice A52 n53 c54]) rfl (by kernel_rfl) (by kernel_rfl)) (by kernel_rfl) rfl rfl ?_
      refine W.sq (v := .slice A52 n53 c54) rfl (r_extract (vs := #[.slice A49 n50 c51, .slice A52 n53 c54]) rfl (by kernel_rfl) (by kernel_rfl)) (by kernel_rfl) rfl rfl ?_
      refine W.sq (v := .slice A49 n50 c51) rfl (r_assign rfl (by kernel_rfl)) (by kernel_rfl) rfl rfl ?_
      refine W.sq (v := .slice A52 n53 c54) rfl (r_assign rfl (by kernel_rfl)) (by kernel_rfl) rfl rfl ?_
      refine W.sch_endU (fun U68 => [.agg #[.int .i64 m, .slice A n c], .slice A2 n2 c2, .pointer (some ⟨b2, 0, none⟩), undef, .int .i64 0, .bool false, .int .i64 ((cnt : Nat) : Int), .int .i64 ((j + 1 : Nat) : Int), .slice A49 n50 c51, U68 9, undef, undef, undef, (U15 13), (U15 14), (U15 15), .bool false, (U19 17), (U19 18), (U19 19), .bool true, (U0 21), (U0 22), U68 23, U68 24, U68 25, U68 26, U68 27, U68 28, U68 29, U68 30, U68 31, (U0 32), (U0 33), (U0 34), (U0 35), (U0 36), (U0 37), (U0 38), undef, undef, undef, undef, undef, undef, undef, undef, undef, undef, undef, undef, undef, undef, undef, undef, undef, undef, undef, undef, undef, undef]) (by kernel_rfl) (fun U68 => ?_)
      have x6 := SG.blk s65 x6 (by simp)
      have c69 := (SG.belowR c17 s65 (fun kq e => by cases e))
      refine h11 _ _ ?_
      refine wp_seq_k (fun K12 h12 => ?_)
      refine W.region_quiet [(0, false), (1, false), (2, false), (3, false), (4, false)] (by kernel_rfl) ?_
      refine W.sq (v := .slice A49 n50 c51) rfl (r_move rfl (by kernel_rfl)) (by kernel_rfl) rfl rfl ?_
      obtain ⟨x70, hx71⟩ := get_of (zs := (nodesL (linked ps (openQ vs false)) m.toNat (((j + 1 : Nat) : Int)) true)) (k := 0) (by have := hl61; omega)
      obtain ⟨b72, o73, hA74, hb75, hc76⟩ := Rd.elInt rd55 hx71
      refine W.sq (v := .pointer (some ⟨b72, o73 + 0, none⟩)) rfl (r_idx1 (n := n50) (c := c51) (k := 0) rfl (by kernel_rfl) hA74 (by kernel_rfl) (by kernel_rfl) (by have := hl61; omega)) (by kernel_rfl) rfl rfl ?_
      refine W.sq (v := .int .i64 x70) rfl (r_load rfl (by kernel_rfl) (by kernel_rfl) (eqS hc76)) (by kernel_rfl) rfl rfl ?_
      refine W.sq (v := .int .i64 ((j + 1 : Nat) : Int)) rfl (r_move rfl (by kernel_rfl)) (by kernel_rfl) rfl rfl ?_
      by_cases q77 : (x70 : Int) = (((j + 1 : Nat) : Int) : Int)
      · refine W.sq (v := .bool true) rfl (r_eql (m := x70) (n := ((j + 1 : Nat) : Int)) rfl (by kernel_rfl) (by kernel_rfl) (decide_eq_true q77)) (by kernel_rfl) rfl rfl ?_
        refine W.sch_endU (fun U78 => [.agg #[.int .i64 m, .slice A n c], .slice A2 n2 c2, .pointer (some ⟨b2, 0, none⟩), undef, .int .i64 0, .bool false, .int .i64 ((cnt : Nat) : Int), .int .i64 ((j + 1 : Nat) : Int), .slice A49 n50 c51, (U68 9), undef, undef, undef, (U15 13), (U15 14), (U15 15), .bool false, (U19 17), (U19 18), (U19 19), .bool true, (U0 21), (U0 22), (U68 23), (U68 24), (U68 25), (U68 26), (U68 27), (U68 28), (U68 29), (U68 30), (U68 31), U78 32, U78 33, U78 34, U78 35, .bool true, (U0 37), (U0 38), undef, undef, undef, undef, undef, undef, undef, undef, undef, undef, undef, undef, undef, undef, undef, undef, undef, undef, undef, undef, undef, undef]) (by kernel_rfl) (fun U78 => ?_)
        refine h12 _ _ ?_
        refine wp_cond_true (by kernel_rfl) ?_
        refine W.region_quiet [(0, false), (1, false), (2, false)] (by kernel_rfl) ?_
        refine W.sq (v := .int .i64 ((cnt : Nat) : Int)) rfl (r_move rfl (by kernel_rfl)) (by kernel_rfl) rfl rfl ?_
        refine W.sq (v := .int .i64 ((cnt + 1 : Nat) : Int)) rfl (r_add (m := ((cnt : Nat) : Int)) (n := 1) (z := ((cnt + 1 : Nat) : Int)) rfl (by kernel_rfl) (by kernel_rfl) (by omega) (by omega)) (by kernel_rfl) rfl rfl ?_
        refine W.sq (v := .int .i64 ((cnt + 1 : Nat) : Int)) rfl (r_assign rfl (by kernel_rfl)) (by kernel_rfl) rfl rfl ?_
        refine W.sch_endU (fun U79 => [.agg #[.int .i64 m, .slice A n c], .slice A2 n2 c2, .pointer (some ⟨b2, 0, none⟩), undef, .int .i64 0, .bool false, .int .i64 ((cnt + 1 : Nat) : Int), .int .i64 ((j + 1 : Nat) : Int), .slice A49 n50 c51, (U68 9), undef, undef, undef, (U15 13), (U15 14), (U15 15), .bool false, (U19 17), (U19 18), (U19 19), .bool true, (U0 21), (U0 22), (U68 23), (U68 24), (U68 25), (U68 26), (U68 27), (U68 28), (U68 29), (U68 30), (U68 31), (U78 32), (U78 33), (U78 34), (U78 35), .bool true, U79 37, U79 38, undef, undef, undef, undef, undef, undef, undef, undef, undef, undef, undef, undef, undef, undef, undef, undef, undef, undef, undef, undef, undef, undef]) (by kernel_rfl) (fun U79 => ?_)
        refine h10 _ _ ?_
        refine W.region_quiet [(0, false), (1, false), (2, false)] (by kernel_rfl) ?_
        refine W.sq (v := .int .i64 ((j + 1 : Nat) : Int)) rfl (r_move rfl (by kernel_rfl)) (by kernel_rfl) rfl rfl ?_
        refine W.sq (v := .int .i64 ((j + 1 + 1 : Nat) : Int)) rfl (r_add (m := ((j + 1 : Nat) : Int)) (n := 1) (z := ((j + 1 + 1 : Nat) : Int)) rfl (by kernel_rfl) (by kernel_rfl) (by omega) (by omega)) (by kernel_rfl) rfl rfl ?_
        refine W.sq (v := .int .i64 ((j + 1 + 1 : Nat) : Int)) rfl (r_assign rfl (by kernel_rfl)) (by kernel_rfl) rfl rfl ?_
        refine W.sch_endU (fun U80 => [.agg #[.int .i64 m, .slice A n c], .slice A2 n2 c2, .pointer (some ⟨b2, 0, none⟩), undef, .int .i64 0, .bool false, .int .i64 ((cnt + 1 : Nat) : Int), .int .i64 ((j + 1 + 1 : Nat) : Int), .slice A49 n50 c51, (U68 9), undef, undef, undef, (U15 13), (U15 14), (U15 15), .bool false, (U19 17), (U19 18), (U19 19), .bool true, U80 21, U80 22, (U68 23), (U68 24), (U68 25), (U68 26), (U68 27), (U68 28), (U68 29), (U68 30), (U68 31), (U78 32), (U78 33), (U78 34), (U78 35), .bool true, (U79 37), (U79 38), undef, undef, undef, undef, undef, undef, undef, undef, undef, undef, undef, undef, undef, undef, undef, undef, undef, undef, undef, undef, undef, undef]) (by kernel_rfl) (fun U80 => ?_)
        exact h7 _ _ _ (by omega : (m.toNat - (j + 1)) < _) ⟨j + 1, cnt + 1, (fun iU9 => [.agg #[.int .i64 m, .slice A n c], .slice A2 n2 c2, .pointer (some ⟨b2, 0, none⟩), undef, .int .i64 0, .bool false, .int .i64 ((cnt + 1 : Nat) : Int), .int .i64 ((j + 1 + 1 : Nat) : Int), .slice A49 n50 c51, (U68 9), undef, undef, undef, (U15 13), (U15 14), (U15 15), .bool false, (U19 17), (U19 18), (U19 19), .bool true, (U80 21), (U80 22), (U68 23), (U68 24), (U68 25), (U68 26), (U68 27), (U68 28), (U68 29), (U68 30), (U68 31), (U78 32), (U78 33), (U78 34), (U78 35), .bool true, (U79 37), (U79 38), undef, undef, undef, undef, undef, undef, undef, undef, undef, undef, undef, undef, undef, undef, undef, undef, undef, undef, undef, undef, undef, undef].getD iU9 undef), (by kernel_rfl), rfl, (by omega), (by rw [hc, cntS_yes (okS_iff.2 (by omega)) ((head_iff (linked_symm ps (openQ vs false)) (by omega) hx71).1 q77)]), x6, c69⟩
      · refine W.sq (v := .bool false) rfl (r_eql (m := x70) (n := ((j + 1 : Nat) : Int)) rfl (by kernel_rfl) (by kernel_rfl) (decide_eq_false q77)) (by kernel_rfl) rfl rfl ?_
        refine W.sch_endU (fun U81 => [.agg #[.int .i64 m, .slice A n c], .slice A2 n2 c2, .pointer (some ⟨b2, 0, none⟩), undef, .int .i64 0, .bool false, .int .i64 ((cnt : Nat) : Int), .int .i64 ((j + 1 : Nat) : Int), .slice A49 n50 c51, (U68 9), undef, undef, undef, (U15 13), (U15 14), (U15 15), .bool false, (U19 17), (U19 18), (U19 19), .bool true, (U0 21), (U0 22), (U68 23), (U68 24), (U68 25), (U68 26), (U68 27), (U68 28), (U68 29), (U68 30), (U68 31), U81 32, U81 33, U81 34, U81 35, .bool false, (U0 37), (U0 38), undef, undef, undef, undef, undef, undef, undef, undef, undef, undef, undef, undef, undef, undef, undef, undef, undef, undef, undef, undef, undef, undef]) (by kernel_rfl) (fun U81 => ?_)
        refine h12 _ _ ?_
        refine wp_cond_false (by kernel_rfl) ?_
        refine wp_skip ?_
        refine h10 _ _ ?_
        refine W.region_quiet [(0, false), (1, false), (2, false)] (by kernel_rfl) ?_
        refine W.sq (v := .int .i64 ((j + 1 : Nat) : Int)) rfl (r_move rfl (by kernel_rfl)) (by kernel_rfl) rfl rfl ?_
        refine W.sq (v := .int .i64 ((j + 1 + 1 : Nat) : Int)) rfl (r_add (m := ((j + 1 : Nat) : Int)) (n := 1) (z := ((j + 1 + 1 : Nat) : Int)) rfl (by kernel_rfl) (by kernel_rfl) (by omega) (by omega)) (by kernel_rfl) rfl rfl ?_
        refine W.sq (v := .int .i64 ((j + 1 + 1 : Nat) : Int)) rfl (r_assign rfl (by kernel_rfl)) (by kernel_rfl) rfl rfl ?_
        refine W.sch_endU (fun U82 => [.agg #[.int .i64 m, .slice A n c], .slice A2 n2 c2, .pointer (some ⟨b2, 0, none⟩), undef, .int .i64 0, .bool false, .int .i64 ((cnt : Nat) : Int), .int .i64 ((j + 1 + 1 : Nat) : Int), .slice A49 n50 c51, (U68 9), undef, undef, undef, (U15 13), (U15 14), (U15 15), .bool false, (U19 17), (U19 18), (U19 19), .bool true, U82 21, U82 22, (U68 23), (U68 24), (U68 25), (U68 26), (U68 27), (U68 28), (U68 29), (U68 30), (U68 31), (U81 32), (U81 33), (U81 34), (U81 35), .bool false, (U0 37), (U0 38), undef, undef, undef, undef, undef, undef, undef, undef, undef, undef, undef, undef, undef, undef, undef, undef, undef, undef, undef, undef, undef, undef]) (by kernel_rfl) (fun U82 => ?_)
        exact h7 _ _ _ (by omega : (m.toNat - (j + 1)) < _) ⟨j + 1, cnt, (fun iU9 => [.agg #[.int .i64 m, .slice A n c], .slice A2 n2 c2, .pointer (some ⟨b2, 0, none⟩), undef, .int .i64 0, .bool false, .int .i64 ((cnt : Nat) : Int), .int .i64 ((j + 1 + 1 : Nat) : Int), .slice A49 n50 c51, (U68 9), undef, undef, undef, (U15 13), (U15 14), (U15 15), .bool false, (U19 17), (U19 18), (U19 19), .bool true, (U82 21), (U82 22), (U68 23), (U68 24), (U68 25), (U68 26), (U68 27), (U68 28), (U68 29), (U68 30), (U68 31), (U81 32), (U81 33), (U81 34), (U81 35), .bool false, (U0 37), (U0 38), undef, undef, undef, undef, undef, undef, undef, undef, undef, undef, undef, undef, undef, undef, undef, undef, undef, undef, undef, undef, undef, undef].getD iU9 undef), (by kernel_rfl), rfl, (by omega), (by rw [hc, cntS_no (.inr ((Bool.not_eq_false _).mp (fun h9 => q77 ((head_iff (k := ps.length) (linked_symm ps (openQ vs false)) (by omega) hx71).2 h9))))]), x6, c69⟩
    · refine W.sq (v := .bool false) rfl (r_leq (m := ((j + 1 : Nat) : Int)) (n := m) rfl (by kernel_rfl) (by kernel_rfl) (decide_eq_false q18)) (by kernel_rfl) rfl rfl ?_
      refine W.sch_endU (fun U83 => [.agg #[.int .i64 m, .slice A n c], .slice A2 n2 c2, .pointer (some ⟨b2, 0, none⟩), undef, .int .i64 0, .bool false, .int .i64 ((cnt : Nat) : Int), .int .i64 ((j + 1 : Nat) : Int), (U0 8), (U0 9), undef, undef, undef, (U15 13), (U15 14), (U15 15), .bool false, U83 17, U83 18, U83 19, .bool false, (U0 21), (U0 22), (U0 23), (U0 24), (U0 25), (U0 26), (U0 27), (U0 28), (U0 29), (U0 30), (U0 31), (U0 32), (U0 33), (U0 34), (U0 35), (U0 36), (U0 37), (U0 38), undef, undef, undef, undef, undef, undef, undef, undef, undef, undef, undef, undef, undef, undef, undef, undef, undef, undef, undef, undef, undef, undef]) (by kernel_rfl) (fun U83 => ?_)
      refine h9 _ _ ?_
      refine wp_cond_false (by kernel_rfl) ?_
      refine wp_exit ?_
      refine h5 _ _ ?_
      refine wp_seq_k (fun K13 h13 => ?_)
      refine wp_seq_k (fun K14 h14 => ?_)
      refine W.region_quiet [(0, false)] (by kernel_rfl) ?_
      refine W.sq (v := .int .i64 0) rfl (r_assign rfl (by kernel_rfl)) (by kernel_rfl) rfl rfl ?_
      refine W.sch_end (l' := [.agg #[.int .i64 m, .slice A n c], .slice A2 n2 c2, .pointer (some ⟨b2, 0, none⟩), undef, .int .i64 0, .bool false, .int .i64 ((cnt : Nat) : Int), .int .i64 ((j + 1 : Nat) : Int), (U0 8), (U0 9), .int .i64 0, undef, undef, (U15 13), (U15 14), (U15 15), .bool false, (U83 17), (U83 18), (U83 19), .bool false, (U0 21), (U0 22), (U0 23), (U0 24), (U0 25), (U0 26), (U0 27), (U0 28), (U0 29), (U0 30), (U0 31), (U0 32), (U0 33), (U0 34), (U0 35), (U0 36), (U0 37), (U0 38), undef, undef, undef, undef, undef, undef, undef, undef, undef, undef, undef, undef, undef, undef, undef, undef, undef, undef, undef, undef, undef, undef]) (by kernel_rfl) ?_
      refine h14 _ _ ?_
      refine wp_block ?_
      refine loopK (fun am1 aa1 wl1 => ∃ (i : Nat) (cnt : Nat) (U1 : Nat → Value), aa1 = ⟨[.agg #[.int .i64 m, .slice A n c], .slice A2 n2 c2, .pointer (some ⟨b2, 0, none⟩), undef, .int .i64 0, .bool false, .int .i64 ((cnt : Nat) : Int), .int .i64 ((j + 1 : Nat) : Int), (U0 8), (U0 9), .int .i64 ((i : Nat) : Int), U1 11, U1 12, (U15 13), (U15 14), (U15 15), .bool false, (U83 17), (U83 18), (U83 19), .bool false, (U0 21), (U0 22), (U0 23), (U0 24), (U0 25), (U0 26), (U0 27), (U0 28), (U0 29), (U0 30), (U0 31), (U0 32), (U0 33), (U0 34), (U0 35), (U0 36), (U0 37), (U0 38), U1 39, U1 40, U1 41, U1 42, U1 43, U1 44, U1 45, U1 46, U1 47, U1 48, U1 49, U1 50, U1 51, U1 52, U1 53, U1 54, U1 55, U1 56, U1 57, U1 58, U1 59, undef].toArray, []⟩ ∧ (am1 = n - i) ∧ (i ≤ n) ∧ (cnt = cntS (linked ps (openQ vs false)) m.toNat ps.length (9 + i)) ∧ (wl1.heap[b2]? = some (.cells #[.int .i64 m, .slice A n c] 31 (0, 0))) ∧ (Below w.heap.size w wl1)) (n - 0) ?_ ?_
      · exact ⟨0, cnt, (fun iU9 => [.agg #[.int .i64 m, .slice A n c], .slice A2 n2 c2, .pointer (some ⟨b2, 0, none⟩), undef, .int .i64 0, .bool false, .int .i64 ((cnt : Nat) : Int), .int .i64 ((j + 1 : Nat) : Int), (U0 8), (U0 9), .int .i64 0, undef, undef, (U15 13), (U15 14), (U15 15), .bool false, (U83 17), (U83 18), (U83 19), .bool false, (U0 21), (U0 22), (U0 23), (U0 24), (U0 25), (U0 26), (U0 27), (U0 28), (U0 29), (U0 30), (U0 31), (U0 32), (U0 33), (U0 34), (U0 35), (U0 36), (U0 37), (U0 38), undef, undef, undef, undef, undef, undef, undef, undef, undef, undef, undef, undef, undef, undef, undef, undef, undef, undef, undef, undef, undef, undef].getD iU9 undef), (by kernel_rfl), rfl, (Nat.zero_le _), (by rw [hc, show j = m.toNat by omega]; have h9 := cntS_gap (E := (linked ps (openQ vs false))) (m := m.toNat) (k := ps.length) (8 - m.toNat) (by omega); rw [show m.toNat + 1 + (8 - m.toNat) = 9 by omega] at h9; exact h9.symm), x6, c17⟩
      rintro am1 aa1 wl1 K15 h15 ⟨i, cnt, U1, rfl, rfl, hi, hc, x6, c84⟩
      have hcl := cntS_le (linked ps (openQ vs false)) m.toNat ps.length (9 + i)
      refine wp_seq_k (fun K16 h16 => ?_)
      refine wp_seq_k (fun K17 h17 => ?_)
      refine W.region_quiet [(0, false), (1, false), (2, false), (3, false), (4, false)] (by kernel_rfl) ?_
      refine W.sq (v := .int .i64 ((i : Nat) : Int)) rfl (r_move rfl (by kernel_rfl)) (by kernel_rfl) rfl rfl ?_
      refine W.sq (v := .pointer (some ⟨b2, 1, none⟩)) rfl (r_field (k := 1) rfl (by kernel_rfl) (by kernel_rfl)) (by kernel_rfl) rfl rfl ?_
      refine W.sq (v := .slice A n c) rfl (r_load rfl (by kernel_rfl) (by kernel_rfl) (eqS (blk_cell (j := 1) x6 (by kernel_rfl)))) (by kernel_rfl) rfl rfl ?_
      refine W.sq (v := .int .i64 ((n : Nat) : Int)) rfl (r_len (A := A) (n := n) (c := c) rfl (by kernel_rfl) (by kernel_rfl)) (by kernel_rfl) rfl rfl ?_
      by_cases q85 : (((i : Nat) : Int) : Int) < (((n : Nat) : Int) : Int)
      · refine W.sq (v := .bool true) rfl (r_lss (m := ((i : Nat) : Int)) (n := ((n : Nat) : Int)) rfl (by kernel_rfl) (by kernel_rfl) (decide_eq_true q85)) (by kernel_rfl) rfl rfl ?_
        refine W.sch_endU (fun U86 => [.agg #[.int .i64 m, .slice A n c], .slice A2 n2 c2, .pointer (some ⟨b2, 0, none⟩), undef, .int .i64 0, .bool false, .int .i64 ((cnt : Nat) : Int), .int .i64 ((j + 1 : Nat) : Int), (U0 8), (U0 9), .int .i64 ((i : Nat) : Int), (U1 11), (U1 12), (U15 13), (U15 14), (U15 15), .bool false, (U83 17), (U83 18), (U83 19), .bool false, (U0 21), (U0 22), (U0 23), (U0 24), (U0 25), (U0 26), (U0 27), (U0 28), (U0 29), (U0 30), (U0 31), (U0 32), (U0 33), (U0 34), (U0 35), (U0 36), (U0 37), (U0 38), U86 39, U86 40, U86 41, U86 42, .bool true, (U1 44), (U1 45), (U1 46), (U1 47), (U1 48), (U1 49), (U1 50), (U1 51), (U1 52), (U1 53), (U1 54), (U1 55), (U1 56), (U1 57), (U1 58), (U1 59), undef]) (by kernel_rfl) (fun U86 => ?_)
        refine h17 _ _ ?_
        refine wp_cond_true (by kernel_rfl) ?_
        refine wp_skip ?_
        refine h16 _ _ ?_
        refine wp_seq_k (fun K18 h18 => ?_)
        refine wp_block ?_
        refine wp_seq_k (fun K19 h19 => ?_)
        refine W.region_plain (row := none) [(0, false), (1, false), (2, true), (3, false), (4, true), (5, true), (6, false), (7, false), (8, false), (9, false), (10, false)] (by kernel_rfl) ?_
        have s87 := SG.self wl1 none
        refine W.sq (v := .agg #[.int .i64 m, .slice A n c]) rfl (r_load2 rfl (by kernel_rfl) (by kernel_rfl) (by kernel_rfl) (sgS (blk_cell (j := 0) x6 (by kernel_rfl)) (by simp)) (sgS (blk_cell (j := 1) x6 (by kernel_rfl)) (by simp))) (by kernel_rfl) rfl rfl ?_
        refine W.sq (v := .slice A2 n2 c2) rfl (r_move rfl (by kernel_rfl)) (by kernel_rfl) rfl rfl ?_
        refine W.sn (fun b => .slice (some ⟨b, 0, none⟩) 0 0) #[] 3 s87 rfl (by kernel_rfl) rfl (fun _ => by kernel_rfl) (fun b88 w89 hb90 k91 x92 s93 => ?_)
        have lo94 : w.heap.size ≤ b88 := by have := ((SG.belowR c84 s87 (fun kq e => by cases e))).size; omega
        have ne95 : b2 ≠ b88 := by have := blk_lt x6; have := World.grownBy.size s87; omega
        refine W.sq (v := .int .i64 ((i : Nat) : Int)) rfl (r_move rfl (by kernel_rfl)) (by kernel_rfl) rfl rfl ?_
        refine W.sn (fun b => .slice (some ⟨b, 0, none⟩) 1 1) #[.int .i64 ((i : Nat) : Int)] 3 s93 rfl (by kernel_rfl) rfl (fun _ => by kernel_rfl) (fun b96 w97 hb98 k99 x100 s101 => ?_)
        have lo102 : w.heap.size ≤ b96 := by have := ((SG.belowR c84 s93 (fun kq e => by cases e))).size; omega
        have ne103 : b2 ≠ b96 := by have := blk_lt x6; have := World.grownBy.size s93; omega
        have ne104 : b88 ≠ b96 := by have := blk_lt x92; omega
        have x92 := (k99.block _ (blk_lt x92)).trans x92
        have ho105 := own_empty (base := w.heap.size) (size := 1) x92 lo94
        replace ho105 : World.ownsRow _ _ _ _ _ _ (intsV []) := ho105
        have nb106 : Nb b2 (.slice (some ⟨b88, 0, none⟩) 0 0) := nb_new (by have := ne95; omega)
        have nb107 : Nb b96 (.slice (some ⟨b88, 0, none⟩) 0 0) := nb_new (by have := ne104; omega)
        have rd109 := own_rd ho105
        have hl110 := rd_ints_len rd109
        have ho111 := own_blk (base := w.heap.size) (size := 1) (n := 1) x100 lo102 rfl (by omega)
        replace ho111 : World.ownsRow _ _ _ _ _ _ (intsV [((i : Nat) : Int)]) := ho111
        have nb112 : Nb b2 (.slice (some ⟨b96, 0, none⟩) 1 1) := nb_new (by have := ne103; omega)
        have rd114 := own_rd ho111
        have hl115 := rd_ints_len rd114
        refine W.sc (vs := [.agg #[.int .i64 m, .slice A n c], .slice A2 n2 c2, .bool false, .slice (some ⟨b88, 0, none⟩) 0 0, .slice (some ⟨b96, 0, none⟩) 1 1]) rfl rfl (by kernel_rfl) (by kernel_rfl) (by kernel_rfl) rfl (l4Spread_false m A n c ps A2 n2 c2 vs (9 + ((i : Nat) : Int)) (some ⟨b88, 0, none⟩) 0 0 ([]) (some ⟨b96, 0, none⟩) 1 1 ([((i : Nat) : Int)]) _ (Rd.kept ha (SG.belowR c84 s101 (fun kq e => by cases e))) (Rd.kept hb (SG.belowR c84 s101 (fun kq e => by cases e))) (by omega) (by omega) hp (by omega) (by omega) rd109 (own_fm ho105) rd114 (own_fm ho111) (FndQ.startP _ (by omega))) ?_
        rintro e w131 ⟨A116, n117, c118, A119, n120, c121, rfl, rd122, fm123, rd124, fm125, b130⟩
        have s132 := SG.of_below s101 b130
        refine ⟨_, rfl, s132, ?_⟩
        have rd133 := Rd.kept rd109 b130
        have rd134 := Rd.kept rd114 b130
        have hl128 := rd_ints_len rd122
        have hl129 := rd_ints_len rd124
        have := nodesL_len (linked ps (openQ vs false)) m.toNat (9 + ((i : Nat) : Int)) true
        have := idxL_len (linked ps (openQ vs false)) ps.length (9 + ((i : Nat) : Int)) true
        refine W.sq (v := .tuple #[.slice A116 n117 c118, .slice A119 n120 c121]) rfl (r_move rfl (by kernel_rfl)) (by kernel_rfl) rfl rfl ?_
        refine W.sq (v := .slice A116 n117 c118) rfl (r_extract (vs := #[.slice A116 n117 c118, .slice A119 n120 c121]) rfl (by kernel_rfl) (by kernel_rfl)) (by kernel_rfl) rfl rfl ?_
        refine W.sq (v := .slice A119 n120 c121) rfl (r_extract (vs := #[.slice A116 n117 c118, .slice A119 n120 c121]) rfl (by kernel_rfl) (by kernel_rfl)) (by kernel_rfl) rfl rfl ?_
        refine W.sq (v := .slice A116 n117 c118) rfl (r_assign rfl (by kernel_rfl)) (by kernel_rfl) rfl rfl ?_
        refine W.sq (v := .slice A119 n120 c121) rfl (r_assign rfl (by kernel_rfl)) (by kernel_rfl) rfl rfl ?_
        refine W.sch_endU (fun U135 => [.agg #[.int .i64 m, .slice A n c], .slice A2 n2 c2, .pointer (some ⟨b2, 0, none⟩), undef, .int .i64 0, .bool false, .int .i64 ((cnt : Nat) : Int), .int .i64 ((j + 1 : Nat) : Int), (U0 8), (U0 9), .int .i64 ((i : Nat) : Int), .slice A116 n117 c118, U135 12, (U15 13), (U15 14), (U15 15), .bool false, (U83 17), (U83 18), (U83 19), .bool false, (U0 21), (U0 22), (U0 23), (U0 24), (U0 25), (U0 26), (U0 27), (U0 28), (U0 29), (U0 30), (U0 31), (U0 32), (U0 33), (U0 34), (U0 35), (U0 36), (U0 37), (U0 38), (U86 39), (U86 40), (U86 41), (U86 42), .bool true, (U1 44), (U1 45), U135 46, U135 47, U135 48, U135 49, U135 50, U135 51, U135 52, U135 53, U135 54, (U1 55), (U1 56), (U1 57), (U1 58), (U1 59), undef]) (by kernel_rfl) (fun U135 => ?_)
        have x6 := SG.blk s132 x6 (by simp)
        have c136 := (SG.belowR c84 s132 (fun kq e => by cases e))
        refine h19 _ _ ?_
        refine wp_seq_k (fun K20 h20 => ?_)
        refine W.region_quiet [(0, false), (1, false), (2, false)] (by kernel_rfl) ?_
        refine W.sq (v := .slice A116 n117 c118) rfl (r_move rfl (by kernel_rfl)) (by kernel_rfl) rfl rfl ?_
        refine W.sq (v := .int .i64 ((n117 : Nat) : Int)) rfl (r_len (A := A116) (n := n117) (c := c118) rfl (by kernel_rfl) (by kernel_rfl)) (by kernel_rfl) rfl rfl ?_
        by_cases q137 : (((n117 : Nat) : Int) : Int) = (0 : Int)
        · refine W.sq (v := .bool true) rfl (r_eql (m := ((n117 : Nat) : Int)) (n := 0) rfl (by kernel_rfl) (by kernel_rfl) (decide_eq_true q137)) (by kernel_rfl) rfl rfl ?_
          refine W.sch_endU (fun U138 => [.agg #[.int .i64 m, .slice A n c], .slice A2 n2 c2, .pointer (some ⟨b2, 0, none⟩), undef, .int .i64 0, .bool false, .int .i64 ((cnt : Nat) : Int), .int .i64 ((j + 1 : Nat) : Int), (U0 8), (U0 9), .int .i64 ((i : Nat) : Int), .slice A116 n117 c118, (U135 12), (U15 13), (U15 14), (U15 15), .bool false, (U83 17), (U83 18), (U83 19), .bool false, (U0 21), (U0 22), (U0 23), (U0 24), (U0 25), (U0 26), (U0 27), (U0 28), (U0 29), (U0 30), (U0 31), (U0 32), (U0 33), (U0 34), (U0 35), (U0 36), (U0 37), (U0 38), (U86 39), (U86 40), (U86 41), (U86 42), .bool true, (U1 44), (U1 45), (U135 46), (U135 47), (U135 48), (U135 49), (U135 50), (U135 51), (U135 52), (U135 53), (U135 54), U138 55, U138 56, .bool true, (U1 58), (U1 59), undef]) (by kernel_rfl) (fun U138 => ?_)
          refine h20 _ _ ?_
          refine wp_cond_true (by kernel_rfl) ?_
          refine W.region_quiet [(0, false), (1, false), (2, false)] (by kernel_rfl) ?_
          refine W.sq (v := .int .i64 ((cnt : Nat) : Int)) rfl (r_move rfl (by kernel_rfl)) (by kernel_rfl) rfl rfl ?_
          refine W.sq (v := .int .i64 ((cnt + 1 : Nat) : Int)) rfl (r_add (m := ((cnt : Nat) : Int)) (n := 1) (z := ((cnt + 1 : Nat) : Int)) rfl (by kernel_rfl) (by kernel_rfl) (by omega) (by omega)) (by kernel_rfl) rfl rfl ?_
          refine W.sq (v := .int .i64 ((cnt + 1 : Nat) : Int)) rfl (r_assign rfl (by kernel_rfl)) (by kernel_rfl) rfl rfl ?_
          refine W.sch_endU (fun U139 => [.agg #[.int .i64 m, .slice A n c], .slice A2 n2 c2, .pointer (some ⟨b2, 0, none⟩), undef, .int .i64 0, .bool false, .int .i64 ((cnt + 1 : Nat) : Int), .int .i64 ((j + 1 : Nat) : Int), (U0 8), (U0 9), .int .i64 ((i : Nat) : Int), .slice A116 n117 c118, (U135 12), (U15 13), (U15 14), (U15 15), .bool false, (U83 17), (U83 18), (U83 19), .bool false, (U0 21), (U0 22), (U0 23), (U0 24), (U0 25), (U0 26), (U0 27), (U0 28), (U0 29), (U0 30), (U0 31), (U0 32), (U0 33), (U0 34), (U0 35), (U0 36), (U0 37), (U0 38), (U86 39), (U86 40), (U86 41), (U86 42), .bool true, (U1 44), (U1 45), (U135 46), (U135 47), (U135 48), (U135 49), (U135 50), (U135 51), (U135 52), (U135 53), (U135 54), (U138 55), (U138 56), .bool true, U139 58, U139 59, undef]) (by kernel_rfl) (fun U139 => ?_)
          refine h18 _ _ ?_
          refine W.region_quiet [(0, false), (1, false), (2, false)] (by kernel_rfl) ?_
          refine W.sq (v := .int .i64 ((i : Nat) : Int)) rfl (r_move rfl (by kernel_rfl)) (by kernel_rfl) rfl rfl ?_
          refine W.sq (v := .int .i64 ((i + 1 : Nat) : Int)) rfl (r_add (m := ((i : Nat) : Int)) (n := 1) (z := ((i + 1 : Nat) : Int)) rfl (by kernel_rfl) (by kernel_rfl) (by omega) (by omega)) (by kernel_rfl) rfl rfl ?_
          refine W.sq (v := .int .i64 ((i + 1 : Nat) : Int)) rfl (r_assign rfl (by kernel_rfl)) (by kernel_rfl) rfl rfl ?_
          refine W.sch_endU (fun U140 => [.agg #[.int .i64 m, .slice A n c], .slice A2 n2 c2, .pointer (some ⟨b2, 0, none⟩), undef, .int .i64 0, .bool false, .int .i64 ((cnt + 1 : Nat) : Int), .int .i64 ((j + 1 : Nat) : Int), (U0 8), (U0 9), .int .i64 ((i + 1 : Nat) : Int), .slice A116 n117 c118, (U135 12), (U15 13), (U15 14), (U15 15), .bool false, (U83 17), (U83 18), (U83 19), .bool false, (U0 21), (U0 22), (U0 23), (U0 24), (U0 25), (U0 26), (U0 27), (U0 28), (U0 29), (U0 30), (U0 31), (U0 32), (U0 33), (U0 34), (U0 35), (U0 36), (U0 37), (U0 38), (U86 39), (U86 40), (U86 41), (U86 42), .bool true, U140 44, U140 45, (U135 46), (U135 47), (U135 48), (U135 49), (U135 50), (U135 51), (U135 52), (U135 53), (U135 54), (U138 55), (U138 56), .bool true, (U139 58), (U139 59), undef]) (by kernel_rfl) (fun U140 => ?_)
          exact h15 _ _ _ (by omega : (n - (i + 1)) < _) ⟨i + 1, cnt + 1, (fun iU9 => [.agg #[.int .i64 m, .slice A n c], .slice A2 n2 c2, .pointer (some ⟨b2, 0, none⟩), undef, .int .i64 0, .bool false, .int .i64 ((cnt + 1 : Nat) : Int), .int .i64 ((j + 1 : Nat) : Int), (U0 8), (U0 9), .int .i64 ((i + 1 : Nat) : Int), .slice A116 n117 c118, (U135 12), (U15 13), (U15 14), (U15 15), .bool false, (U83 17), (U83 18), (U83 19), .bool false, (U0 21), (U0 22), (U0 23), (U0 24), (U0 25), (U0 26), (U0 27), (U0 28), (U0 29), (U0 30), (U0 31), (U0 32), (U0 33), (U0 34), (U0 35), (U0 36), (U0 37), (U0 38), (U86 39), (U86 40), (U86 41), (U86 42), .bool true, (U140 44), (U140 45), (U135 46), (U135 47), (U135 48), (U135 49), (U135 50), (U135 51), (U135 52), (U135 53), (U135 54), (U138 55), (U138 56), .bool true, (U139 58), (U139 59), undef].getD iU9 undef), (by kernel_rfl), rfl, (by omega), (by rw [hc, show 9 + (i + 1) = 9 + i + 1 by omega, cntS_yes (okS_iff.2 (by omega)) ((alone_iff (k := ps.length) hp (by omega) (by omega)).1 (by omega))]), x6, c136⟩
        · refine W.sq (v := .bool false) rfl (r_eql (m := ((n117 : Nat) : Int)) (n := 0) rfl (by kernel_rfl) (by kernel_rfl) (decide_eq_false q137)) (by kernel_rfl) rfl rfl ?_
          refine W.sch_endU (fun U141 => [.agg #[.int .i64 m, .slice A n c], .slice A2 n2 c2, .pointer (some ⟨b2, 0, none⟩), undef, .int .i64 0, .bool false, .int .i64 ((cnt : Nat) : Int), .int .i64 ((j + 1 : Nat) : Int), (U0 8), (U0 9), .int .i64 ((i : Nat) : Int), .slice A116 n117 c118, (U135 12), (U15 13), (U15 14), (U15 15), .bool false, (U83 17), (U83 18), (U83 19), .bool false, (U0 21), (U0 22), (U0 23), (U0 24), (U0 25), (U0 26), (U0 27), (U0 28), (U0 29), (U0 30), (U0 31), (U0 32), (U0 33), (U0 34), (U0 35), (U0 36), (U0 37), (U0 38), (U86 39), (U86 40), (U86 41), (U86 42), .bool true, (U1 44), (U1 45), (U135 46), (U135 47), (U135 48), (U135 49), (U135 50), (U135 51), (U135 52), (U135 53), (U135 54), U141 55, U141 56, .bool false, (U1 58), (U1 59), undef]) (by kernel_rfl) (fun U141 => ?_)
          refine h20 _ _ ?_
          refine wp_cond_false (by kernel_rfl) ?_
          refine wp_skip ?_
          refine h18 _ _ ?_
          refine W.region_quiet [(0, false), (1, false), (2, false)] (by kernel_rfl) ?_
          refine W.sq (v := .int .i64 ((i : Nat) : Int)) rfl (r_move rfl (by kernel_rfl)) (by kernel_rfl) rfl rfl ?_
          refine W.sq (v := .int .i64 ((i + 1 : Nat) : Int)) rfl (r_add (m := ((i : Nat) : Int)) (n := 1) (z := ((i + 1 : Nat) : Int)) rfl (by kernel_rfl) (by kernel_rfl) (by omega) (by omega)) (by kernel_rfl) rfl rfl ?_
          refine W.sq (v := .int .i64 ((i + 1 : Nat) : Int)) rfl (r_assign rfl (by kernel_rfl)) (by kernel_rfl) rfl rfl ?_
          refine W.sch_endU (fun U142 => [.agg #[.int .i64 m, .slice A n c], .slice A2 n2 c2, .pointer (some ⟨b2, 0, none⟩), undef, .int .i64 0, .bool false, .int .i64 ((cnt : Nat) : Int), .int .i64 ((j + 1 : Nat) : Int), (U0 8), (U0 9), .int .i64 ((i + 1 : Nat) : Int), .slice A116 n117 c118, (U135 12), (U15 13), (U15 14), (U15 15), .bool false, (U83 17), (U83 18), (U83 19), .bool false, (U0 21), (U0 22), (U0 23), (U0 24), (U0 25), (U0 26), (U0 27), (U0 28), (U0 29), (U0 30), (U0 31), (U0 32), (U0 33), (U0 34), (U0 35), (U0 36), (U0 37), (U0 38), (U86 39), (U86 40), (U86 41), (U86 42), .bool true, U142 44, U142 45, (U135 46), (U135 47), (U135 48), (U135 49), (U135 50), (U135 51), (U135 52), (U135 53), (U135 54), (U141 55), (U141 56), .bool false, (U1 58), (U1 59), undef]) (by kernel_rfl) (fun U142 => ?_)
          exact h15 _ _ _ (by omega : (n - (i + 1)) < _) ⟨i + 1, cnt, (fun iU9 => [.agg #[.int .i64 m, .slice A n c], .slice A2 n2 c2, .pointer (some ⟨b2, 0, none⟩), undef, .int .i64 0, .bool false, .int .i64 ((cnt : Nat) : Int), .int .i64 ((j + 1 : Nat) : Int), (U0 8), (U0 9), .int .i64 ((i + 1 : Nat) : Int), .slice A116 n117 c118, (U135 12), (U15 13), (U15 14), (U15 15), .bool false, (U83 17), (U83 18), (U83 19), .bool false, (U0 21), (U0 22), (U0 23), (U0 24), (U0 25), (U0 26), (U0 27), (U0 28), (U0 29), (U0 30), (U0 31), (U0 32), (U0 33), (U0 34), (U0 35), (U0 36), (U0 37), (U0 38), (U86 39), (U86 40), (U86 41), (U86 42), .bool true, (U142 44), (U142 45), (U135 46), (U135 47), (U135 48), (U135 49), (U135 50), (U135 51), (U135 52), (U135 53), (U135 54), (U141 55), (U141 56), .bool false, (U1 58), (U1 59), undef].getD iU9 undef), (by kernel_rfl), rfl, (by omega), (by rw [hc, show 9 + (i + 1) = 9 + i + 1 by omega, cntS_no (.inr ((Bool.not_eq_false _).mp (fun h9 => absurd ((alone_iff (k := ps.length) hp (by omega) (by omega)).2 h9) (by omega))))]), x6, c136⟩
      · refine W.sq (v := .bool false) rfl (r_lss (m := ((i : Nat) : Int)) (n := ((n : Nat) : Int)) rfl (by kernel_rfl) (by kernel_rfl) (decide_eq_false q85)) (by kernel_rfl) rfl rfl ?_
        refine W.sch_endU (fun U143 => [.agg #[.int .i64 m, .slice A n c], .slice A2 n2 c2, .pointer (some ⟨b2, 0, none⟩), undef, .int .i64 0, .bool false, .int .i64 ((cnt : Nat) : Int), .int .i64 ((j + 1 : Nat) : Int), (U0 8), (U0 9), .int .i64 ((i : Nat) : Int), (U1 11), (U1 12), (U15 13), (U15 14), (U15 15), .bool false, (U83 17), (U83 18), (U83 19), .bool false, (U0 21), (U0 22), (U0 23), (U0 24), (U0 25), (U0 26), (U0 27), (U0 28), (U0 29), (U0 30), (U0 31), (U0 32), (U0 33), (U0 34), (U0 35), (U0 36), (U0 37), (U0 38), U143 39, U143 40, U143 41, U143 42, .bool false, (U1 44), (U1 45), (U1 46), (U1 47), (U1 48), (U1 49), (U1 50), (U1 51), (U1 52), (U1 53), (U1 54), (U1 55), (U1 56), (U1 57), (U1 58), (U1 59), undef]) (by kernel_rfl) (fun U143 => ?_)
        refine h17 _ _ ?_
        refine wp_cond_false (by kernel_rfl) ?_
        refine wp_exit ?_
        refine h13 _ _ ?_
        refine wp_seq_k (fun K21 h21 => ?_)
        refine W.region_quiet [(0, false), (1, false), (2, false)] (by kernel_rfl) ?_
        refine W.sq (v := .int .i64 ((cnt : Nat) : Int)) rfl (r_move rfl (by kernel_rfl)) (by kernel_rfl) rfl rfl ?_
        refine W.sq (v := .int .i64 ((cnt : Nat) : Int)) rfl (r_assign rfl (by kernel_rfl)) (by kernel_rfl) rfl rfl ?_
        refine W.sq (v := .bool true) rfl (r_assign rfl (by kernel_rfl)) (by kernel_rfl) rfl rfl ?_
        refine W.sch_endU (fun U144 => [.agg #[.int .i64 m, .slice A n c], .slice A2 n2 c2, .pointer (some ⟨b2, 0, none⟩), undef, .int .i64 ((cnt : Nat) : Int), .bool true, .int .i64 ((cnt : Nat) : Int), .int .i64 ((j + 1 : Nat) : Int), (U0 8), (U0 9), .int .i64 ((i : Nat) : Int), (U1 11), (U1 12), (U15 13), (U15 14), (U15 15), .bool false, (U83 17), (U83 18), (U83 19), .bool false, (U0 21), (U0 22), (U0 23), (U0 24), (U0 25), (U0 26), (U0 27), (U0 28), (U0 29), (U0 30), (U0 31), (U0 32), (U0 33), (U0 34), (U0 35), (U0 36), (U0 37), (U0 38), (U143 39), (U143 40), (U143 41), (U143 42), .bool false, (U1 44), (U1 45), (U1 46), (U1 47), (U1 48), (U1 49), (U1 50), (U1 51), (U1 52), (U1 53), (U1 54), (U1 55), (U1 56), (U1 57), (U1 58), (U1 59), U144 60]) (by kernel_rfl) (fun U144 => ?_)
        refine h21 _ _ ?_
        refine wp_ret ?_
        try simp only [Exit.then]
        refine ret2 (v := .int .i64 ((cnt : Nat) : Int)) (x := .bool true) rfl (by kernel_rfl) (by kernel_rfl) ?_
        exact ⟨by unfold CountSegments_v0 CountSegments_v1; rw [if_pos q14, q14, show 9 + ps.length = 9 + i by omega, ← hc], c84⟩
  · rw [q14]
    refine W.sq (v := .bool true) rfl (r_not (b := false) rfl (by kernel_rfl) rfl) (by kernel_rfl) rfl rfl ?_
    refine W.sch_endU (fun U145 => [.agg #[.int .i64 m, .slice A n c], .slice A2 n2 c2, .pointer (some ⟨b2, 0, none⟩), undef, .int .i64 0, .bool false, undef, undef, undef, undef, undef, undef, undef, U145 13, U145 14, U145 15, .bool true, undef, undef, undef, undef, undef, undef, undef, undef, undef, undef, undef, undef, undef, undef, undef, undef, undef, undef, undef, undef, undef, undef, undef, undef, undef, undef, undef, undef, undef, undef, undef, undef, undef, undef, undef, undef, undef, undef, undef, undef, undef, undef, undef, undef]) (by kernel_rfl) (fun U145 => ?_)
    have x6 := SG.blk s13 x6 (by simp)
    have c146 := (SG.belowR c9 s13 (fun kq e => by cases e))
    refine h3 _ _ ?_
    refine wp_cond_true (by kernel_rfl) ?_
    refine wp_seq_k (fun K22 h22 => ?_)
    refine W.region_quiet [(0, false), (1, false)] (by kernel_rfl) ?_
    refine W.sq (v := .int .i64 0) rfl (r_assign rfl (by kernel_rfl)) (by kernel_rfl) rfl rfl ?_
    refine W.sq (v := .bool false) rfl (r_assign rfl (by kernel_rfl)) (by kernel_rfl) rfl rfl ?_
    refine W.sch_end (l' := [.agg #[.int .i64 m, .slice A n c], .slice A2 n2 c2, .pointer (some ⟨b2, 0, none⟩), undef, .int .i64 0, .bool false, undef, undef, undef, undef, undef, undef, undef, (U145 13), (U145 14), (U145 15), .bool true, undef, undef, undef, undef, undef, undef, undef, undef, undef, undef, undef, undef, undef, undef, undef, undef, undef, undef, undef, undef, undef, undef, undef, undef, undef, undef, undef, undef, undef, undef, undef, undef, undef, undef, undef, undef, undef, undef, undef, undef, undef, undef, undef, undef]) (by kernel_rfl) ?_
    refine h22 _ _ ?_
    refine wp_ret ?_
    try simp only [Exit.then]
    refine ret2 (v := .int .i64 0) (x := .bool false) rfl (by kernel_rfl) (by kernel_rfl) ?_
    exact ⟨by unfold CountSegments_v0 CountSegments_v1; rw [if_neg (by rw [q14]; simp), q14], c146⟩

end Go.Proofs.Ythdmbndndfiidaa
