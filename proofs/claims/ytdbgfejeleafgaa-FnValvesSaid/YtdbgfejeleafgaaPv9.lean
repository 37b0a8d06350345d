/- What the texts behind it build on; conditions: none. -/
import Derived.Test.YtdbgfejeleafgaaPv8
namespace Go.Proofs.Ytdbgfejeleafgaa
open Go.RowKit
set_option linter.unusedVariables false
set_option linter.unusedSimpArgs false
def okS (m k t : Nat) : Bool := (decide (1 ≤ t) && decide (t ≤ m)) || (decide (9 ≤ t) && decide (t < 9 + k))
theorem okS_iff {m k t : Nat} : okS m k t = true ↔ (1 ≤ t ∧ t ≤ m) ∨ (9 ≤ t ∧ t < 9 + k) := by unfold okS; simp only [Bool.or_eq_true, Bool.and_eq_true, decide_eq_true_iff]
noncomputable def seenB (E : Int → Int → Prop) (m k s i : Nat) : Bool := (List.range s).any (fun t => okS m k t && rb E (t : Int) (i : Int))
noncomputable def seenL (E : Int → Int → Prop) (m k s : Nat) : List Bool := (List.range 19).map (seenB E m k s)
noncomputable def cntS (E : Int → Int → Prop) (m k s : Nat) : Nat := (List.range s).countP (fun t => okS m k t && !seenB E m k t t)
theorem seenB_iff {E : Int → Int → Prop} {m k s i : Nat} : seenB E m k s i = true ↔ ∃ t, t < s ∧ okS m k t = true ∧ Reach E (t : Int) (i : Int) := by
  unfold seenB; rw [List.any_eq_true]
  constructor
  · rintro ⟨t, ht, h⟩; rw [Bool.and_eq_true, rb_iff] at h; exact ⟨t, List.mem_range.1 ht, h.1, h.2⟩
  · rintro ⟨t, ht, h1, h2⟩; exact ⟨t, List.mem_range.2 ht, by rw [Bool.and_eq_true, rb_iff]; exact ⟨h1, h2⟩⟩
theorem seenB_succ (E : Int → Int → Prop) (m k s i : Nat) : seenB E m k (s + 1) i = (seenB E m k s i || (okS m k s && rb E (s : Int) (i : Int))) := by
  unfold seenB; rw [List.range_succ, List.any_append]; simp
theorem cntS_succ (E : Int → Int → Prop) (m k s : Nat) : cntS E m k (s + 1) = cntS E m k s + (if (okS m k s && !seenB E m k s s) = true then 1 else 0) := by
  unfold cntS; rw [List.range_succ, List.countP_append, List.countP_singleton]
theorem seenL_len (E : Int → Int → Prop) (m k s : Nat) : (seenL E m k s).length = 19 := by simp [seenL]
theorem seenL_at (E : Int → Int → Prop) (m k s : Nat) {i : Nat} (h : i < 19) : (seenL E m k s)[i]? = some (seenB E m k s i) := by simp [seenL, h]
theorem seenL_eq {E : Int → Int → Prop} {m k s i : Nat} {y : Bool} (h : (seenL E m k s)[i]? = some y) : y = seenB E m k s i := by
  have hi : i < 19 := by have := (List.getElem?_eq_some_iff.1 h).1; rw [seenL_len] at this; exact this
  rw [seenL_at E m k s hi] at h; exact (Option.some.inj h).symm
theorem seenL_one (E : Int → Int → Prop) (m k : Nat) : seenL E m k 1 = List.replicate 19 false := by
  have h : ∀ i, seenB E m k 1 i = false := fun i => by unfold seenB; simp [okS]
  unfold seenL
  rw [List.map_congr_left (fun i _ => h i)]; rfl
theorem seenL_of {E : Int → Int → Prop} {m k s : Nat} {bs : List Bool} (hl : bs.length = 19) (h : ∀ i, i < 19 → bs[i]? = some (seenB E m k s i)) : seenL E m k s = bs := by
  apply List.ext_getElem?
  intro i
  by_cases hi : i < 19
  · rw [seenL_at E m k s hi, h i hi]
  · rw [List.getElem?_eq_none (by rw [seenL_len]; omega), List.getElem?_eq_none (by omega)]
theorem seenL_same {E : Int → Int → Prop} (hE : Symm E) {m k s : Nat} (h : seenB E m k s s = true) : seenL E m k (s + 1) = seenL E m k s := by
  unfold seenL
  refine List.map_congr_left (fun i _ => ?_)
  rw [Bool.eq_iff_iff, seenB_iff, seenB_iff]
  obtain ⟨t, ht, hok, hr⟩ := seenB_iff.1 h
  constructor
  · rintro ⟨u, hu, h1, h2⟩
    by_cases e : u = s
    · subst e; exact ⟨t, ht, hok, reach_trans hr h2⟩
    · exact ⟨u, by omega, h1, h2⟩
  · rintro ⟨u, hu, h1, h2⟩; exact ⟨u, by omega, h1, h2⟩
theorem seenL_gap {E : Int → Int → Prop} {m k s : Nat} (h : okS m k s = false) : seenL E m k (s + 1) = seenL E m k s := by
  unfold seenL
  refine List.map_congr_left (fun i _ => ?_)
  rw [seenB_succ, h]; simp
theorem cntS_no {E : Int → Int → Prop} {m k s : Nat} (h : okS m k s = false ∨ seenB E m k s s = true) : cntS E m k (s + 1) = cntS E m k s := by
  rw [cntS_succ]
  rcases h with h | h <;> rw [h] <;> simp
theorem cntS_yes {E : Int → Int → Prop} {m k s : Nat} (h : okS m k s = true) (h' : seenB E m k s s = false) : cntS E m k (s + 1) = cntS E m k s + 1 := by
  rw [cntS_succ, h, h']; simp
theorem cntS_le (E : Int → Int → Prop) (m k s : Nat) : cntS E m k s ≤ s := by
  unfold cntS; have := List.countP_le_length (p := fun t => okS m k t && !seenB E m k t t) (l := List.range s); rwa [List.length_range] at this
theorem cntS_gap {E : Int → Int → Prop} {m k : Nat} : ∀ d, m + 1 + d ≤ 9 → cntS E m k (m + 1 + d) = cntS E m k (m + 1)
  | 0, _ => rfl
  | d + 1, h => by
    rw [← Nat.add_assoc, cntS_no (.inl ?_), cntS_gap d (by omega)]
    rw [← Bool.not_eq_true, okS_iff]; omega
theorem cntS_one (E : Int → Int → Prop) (m k : Nat) : cntS E m k 1 = 0 := by
  have := cntS_no (E := E) (m := m) (k := k) (s := 0) (.inl (by rw [← Bool.not_eq_true, okS_iff]; omega))
  rw [this]; rfl
structure Mix (E : Int → Int → Prop) (m k s i : Nat) (bs : List Bool) : Prop where
  len : bs.length = 19
  lo : ∀ e, e < i → bs[e]? = some (seenB E m k (s + 1) e)
  hi : ∀ e, i ≤ e → e < 19 → bs[e]? = some (seenB E m k s e)
theorem Mix.start (E : Int → Int → Prop) (m k s : Nat) : Mix E m k s 0 (seenL E m k s) := ⟨seenL_len _ _ _ _, fun e h => absurd h (by omega), fun e _ h => seenL_at E m k s h⟩
theorem Mix.next {E : Int → Int → Prop} {m k s i : Nat} {bs : List Bool} (h : Mix E m k s i bs) (hi : i < 19) {y x z : Bool} (hy : bs[i]? = some y) (hx : x = rb E (s : Int) (i : Int)) (hok : okS m k s = true) (hz : z = (y || x)) : Mix E m k s (i + 1) (bs.set i z) := by
  have hl := h.len
  have e9 : y = seenB E m k s i := by have := h.hi i (Nat.le_refl _) hi; rw [hy] at this; exact Option.some.inj this
  refine ⟨by rw [List.length_set]; exact hl, fun e he => ?_, fun e he h9 => ?_⟩
  · by_cases e1 : e = i
    · subst e1; rw [List.getElem?_set_self (by omega), seenB_succ, hok, ← e9, ← hx, hz]; simp
    · rw [List.getElem?_set_ne (by omega)]; exact h.lo e (by omega)
  · rw [List.getElem?_set_ne (by omega)]; exact h.hi e (by omega) h9
theorem Mix.fin {E : Int → Int → Prop} {m k s i : Nat} {bs : List Bool} (h : Mix E m k s i bs) (hi : 19 ≤ i) : seenL E m k (s + 1) = bs := seenL_of h.len (fun e he => h.lo e (by omega))
theorem head_iff {E : Int → Int → Prop} (hE : Symm E) {m k v : Nat} (hv : 1 ≤ v ∧ v ≤ m) {x0 : Int} (h : (nodesL E m (v : Int) true)[0]? = some x0) : x0 = (v : Int) ↔ seenB E m k v v = false := by
  have hs : sorted (nodesL E m (v : Int) true) := sorted_filter _ (sorted_nodesTo m)
  have hm : (v : Int) ∈ nodesL E m (v : Int) true := mem_nodesL.2 ⟨by omega, rb_iff.2 (reach_refl _ _)⟩
  have hmin : ∀ b, b ∈ nodesL E m (v : Int) true → x0 ≤ b := fun b hb => by
    cases hq : nodesL E m (v : Int) true with
    | nil => rw [hq] at hb; cases hb
    | cons z zs =>
      rw [hq] at h hb hs
      simp at h; subst h
      rcases List.mem_cons.1 hb with e | e
      · omega
      · have := (List.pairwise_cons.1 hs).1 b e; omega
  have h0 := mem_nodesL.1 (List.mem_of_getElem? h)
  rw [← Bool.not_eq_true, seenB_iff]
  constructor
  · rintro rfl ⟨t, ht, hok, hr⟩
    rw [okS_iff] at hok
    have := hmin (t : Int) (mem_nodesL.2 ⟨by omega, rb_iff.2 (reach_symm hE hr)⟩)
    omega
  · intro hn
    have := hmin _ hm
    by_cases e : x0 = (v : Int)
    · exact e
    · exact absurd ⟨x0.toNat, by omega, okS_iff.2 (by omega), by rw [Int.toNat_of_nonneg (by omega)]; exact reach_symm hE (rb_iff.1 h0.2)⟩ hn
theorem alone_iff {ps : List Pp} {q : Pp → Int → Bool} {m k i : Nat} (hp : pipesIn ps m) (hm : m ≤ 8) (hi : i < k) : (nodesL (linked ps q) m (9 + (i : Int)) true).length = 0 ↔ seenB (linked ps q) m k (9 + i) (9 + i) = false := by
  have hE := linked_symm ps q
  have ei : ((9 + i : Nat) : Int) = 9 + (i : Int) := by omega
  rw [← Bool.not_eq_true, seenB_iff, List.length_eq_zero_iff]
  constructor
  · rintro hn ⟨t, ht, hok, hr⟩
    rw [ei] at hr
    have hno : ∀ b : Int, 1 ≤ b → b ≤ m → ¬ Reach (linked ps q) (9 + (i : Int)) b := fun b h1 h2 h3 => by
      have : b ∈ nodesL (linked ps q) m (9 + (i : Int)) true := mem_nodesL.2 ⟨⟨h1, h2⟩, rb_iff.2 h3⟩
      rw [hn] at this; cases this
    rcases okS_iff.1 hok with h | h
    · exact hno t (by omega) (by omega) (reach_symm hE hr)
    · have : (t : Int) = 9 + (i : Int) := reach_closed (S := fun b => b = 9 + (i : Int)) rfl (fun b c hb he => by
        obtain ⟨j, p, v, hpj, hv, hq, he'⟩ := he
        have hpin := hp p (List.mem_of_getElem? hpj)
        rcases he' with ⟨e1, e2⟩ | ⟨e1, e2⟩
        · omega
        · exact absurd (reach_step (reach_refl _ _) ⟨j, p, v, hpj, hv, hq, .inr ⟨hb.symm.trans e1, rfl⟩⟩) (hno v (by omega) (by omega))) (reach_symm hE hr)
      omega
  · intro hn
    refine List.eq_nil_iff_forall_not_mem.2 (fun b hb => ?_)
    have hb' := mem_nodesL.1 hb
    exact hn ⟨b.toNat, by omega, okS_iff.2 (by omega), by rw [ei, Int.toNat_of_nonneg (by omega)]; exact reach_symm hE (rb_iff.1 hb'.2)⟩
theorem nodesL_pos {E : Int → Int → Prop} {m : Nat} {v : Int} (hv : 1 ≤ v ∧ v ≤ m) : 0 < (nodesL E m v true).length :=
  List.length_pos_of_mem (mem_nodesL.2 ⟨hv, rb_iff.2 (reach_refl _ _)⟩)
noncomputable def CountSegments_v0 (m : Int) (ps : List Pp) (vs : List Vv) : Int := if goodV m ps vs = true then ((cntS (linked ps (openQ vs false)) m.toNat ps.length (9 + ps.length) : Nat) : Int) else 0
def CountSegments_v1 (m : Int) (ps : List Pp) (vs : List Vv) : Bool := goodV m ps vs
set_option maxRecDepth 100000 in
set_option maxHeartbeats 8000000 in
theorem CountSegments_impl (m : Int) (A : Option Addr) (n c : Nat) (ps : List Pp) (A2 : Option Addr) (n2 c2 : Nat) (vs : List Vv) (w : World) (ha : Rd w 4 A n (pipesV ps)) (hb : Rd w 4 A2 n2 (valvesV vs)) (hn : n ≤ 1048576) (hn2 : n2 ≤ 1048576) (hfm : Fm A n c) (hfm2 : Fm A2 n2 c2) :
    Calls Try.prog 33 #[.agg #[.int .i64 m, .slice A n c], .slice A2 n2 c2] w fun e w' => e = .returned (.tuple #[.int .i64 (CountSegments_v0 m ps vs), .bool (CountSegments_v1 m ps vs)]) ∧ Below w.heap.size w w' := by
 have hl := rd_pipes_len ha
 have hl2 := rd_valves_len hb
 go_enter Try.func33, Try.ntmps33
 refine F.begin 59 [(0, .agg #[.int .i64 m, .slice A n c]), (1, .slice A2 n2 c2)] (fun U0 => ?_)
 refine wk fun K1 h1 => ?_
 refine W.region_plain (row := none) [(0, true), (1, false), (2, false)] kk ?_
 have s1 := SG.self w none
 refine W.sn (fun b => .pointer (some ⟨b, 0, none⟩)) #[.int .i64 m, .slice A n c] 26 s1 rfl kk rfl (fun _ => by kernel_rfl) (fun b2 w3 hb4 k5 x6 s7 => ?_)
 refine F.nx ?_
 have lo8 : w.heap.size ≤ b2 := Nat.le_trans ((SG.belowR (Below.refl _ _) s1 (fun kq e => by cases e))).size (Nat.le_of_eq hb4)
 refine Fa (.int .i64 0) ?_
 refine Fa (.bool false) ?_
 refine F.es ?_
 have c9 := (SG.belowR (Below.refl _ _) s7 (fun kq e => by cases e))
 refine h1 _ _ ?_
 refine wk fun K2 h2 => ?_
 refine wk fun K3 h3 => ?_
 refine W.region_plain (row := none) [(0, false), (1, false), (2, true), (3, false)] kk ?_
 have s10 := SG.self w3 none
 refine Fq (.agg #[.int .i64 m, .slice A n c]) (r_load2 rfl ek kk kk (sgS (blk_cell (j := 0) x6 kk) (Option.some_ne_none _)) (sgS (blk_cell (j := 1) x6 kk) (Option.some_ne_none _))) ?_
 refine Fv (.slice A2 n2 c2) ?_
 refine Fc [.agg #[.int .i64 m, .slice A n c], .slice A2 n2 c2] (IsValidValves_any m A n c ps A2 n2 c2 vs _ (Rd.kept ha (SG.belowR c9 s10 (fun kq e => by cases e))) (Rd.kept hb (SG.belowR c9 s10 (fun kq e => by cases e))) (by omega) (by omega) hfm2) ?_
 rintro e w12 ⟨rfl, b11⟩
 have s13 := SG.of_below s10 b11
 refine ⟨_, rfl, s13, ?_⟩
 refine F.nx ?_
 rcases Bool.eq_false_or_eq_true (goodV m ps vs) with q14 | q14
 ·rw [q14]
  have hv9 := goodV_of q14
  have hg := hv9.net
  have hgl := hg.lo
  have hgh := hg.hi
  have hp := hg.pipesIn
  have hlen10 := hg.len
  have hu := hv9.uniq
  have hvl := hv9.len
  refine Fq (.bool false) (r_not (b := true) rfl ek rfl) ?_
  refine F.es ?_
  have x6 := SG.blk s13 x6 (Option.some_ne_none _)
  have c15 := (SG.belowR c9 s13 (fun kq e => by cases e))
  refine h3 _ _ ?_
  refine wp_cond_false ek ?_
  refine wp_skip ?_
  refine h2 _ _ ?_
  refine wk fun K4 h4 => ?_
  refine W.region_plain (row := none) [(0, false), (1, true), (2, false), (3, true)] kk ?_
  have s16 := SG.self w12 none
  refine Fq (.agg #[.bool false, .bool false, .bool false, .bool false, .bool false, .bool false, .bool false, .bool false, .bool false, .bool false, .bool false, .bool false, .bool false, .bool false, .bool false, .bool false, .bool false, .bool false, .bool false]) (r_build rfl (vs := []) kk kk) ?_
  refine W.sn (fun b => .pointer (some ⟨b, 0, none⟩)) #[.bool false, .bool false, .bool false, .bool false, .bool false, .bool false, .bool false, .bool false, .bool false, .bool false, .bool false, .bool false, .bool false, .bool false, .bool false, .bool false, .bool false, .bool false, .bool false] 111 s16 rfl kk rfl (fun _ => by kernel_rfl) (fun b17 w18 hb19 k20 x21 s22 => ?_)
  refine F.nx ?_
  have lo23 : w.heap.size ≤ b17 := Nat.le_trans ((SG.belowR c15 s16 (fun kq e => by cases e))).size (Nat.le_of_eq hb19)
  have ne24 : b2 ≠ b17 := Nat.ne_of_lt (Nat.lt_of_lt_of_eq (Nat.lt_of_lt_of_le (blk_lt x6) (s16).size) hb19)
  refine Fa (.int .i64 0) ?_
  refine W.ss (v := .agg #[.bool false, .bool false, .bool false, .bool false, .bool false, .bool false, .bool false, .bool false, .bool false, .bool false, .bool false, .bool false, .bool false, .bool false, .bool false, .bool false, .bool false, .bool false, .bool false]) (j := 0) (news := [.bool false, .bool false, .bool false, .bool false, .bool false, .bool false, .bool false, .bool false, .bool false, .bool false, .bool false, .bool false, .bool false, .bool false, .bool false, .bool false, .bool false, .bool false, .bool false]) (cs' := #[.bool false, .bool false, .bool false, .bool false, .bool false, .bool false, .bool false, .bool false, .bool false, .bool false, .bool false, .bool false, .bool false, .bool false, .bool false, .bool false, .bool false, .bool false, .bool false]) s22 rfl kk rfl rfl kk kk x21 kk kk (by simp) kk kk (.inr (Nat.le_trans (s16).size (Nat.le_of_eq hb19))) (fun w25 g26 x27 s28 => ?_)
  refine F.es ?_
  have x6 := SG.blk s28 x6 (Option.some_ne_none _)
  have c29 := (SG.belowR c15 s28 (fun kq e => by cases e))
  refine h4 _ _ ?_
  refine wk fun K5 h5 => ?_
  refine wk fun K6 h6 => ?_
  refine W.region_quiet [(0, false)] kk ?_
  refine Fa (.int .i64 1) ?_
  refine F.es ?_
  refine h6 _ _ ?_
  refine wp_block ?_
  have ho30 := own_blk (base := w.heap.size) (size := 1) (n := 19) x27 lo23 rfl (by omega)
  replace ho30 : World.ownsRow _ _ _ _ _ _ (boolsV (List.replicate 19 false)) := ho30
  have nb31 : Nb b2 (.slice (some ⟨b17, 0, none⟩) 19 19) := nb_new ne24
  refine loopK (fun am0 aa0 wl0 => ∃ (s : Nat) (cnt : Nat) , Kn aa0 [(0, .agg #[.int .i64 m, .slice A n c]), (1, .slice A2 n2 c2), (2, .pointer (some ⟨b2, 0, none⟩)), (4, .int .i64 0), (5, .bool false), (6, .int .i64 (cnt : Int)), (7, .pointer (some ⟨b17, 0, none⟩)), (8, .int .i64 (s : Int)), (14, .bool false)] 59 ∧ (am0 = 9 + n - s) ∧ (1 ≤ s ∧ s ≤ 9 + n) ∧ (cnt = cntS (linked ps (openQ vs false)) m.toNat ps.length s) ∧ (wl0.heap[b2]? = some (.cells #[.int .i64 m, .slice A n c] 26 (0, 0))) ∧ (wl0.ownsRow w.heap.size 111 1 (.slice (some ⟨b17, 0, none⟩) 19 19) 19 (boolsV (seenL (linked ps (openQ vs false)) m.toNat ps.length s))) ∧ (Below w.heap.size w wl0)) (9 + n - 1) ?_ ?_
  ·exact ⟨1, 0, Kn.of, rfl, (by omega), ((cntS_one (linked ps (openQ vs false)) m.toNat ps.length).symm), x6, (by rw [seenL_one (linked ps (openQ vs false)) m.toNat ps.length]; exact ho30), c29⟩
  rintro am0 aa0 wl0 K7 h7 ⟨s, cnt, ⟨U0, rfl⟩, rfl, hs, hc, x6, ho0_7, c32⟩
  have hcl := cntS_le (linked ps (openQ vs false)) m.toNat ps.length s
  refine wk fun K8 h8 => ?_
  refine wk fun K9 h9 => ?_
  refine W.region_plain (row := none) [(0, false), (1, false), (2, false), (3, false), (4, true), (5, false)] kk ?_
  have s33 := SG.self wl0 none
  refine Fv (.int .i64 (s : Int)) ?_
  refine Fq (.pointer (some ⟨b2, 1, none⟩)) (r_field (k := 1) rfl ek kk) ?_
  refine Fl (.slice A n c) (sgS (blk_cell (j := 1) x6 kk) (Option.some_ne_none _)) ?_
  refine Fq (.int .i64 (n : Int)) (r_len (A := A) (n := n) (c := c) rfl ek kk) ?_
  refine Fc [.int .i64 (n : Int)] (elementN_any n _ (by omega)) ?_
  rintro e w' ⟨rfl, rfl⟩
  refine ⟨_, rfl, s33, ?_⟩
  refine F.nx ?_
  by_cases q36 : ((s : Int) : Int) < (((9 + n : Nat) : Int) : Int)
  ·refine Fq (.bool true) (r_lss (m := (s : Int)) (n := ((9 + n : Nat) : Int)) rfl ek ek (decide_eq_true q36)) ?_
   refine F.es ?_
   have x6 := SG.blk s33 x6 (Option.some_ne_none _)
   have c37 := (SG.belowR c32 s33 (fun kq e => by cases e))
   refine h9 _ _ ?_
   refine wp_cond_true ek ?_
   refine wp_skip ?_
   refine h8 _ _ ?_
   refine wk fun K10 h10 => ?_
   refine wp_block ?_
   refine wk fun K11 h11 => ?_
   refine wk fun K12 h12 => ?_
   refine W.region_quiet [(0, false), (1, false), (2, false), (3, false), (4, false), (5, false), (6, false), (7, false), (8, false), (9, false), (10, false), (11, false), (12, false)] kk ?_
   refine Fv (.int .i64 (s : Int)) ?_
   refine Fq (.pointer (some ⟨b17, s, none⟩)) (r_idxA (len := 19) (k := s) rfl ek kk kk (by omega)) ?_
   obtain ⟨x38, hx39⟩ := get_of (zs := seenL (linked ps (openQ vs false)) m.toNat ps.length s) (k := s) (by have h9 := own_len ho0_7; rw [bools_len] at h9; omega)
   refine Fl (.bool x38) (eqS (own_atB ho0_7 hx39)) ?_
   refine Fv (.bool x38) ?_
   rcases Bool.eq_false_or_eq_true x38 with q40 | q40
   ·rw [q40]
    refine Fs rfl ?_
    refine Fs rfl ?_
    refine Fs rfl ?_
    refine Fs rfl ?_
    refine Fs rfl ?_
    refine Fs rfl ?_
    refine Fs rfl ?_
    refine Fs rfl ?_
    refine Fq (.bool true) (r_pick (b := true) rfl ek ek) ?_
    refine F.es ?_
    refine h12 _ _ ?_
    refine wp_cond_true ek ?_
    refine wp_exit ?_
    refine h10 _ _ ?_
    refine W.region_quiet [(0, false), (1, false), (2, false)] kk ?_
    refine Fv (.int .i64 (s : Int)) ?_
    refine Fq (.int .i64 ((s + 1 : Nat) : Int)) (r_add (m := (s : Int)) (n := 1) (z := ((s + 1 : Nat) : Int)) rfl ek ek (by omega) (by omega)) ?_
    refine Fa (.int .i64 ((s + 1 : Nat) : Int)) ?_
    refine F.es ?_
    exact h7 _ _ _ (by omega : (9 + n - (s + 1)) < _) ⟨s + 1, cnt, Kn.of, rfl, (by omega), (by rw [hc, cntS_no (.inr ((seenL_eq hx39).symm.trans q40))]), x6, (by rw [seenL_same (linked_symm ps (openQ vs false)) ((seenL_eq hx39).symm.trans q40)]; exact ho0_7), c37⟩
   rw [q40]
   refine Fv (.int .i64 (s : Int)) ?_
   refine Fq (.pointer (some ⟨b2, 0, none⟩)) (r_field0 rfl ek kk) ?_
   refine Fl (.int .i64 m) (eqS (blk_cell (j := 0) x6 kk)) ?_
   by_cases q41 : ((s : Int) : Int) > (m : Int)
   ·refine Fq (.bool true) (r_gtr (m := (s : Int)) (n := m) rfl ek ek (decide_eq_true q41)) ?_
    refine Fv (.bool true) ?_
    refine Fv (.int .i64 (s : Int)) ?_
    by_cases q42 : ((s : Int) : Int) ≤ (8 : Int)
    ·refine Fq (.bool true) (r_leq (m := (s : Int)) (n := 8) rfl ek ek (decide_eq_true q42)) ?_
     refine Fq (.bool true) (r_pick (b := true) rfl ek ek) ?_
     refine Fq (.bool true) (r_pick (b := false) rfl ek ek) ?_
     refine F.es ?_
     refine h12 _ _ ?_
     refine wp_cond_true ek ?_
     refine wp_exit ?_
     refine h10 _ _ ?_
     refine W.region_quiet [(0, false), (1, false), (2, false)] kk ?_
     refine Fv (.int .i64 (s : Int)) ?_
     refine Fq (.int .i64 ((s + 1 : Nat) : Int)) (r_add (m := (s : Int)) (n := 1) (z := ((s + 1 : Nat) : Int)) rfl ek ek (by omega) (by omega)) ?_
     refine Fa (.int .i64 ((s + 1 : Nat) : Int)) ?_
     refine F.es ?_
     exact h7 _ _ _ (by omega : (9 + n - (s + 1)) < _) ⟨s + 1, cnt, Kn.of, rfl, (by omega), (by rw [hc, cntS_no (.inl (by rw [← Bool.not_eq_true, okS_iff]; omega))]), x6, (by rw [seenL_gap (by rw [← Bool.not_eq_true, okS_iff]; omega)]; exact ho0_7), c37⟩
    refine Fq (.bool false) (r_leq (m := (s : Int)) (n := 8) rfl ek ek (decide_eq_false q42)) ?_
    refine Fq (.bool false) (r_pick (b := true) rfl ek ek) ?_
    refine Fq (.bool false) (r_pick (b := false) rfl ek ek) ?_
    refine F.es ?_
    refine h12 _ _ ?_
    refine wp_cond_false ek ?_
    refine wp_skip ?_
    refine h11 _ _ ?_
    refine wk fun K13 h13 => ?_
    refine W.region_quiet [(0, false), (1, false), (2, false)] kk ?_
    refine Fv (.int .i64 (cnt : Int)) ?_
    refine Fq (.int .i64 ((cnt + 1 : Nat) : Int)) (r_add (m := (cnt : Int)) (n := 1) (z := ((cnt + 1 : Nat) : Int)) rfl ek ek (by omega) (by omega)) ?_
    refine Fa (.int .i64 ((cnt + 1 : Nat) : Int)) ?_
    refine F.es ?_
    refine h13 _ _ ?_
    refine wk fun K14 h14 => ?_
    refine W.region_plain (row := none) [(0, false), (1, false), (2, false), (3, true), (4, false)] kk ?_
    have s43 := SG.self wl0 none
    refine Fq (.agg #[.int .i64 m, .slice A n c]) (r_load2 rfl ek kk kk (sgS (blk_cell (j := 0) x6 kk) (Option.some_ne_none _)) (sgS (blk_cell (j := 1) x6 kk) (Option.some_ne_none _))) ?_
    refine Fv (.slice A2 n2 c2) ?_
    refine Fv (.int .i64 (s : Int)) ?_
    have lr49 := World.ownsRow.lt ho0_7
    refine Fc [.agg #[.int .i64 m, .slice A n c], .slice A2 n2 c2, .int .i64 (s : Int)] (segmentOf_any m A n c ps A2 n2 c2 vs ((s : Int)) ((s : Int)).toNat _ (Rd.kept ha (SG.belowR c37 s43 (fun kq e => by cases e))) (Rd.kept hb (SG.belowR c37 s43 (fun kq e => by cases e))) (by omega) (by omega) hp (by omega) (by omega) (by omega) (by omega)) ?_
    rintro e w51 ⟨pb44, rfl, lo48, rd45, b50⟩
    have s52 := SG.of_below s43 b50
    refine ⟨_, rfl, s52, ?_⟩
    refine F.nx ?_
    have ho53 := own_kept ho0_7 b50
    have sp55 : Sp (some ⟨pb44, 0, none⟩) 19 (Value.ownBlock (.slice (some ⟨b17, 0, none⟩) 19 19)) := sp_ptrR (fun j e2 => Nat.lt_of_lt_of_le (lr49 j e2).2 lo48)
    have hl46 := rd_bools_len rd45
    rw [wetL_len] at hl46
    have hl46 : (wetL (linked ps (openQ vs false)) ((s : Int))).length = 19 := wetL_len _ _
    refine Fv (.int .i64 0) ?_
    refine F.es ?_
    have x6 := SG.blk s52 x6 (Option.some_ne_none _)
    have c56 := (SG.belowR c37 s52 (fun kq e => by cases e))
    refine h14 _ _ ?_
    refine wp_block ?_
    refine loopK (fun am1 aa1 wl1 => ∃ (i : Nat) (bs : List Bool) , Kn aa1 [(0, .agg #[.int .i64 m, .slice A n c]), (1, .slice A2 n2 c2), (2, .pointer (some ⟨b2, 0, none⟩)), (4, .int .i64 0), (5, .bool false), (6, .int .i64 ((cnt + 1 : Nat) : Int)), (7, .pointer (some ⟨b17, 0, none⟩)), (8, .int .i64 (s : Int)), (14, .bool false), (21, .bool true), (36, .bool false), (42, .pointer (some ⟨pb44, 0, none⟩)), (43, .int .i64 (i : Int))] 59 ∧ (am1 = 19 - i) ∧ (i ≤ 19) ∧ (Mix (linked ps (openQ vs false)) m.toNat ps.length s i bs) ∧ (wl1.heap[b2]? = some (.cells #[.int .i64 m, .slice A n c] 26 (0, 0))) ∧ (wl1.ownsRow w.heap.size 111 1 (.slice (some ⟨b17, 0, none⟩) 19 19) 19 (boolsV bs)) ∧ (Rd wl1 1 (some ⟨pb44, 0, none⟩) 19 (boolsV (wetL (linked ps (openQ vs false)) ((s : Int))))) ∧ (Below w.heap.size w wl1)) (19 - 0) ?_ ?_
    ·exact ⟨0, seenL (linked ps (openQ vs false)) m.toNat ps.length s, Kn.of, rfl, (Nat.zero_le _), (Mix.start (linked ps (openQ vs false)) m.toNat ps.length s), x6, ho53, rd45, c56⟩
    rintro am1 aa1 wl1 K15 h15 ⟨i, bs, ⟨U1, rfl⟩, rfl, hi, hmix, x6, ho1_7, rd1_42, c57⟩
    refine wk fun K16 h16 => ?_
    refine W.region_quiet [(0, false)] kk ?_
    by_cases q58 : ((i : Int) : Int) < (19 : Int)
    ·refine Fq (.bool true) (r_lss (m := (i : Int)) (n := 19) rfl ek ek (decide_eq_true q58)) ?_
     refine F.es ?_
     refine h16 _ _ ?_
     refine wk fun K17 h17 => ?_
     refine wp_cond_true ek ?_
     refine wp_skip ?_
     refine h17 _ _ ?_
     refine wk fun K18 h18 => ?_
     refine wp_block ?_
     refine wk fun K19 h19 => ?_
     refine W.region_sch (row := none) (Sch.of [(0, false), (1, false), (2, false), (3, false), (4, false), (5, false)]) kk kk (fun _ d _ _ _ h => by cases d <;> exact h) kk (fun w59 e60 s61 => ?_)
     have ho62 := own_heap ho1_7 e60
     refine Fv (.int .i64 (i : Int)) ?_
     refine Fq (.pointer (some ⟨pb44, 0, none⟩)) (r_nilCheck rfl ek) ?_
     obtain ⟨x63, hx64⟩ := get_of (zs := (wetL (linked ps (openQ vs false)) ((s : Int)))) (k := i) (by have := hl46; omega)
     obtain ⟨hb65, hc66⟩ := Rd.elBool rd1_42 hx64
     refine Fq (.pointer (some ⟨pb44, i, none⟩)) (r_idxA (len := 19) (k := i) rfl ek kk kk (by omega)) ?_
     refine Fl (.bool x63) (sgS hc66 (by simp)) ?_
     refine Fa (.int .i64 (i : Int)) ?_
     refine Fa (.bool x63) ?_
     refine F.es ?_
     have x6 := SG.blk s61 x6 (Option.some_ne_none _)
     have c67 := (SG.belowR c57 s61 (fun kq e => by cases e))
     have rd68 := Rd.kept rd1_42 (SG.below s61)
     refine h19 _ _ ?_
     refine W.region_plain (row := (Value.ownBlock (.slice (some ⟨b17, 0, none⟩) 19 19))) [(0, false), (1, false), (2, false), (3, true), (4, false), (5, false), (6, false), (7, false), (8, true)] kk ?_
     have s69 := SG.self w59 (Value.ownBlock (.slice (some ⟨b17, 0, none⟩) 19 19))
     refine Fv (.int .i64 (i : Int)) ?_
     refine Fv (.int .i64 (i : Int)) ?_
     refine Fq (.pointer (some ⟨b17, i, none⟩)) (r_idxA (len := 19) (k := i) rfl ek kk kk (by omega)) ?_
     obtain ⟨x70, hx71⟩ := get_of (zs := bs) (k := i) (by have h9 := own_len ho62; rw [bools_len] at h9; omega)
     refine W.slq (v := .bool x70) s69 rfl (r_load rfl kk kk (eqS (own_atB ho62 hx71))) kk rfl ?_
     refine F.nx ?_
     refine Fv (.bool x70) ?_
     rcases Bool.eq_false_or_eq_true x70 with q72 | q72
     ·rw [q72]
      refine Fs s69 ?_
      refine Fq (.bool true) (r_pick (b := true) rfl ek ek) ?_
      refine Fq (.pointer (some ⟨b17, i, none⟩)) (r_idxA (len := 19) (k := i) rfl ek kk kk (by omega)) ?_
      refine W.ssr (base := w.heap.size) (e := 111) (j := i) (u := .bool true) s69 rfl kk rfl rfl kk kk ho62 kk kk kk (by omega) (.inl rfl) (fun w73 ho74 g75 s76 => ?_)
      have ho74 := own_setB ho74
      refine F.es ?_
      have x6 := SG.blk s76 x6 nb31
      have c77 := (SG.belowR c67 s76 (fun kq e => (World.ownsRow.lt ho62 kq e).1))
      have rd78 := rd_sep rd68 s76 sp55
      refine h18 _ _ ?_
      refine W.region_quiet [(0, false), (1, false)] kk ?_
      refine Fq (.int .i64 ((i + 1 : Nat) : Int)) (r_add (m := (i : Int)) (n := 1) (z := ((i + 1 : Nat) : Int)) rfl ek ek (by omega) (by omega)) ?_
      refine Fv (.int .i64 ((i + 1 : Nat) : Int)) ?_
      refine F.es ?_
      exact h15 _ _ _ (by omega : (19 - (i + 1)) < _) ⟨i + 1, (bs.set i true), Kn.of, rfl, (by omega), (hmix.next (by omega) hx71 (wet_eq hx64) (okS_iff.2 (by omega)) (by rw [q72]; try rfl)), x6, ho74, rd78, c77⟩
     rw [q72]
     refine Fv (.bool x63) ?_
     refine Fq (.bool x63) (r_pick (b := false) rfl ek ek) ?_
     refine Fq (.pointer (some ⟨b17, i, none⟩)) (r_idxA (len := 19) (k := i) rfl ek kk kk (by omega)) ?_
     refine W.ssr (base := w.heap.size) (e := 111) (j := i) (u := .bool x63) s69 rfl kk rfl rfl kk kk ho62 kk kk kk (by omega) (.inl rfl) (fun w79 ho80 g81 s82 => ?_)
     have ho80 := own_setB ho80
     refine F.es ?_
     have x6 := SG.blk s82 x6 nb31
     have c83 := (SG.belowR c67 s82 (fun kq e => (World.ownsRow.lt ho62 kq e).1))
     have rd84 := rd_sep rd68 s82 sp55
     refine h18 _ _ ?_
     refine W.region_quiet [(0, false), (1, false)] kk ?_
     refine Fq (.int .i64 ((i + 1 : Nat) : Int)) (r_add (m := (i : Int)) (n := 1) (z := ((i + 1 : Nat) : Int)) rfl ek ek (by omega) (by omega)) ?_
     refine Fv (.int .i64 ((i + 1 : Nat) : Int)) ?_
     refine F.es ?_
     exact h15 _ _ _ (by omega : (19 - (i + 1)) < _) ⟨i + 1, (bs.set i x63), Kn.of, rfl, (by omega), (hmix.next (by omega) hx71 (wet_eq hx64) (okS_iff.2 (by omega)) (by rw [q72]; exact (Bool.false_or _).symm)), x6, ho80, rd84, c83⟩
    refine Fq (.bool false) (r_lss (m := (i : Int)) (n := 19) rfl ek ek (decide_eq_false q58)) ?_
    refine F.es ?_
    refine h16 _ _ ?_
    refine wk fun K20 h20 => ?_
    refine wp_cond_false ek ?_
    refine wp_exit ?_
    refine h10 _ _ ?_
    refine W.region_quiet [(0, false), (1, false), (2, false)] kk ?_
    refine Fv (.int .i64 (s : Int)) ?_
    refine Fq (.int .i64 ((s + 1 : Nat) : Int)) (r_add (m := (s : Int)) (n := 1) (z := ((s + 1 : Nat) : Int)) rfl ek ek (by omega) (by omega)) ?_
    refine Fa (.int .i64 ((s + 1 : Nat) : Int)) ?_
    refine F.es ?_
    exact h7 _ _ _ (by omega : (9 + n - (s + 1)) < _) ⟨s + 1, cnt + 1, Kn.of, rfl, (by omega), (by rw [hc, cntS_yes (okS_iff.2 (by omega)) ((seenL_eq hx39).symm.trans q40)]), x6, (by rw [hmix.fin (by omega)]; exact ho1_7), c57⟩
   refine Fq (.bool false) (r_gtr (m := (s : Int)) (n := m) rfl ek ek (decide_eq_false q41)) ?_
   refine Fv (.bool false) ?_
   refine Fs rfl ?_
   refine Fs rfl ?_
   refine Fq (.bool false) (r_pick (b := false) rfl ek ek) ?_
   refine Fq (.bool false) (r_pick (b := false) rfl ek ek) ?_
   refine F.es ?_
   refine h12 _ _ ?_
   refine wp_cond_false ek ?_
   refine wp_skip ?_
   refine h11 _ _ ?_
   refine wk fun K21 h21 => ?_
   refine W.region_quiet [(0, false), (1, false), (2, false)] kk ?_
   refine Fv (.int .i64 (cnt : Int)) ?_
   refine Fq (.int .i64 ((cnt + 1 : Nat) : Int)) (r_add (m := (cnt : Int)) (n := 1) (z := ((cnt + 1 : Nat) : Int)) rfl ek ek (by omega) (by omega)) ?_
   refine Fa (.int .i64 ((cnt + 1 : Nat) : Int)) ?_
   refine F.es ?_
   refine h21 _ _ ?_
   refine wk fun K22 h22 => ?_
   refine W.region_plain (row := none) [(0, false), (1, false), (2, false), (3, true), (4, false)] kk ?_
   have s85 := SG.self wl0 none
   refine Fq (.agg #[.int .i64 m, .slice A n c]) (r_load2 rfl ek kk kk (sgS (blk_cell (j := 0) x6 kk) (Option.some_ne_none _)) (sgS (blk_cell (j := 1) x6 kk) (Option.some_ne_none _))) ?_
   refine Fv (.slice A2 n2 c2) ?_
   refine Fv (.int .i64 (s : Int)) ?_
   have lr91 := World.ownsRow.lt ho0_7
   refine Fc [.agg #[.int .i64 m, .slice A n c], .slice A2 n2 c2, .int .i64 (s : Int)] (segmentOf_any m A n c ps A2 n2 c2 vs ((s : Int)) ((s : Int)).toNat _ (Rd.kept ha (SG.belowR c37 s85 (fun kq e => by cases e))) (Rd.kept hb (SG.belowR c37 s85 (fun kq e => by cases e))) (by omega) (by omega) hp (by omega) (by omega) (by omega) (by omega)) ?_
   rintro e w93 ⟨pb86, rfl, lo90, rd87, b92⟩
   have s94 := SG.of_below s85 b92
   refine ⟨_, rfl, s94, ?_⟩
   refine F.nx ?_
   have ho95 := own_kept ho0_7 b92
   have sp97 : Sp (some ⟨pb86, 0, none⟩) 19 (Value.ownBlock (.slice (some ⟨b17, 0, none⟩) 19 19)) := sp_ptrR (fun j e2 => Nat.lt_of_lt_of_le (lr91 j e2).2 lo90)
   have hl88 := rd_bools_len rd87
   rw [wetL_len] at hl88
   have hl88 : (wetL (linked ps (openQ vs false)) ((s : Int))).length = 19 := wetL_len _ _
   refine Fv (.int .i64 0) ?_
   refine F.es ?_
   have x6 := SG.blk s94 x6 (Option.some_ne_none _)
   have c98 := (SG.belowR c37 s94 (fun kq e => by cases e))
   refine h22 _ _ ?_
   refine wp_block ?_
   refine loopK (fun am1 aa1 wl1 => ∃ (i : Nat) (bs : List Bool) , Kn aa1 [(0, .agg #[.int .i64 m, .slice A n c]), (1, .slice A2 n2 c2), (2, .pointer (some ⟨b2, 0, none⟩)), (4, .int .i64 0), (5, .bool false), (6, .int .i64 ((cnt + 1 : Nat) : Int)), (7, .pointer (some ⟨b17, 0, none⟩)), (8, .int .i64 (s : Int)), (14, .bool false), (21, .bool true), (36, .bool false), (42, .pointer (some ⟨pb86, 0, none⟩)), (43, .int .i64 (i : Int))] 59 ∧ (am1 = 19 - i) ∧ (i ≤ 19) ∧ (Mix (linked ps (openQ vs false)) m.toNat ps.length s i bs) ∧ (wl1.heap[b2]? = some (.cells #[.int .i64 m, .slice A n c] 26 (0, 0))) ∧ (wl1.ownsRow w.heap.size 111 1 (.slice (some ⟨b17, 0, none⟩) 19 19) 19 (boolsV bs)) ∧ (Rd wl1 1 (some ⟨pb86, 0, none⟩) 19 (boolsV (wetL (linked ps (openQ vs false)) ((s : Int))))) ∧ (Below w.heap.size w wl1)) (19 - 0) ?_ ?_
   ·exact ⟨0, seenL (linked ps (openQ vs false)) m.toNat ps.length s, Kn.of, rfl, (Nat.zero_le _), (Mix.start (linked ps (openQ vs false)) m.toNat ps.length s), x6, ho95, rd87, c98⟩
   rintro am1 aa1 wl1 K23 h23 ⟨i, bs, ⟨U1, rfl⟩, rfl, hi, hmix, x6, ho1_7, rd1_42, c99⟩
   refine wk fun K24 h24 => ?_
   refine W.region_quiet [(0, false)] kk ?_
   by_cases q100 : ((i : Int) : Int) < (19 : Int)
   ·refine Fq (.bool true) (r_lss (m := (i : Int)) (n := 19) rfl ek ek (decide_eq_true q100)) ?_
    refine F.es ?_
    refine h24 _ _ ?_
    refine wk fun K25 h25 => ?_
    refine wp_cond_true ek ?_
    refine wp_skip ?_
    refine h25 _ _ ?_
    refine wk fun K26 h26 => ?_
    refine wp_block ?_
    refine wk fun K27 h27 => ?_
    refine W.region_sch (row := none) (Sch.of [(0, false), (1, false), (2, false), (3, false), (4, false), (5, false)]) kk kk (fun _ d _ _ _ h => by cases d <;> exact h) kk (fun w101 e102 s103 => ?_)
    have ho104 := own_heap ho1_7 e102
    refine Fv (.int .i64 (i : Int)) ?_
    refine Fq (.pointer (some ⟨pb86, 0, none⟩)) (r_nilCheck rfl ek) ?_
    obtain ⟨x105, hx106⟩ := get_of (zs := (wetL (linked ps (openQ vs false)) ((s : Int)))) (k := i) (by have := hl88; omega)
    obtain ⟨hb107, hc108⟩ := Rd.elBool rd1_42 hx106
    refine Fq (.pointer (some ⟨pb86, i, none⟩)) (r_idxA (len := 19) (k := i) rfl ek kk kk (by omega)) ?_
    refine Fl (.bool x105) (sgS hc108 (by simp)) ?_
    refine Fa (.int .i64 (i : Int)) ?_
    refine Fa (.bool x105) ?_
    refine F.es ?_
    have x6 := SG.blk s103 x6 (Option.some_ne_none _)
    have c109 := (SG.belowR c99 s103 (fun kq e => by cases e))
    have rd110 := Rd.kept rd1_42 (SG.below s103)
    refine h27 _ _ ?_
    refine W.region_plain (row := (Value.ownBlock (.slice (some ⟨b17, 0, none⟩) 19 19))) [(0, false), (1, false), (2, false), (3, true), (4, false), (5, false), (6, false), (7, false), (8, true)] kk ?_
    have s111 := SG.self w101 (Value.ownBlock (.slice (some ⟨b17, 0, none⟩) 19 19))
    refine Fv (.int .i64 (i : Int)) ?_
    refine Fv (.int .i64 (i : Int)) ?_
    refine Fq (.pointer (some ⟨b17, i, none⟩)) (r_idxA (len := 19) (k := i) rfl ek kk kk (by omega)) ?_
    obtain ⟨x112, hx113⟩ := get_of (zs := bs) (k := i) (by have h9 := own_len ho104; rw [bools_len] at h9; omega)
    refine W.slq (v := .bool x112) s111 rfl (r_load rfl kk kk (eqS (own_atB ho104 hx113))) kk rfl ?_
    refine F.nx ?_
    refine Fv (.bool x112) ?_
    rcases Bool.eq_false_or_eq_true x112 with q114 | q114
    ·rw [q114]
     refine Fs s111 ?_
     refine Fq (.bool true) (r_pick (b := true) rfl ek ek) ?_
     refine Fq (.pointer (some ⟨b17, i, none⟩)) (r_idxA (len := 19) (k := i) rfl ek kk kk (by omega)) ?_
     refine W.ssr (base := w.heap.size) (e := 111) (j := i) (u := .bool true) s111 rfl kk rfl rfl kk kk ho104 kk kk kk (by omega) (.inl rfl) (fun w115 ho116 g117 s118 => ?_)
     have ho116 := own_setB ho116
     refine F.es ?_
     have x6 := SG.blk s118 x6 nb31
     have c119 := (SG.belowR c109 s118 (fun kq e => (World.ownsRow.lt ho104 kq e).1))
     have rd120 := rd_sep rd110 s118 sp97
     refine h26 _ _ ?_
     refine W.region_quiet [(0, false), (1, false)] kk ?_
     refine Fq (.int .i64 ((i + 1 : Nat) : Int)) (r_add (m := (i : Int)) (n := 1) (z := ((i + 1 : Nat) : Int)) rfl ek ek (by omega) (by omega)) ?_
     refine Fv (.int .i64 ((i + 1 : Nat) : Int)) ?_
     refine F.es ?_
     exact h23 _ _ _ (by omega : (19 - (i + 1)) < _) ⟨i + 1, (bs.set i true), Kn.of, rfl, (by omega), (hmix.next (by omega) hx113 (wet_eq hx106) (okS_iff.2 (by omega)) (by rw [q114]; try rfl)), x6, ho116, rd120, c119⟩
    rw [q114]
    refine Fv (.bool x105) ?_
    refine Fq (.bool x105) (r_pick (b := false) rfl ek ek) ?_
    refine Fq (.pointer (some ⟨b17, i, none⟩)) (r_idxA (len := 19) (k := i) rfl ek kk kk (by omega)) ?_
    refine W.ssr (base := w.heap.size) (e := 111) (j := i) (u := .bool x105) s111 rfl kk rfl rfl kk kk ho104 kk kk kk (by omega) (.inl rfl) (fun w121 ho122 g123 s124 => ?_)
    have ho122 := own_setB ho122
    refine F.es ?_
    have x6 := SG.blk s124 x6 nb31
    have c125 := (SG.belowR c109 s124 (fun kq e => (World.ownsRow.lt ho104 kq e).1))
    have rd126 := rd_sep rd110 s124 sp97
    refine h26 _ _ ?_
    refine W.region_quiet [(0, false), (1, false)] kk ?_
    refine Fq (.int .i64 ((i + 1 : Nat) : Int)) (r_add (m := (i : Int)) (n := 1) (z := ((i + 1 : Nat) : Int)) rfl ek ek (by omega) (by omega)) ?_
    refine Fv (.int .i64 ((i + 1 : Nat) : Int)) ?_
    refine F.es ?_
    exact h23 _ _ _ (by omega : (19 - (i + 1)) < _) ⟨i + 1, (bs.set i x105), Kn.of, rfl, (by omega), (hmix.next (by omega) hx113 (wet_eq hx106) (okS_iff.2 (by omega)) (by rw [q114]; exact (Bool.false_or _).symm)), x6, ho122, rd126, c125⟩
   refine Fq (.bool false) (r_lss (m := (i : Int)) (n := 19) rfl ek ek (decide_eq_false q100)) ?_
   refine F.es ?_
   refine h24 _ _ ?_
   refine wk fun K28 h28 => ?_
   refine wp_cond_false ek ?_
   refine wp_exit ?_
   refine h10 _ _ ?_
   refine W.region_quiet [(0, false), (1, false), (2, false)] kk ?_
   refine Fv (.int .i64 (s : Int)) ?_
   refine Fq (.int .i64 ((s + 1 : Nat) : Int)) (r_add (m := (s : Int)) (n := 1) (z := ((s + 1 : Nat) : Int)) rfl ek ek (by omega) (by omega)) ?_
   refine Fa (.int .i64 ((s + 1 : Nat) : Int)) ?_
   refine F.es ?_
   exact h7 _ _ _ (by omega : (9 + n - (s + 1)) < _) ⟨s + 1, cnt + 1, Kn.of, rfl, (by omega), (by rw [hc, cntS_yes (okS_iff.2 (by omega)) ((seenL_eq hx39).symm.trans q40)]), x6, (by rw [hmix.fin (by omega)]; exact ho1_7), c99⟩
  refine Fq (.bool false) (r_lss (m := (s : Int)) (n := ((9 + n : Nat) : Int)) rfl ek ek (decide_eq_false q36)) ?_
  refine F.es ?_
  have c127 := (SG.belowR c32 s33 (fun kq e => by cases e))
  refine h9 _ _ ?_
  refine wp_cond_false ek ?_
  refine wp_exit ?_
  refine h5 _ _ ?_
  refine wk fun K29 h29 => ?_
  refine W.region_quiet [(0, false), (1, false), (2, false)] kk ?_
  refine Fv (.int .i64 (cnt : Int)) ?_
  refine Fa (.int .i64 (cnt : Int)) ?_
  refine Fa (.bool true) ?_
  refine F.es ?_
  refine h29 _ _ ?_
  refine wp_ret ?_
  try simp only [Exit.then]
  refine ret2 (v := .int .i64 (cnt : Int)) (x := .bool true) rfl kk kk ?_
  exact ⟨by unfold CountSegments_v0 CountSegments_v1; rw [if_pos q14, q14, show 9 + ps.length = s by omega, ← hc], c127⟩
 rw [q14]
 refine Fq (.bool true) (r_not (b := false) rfl ek rfl) ?_
 refine F.es ?_
 have c128 := (SG.belowR c9 s13 (fun kq e => by cases e))
 refine h3 _ _ ?_
 refine wp_cond_true ek ?_
 refine wk fun K30 h30 => ?_
 refine W.region_quiet [(0, false), (1, false)] kk ?_
 refine Fa (.int .i64 0) ?_
 refine Fa (.bool false) ?_
 refine F.es ?_
 refine h30 _ _ ?_
 refine wp_ret ?_
 try simp only [Exit.then]
 refine ret2 (v := .int .i64 0) (x := .bool false) rfl kk kk ?_
 exact ⟨by unfold CountSegments_v0 CountSegments_v1; rw [if_neg (by rw [q14]; simp), q14], c128⟩
set_option maxRecDepth 100000 in
set_option maxHeartbeats 8000000 in
theorem CountSegments_spec (m : Int) (A : Option Addr) (n c : Nat) (ps : List Pp) (A2 : Option Addr) (n2 c2 : Nat) (vs : List Vv) (w : World) (ha : Rd w 4 A n (pipesV ps)) (hb : Rd w 4 A2 n2 (valvesV vs)) (hn : n ≤ 1048576) (hn2 : n2 ≤ 1048576) (hfm : Fm A n c) (hfm2 : Fm A2 n2 c2) :
    Calls Try.prog 34 #[.agg #[.int .i64 m, .slice A n c], .slice A2 n2 c2] w fun e w' => e = .returned (.tuple #[.int .i64 (CountSegments_v0 m ps vs), .bool (CountSegments_v1 m ps vs)]) ∧ Below w.heap.size w w' := by
 have hl := rd_pipes_len ha
 have hl2 := rd_valves_len hb
 go_enter Try.func34, Try.ntmps34
 refine F.begin 61 [(0, .agg #[.int .i64 m, .slice A n c]), (1, .slice A2 n2 c2)] (fun U0 => ?_)
 refine wk fun K1 h1 => ?_
 refine W.region_plain (row := none) [(0, true), (1, false), (2, false)] kk ?_
 have s1 := SG.self w none
 refine W.sn (fun b => .pointer (some ⟨b, 0, none⟩)) #[.int .i64 m, .slice A n c] 26 s1 rfl kk rfl (fun _ => by kernel_rfl) (fun b2 w3 hb4 k5 x6 s7 => ?_)
 refine F.nx ?_
 have lo8 : w.heap.size ≤ b2 := Nat.le_trans ((SG.belowR (Below.refl _ _) s1 (fun kq e => by cases e))).size (Nat.le_of_eq hb4)
 refine Fa (.int .i64 0) ?_
 refine Fa (.bool false) ?_
 refine F.es ?_
 have c9 := (SG.belowR (Below.refl _ _) s7 (fun kq e => by cases e))
 refine h1 _ _ ?_
 refine wk fun K2 h2 => ?_
 refine wk fun K3 h3 => ?_
 refine W.region_plain (row := none) [(0, false), (1, false), (2, true), (3, false)] kk ?_
 have s10 := SG.self w3 none
 refine Fq (.agg #[.int .i64 m, .slice A n c]) (r_load2 rfl ek kk kk (sgS (blk_cell (j := 0) x6 kk) (Option.some_ne_none _)) (sgS (blk_cell (j := 1) x6 kk) (Option.some_ne_none _))) ?_
 refine Fv (.slice A2 n2 c2) ?_
 refine Fc [.agg #[.int .i64 m, .slice A n c], .slice A2 n2 c2] (l4Good_any m A n c ps A2 n2 c2 vs _ (Rd.kept ha (SG.belowR c9 s10 (fun kq e => by cases e))) (Rd.kept hb (SG.belowR c9 s10 (fun kq e => by cases e))) (by omega) (by omega)) ?_
 rintro e w12 ⟨rfl, b11⟩
 have s13 := SG.of_below s10 b11
 refine ⟨_, rfl, s13, ?_⟩
 refine F.nx ?_
 rcases Bool.eq_false_or_eq_true (goodV m ps vs) with q14 | q14
 ·rw [q14]
  have hv9 := goodV_of q14
  have hg := hv9.net
  have hgl := hg.lo
  have hgh := hg.hi
  have hp := hg.pipesIn
  have hlen10 := hg.len
  have hu := hv9.uniq
  have hvl := hv9.len
  refine Fq (.bool false) (r_not (b := true) rfl ek rfl) ?_
  refine F.es ?_
  have x6 := SG.blk s13 x6 (Option.some_ne_none _)
  have c15 := (SG.belowR c9 s13 (fun kq e => by cases e))
  refine h3 _ _ ?_
  refine wp_cond_false ek ?_
  refine wp_skip ?_
  refine h2 _ _ ?_
  refine wk fun K4 h4 => ?_
  refine W.region_quiet [(0, false)] kk ?_
  refine Fa (.int .i64 0) ?_
  refine F.es ?_
  refine h4 _ _ ?_
  refine wk fun K5 h5 => ?_
  refine wk fun K6 h6 => ?_
  refine W.region_quiet [(0, false)] kk ?_
  refine Fa (.int .i64 1) ?_
  refine F.es ?_
  refine h6 _ _ ?_
  refine wp_block ?_
  refine loopK (fun am0 aa0 wl0 => ∃ (j : Nat) (cnt : Nat) , Kn aa0 [(0, .agg #[.int .i64 m, .slice A n c]), (1, .slice A2 n2 c2), (2, .pointer (some ⟨b2, 0, none⟩)), (4, .int .i64 0), (5, .bool false), (6, .int .i64 (cnt : Int)), (7, .int .i64 ((j + 1 : Nat) : Int)), (16, .bool false)] 61 ∧ (am0 = m.toNat - j) ∧ (j ≤ m.toNat) ∧ (cnt = cntS (linked ps (openQ vs false)) m.toNat ps.length (j + 1)) ∧ (wl0.heap[b2]? = some (.cells #[.int .i64 m, .slice A n c] 26 (0, 0))) ∧ (Below w.heap.size w wl0)) (m.toNat - 0) ?_ ?_
  ·exact ⟨0, 0, Kn.of, rfl, (Nat.zero_le _), ((cntS_one (linked ps (openQ vs false)) m.toNat ps.length).symm), x6, c15⟩
  rintro am0 aa0 wl0 K7 h7 ⟨j, cnt, ⟨U0, rfl⟩, rfl, hj, hc, x6, c16⟩
  have hcl := cntS_le (linked ps (openQ vs false)) m.toNat ps.length (j + 1)
  refine wk fun K8 h8 => ?_
  refine wk fun K9 h9 => ?_
  refine W.region_quiet [(0, false), (1, false), (2, false), (3, false)] kk ?_
  refine Fv (.int .i64 ((j + 1 : Nat) : Int)) ?_
  refine Fq (.pointer (some ⟨b2, 0, none⟩)) (r_field0 rfl ek kk) ?_
  refine Fl (.int .i64 m) (eqS (blk_cell (j := 0) x6 kk)) ?_
  by_cases q17 : (((j + 1 : Nat) : Int) : Int) ≤ (m : Int)
  ·refine Fq (.bool true) (r_leq (m := ((j + 1 : Nat) : Int)) (n := m) rfl ek ek (decide_eq_true q17)) ?_
   refine F.es ?_
   refine h9 _ _ ?_
   refine wp_cond_true ek ?_
   refine wp_skip ?_
   refine h8 _ _ ?_
   refine wk fun K10 h10 => ?_
   refine wp_block ?_
   refine wk fun K11 h11 => ?_
   refine W.region_plain (row := none) [(0, false), (1, false), (2, false), (3, true), (4, true), (5, true), (6, false), (7, false), (8, false), (9, false), (10, false)] kk ?_
   have s18 := SG.self wl0 none
   refine Fq (.agg #[.int .i64 m, .slice A n c]) (r_load2 rfl ek kk kk (sgS (blk_cell (j := 0) x6 kk) (Option.some_ne_none _)) (sgS (blk_cell (j := 1) x6 kk) (Option.some_ne_none _))) ?_
   refine Fv (.slice A2 n2 c2) ?_
   refine Fv (.int .i64 ((j + 1 : Nat) : Int)) ?_
   refine W.sn (fun b => .slice (some ⟨b, 0, none⟩) 1 1) #[.int .i64 ((j + 1 : Nat) : Int)] 3 s18 rfl kk rfl (fun _ => by kernel_rfl) (fun b19 w20 hb21 k22 x23 s24 => ?_)
   refine F.nx ?_
   have lo25 : w.heap.size ≤ b19 := Nat.le_trans ((SG.belowR c16 s18 (fun kq e => by cases e))).size (Nat.le_of_eq hb21)
   refine W.sn (fun b => .slice (some ⟨b, 0, none⟩) 0 0) #[] 3 s24 rfl kk rfl (fun _ => by kernel_rfl) (fun b27 w28 hb29 k30 x31 s32 => ?_)
   refine F.nx ?_
   have lo33 : w.heap.size ≤ b27 := Nat.le_trans ((SG.belowR c16 s24 (fun kq e => by cases e))).size (Nat.le_of_eq hb29)
   have x23 := (k30.block _ (blk_lt x23)).trans x23
   have ho36 := own_blk (base := w.heap.size) (size := 1) (n := 1) x23 lo25 rfl (by omega)
   replace ho36 : World.ownsRow _ _ _ _ _ _ (intsV [((j + 1 : Nat) : Int)]) := ho36
   have rd40 := own_rd ho36
   have hl41 := rd_ints_len rd40
   have ho42 := own_empty (base := w.heap.size) (size := 1) x31 lo33
   replace ho42 : World.ownsRow _ _ _ _ _ _ (intsV []) := ho42
   have rd45 := own_rd ho42
   have hl46 := rd_ints_len rd45
   refine Fc [.agg #[.int .i64 m, .slice A n c], .slice A2 n2 c2, .bool false, .slice (some ⟨b19, 0, none⟩) 1 1, .slice (some ⟨b27, 0, none⟩) 0 0] (l4Spread_false m A n c ps A2 n2 c2 vs (((j + 1 : Nat) : Int)) (some ⟨b19, 0, none⟩) 1 1 ([((j + 1 : Nat) : Int)]) (some ⟨b27, 0, none⟩) 0 0 ([]) _ (Rd.kept ha (SG.belowR c16 s32 (fun kq e => by cases e))) (Rd.kept hb (SG.belowR c16 s32 (fun kq e => by cases e))) (by omega) (by omega) hp (by omega) (by omega) rd40 (own_fm ho36) rd45 (own_fm ho42) (FndQ.startN _ (by omega))) ?_
   rintro e w62 ⟨A47, n48, c49, A50, n51, c52, rfl, rd53, fm54, rd55, fm56, b61⟩
   have s63 := SG.of_below s32 b61
   refine ⟨_, rfl, s63, ?_⟩
   refine F.nx ?_
   have hl59 := rd_ints_len rd53
   have hl60 := rd_ints_len rd55
   have := nodesL_len (linked ps (openQ vs false)) m.toNat (((j + 1 : Nat) : Int)) true
   have := idxL_len (linked ps (openQ vs false)) ps.length (((j + 1 : Nat) : Int)) true
   have := nodesL_pos (E := (linked ps (openQ vs false))) (m := m.toNat) (v := (((j + 1 : Nat) : Int))) (by omega)
   refine Fv (.tuple #[.slice A47 n48 c49, .slice A50 n51 c52]) ?_
   refine Fq (.slice A47 n48 c49) (r_extract (vs := #[.slice A47 n48 c49, .slice A50 n51 c52]) rfl ek kk) ?_
   refine Fq (.slice A50 n51 c52) (r_extract (vs := #[.slice A47 n48 c49, .slice A50 n51 c52]) rfl ek kk) ?_
   refine Fa (.slice A47 n48 c49) ?_
   refine Fa (.slice A50 n51 c52) ?_
   refine F.es ?_
   have x6 := SG.blk s63 x6 (Option.some_ne_none _)
   have c66 := (SG.belowR c16 s63 (fun kq e => by cases e))
   refine h11 _ _ ?_
   refine wk fun K12 h12 => ?_
   refine W.region_quiet [(0, false), (1, false), (2, false), (3, false), (4, false)] kk ?_
   refine Fv (.slice A47 n48 c49) ?_
   obtain ⟨x67, hx68⟩ := get_of (zs := (nodesL (linked ps (openQ vs false)) m.toNat (((j + 1 : Nat) : Int)) true)) (k := 0) (by have := hl59; omega)
   obtain ⟨b69, o70, hA71, hb72, hc73⟩ := Rd.elInt rd53 hx68
   refine Fq (.pointer (some ⟨b69, o70 + 0, none⟩)) (r_idx1 (n := n48) (c := c49) (k := 0) rfl ek hA71 kk kk (by have := hl59; omega)) ?_
   refine Fl (.int .i64 x67) (eqS hc73) ?_
   refine Fv (.int .i64 ((j + 1 : Nat) : Int)) ?_
   by_cases q74 : (x67 : Int) = (((j + 1 : Nat) : Int) : Int)
   ·refine Fq (.bool true) (r_eql (m := x67) (n := ((j + 1 : Nat) : Int)) rfl ek ek (decide_eq_true q74)) ?_
    refine F.es ?_
    refine h12 _ _ ?_
    refine wp_cond_true ek ?_
    refine W.region_quiet [(0, false), (1, false), (2, false)] kk ?_
    refine Fv (.int .i64 (cnt : Int)) ?_
    refine Fq (.int .i64 ((cnt + 1 : Nat) : Int)) (r_add (m := (cnt : Int)) (n := 1) (z := ((cnt + 1 : Nat) : Int)) rfl ek ek (by omega) (by omega)) ?_
    refine Fa (.int .i64 ((cnt + 1 : Nat) : Int)) ?_
    refine F.es ?_
    refine h10 _ _ ?_
    refine W.region_quiet [(0, false), (1, false), (2, false)] kk ?_
    refine Fv (.int .i64 ((j + 1 : Nat) : Int)) ?_
    refine Fq (.int .i64 ((j + 1 + 1 : Nat) : Int)) (r_add (m := ((j + 1 : Nat) : Int)) (n := 1) (z := ((j + 1 + 1 : Nat) : Int)) rfl ek ek (by omega) (by omega)) ?_
    refine Fa (.int .i64 ((j + 1 + 1 : Nat) : Int)) ?_
    refine F.es ?_
    exact h7 _ _ _ (by omega : (m.toNat - (j + 1)) < _) ⟨j + 1, cnt + 1, Kn.of, rfl, (by omega), (by rw [hc, cntS_yes (okS_iff.2 (by omega)) ((head_iff (linked_symm ps (openQ vs false)) (by omega) hx68).1 q74)]), x6, c66⟩
   refine Fq (.bool false) (r_eql (m := x67) (n := ((j + 1 : Nat) : Int)) rfl ek ek (decide_eq_false q74)) ?_
   refine F.es ?_
   refine h12 _ _ ?_
   refine wp_cond_false ek ?_
   refine wp_skip ?_
   refine h10 _ _ ?_
   refine W.region_quiet [(0, false), (1, false), (2, false)] kk ?_
   refine Fv (.int .i64 ((j + 1 : Nat) : Int)) ?_
   refine Fq (.int .i64 ((j + 1 + 1 : Nat) : Int)) (r_add (m := ((j + 1 : Nat) : Int)) (n := 1) (z := ((j + 1 + 1 : Nat) : Int)) rfl ek ek (by omega) (by omega)) ?_
   refine Fa (.int .i64 ((j + 1 + 1 : Nat) : Int)) ?_
   refine F.es ?_
   exact h7 _ _ _ (by omega : (m.toNat - (j + 1)) < _) ⟨j + 1, cnt, Kn.of, rfl, (by omega), (by rw [hc, cntS_no (.inr ((Bool.not_eq_false _).mp (fun h9 => q74 ((head_iff (k := ps.length) (linked_symm ps (openQ vs false)) (by omega) hx68).2 h9))))]), x6, c66⟩
  refine Fq (.bool false) (r_leq (m := ((j + 1 : Nat) : Int)) (n := m) rfl ek ek (decide_eq_false q17)) ?_
  refine F.es ?_
  refine h9 _ _ ?_
  refine wp_cond_false ek ?_
  refine wp_exit ?_
  refine h5 _ _ ?_
  refine wk fun K13 h13 => ?_
  refine wk fun K14 h14 => ?_
  refine W.region_quiet [(0, false)] kk ?_
  refine Fa (.int .i64 0) ?_
  refine F.es ?_
  refine h14 _ _ ?_
  refine wp_block ?_
  refine loopK (fun am1 aa1 wl1 => ∃ (i : Nat) (cnt : Nat) , Kn aa1 [(0, .agg #[.int .i64 m, .slice A n c]), (1, .slice A2 n2 c2), (2, .pointer (some ⟨b2, 0, none⟩)), (4, .int .i64 0), (5, .bool false), (6, .int .i64 (cnt : Int)), (7, .int .i64 ((j + 1 : Nat) : Int)), (10, .int .i64 (i : Int)), (16, .bool false), (20, .bool false)] 61 ∧ (am1 = n - i) ∧ (i ≤ n) ∧ (cnt = cntS (linked ps (openQ vs false)) m.toNat ps.length (9 + i)) ∧ (wl1.heap[b2]? = some (.cells #[.int .i64 m, .slice A n c] 26 (0, 0))) ∧ (Below w.heap.size w wl1)) (n - 0) ?_ ?_
  ·exact ⟨0, cnt, Kn.of, rfl, (Nat.zero_le _), (by rw [hc, show j = m.toNat by omega]; have h9 := cntS_gap (E := (linked ps (openQ vs false))) (m := m.toNat) (k := ps.length) (8 - m.toNat) (by omega); rw [show m.toNat + 1 + (8 - m.toNat) = 9 by omega] at h9; exact h9.symm), x6, c16⟩
  rintro am1 aa1 wl1 K15 h15 ⟨i, cnt, ⟨U1, rfl⟩, rfl, hi, hc, x6, c75⟩
  have hcl := cntS_le (linked ps (openQ vs false)) m.toNat ps.length (9 + i)
  refine wk fun K16 h16 => ?_
  refine wk fun K17 h17 => ?_
  refine W.region_quiet [(0, false), (1, false), (2, false), (3, false), (4, false)] kk ?_
  refine Fv (.int .i64 (i : Int)) ?_
  refine Fq (.pointer (some ⟨b2, 1, none⟩)) (r_field (k := 1) rfl ek kk) ?_
  refine Fl (.slice A n c) (eqS (blk_cell (j := 1) x6 kk)) ?_
  refine Fq (.int .i64 (n : Int)) (r_len (A := A) (n := n) (c := c) rfl ek kk) ?_
  by_cases q76 : ((i : Int) : Int) < ((n : Int) : Int)
  ·refine Fq (.bool true) (r_lss (m := (i : Int)) (n := (n : Int)) rfl ek ek (decide_eq_true q76)) ?_
   refine F.es ?_
   refine h17 _ _ ?_
   refine wp_cond_true ek ?_
   refine wp_skip ?_
   refine h16 _ _ ?_
   refine wk fun K18 h18 => ?_
   refine wp_block ?_
   refine wk fun K19 h19 => ?_
   refine W.region_plain (row := none) [(0, false), (1, false), (2, true), (3, false), (4, true), (5, true), (6, false), (7, false), (8, false), (9, false), (10, false)] kk ?_
   have s77 := SG.self wl1 none
   refine Fq (.agg #[.int .i64 m, .slice A n c]) (r_load2 rfl ek kk kk (sgS (blk_cell (j := 0) x6 kk) (Option.some_ne_none _)) (sgS (blk_cell (j := 1) x6 kk) (Option.some_ne_none _))) ?_
   refine Fv (.slice A2 n2 c2) ?_
   refine W.sn (fun b => .slice (some ⟨b, 0, none⟩) 0 0) #[] 3 s77 rfl kk rfl (fun _ => by kernel_rfl) (fun b78 w79 hb80 k81 x82 s83 => ?_)
   refine F.nx ?_
   have lo84 : w.heap.size ≤ b78 := Nat.le_trans ((SG.belowR c75 s77 (fun kq e => by cases e))).size (Nat.le_of_eq hb80)
   refine Fv (.int .i64 (i : Int)) ?_
   refine W.sn (fun b => .slice (some ⟨b, 0, none⟩) 1 1) #[.int .i64 (i : Int)] 3 s83 rfl kk rfl (fun _ => by kernel_rfl) (fun b86 w87 hb88 k89 x90 s91 => ?_)
   refine F.nx ?_
   have lo92 : w.heap.size ≤ b86 := Nat.le_trans ((SG.belowR c75 s83 (fun kq e => by cases e))).size (Nat.le_of_eq hb88)
   have x82 := (k89.block _ (blk_lt x82)).trans x82
   have ho95 := own_empty (base := w.heap.size) (size := 1) x82 lo84
   replace ho95 : World.ownsRow _ _ _ _ _ _ (intsV []) := ho95
   have rd99 := own_rd ho95
   have hl100 := rd_ints_len rd99
   have ho101 := own_blk (base := w.heap.size) (size := 1) (n := 1) x90 lo92 rfl (by omega)
   replace ho101 : World.ownsRow _ _ _ _ _ _ (intsV [(i : Int)]) := ho101
   have rd104 := own_rd ho101
   have hl105 := rd_ints_len rd104
   refine Fc [.agg #[.int .i64 m, .slice A n c], .slice A2 n2 c2, .bool false, .slice (some ⟨b78, 0, none⟩) 0 0, .slice (some ⟨b86, 0, none⟩) 1 1] (l4Spread_false m A n c ps A2 n2 c2 vs (9 + (i : Int)) (some ⟨b78, 0, none⟩) 0 0 ([]) (some ⟨b86, 0, none⟩) 1 1 ([(i : Int)]) _ (Rd.kept ha (SG.belowR c75 s91 (fun kq e => by cases e))) (Rd.kept hb (SG.belowR c75 s91 (fun kq e => by cases e))) (by omega) (by omega) hp (by omega) (by omega) rd99 (own_fm ho95) rd104 (own_fm ho101) (FndQ.startP _ (by omega))) ?_
   rintro e w121 ⟨A106, n107, c108, A109, n110, c111, rfl, rd112, fm113, rd114, fm115, b120⟩
   have s122 := SG.of_below s91 b120
   refine ⟨_, rfl, s122, ?_⟩
   refine F.nx ?_
   have hl118 := rd_ints_len rd112
   have hl119 := rd_ints_len rd114
   have := nodesL_len (linked ps (openQ vs false)) m.toNat (9 + (i : Int)) true
   have := idxL_len (linked ps (openQ vs false)) ps.length (9 + (i : Int)) true
   refine Fv (.tuple #[.slice A106 n107 c108, .slice A109 n110 c111]) ?_
   refine Fq (.slice A106 n107 c108) (r_extract (vs := #[.slice A106 n107 c108, .slice A109 n110 c111]) rfl ek kk) ?_
   refine Fq (.slice A109 n110 c111) (r_extract (vs := #[.slice A106 n107 c108, .slice A109 n110 c111]) rfl ek kk) ?_
   refine Fa (.slice A106 n107 c108) ?_
   refine Fa (.slice A109 n110 c111) ?_
   refine F.es ?_
   have x6 := SG.blk s122 x6 (Option.some_ne_none _)
   have c125 := (SG.belowR c75 s122 (fun kq e => by cases e))
   refine h19 _ _ ?_
   refine wk fun K20 h20 => ?_
   refine W.region_quiet [(0, false), (1, false), (2, false)] kk ?_
   refine Fv (.slice A106 n107 c108) ?_
   refine Fq (.int .i64 (n107 : Int)) (r_len (A := A106) (n := n107) (c := c108) rfl ek kk) ?_
   by_cases q126 : ((n107 : Int) : Int) = (0 : Int)
   ·refine Fq (.bool true) (r_eql (m := (n107 : Int)) (n := 0) rfl ek ek (decide_eq_true q126)) ?_
    refine F.es ?_
    refine h20 _ _ ?_
    refine wp_cond_true ek ?_
    refine W.region_quiet [(0, false), (1, false), (2, false)] kk ?_
    refine Fv (.int .i64 (cnt : Int)) ?_
    refine Fq (.int .i64 ((cnt + 1 : Nat) : Int)) (r_add (m := (cnt : Int)) (n := 1) (z := ((cnt + 1 : Nat) : Int)) rfl ek ek (by omega) (by omega)) ?_
    refine Fa (.int .i64 ((cnt + 1 : Nat) : Int)) ?_
    refine F.es ?_
    refine h18 _ _ ?_
    refine W.region_quiet [(0, false), (1, false), (2, false)] kk ?_
    refine Fv (.int .i64 (i : Int)) ?_
    refine Fq (.int .i64 ((i + 1 : Nat) : Int)) (r_add (m := (i : Int)) (n := 1) (z := ((i + 1 : Nat) : Int)) rfl ek ek (by omega) (by omega)) ?_
    refine Fa (.int .i64 ((i + 1 : Nat) : Int)) ?_
    refine F.es ?_
    exact h15 _ _ _ (by omega : (n - (i + 1)) < _) ⟨i + 1, cnt + 1, Kn.of, rfl, (by omega), (by rw [hc, show 9 + (i + 1) = 9 + i + 1 by omega, cntS_yes (okS_iff.2 (by omega)) ((alone_iff (k := ps.length) hp (by omega) (by omega)).1 (by omega))]), x6, c125⟩
   refine Fq (.bool false) (r_eql (m := (n107 : Int)) (n := 0) rfl ek ek (decide_eq_false q126)) ?_
   refine F.es ?_
   refine h20 _ _ ?_
   refine wp_cond_false ek ?_
   refine wp_skip ?_
   refine h18 _ _ ?_
   refine W.region_quiet [(0, false), (1, false), (2, false)] kk ?_
   refine Fv (.int .i64 (i : Int)) ?_
   refine Fq (.int .i64 ((i + 1 : Nat) : Int)) (r_add (m := (i : Int)) (n := 1) (z := ((i + 1 : Nat) : Int)) rfl ek ek (by omega) (by omega)) ?_
   refine Fa (.int .i64 ((i + 1 : Nat) : Int)) ?_
   refine F.es ?_
   exact h15 _ _ _ (by omega : (n - (i + 1)) < _) ⟨i + 1, cnt, Kn.of, rfl, (by omega), (by rw [hc, show 9 + (i + 1) = 9 + i + 1 by omega, cntS_no (.inr ((Bool.not_eq_false _).mp (fun h9 => absurd ((alone_iff (k := ps.length) hp (by omega) (by omega)).2 h9) (by omega))))]), x6, c125⟩
  refine Fq (.bool false) (r_lss (m := (i : Int)) (n := (n : Int)) rfl ek ek (decide_eq_false q76)) ?_
  refine F.es ?_
  refine h17 _ _ ?_
  refine wp_cond_false ek ?_
  refine wp_exit ?_
  refine h13 _ _ ?_
  refine wk fun K21 h21 => ?_
  refine W.region_quiet [(0, false), (1, false), (2, false)] kk ?_
  refine Fv (.int .i64 (cnt : Int)) ?_
  refine Fa (.int .i64 (cnt : Int)) ?_
  refine Fa (.bool true) ?_
  refine F.es ?_
  refine h21 _ _ ?_
  refine wp_ret ?_
  try simp only [Exit.then]
  refine ret2 (v := .int .i64 (cnt : Int)) (x := .bool true) rfl kk kk ?_
  exact ⟨by unfold CountSegments_v0 CountSegments_v1; rw [if_pos q14, q14, show 9 + ps.length = 9 + i by omega, ← hc], c75⟩
 rw [q14]
 refine Fq (.bool true) (r_not (b := false) rfl ek rfl) ?_
 refine F.es ?_
 have c127 := (SG.belowR c9 s13 (fun kq e => by cases e))
 refine h3 _ _ ?_
 refine wp_cond_true ek ?_
 refine wk fun K22 h22 => ?_
 refine W.region_quiet [(0, false), (1, false)] kk ?_
 refine Fa (.int .i64 0) ?_
 refine Fa (.bool false) ?_
 refine F.es ?_
 refine h22 _ _ ?_
 refine wp_ret ?_
 try simp only [Exit.then]
 refine ret2 (v := .int .i64 0) (x := .bool false) rfl kk kk ?_
 exact ⟨by unfold CountSegments_v0 CountSegments_v1; rw [if_neg (by rw [q14]; simp), q14], c127⟩
end Go.Proofs.Ytdbgfejeleafgaa
namespace Go.Proofs.Ytdbgfejeleafgaa
open Go.RowKit
set_option linter.unusedVariables false
theorem cnt_lo (m : Nat) : ∀ N, (List.range N).countP (fun t => decide (1 ≤ t) && decide (t ≤ m)) ≤ m ∧ (List.range N).countP (fun t => decide (1 ≤ t) && decide (t ≤ m)) ≤ N - 1
  | 0 => by simp
  | N + 1 => by
    have ih := cnt_lo m N
    rw [List.range_succ, List.countP_append]
    have h1 : ([N] : List Nat).countP (fun t => decide (1 ≤ t) && decide (t ≤ m)) = if 1 ≤ N ∧ N ≤ m then 1 else 0 := by
      rw [List.countP_cons, List.countP_nil]
      by_cases h : 1 ≤ N ∧ N ≤ m
      · rw [if_pos h, decide_eq_true h.1, decide_eq_true h.2]; rfl
      · rw [if_neg h, if_neg]
        simp only [Bool.and_eq_true, decide_eq_true_eq]; exact h
    rw [h1]
    split <;> omega
theorem cnt_hi (k : Nat) : ∀ N, (List.range N).countP (fun t => decide (9 ≤ t) && decide (t < 9 + k)) ≤ k ∧ (List.range N).countP (fun t => decide (9 ≤ t) && decide (t < 9 + k)) ≤ N - 9
  | 0 => by simp
  | N + 1 => by
    have ih := cnt_hi k N
    rw [List.range_succ, List.countP_append]
    have h1 : ([N] : List Nat).countP (fun t => decide (9 ≤ t) && decide (t < 9 + k)) = if 9 ≤ N ∧ N < 9 + k then 1 else 0 := by
      rw [List.countP_cons, List.countP_nil]
      by_cases h : 9 ≤ N ∧ N < 9 + k
      · rw [if_pos h, decide_eq_true h.1, decide_eq_true h.2]; rfl
      · rw [if_neg h, if_neg]
        simp only [Bool.and_eq_true, decide_eq_true_eq]; exact h
    rw [h1]
    split <;> omega
theorem countP_or {α : Type} (p q : α → Bool) : ∀ l : List α, l.countP (fun x => p x || q x) ≤ l.countP p + l.countP q
  | [] => by simp
  | x :: l => by
    have ih := countP_or p q l
    rw [List.countP_cons, List.countP_cons, List.countP_cons]
    cases p x <;> cases q x <;> simp <;> omega
theorem countP_and {α : Type} (p q : α → Bool) : ∀ l : List α, l.countP (fun x => p x && q x) ≤ l.countP p
  | [] => by simp
  | x :: l => by
    have ih := countP_and p q l
    rw [List.countP_cons, List.countP_cons]
    cases p x <;> cases q x <;> simp <;> omega
theorem cnt_bd {E : Int → Int → Prop} {m k : Nat} (hm : 1 ≤ m) : 1 ≤ cntS E m k (9 + k) ∧ cntS E m k (9 + k) ≤ m + k := by
  refine ⟨?_, ?_⟩
  · unfold cntS
    refine List.countP_pos_iff.2 ⟨1, List.mem_range.2 (by omega), ?_⟩
    have h1 : okS m k 1 = true := okS_iff.2 (.inl ⟨by omega, hm⟩)
    have h2 : seenB E m k 1 1 = false := by
      rw [← Bool.not_eq_true, seenB_iff]
      rintro ⟨t, ht, hok, _⟩
      have := okS_iff.1 hok
      omega
    rw [h1, h2]; rfl
  · unfold cntS
    refine Nat.le_trans (countP_and (okS m k) _ _) ?_
    refine Nat.le_trans (countP_or (fun t => decide (1 ≤ t) && decide (t ≤ m)) (fun t => decide (9 ≤ t) && decide (t < 9 + k)) (List.range (9 + k))) ?_
    have h1 := cnt_lo m (9 + k)
    have h2 := cnt_hi k (9 + k)
    omega
end Go.Proofs.Ytdbgfejeleafgaa
