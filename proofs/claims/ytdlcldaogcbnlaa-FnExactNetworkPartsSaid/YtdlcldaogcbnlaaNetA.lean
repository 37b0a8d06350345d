/- Lists and networks: single tests, by the engine. -/
import Derived.Test.YtdlcldaogcbnlaaIn
import Derived.Test.YtdlcldaogcbnlaaEl
import Derived.Test.YtdlcldaogcbnlaaSch2
import Derived.Test.YtdlcldaogcbnlaaReach
namespace Go.Proofs.Ytdlcldaogcbnlaa
open Go.RowKit
set_option linter.unusedVariables false

def pipeOk (m : Int) (p : Pp) : Bool := inB p.id 1 99 && (inB p.fr 1 m && (inB p.to 1 m && (decide (p.fr ≠ p.to) && inB p.sz 1 9)))
/-- The pipe at k is a good pipe, and its number is above the one's before it. -/
def okAt (m : Int) (ps : List Pp) : Nat → Bool
  | 0 => match ps[0]? with | some p => pipeOk m p | none => true
  | k + 1 => match ps[k + 1]?, ps[k]? with | some p, some q => pipeOk m p && decide (q.id < p.id) | _, _ => true
def okTo (m : Int) (ps : List Pp) : Nat → Bool
  | 0 => true
  | k + 1 => okTo m ps k && okAt m ps k
def goodN (m : Int) (ps : List Pp) : Bool := inB m 1 8 && (decide (ps.length ≤ 10) && okTo m ps ps.length)
theorem okTo_bad {m : Int} {ps : List Pp} {k : Nat} (h : okAt m ps k = false) : ∀ n, k < n → okTo m ps n = false
  | 0, hk => absurd hk (by omega)
  | n + 1, hk => by
    by_cases e : k = n
    · subst e; unfold okTo; rw [h]; simp
    · unfold okTo; rw [okTo_bad h n (by omega)]; rfl
theorem goodN_bad {m : Int} {ps : List Pp} {k : Nat} (hk : k < ps.length) (h : okAt m ps k = false) : goodN m ps = false := by
  unfold goodN; rw [okTo_bad h _ hk]; simp
theorem okAt_zero {m : Int} {ps : List Pp} {x : Pp} (h : ps[0]? = some x) : okAt m ps 0 = pipeOk m x := by unfold okAt; rw [h]
theorem okAt_next {m : Int} {ps : List Pp} {k : Nat} {x y : Pp} (h : ps[k + 1]? = some x) (h' : ps[k]? = some y) : okAt m ps (k + 1) = (pipeOk m x && decide (y.id < x.id)) := by simp [okAt, h, h']
theorem okTo_next {m : Int} {ps : List Pp} {k : Nat} (h : okTo m ps k = true) (h' : okAt m ps k = true) : okTo m ps (k + 1) = true := by unfold okTo; rw [h, h']; rfl
theorem okAt_pipe {m : Int} {ps : List Pp} {k : Nat} {x : Pp} (h : ps[k]? = some x) (hx : pipeOk m x = false) : okAt m ps k = false := by
  rcases k with _ | k
  · rw [okAt_zero h, hx]
  · have hk : k + 1 < ps.length := (List.getElem?_eq_some_iff.1 h).1
    have hy : ps[k]? = some ps[k] := List.getElem?_eq_getElem (by omega)
    rw [okAt_next h hy, hx]; rfl
theorem goodN_fin {m : Int} {ps : List Pp} {n K : Nat} (hl : ps.length = n) (hK : K ≤ n) (hok : okTo m ps K = true) (hx : ¬ (K < n) ∨ 10 < n) : goodN m ps = (inB m 1 8 && decide ((n : Int) ≤ (10 : Int))) := by
  unfold goodN
  rw [hl]
  rcases hx with hx | hx
  · obtain rfl : K = n := by omega
    rw [hok, Bool.and_true]
    congr 1
    exact decide_eq_decide.2 (by omega)
  · rw [decide_eq_false (by omega), decide_eq_false (by omega), Bool.false_and]
theorem goodN_out {m : Int} {ps : List Pp} {n : Nat} (hl : ps.length = n) (h : inB m 1 8 = false ∨ 10 < n) : goodN m ps = false := by
  unfold goodN
  rw [hl]
  rcases h with h | h
  · rw [h]; rfl
  · rw [decide_eq_false (by omega)]; simp
/-- The index of the pipe with a number, -1 if there is none. -/
def findL : List Pp → Int → Int
  | [], _ => -1
  | p :: ps, v => if p.id = v then 0 else if findL ps v < 0 then -1 else findL ps v + 1
theorem findL_at : ∀ {ps : List Pp} {v : Int} {k : Nat} {x : Pp}, (∀ j z, j < k → ps[j]? = some z → z.id ≠ v) → ps[k]? = some x → x.id = v → findL ps v = (k : Int)
  | [], v, k, x, _, hx, _ => by simp at hx
  | p :: ps, v, 0, x, _, hx, e => by simp at hx; subst hx; unfold findL; rw [if_pos e]; rfl
  | p :: ps, v, k + 1, x, h, hx, e => by
    have h0 := h 0 p (by omega) rfl
    have ih := findL_at (ps := ps) (v := v) (k := k) (fun j z hj hz => h (j + 1) z (by omega) (by simpa using hz)) (by simpa using hx) e
    unfold findL; rw [if_neg h0, ih, if_neg (by omega)]; omega
theorem findL_no : ∀ {ps : List Pp} {v : Int}, (∀ z, z ∈ ps → z.id ≠ v) → findL ps v = -1
  | [], v, _ => rfl
  | p :: ps, v, h => by
    have ih := findL_no (ps := ps) (v := v) (fun z hz => h z (by simp [hz]))
    unfold findL; rw [if_neg (h p (by simp)), ih]; rfl
theorem findL_none {ps : List Pp} {v : Int} {n k : Nat} (hl : ps.length = n) (h : ∀ j z, j < k → ps[j]? = some z → z.id ≠ v) (hk : n ≤ k) : findL ps v = -1 :=
  findL_no (fun z hz => by
    obtain ⟨j, hj, e⟩ := List.getElem_of_mem hz
    exact h j z (by omega) (by rw [List.getElem?_eq_getElem hj, e]))

theorem inB_iff {x a b : Int} : inB x a b = true ↔ a ≤ x ∧ x ≤ b := inB_yes
theorem okTo_at {m : Int} {ps : List Pp} : ∀ {n k : Nat}, okTo m ps n = true → k < n → okAt m ps k = true
  | 0, k, _, hk => absurd hk (by omega)
  | n + 1, k, h, hk => by
    unfold okTo at h
    rw [Bool.and_eq_true] at h
    by_cases e : k = n
    · subst e; exact h.2
    · exact okTo_at h.1 (by omega)
structure GoodNet (m : Int) (ps : List Pp) : Prop where
  lo : 1 ≤ m
  hi : m ≤ 8
  len : ps.length ≤ 10
  ok : ∀ p, p ∈ ps → pipeOk m p = true
  rise : rises ps
theorem good_of {m : Int} {ps : List Pp} (h : goodN m ps = true) : GoodNet m ps := by
  unfold goodN at h
  rw [Bool.and_eq_true, Bool.and_eq_true, inB_iff, decide_eq_true_iff] at h
  obtain ⟨⟨h1, h2⟩, h3, h4⟩ := h
  have hat : ∀ k, k < ps.length → okAt m ps k = true := fun k hk => okTo_at h4 hk
  refine ⟨h1, h2, h3, fun p hp => ?_, ?_⟩
  · obtain ⟨k, hk, e⟩ := List.getElem_of_mem hp
    have := hat k hk
    have hg : ps[k]? = some p := by rw [List.getElem?_eq_getElem hk, e]
    rcases k with _ | k
    · rwa [okAt_zero hg] at this
    · rw [okAt_next hg (List.getElem?_eq_getElem (show k < ps.length by omega)), Bool.and_eq_true] at this; exact this.1
  · have step : ∀ k (h : k + 1 < ps.length), ps[k].id < ps[k + 1].id := fun k hk => by
      have := hat (k + 1) hk
      rw [okAt_next (List.getElem?_eq_getElem hk) (List.getElem?_eq_getElem (show k < ps.length by omega)), Bool.and_eq_true, decide_eq_true_iff] at this
      exact this.2
    have far : ∀ d k (h : k + d + 1 < ps.length), ps[k].id < ps[k + d + 1].id := by
      intro d
      induction d with
      | zero => intro k hk; exact step k hk
      | succ d ih =>
        intro k hk
        have h1 := ih k (by omega)
        have h2 := step (k + d + 1) (by omega)
        exact Int.lt_trans h1 h2
    refine List.pairwise_iff_getElem.2 (fun i j hi hj hij => ?_)
    have := far (j - i - 1) i (by omega)
    have e : i + (j - i - 1) + 1 = j := by omega
    simp only [e] at this
    exact this
theorem GoodNet.pipe {m : Int} {ps : List Pp} (h : GoodNet m ps) {p : Pp} (hp : p ∈ ps) : (1 ≤ p.id ∧ p.id ≤ 99) ∧ (1 ≤ p.fr ∧ p.fr ≤ m) ∧ (1 ≤ p.to ∧ p.to ≤ m) ∧ p.fr ≠ p.to ∧ (1 ≤ p.sz ∧ p.sz ≤ 9) := by
  have := h.ok p hp
  unfold pipeOk at this
  simp only [Bool.and_eq_true, inB_iff, decide_eq_true_iff] at this
  exact this
theorem GoodNet.at {m : Int} {ps : List Pp} (h : GoodNet m ps) {k : Nat} {p : Pp} (hp : ps[k]? = some p) : (1 ≤ p.id ∧ p.id ≤ 99) ∧ (1 ≤ p.fr ∧ p.fr ≤ m) ∧ (1 ≤ p.to ∧ p.to ≤ m) ∧ p.fr ≠ p.to ∧ (1 ≤ p.sz ∧ p.sz ≤ 9) := h.pipe (List.mem_of_getElem? hp)
theorem GoodNet.pipesIn {m : Int} {ps : List Pp} (h : GoodNet m ps) : pipesIn ps m.toNat := fun p hp => by
  have := h.pipe hp
  have := h.lo
  omega
theorem other_pos {p : Pp} {u : Int} (h1 : 1 ≤ p.fr) (h2 : 1 ≤ p.to) : 0 < otherOf p u ↔ p.fr = u ∨ p.to = u := by
  unfold otherOf
  by_cases e1 : u = p.fr
  · rw [if_pos e1]; constructor
    · intro _; exact .inl e1.symm
    · intro _; omega
  · rw [if_neg e1]
    by_cases e2 : u = p.to
    · rw [if_pos e2]; constructor
      · intro _; exact .inr e2.symm
      · intro _; omega
    · rw [if_neg e2]; constructor
      · intro h; omega
      · rintro (h | h)
        · exact absurd h.symm e1
        · exact absurd h.symm e2

set_option maxRecDepth 100000 in
set_option maxHeartbeats 1000000 in
theorem l1Has_any (A : Option Addr) (n c : Nat) (zs : List Int) (v : Int) (w : World) (ha : Rd w 1 A n (intsV zs)) (hn : n ≤ 1000000000) :
    Calls Try.prog 52 #[.slice A n c, .int .i64 v] w fun e w' => e = .returned (.bool (zs.contains v)) ∧ Below w.heap.size w w' := by
  have hl := rd_ints_len ha
  go_enter Try.func52, Try.ntmps52
  refine wp_seq_k (fun K1 h1 => ?_)
  refine region_quiet [(0, false)] rfl ?_
  refine sq (v := .bool false) rfl (r_assign rfl rfl) rfl rfl rfl ?_
  refine sch_end ?_
  simp only [List.set_cons_zero, List.set_cons_succ]
  refine h1 _ _ ?_
  refine wp_seq_k (fun K2 h2 => ?_)
  refine wp_seq_k (fun K3 h3 => ?_)
  refine region_quiet [(0, false)] rfl ?_
  refine sq (v := .int .i64 0) rfl (r_assign rfl rfl) rfl rfl rfl ?_
  refine sch_end ?_
  simp only [List.set_cons_zero, List.set_cons_succ]
  refine h3 _ _ ?_
  refine wp_block ?_
  refine loopK (fun am0 aa0 wl0 => ∃ (k : Nat) (u0_6 u0_7 u0_8 u0_9 u0_10 u0_11 u0_12 u0_13 u0_14 u0_15 u0_16 u0_17 : Value), aa0 = ⟨[.slice A n c, .int .i64 v, undef, undef, .bool false, .int .i64 ((k : Nat) : Int), u0_6, u0_7, u0_8, u0_9, u0_10, u0_11, u0_12, u0_13, u0_14, u0_15, u0_16, u0_17].toArray, []⟩ ∧ (am0 = n - k) ∧ (k ≤ n) ∧ (∀ j z, j < k → zs[j]? = some z → z ≠ v) ∧ (Below w.heap.size w wl0)) (n - 0) ?_ ?_
  · exact ⟨0, _, _, _, _, _, _, _, _, _, _, _, _, rfl, rfl, (Nat.zero_le _), upto_zero, (Below.refl _ _)⟩
  rintro am0 aa0 wl0 K4 h4 ⟨k, u0_6, u0_7, u0_8, u0_9, u0_10, u0_11, u0_12, u0_13, u0_14, u0_15, u0_16, u0_17, rfl, rfl, hk, hok, c1⟩
  refine wp_seq_k (fun K5 h5 => ?_)
  refine wp_seq_k (fun K6 h6 => ?_)
  refine region_quiet [(0, false), (1, false), (2, false), (3, false)] rfl ?_
  refine sq (v := .int .i64 ((k : Nat) : Int)) rfl (r_move rfl rfl) rfl rfl rfl ?_
  refine sq (v := .slice A n c) rfl (r_move rfl rfl) rfl rfl rfl ?_
  refine sq (v := .int .i64 ((n : Nat) : Int)) rfl (r_len rfl rfl (by kernel_rfl)) rfl rfl rfl ?_
  by_cases q2 : (((k : Nat) : Int) : Int) < (((n : Nat) : Int) : Int)
  · refine sq (v := .bool true) rfl (r_lss rfl rfl rfl (decide_eq_true q2)) rfl rfl rfl ?_
    refine sch_end ?_
    simp only [List.set_cons_zero, List.set_cons_succ]
    refine h6 _ _ ?_
    refine wp_cond_true rfl ?_
    refine wp_skip ?_
    refine h5 _ _ ?_
    refine wp_seq_k (fun K7 h7 => ?_)
    refine wp_block ?_
    refine wp_seq_k (fun K8 h8 => ?_)
    refine region_quiet [(0, false), (1, false), (2, false), (3, false), (4, false), (5, false)] rfl ?_
    refine sq (v := .slice A n c) rfl (r_move rfl rfl) rfl rfl rfl ?_
    refine sq (v := .int .i64 ((k : Nat) : Int)) rfl (r_move rfl rfl) rfl rfl rfl ?_
    obtain ⟨x3, hx4⟩ := get_of (zs := zs) (k := k) (by have := hl; omega)
    obtain ⟨b5, o6, hA7, hb8, hc9⟩ := Rd.elInt ha hx4
    refine sq (v := .pointer (some ⟨b5, o6 + k, none⟩)) rfl (r_idx1 (k := k) rfl rfl hA7 rfl (by kernel_rfl) (by have := hl; omega)) rfl rfl rfl ?_
    refine sq (v := .int .i64 x3) rfl (r_load rfl rfl (by kernel_rfl) (eqS (later c1 hc9))) rfl rfl rfl ?_
    refine sq (v := .int .i64 v) rfl (r_move rfl rfl) rfl rfl rfl ?_
    simp only [List.set_cons_zero, List.set_cons_succ]
    by_cases q10 : (x3 : Int) = (v : Int)
    · refine sq (v := .bool true) rfl (r_eql rfl rfl rfl (decide_eq_true q10)) rfl rfl rfl ?_
      refine sch_end ?_
      simp only [List.set_cons_zero, List.set_cons_succ]
      refine h8 _ _ ?_
      refine wp_cond_true rfl ?_
      refine wp_seq_k (fun K9 h9 => ?_)
      refine region_quiet [(0, false)] rfl ?_
      refine sq (v := .bool true) rfl (r_assign rfl rfl) rfl rfl rfl ?_
      refine sch_end ?_
      simp only [List.set_cons_zero, List.set_cons_succ]
      refine h9 _ _ ?_
      refine wp_ret ?_
      try simp only [Exit.then, Exit.inBlock]
      refine ret1 rfl rfl ?_
      exact ⟨ret_bool (has_yes hx4 q10), c1⟩
    · refine sq (v := .bool false) rfl (r_eql rfl rfl rfl (decide_eq_false q10)) rfl rfl rfl ?_
      refine sch_end ?_
      simp only [List.set_cons_zero, List.set_cons_succ]
      refine h8 _ _ ?_
      refine wp_cond_false rfl ?_
      refine wp_skip ?_
      refine h7 _ _ ?_
      refine region_quiet [(0, false), (1, false), (2, false)] rfl ?_
      refine sq (v := .int .i64 ((k : Nat) : Int)) rfl (r_move rfl rfl) rfl rfl rfl ?_
      refine sq (v := .int .i64 ((k + 1 : Nat) : Int)) rfl (r_add (z := ((k + 1 : Nat) : Int)) rfl rfl rfl (by omega) (by omega)) rfl rfl rfl ?_
      refine sq (v := .int .i64 ((k + 1 : Nat) : Int)) rfl (r_assign rfl rfl) rfl rfl rfl ?_
      refine sch_end ?_
      simp only [List.set_cons_zero, List.set_cons_succ]
      exact h4 _ _ _ (by omega : (n - (k + 1)) < _) ⟨k + 1, _, _, _, _, _, _, _, _, _, _, _, _, rfl, rfl, (by omega), (upto_succ hok hx4 q10), c1⟩
  · refine sq (v := .bool false) rfl (r_lss rfl rfl rfl (decide_eq_false q2)) rfl rfl rfl ?_
    refine sch_end ?_
    simp only [List.set_cons_zero, List.set_cons_succ]
    refine h6 _ _ ?_
    refine wp_cond_false rfl ?_
    refine wp_exit ?_
    refine h2 _ _ ?_
    refine wp_seq_k (fun K10 h10 => ?_)
    refine region_quiet [(0, false)] rfl ?_
    refine sq (v := .bool false) rfl (r_assign rfl rfl) rfl rfl rfl ?_
    refine sch_end ?_
    simp only [List.set_cons_zero, List.set_cons_succ]
    refine h10 _ _ ?_
    refine wp_ret ?_
    try simp only [Exit.then]
    refine ret1 rfl rfl ?_
    exact ⟨ret_bool (has_no hl hok (by omega)), c1⟩

set_option maxRecDepth 100000 in
set_option maxHeartbeats 1000000 in
theorem has_any (m : Int) (A : Option Addr) (n c : Nat) (ps : List Pp) (v : Int) (w : World) :
    Calls Try.prog 50 #[.agg #[.int .i64 m, .slice A n c], .int .i64 v] w fun e w' => e = .returned (.bool (inB v 1 m)) ∧ Below w.heap.size w w' := by
  go_enter Try.func50, Try.ntmps50
  refine wp_seq_k (fun K1 h1 => ?_)
  refine region_plain (row := none) [(0, true), (1, false)] rfl ?_
  have s1 := SG.self w none
  refine sn (fun b => .pointer (some ⟨b, 0, none⟩)) #[.int .i64 m, .slice A n c] 31 s1 rfl rfl rfl (fun _ => by kernel_rfl) (fun b2 w3 hb4 k5 x6 s7 => ?_)
  have lo8 : w.heap.size ≤ b2 := by have := ((SG.belowR (Below.refl _ _) s1 (fun kq e => by cases e))).size; omega
  refine sq (v := .bool false) rfl (r_assign rfl rfl) rfl rfl rfl ?_
  refine sch_end ?_
  simp only [List.set_cons_zero, List.set_cons_succ]
  have c9 := (SG.belowR (Below.refl _ _) s7 (fun kq e => by cases e))
  refine h1 _ _ ?_
  refine wp_seq_k (fun K2 h2 => ?_)
  refine region_plain (row := none) [(0, false), (1, false), (2, false), (3, true), (4, false)] rfl ?_
  have s10 := SG.self w3 none
  refine sq (v := .int .i64 v) rfl (r_move rfl rfl) rfl rfl rfl ?_
  refine sq (v := .pointer (some ⟨b2, 0, none⟩)) rfl (r_field0 rfl rfl (by kernel_rfl)) rfl rfl rfl ?_
  refine sq (v := .int .i64 m) rfl (r_load rfl rfl (by kernel_rfl) (sgS (blk_cell (j := 0) x6 rfl) (by simp))) rfl rfl rfl ?_
  refine sc (vs := [.int .i64 v, .int .i64 1, .int .i64 m]) rfl rfl rfl (by kernel_rfl) rfl rfl (inside_any v 1 m _) ?_
  rintro e w' ⟨rfl, rfl⟩
  refine ⟨_, rfl, s10, ?_⟩
  refine sq (v := .bool (inB v 1 m)) rfl (r_assign rfl rfl) rfl rfl rfl ?_
  simp only [List.set_cons_zero, List.set_cons_succ]
  refine sch_end ?_
  have x6 := SG.blk s10 x6 (by simp)
  have c13 := (SG.belowR c9 s10 (fun kq e => by cases e))
  refine h2 _ _ ?_
  refine wp_ret ?_
  try simp only [Exit.then]
  refine ret1 rfl rfl ?_
  exact ⟨rfl, c13⟩

set_option maxRecDepth 100000 in
set_option maxHeartbeats 1000000 in
theorem l2Pipe_any (m : Int) (p : Pp) (w : World) :
    Calls Try.prog 58 #[.int .i64 m, .agg #[.int .i64 p.id, .int .i64 p.fr, .int .i64 p.to, .int .i64 p.sz]] w fun e w' => e = .returned (.bool (pipeOk m p)) ∧ Below w.heap.size w w' := by
  go_enter Try.func58, Try.ntmps58
  refine wp_seq_k (fun K1 h1 => ?_)
  refine region_plain (row := none) [(0, true), (1, false)] rfl ?_
  have s1 := SG.self w none
  refine sn (fun b => .pointer (some ⟨b, 0, none⟩)) #[.int .i64 p.id, .int .i64 p.fr, .int .i64 p.to, .int .i64 p.sz] 51 s1 rfl rfl rfl (fun _ => by kernel_rfl) (fun b2 w3 hb4 k5 x6 s7 => ?_)
  have lo8 : w.heap.size ≤ b2 := by have := ((SG.belowR (Below.refl _ _) s1 (fun kq e => by cases e))).size; omega
  refine sq (v := .bool false) rfl (r_assign rfl rfl) rfl rfl rfl ?_
  refine sch_end ?_
  simp only [List.set_cons_zero, List.set_cons_succ]
  have c9 := (SG.belowR (Below.refl _ _) s7 (fun kq e => by cases e))
  refine h1 _ _ ?_
  refine wp_seq_k (fun K2 h2 => ?_)
  refine region_plain (row := none) [(0, false), (1, false), (2, true), (3, false), (4, false), (5, false), (6, false), (7, true), (8, false), (9, false), (10, false), (11, false), (12, false), (13, true), (14, false), (15, false), (16, false), (17, false), (18, false), (19, false), (20, false), (21, false), (22, false), (23, false), (24, false), (25, true), (26, false), (27, false)] rfl ?_
  have s10 := SG.self w3 none
  refine sq (v := .pointer (some ⟨b2, 0, none⟩)) rfl (r_field0 rfl rfl (by kernel_rfl)) rfl rfl rfl ?_
  refine sq (v := .int .i64 p.id) rfl (r_load rfl rfl (by kernel_rfl) (sgS (blk_cell (j := 0) x6 rfl) (by simp))) rfl rfl rfl ?_
  refine sc (vs := [.int .i64 p.id, .int .i64 1, .int .i64 99]) rfl rfl rfl (by kernel_rfl) rfl rfl (l1In_any p.id 1 99 _) ?_
  rintro e w' ⟨rfl, rfl⟩
  refine ⟨_, rfl, s10, ?_⟩
  rcases Bool.eq_false_or_eq_true (inB p.id 1 99) with q13 | q13
  · rw [q13]
    refine sq (v := .bool true) rfl (r_move rfl rfl) rfl rfl rfl ?_
    refine sq (v := .pointer (some ⟨b2, 1, none⟩)) rfl (r_field (k := 1) rfl rfl (by kernel_rfl)) rfl rfl rfl ?_
    simp only [List.set_cons_zero, List.set_cons_succ]
    refine sq (v := .int .i64 p.fr) rfl (r_load rfl rfl (by kernel_rfl) (sgS (blk_cell (j := 1) x6 rfl) (by simp))) rfl rfl rfl ?_
    refine sq (v := .int .i64 m) rfl (r_move rfl rfl) rfl rfl rfl ?_
    refine sc (vs := [.int .i64 p.fr, .int .i64 1, .int .i64 m]) rfl rfl rfl (by kernel_rfl) rfl rfl (l1In_any p.fr 1 m _) ?_
    rintro e w' ⟨rfl, rfl⟩
    refine ⟨_, rfl, s10, ?_⟩
    rcases Bool.eq_false_or_eq_true (inB p.fr 1 m) with q16 | q16
    · rw [q16]
      refine sq (v := .bool true) rfl (r_pick rfl rfl rfl) rfl rfl rfl ?_
      refine sq (v := .bool true) rfl (r_move rfl rfl) rfl rfl rfl ?_
      simp only [List.set_cons_zero, List.set_cons_succ]
      refine sq (v := .pointer (some ⟨b2, 2, none⟩)) rfl (r_field (k := 2) rfl rfl (by kernel_rfl)) rfl rfl rfl ?_
      refine sq (v := .int .i64 p.to) rfl (r_load rfl rfl (by kernel_rfl) (sgS (blk_cell (j := 2) x6 rfl) (by simp))) rfl rfl rfl ?_
      refine sq (v := .int .i64 m) rfl (r_move rfl rfl) rfl rfl rfl ?_
      refine sc (vs := [.int .i64 p.to, .int .i64 1, .int .i64 m]) rfl rfl rfl (by kernel_rfl) rfl rfl (l1In_any p.to 1 m _) ?_
      rintro e w' ⟨rfl, rfl⟩
      refine ⟨_, rfl, s10, ?_⟩
      rcases Bool.eq_false_or_eq_true (inB p.to 1 m) with q19 | q19
      · rw [q19]
        refine sq (v := .bool true) rfl (r_pick rfl rfl rfl) rfl rfl rfl ?_
        simp only [List.set_cons_zero, List.set_cons_succ]
        refine sq (v := .bool true) rfl (r_move rfl rfl) rfl rfl rfl ?_
        refine sq (v := .pointer (some ⟨b2, 1, none⟩)) rfl (r_field (k := 1) rfl rfl (by kernel_rfl)) rfl rfl rfl ?_
        refine sq (v := .int .i64 p.fr) rfl (r_load rfl rfl (by kernel_rfl) (sgS (blk_cell (j := 1) x6 rfl) (by simp))) rfl rfl rfl ?_
        refine sq (v := .pointer (some ⟨b2, 2, none⟩)) rfl (r_field (k := 2) rfl rfl (by kernel_rfl)) rfl rfl rfl ?_
        refine sq (v := .int .i64 p.to) rfl (r_load rfl rfl (by kernel_rfl) (sgS (blk_cell (j := 2) x6 rfl) (by simp))) rfl rfl rfl ?_
        simp only [List.set_cons_zero, List.set_cons_succ]
        by_cases q20 : (p.fr : Int) ≠ (p.to : Int)
        · refine sq (v := .bool true) rfl (r_neq rfl rfl rfl (decide_eq_true q20)) rfl rfl rfl ?_
          refine sq (v := .bool true) rfl (r_pick rfl rfl rfl) rfl rfl rfl ?_
          refine sq (v := .bool true) rfl (r_move rfl rfl) rfl rfl rfl ?_
          refine sq (v := .pointer (some ⟨b2, 3, none⟩)) rfl (r_field (k := 3) rfl rfl (by kernel_rfl)) rfl rfl rfl ?_
          refine sq (v := .int .i64 p.sz) rfl (r_load rfl rfl (by kernel_rfl) (sgS (blk_cell (j := 3) x6 rfl) (by simp))) rfl rfl rfl ?_
          simp only [List.set_cons_zero, List.set_cons_succ]
          refine sc (vs := [.int .i64 p.sz, .int .i64 1, .int .i64 9]) rfl rfl rfl (by kernel_rfl) rfl rfl (l1In_any p.sz 1 9 _) ?_
          rintro e w' ⟨rfl, rfl⟩
          refine ⟨_, rfl, s10, ?_⟩
          rcases Bool.eq_false_or_eq_true (inB p.sz 1 9) with q23 | q23
          · rw [q23]
            refine sq (v := .bool true) rfl (r_pick rfl rfl rfl) rfl rfl rfl ?_
            refine sq (v := .bool true) rfl (r_assign rfl rfl) rfl rfl rfl ?_
            refine sch_end ?_
            simp only [List.set_cons_zero, List.set_cons_succ]
            have x6 := SG.blk s10 x6 (by simp)
            have c24 := (SG.belowR c9 s10 (fun kq e => by cases e))
            refine h2 _ _ ?_
            refine wp_ret ?_
            try simp only [Exit.then]
            refine ret1 rfl rfl ?_
            exact ⟨ret_bool (by simp [pipeOk, q13, q16, q19, q20, q23]), c24⟩
          · rw [q23]
            refine sq (v := .bool false) rfl (r_pick rfl rfl rfl) rfl rfl rfl ?_
            refine sq (v := .bool false) rfl (r_assign rfl rfl) rfl rfl rfl ?_
            refine sch_end ?_
            simp only [List.set_cons_zero, List.set_cons_succ]
            have x6 := SG.blk s10 x6 (by simp)
            have c25 := (SG.belowR c9 s10 (fun kq e => by cases e))
            refine h2 _ _ ?_
            refine wp_ret ?_
            try simp only [Exit.then]
            refine ret1 rfl rfl ?_
            exact ⟨ret_bool (by simp [pipeOk, q13, q16, q19, q20, q23]), c25⟩
        · refine sq (v := .bool false) rfl (r_neq rfl rfl rfl (decide_eq_false q20)) rfl rfl rfl ?_
          refine sq (v := .bool false) rfl (r_pick rfl rfl rfl) rfl rfl rfl ?_
          refine sq (v := .bool false) rfl (r_move rfl rfl) rfl rfl rfl ?_
          refine sk s10 rfl rfl rfl rfl ?_
          refine sk s10 rfl rfl rfl rfl ?_
          simp only [List.set_cons_zero, List.set_cons_succ]
          refine sk s10 rfl rfl rfl rfl ?_
          refine sq (v := .bool false) rfl (r_pick rfl rfl rfl) rfl rfl rfl ?_
          refine sq (v := .bool false) rfl (r_assign rfl rfl) rfl rfl rfl ?_
          refine sch_end ?_
          simp only [List.set_cons_zero, List.set_cons_succ]
          have x6 := SG.blk s10 x6 (by simp)
          have c26 := (SG.belowR c9 s10 (fun kq e => by cases e))
          refine h2 _ _ ?_
          refine wp_ret ?_
          try simp only [Exit.then]
          refine ret1 rfl rfl ?_
          exact ⟨ret_bool (by simp [pipeOk, q13, q16, q19, q20]), c26⟩
      · rw [q19]
        refine sq (v := .bool false) rfl (r_pick rfl rfl rfl) rfl rfl rfl ?_
        simp only [List.set_cons_zero, List.set_cons_succ]
        refine sq (v := .bool false) rfl (r_move rfl rfl) rfl rfl rfl ?_
        refine sk s10 rfl rfl rfl rfl ?_
        refine sk s10 rfl rfl rfl rfl ?_
        refine sk s10 rfl rfl rfl rfl ?_
        refine sk s10 rfl rfl rfl rfl ?_
        simp only [List.set_cons_zero, List.set_cons_succ]
        refine sk s10 rfl rfl rfl rfl ?_
        refine sq (v := .bool false) rfl (r_pick rfl rfl rfl) rfl rfl rfl ?_
        refine sq (v := .bool false) rfl (r_move rfl rfl) rfl rfl rfl ?_
        refine sk s10 rfl rfl rfl rfl ?_
        refine sk s10 rfl rfl rfl rfl ?_
        simp only [List.set_cons_zero, List.set_cons_succ]
        refine sk s10 rfl rfl rfl rfl ?_
        refine sq (v := .bool false) rfl (r_pick rfl rfl rfl) rfl rfl rfl ?_
        refine sq (v := .bool false) rfl (r_assign rfl rfl) rfl rfl rfl ?_
        refine sch_end ?_
        simp only [List.set_cons_zero, List.set_cons_succ]
        have x6 := SG.blk s10 x6 (by simp)
        have c27 := (SG.belowR c9 s10 (fun kq e => by cases e))
        refine h2 _ _ ?_
        refine wp_ret ?_
        try simp only [Exit.then]
        refine ret1 rfl rfl ?_
        exact ⟨ret_bool (by simp [pipeOk, q13, q16, q19]), c27⟩
    · rw [q16]
      refine sq (v := .bool false) rfl (r_pick rfl rfl rfl) rfl rfl rfl ?_
      refine sq (v := .bool false) rfl (r_move rfl rfl) rfl rfl rfl ?_
      simp only [List.set_cons_zero, List.set_cons_succ]
      refine sk s10 rfl rfl rfl rfl ?_
      refine sk s10 rfl rfl rfl rfl ?_
      refine sk s10 rfl rfl rfl rfl ?_
      refine sk s10 rfl rfl rfl rfl ?_
      refine sq (v := .bool false) rfl (r_pick rfl rfl rfl) rfl rfl rfl ?_
      simp only [List.set_cons_zero, List.set_cons_succ]
      refine sq (v := .bool false) rfl (r_move rfl rfl) rfl rfl rfl ?_
      refine sk s10 rfl rfl rfl rfl ?_
      refine sk s10 rfl rfl rfl rfl ?_
      refine sk s10 rfl rfl rfl rfl ?_
      refine sk s10 rfl rfl rfl rfl ?_
      simp only [List.set_cons_zero, List.set_cons_succ]
      refine sk s10 rfl rfl rfl rfl ?_
      refine sq (v := .bool false) rfl (r_pick rfl rfl rfl) rfl rfl rfl ?_
      refine sq (v := .bool false) rfl (r_move rfl rfl) rfl rfl rfl ?_
      refine sk s10 rfl rfl rfl rfl ?_
      refine sk s10 rfl rfl rfl rfl ?_
      simp only [List.set_cons_zero, List.set_cons_succ]
      refine sk s10 rfl rfl rfl rfl ?_
      refine sq (v := .bool false) rfl (r_pick rfl rfl rfl) rfl rfl rfl ?_
      refine sq (v := .bool false) rfl (r_assign rfl rfl) rfl rfl rfl ?_
      refine sch_end ?_
      simp only [List.set_cons_zero, List.set_cons_succ]
      have x6 := SG.blk s10 x6 (by simp)
      have c28 := (SG.belowR c9 s10 (fun kq e => by cases e))
      refine h2 _ _ ?_
      refine wp_ret ?_
      try simp only [Exit.then]
      refine ret1 rfl rfl ?_
      exact ⟨ret_bool (by simp [pipeOk, q13, q16]), c28⟩
  · rw [q13]
    refine sq (v := .bool false) rfl (r_move rfl rfl) rfl rfl rfl ?_
    refine sk s10 rfl rfl rfl rfl ?_
    simp only [List.set_cons_zero, List.set_cons_succ]
    refine sk s10 rfl rfl rfl rfl ?_
    refine sk s10 rfl rfl rfl rfl ?_
    refine sk s10 rfl rfl rfl rfl ?_
    refine sq (v := .bool false) rfl (r_pick rfl rfl rfl) rfl rfl rfl ?_
    refine sq (v := .bool false) rfl (r_move rfl rfl) rfl rfl rfl ?_
    simp only [List.set_cons_zero, List.set_cons_succ]
    refine sk s10 rfl rfl rfl rfl ?_
    refine sk s10 rfl rfl rfl rfl ?_
    refine sk s10 rfl rfl rfl rfl ?_
    refine sk s10 rfl rfl rfl rfl ?_
    refine sq (v := .bool false) rfl (r_pick rfl rfl rfl) rfl rfl rfl ?_
    simp only [List.set_cons_zero, List.set_cons_succ]
    refine sq (v := .bool false) rfl (r_move rfl rfl) rfl rfl rfl ?_
    refine sk s10 rfl rfl rfl rfl ?_
    refine sk s10 rfl rfl rfl rfl ?_
    refine sk s10 rfl rfl rfl rfl ?_
    refine sk s10 rfl rfl rfl rfl ?_
    simp only [List.set_cons_zero, List.set_cons_succ]
    refine sk s10 rfl rfl rfl rfl ?_
    refine sq (v := .bool false) rfl (r_pick rfl rfl rfl) rfl rfl rfl ?_
    refine sq (v := .bool false) rfl (r_move rfl rfl) rfl rfl rfl ?_
    refine sk s10 rfl rfl rfl rfl ?_
    refine sk s10 rfl rfl rfl rfl ?_
    simp only [List.set_cons_zero, List.set_cons_succ]
    refine sk s10 rfl rfl rfl rfl ?_
    refine sq (v := .bool false) rfl (r_pick rfl rfl rfl) rfl rfl rfl ?_
    refine sq (v := .bool false) rfl (r_assign rfl rfl) rfl rfl rfl ?_
    refine sch_end ?_
    simp only [List.set_cons_zero, List.set_cons_succ]
    have x6 := SG.blk s10 x6 (by simp)
    have c29 := (SG.belowR c9 s10 (fun kq e => by cases e))
    refine h2 _ _ ?_
    refine wp_ret ?_
    try simp only [Exit.then]
    refine ret1 rfl rfl ?_
    exact ⟨ret_bool (by simp [pipeOk, q13]), c29⟩

set_option maxRecDepth 100000 in
set_option maxHeartbeats 1000000 in
theorem other_any (p : Pp) (u : Int) (w : World) :
    Calls Try.prog 48 #[.agg #[.int .i64 p.id, .int .i64 p.fr, .int .i64 p.to, .int .i64 p.sz], .int .i64 u] w fun e w' => e = .returned (.int .i64 (otherOf p u)) ∧ Below w.heap.size w w' := by
  go_enter Try.func48, Try.ntmps48
  refine wp_seq_k (fun K1 h1 => ?_)
  refine region_plain (row := none) [(0, true), (1, false)] rfl ?_
  have s1 := SG.self w none
  refine sn (fun b => .pointer (some ⟨b, 0, none⟩)) #[.int .i64 p.id, .int .i64 p.fr, .int .i64 p.to, .int .i64 p.sz] 51 s1 rfl rfl rfl (fun _ => by kernel_rfl) (fun b2 w3 hb4 k5 x6 s7 => ?_)
  have lo8 : w.heap.size ≤ b2 := by have := ((SG.belowR (Below.refl _ _) s1 (fun kq e => by cases e))).size; omega
  refine sq (v := .int .i64 0) rfl (r_assign rfl rfl) rfl rfl rfl ?_
  refine sch_end ?_
  simp only [List.set_cons_zero, List.set_cons_succ]
  have c9 := (SG.belowR (Below.refl _ _) s7 (fun kq e => by cases e))
  refine h1 _ _ ?_
  refine wp_seq_k (fun K2 h2 => ?_)
  refine wp_seq_k (fun K3 h3 => ?_)
  refine region_quiet [(0, false)] rfl ?_
  refine sq (v := .int .i64 u) rfl (r_move rfl rfl) rfl rfl rfl ?_
  refine sch_end ?_
  simp only [List.set_cons_zero, List.set_cons_succ]
  refine h3 _ _ ?_
  refine wp_block ?_
  refine wp_seq_k (fun K4 h4 => ?_)
  refine region_quiet [(0, false), (1, false), (2, false), (3, false)] rfl ?_
  refine sq (v := .pointer (some ⟨b2, 1, none⟩)) rfl (r_field (k := 1) rfl rfl (by kernel_rfl)) rfl rfl rfl ?_
  refine sq (v := .int .i64 p.fr) rfl (r_load rfl rfl (by kernel_rfl) (eqS (blk_cell (j := 1) x6 rfl))) rfl rfl rfl ?_
  by_cases q10 : (u : Int) = (p.fr : Int)
  · refine sq (v := .bool true) rfl (r_eql rfl rfl rfl (decide_eq_true q10)) rfl rfl rfl ?_
    refine sq (v := .bool true) rfl (r_assign rfl rfl) rfl rfl rfl ?_
    refine sch_end ?_
    simp only [List.set_cons_zero, List.set_cons_succ]
    refine h4 _ _ ?_
    refine wp_cond_true rfl ?_
    refine wp_seq_k (fun K5 h5 => ?_)
    refine region_quiet [(0, false), (1, false), (2, false)] rfl ?_
    refine sq (v := .pointer (some ⟨b2, 2, none⟩)) rfl (r_field (k := 2) rfl rfl (by kernel_rfl)) rfl rfl rfl ?_
    refine sq (v := .int .i64 p.to) rfl (r_load rfl rfl (by kernel_rfl) (eqS (blk_cell (j := 2) x6 rfl))) rfl rfl rfl ?_
    refine sq (v := .int .i64 p.to) rfl (r_assign rfl rfl) rfl rfl rfl ?_
    refine sch_end ?_
    simp only [List.set_cons_zero, List.set_cons_succ]
    refine h5 _ _ ?_
    refine wp_ret ?_
    try simp only [Exit.then, Exit.inBlock]
    refine ret1 rfl rfl ?_
    exact ⟨ret_int (by unfold otherOf; first | rw [if_pos q10] | rw [if_neg q10, if_pos q10] | rw [if_neg q10, if_neg q10]), c9⟩
  · refine sq (v := .bool false) rfl (r_eql rfl rfl rfl (decide_eq_false q10)) rfl rfl rfl ?_
    refine sq (v := .bool false) rfl (r_assign rfl rfl) rfl rfl rfl ?_
    refine sch_end ?_
    simp only [List.set_cons_zero, List.set_cons_succ]
    refine h4 _ _ ?_
    refine wp_cond_false rfl ?_
    refine wp_seq_k (fun K6 h6 => ?_)
    refine region_quiet [(0, false), (1, false), (2, false), (3, false)] rfl ?_
    refine sq (v := .pointer (some ⟨b2, 2, none⟩)) rfl (r_field (k := 2) rfl rfl (by kernel_rfl)) rfl rfl rfl ?_
    refine sq (v := .int .i64 p.to) rfl (r_load rfl rfl (by kernel_rfl) (eqS (blk_cell (j := 2) x6 rfl))) rfl rfl rfl ?_
    by_cases q11 : (u : Int) = (p.to : Int)
    · refine sq (v := .bool true) rfl (r_eql rfl rfl rfl (decide_eq_true q11)) rfl rfl rfl ?_
      refine sq (v := .bool true) rfl (r_assign rfl rfl) rfl rfl rfl ?_
      refine sch_end ?_
      simp only [List.set_cons_zero, List.set_cons_succ]
      refine h6 _ _ ?_
      refine wp_cond_true rfl ?_
      refine wp_seq_k (fun K7 h7 => ?_)
      refine region_quiet [(0, false), (1, false), (2, false)] rfl ?_
      refine sq (v := .pointer (some ⟨b2, 1, none⟩)) rfl (r_field (k := 1) rfl rfl (by kernel_rfl)) rfl rfl rfl ?_
      refine sq (v := .int .i64 p.fr) rfl (r_load rfl rfl (by kernel_rfl) (eqS (blk_cell (j := 1) x6 rfl))) rfl rfl rfl ?_
      refine sq (v := .int .i64 p.fr) rfl (r_assign rfl rfl) rfl rfl rfl ?_
      refine sch_end ?_
      simp only [List.set_cons_zero, List.set_cons_succ]
      refine h7 _ _ ?_
      refine wp_ret ?_
      try simp only [Exit.then, Exit.inBlock]
      refine ret1 rfl rfl ?_
      exact ⟨ret_int (by unfold otherOf; first | rw [if_pos q10] | rw [if_neg q10, if_pos q11] | rw [if_neg q10, if_neg q11]), c9⟩
    · refine sq (v := .bool false) rfl (r_eql rfl rfl rfl (decide_eq_false q11)) rfl rfl rfl ?_
      refine sq (v := .bool false) rfl (r_assign rfl rfl) rfl rfl rfl ?_
      refine sch_end ?_
      simp only [List.set_cons_zero, List.set_cons_succ]
      refine h6 _ _ ?_
      refine wp_cond_false rfl ?_
      refine wp_skip ?_
      refine h2 _ _ ?_
      refine wp_seq_k (fun K8 h8 => ?_)
      refine region_quiet [(0, false)] rfl ?_
      refine sq (v := .int .i64 0) rfl (r_assign rfl rfl) rfl rfl rfl ?_
      refine sch_end ?_
      simp only [List.set_cons_zero, List.set_cons_succ]
      refine h8 _ _ ?_
      refine wp_ret ?_
      try simp only [Exit.then]
      refine ret1 rfl rfl ?_
      exact ⟨ret_int (by unfold otherOf; first | rw [if_pos q10] | rw [if_neg q10, if_pos q11] | rw [if_neg q10, if_neg q11]), c9⟩

set_option maxRecDepth 100000 in
set_option maxHeartbeats 1000000 in
theorem l2Good_any (m : Int) (A : Option Addr) (n c : Nat) (ps : List Pp) (w : World) (ha : Rd w 4 A n (pipesV ps)) (hn : n ≤ 1048576) :
    Calls Try.prog 33 #[.agg #[.int .i64 m, .slice A n c]] w fun e w' => e = .returned (.bool (goodN m ps)) ∧ Below w.heap.size w w' := by
  have hl := rd_pipes_len ha
  go_enter Try.func33, Try.ntmps33
  refine wp_seq_k (fun K1 h1 => ?_)
  refine region_plain (row := none) [(0, true), (1, false)] rfl ?_
  have s1 := SG.self w none
  refine sn (fun b => .pointer (some ⟨b, 0, none⟩)) #[.int .i64 m, .slice A n c] 31 s1 rfl rfl rfl (fun _ => by kernel_rfl) (fun b2 w3 hb4 k5 x6 s7 => ?_)
  have lo8 : w.heap.size ≤ b2 := by have := ((SG.belowR (Below.refl _ _) s1 (fun kq e => by cases e))).size; omega
  refine sq (v := .bool false) rfl (r_assign rfl rfl) rfl rfl rfl ?_
  refine sch_end ?_
  simp only [List.set_cons_zero, List.set_cons_succ]
  have c9 := (SG.belowR (Below.refl _ _) s7 (fun kq e => by cases e))
  refine h1 _ _ ?_
  refine wp_seq_k (fun K2 h2 => ?_)
  refine wp_seq_k (fun K3 h3 => ?_)
  refine region_quiet [(0, false)] rfl ?_
  refine sq (v := .int .i64 0) rfl (r_assign rfl rfl) rfl rfl rfl ?_
  refine sch_end ?_
  simp only [List.set_cons_zero, List.set_cons_succ]
  refine h3 _ _ ?_
  refine wp_block ?_
  refine loopK (fun am0 aa0 wl0 => ∃ (K : Nat) (u0_4 u0_5 u0_6 u0_7 u0_8 u0_9 u0_10 u0_11 u0_12 u0_13 u0_14 u0_15 u0_16 u0_17 u0_18 u0_19 u0_20 u0_21 u0_22 u0_23 u0_24 u0_25 u0_26 u0_27 u0_28 u0_29 u0_30 u0_31 u0_32 u0_33 u0_34 u0_35 u0_36 u0_37 u0_38 u0_39 u0_40 u0_41 u0_42 u0_43 : Value), aa0 = ⟨[.agg #[.int .i64 m, .slice A n c], .pointer (some ⟨b2, 0, none⟩), .bool false, .int .i64 ((K : Nat) : Int), u0_4, u0_5, u0_6, u0_7, u0_8, u0_9, u0_10, u0_11, u0_12, u0_13, u0_14, u0_15, u0_16, u0_17, u0_18, u0_19, u0_20, u0_21, u0_22, u0_23, u0_24, u0_25, u0_26, u0_27, u0_28, u0_29, u0_30, u0_31, u0_32, u0_33, u0_34, u0_35, u0_36, u0_37, u0_38, u0_39, u0_40, u0_41, u0_42, u0_43, undef, undef, undef, undef, undef, undef, undef, undef, undef].toArray, []⟩ ∧ (am0 = n - K) ∧ (K ≤ n) ∧ (K ≤ 11) ∧ (okTo m ps K = true) ∧ (wl0.heap[b2]? = some (.cells #[.int .i64 m, .slice A n c] 31 (0, 0))) ∧ (Below w.heap.size w wl0)) (n - 0) ?_ ?_
  · exact ⟨0, _, _, _, _, _, _, _, _, _, _, _, _, _, _, _, _, _, _, _, _, _, _, _, _, _, _, _, _, _, _, _, _, _, _, _, _, _, _, _, _, rfl, rfl, (Nat.zero_le _), (Nat.zero_le _), rfl, x6, c9⟩
  rintro am0 aa0 wl0 K4 h4 ⟨K, u0_4, u0_5, u0_6, u0_7, u0_8, u0_9, u0_10, u0_11, u0_12, u0_13, u0_14, u0_15, u0_16, u0_17, u0_18, u0_19, u0_20, u0_21, u0_22, u0_23, u0_24, u0_25, u0_26, u0_27, u0_28, u0_29, u0_30, u0_31, u0_32, u0_33, u0_34, u0_35, u0_36, u0_37, u0_38, u0_39, u0_40, u0_41, u0_42, u0_43, rfl, rfl, hk, hk11, hok, x6, c10⟩
  refine wp_seq_k (fun K5 h5 => ?_)
  refine wp_seq_k (fun K6 h6 => ?_)
  refine region_quiet [(0, false), (1, false), (2, false), (3, false), (4, false), (5, false), (6, false), (7, false), (8, false)] rfl ?_
  refine sq (v := .int .i64 ((K : Nat) : Int)) rfl (r_move rfl rfl) rfl rfl rfl ?_
  refine sq (v := .pointer (some ⟨b2, 1, none⟩)) rfl (r_field (k := 1) rfl rfl (by kernel_rfl)) rfl rfl rfl ?_
  refine sq (v := .slice A n c) rfl (r_load rfl rfl (by kernel_rfl) (eqS (blk_cell (j := 1) x6 rfl))) rfl rfl rfl ?_
  refine sq (v := .int .i64 ((n : Nat) : Int)) rfl (r_len rfl rfl (by kernel_rfl)) rfl rfl rfl ?_
  by_cases q11 : (((K : Nat) : Int) : Int) < (((n : Nat) : Int) : Int)
  · refine sq (v := .bool true) rfl (r_lss rfl rfl rfl (decide_eq_true q11)) rfl rfl rfl ?_
    simp only [List.set_cons_zero, List.set_cons_succ]
    refine sq (v := .bool true) rfl (r_move rfl rfl) rfl rfl rfl ?_
    refine sq (v := .int .i64 ((K : Nat) : Int)) rfl (r_move rfl rfl) rfl rfl rfl ?_
    by_cases q12 : (((K : Nat) : Int) : Int) ≤ (10 : Int)
    · refine sq (v := .bool true) rfl (r_leq rfl rfl rfl (decide_eq_true q12)) rfl rfl rfl ?_
      refine sq (v := .bool true) rfl (r_pick rfl rfl rfl) rfl rfl rfl ?_
      refine sch_end ?_
      simp only [List.set_cons_zero, List.set_cons_succ]
      refine h6 _ _ ?_
      refine wp_cond_true rfl ?_
      refine wp_skip ?_
      refine h5 _ _ ?_
      refine wp_seq_k (fun K7 h7 => ?_)
      refine wp_block ?_
      refine wp_seq_k (fun K8 h8 => ?_)
      refine region_sch (row := none) (Sch.of [(0, false), (1, false), (2, false), (3, false), (4, false), (5, false), (6, false), (7, true), (8, false), (9, false), (10, false), (11, false), (12, false), (13, false), (14, false), (15, false), (16, false), (17, false), (18, false), (19, false), (20, false), (21, false), (22, false), (23, false), (24, false), (25, false), (26, false), (27, false), (28, false)]) (by kernel_rfl) (by kernel_rfl) (fun _ d _ _ _ h => by cases d <;> exact h) (by kernel_rfl) (fun w13 e14 s15 => ?_)
      refine sq (v := .pointer (some ⟨b2, 0, none⟩)) rfl (r_field0 rfl rfl (by kernel_rfl)) rfl rfl rfl ?_
      refine sq (v := .int .i64 m) rfl (r_load rfl rfl (by kernel_rfl) (sgS (blk_cell (j := 0) x6 rfl) (by simp))) rfl rfl rfl ?_
      refine sq (v := .pointer (some ⟨b2, 1, none⟩)) rfl (r_field (k := 1) rfl rfl (by kernel_rfl)) rfl rfl rfl ?_
      refine sq (v := .slice A n c) rfl (r_load rfl rfl (by kernel_rfl) (sgS (blk_cell (j := 1) x6 rfl) (by simp))) rfl rfl rfl ?_
      refine sq (v := .int .i64 ((K : Nat) : Int)) rfl (r_move rfl rfl) rfl rfl rfl ?_
      simp only [List.set_cons_zero, List.set_cons_succ]
      obtain ⟨x16, hx17⟩ := get_of (zs := ps) (k := K) (by have := hl; omega)
      obtain ⟨b18, o19, hA20, hb21, hc22, hc23, hc24, hc25⟩ := Rd.elPipe ha hx17
      refine sq (v := .pointer (some ⟨b18, o19 + K * 4, none⟩)) rfl (r_idx (k := K) rfl rfl hA20 rfl (by kernel_rfl) (by have := hl; omega)) rfl rfl rfl ?_
      refine sq (v := .agg #[.int .i64 x16.id, .int .i64 x16.fr, .int .i64 x16.to, .int .i64 x16.sz]) rfl (r_load4 rfl rfl (by kernel_rfl) (by kernel_rfl) (sgS (later c10 hc22) (by simp)) (sgS (later c10 hc23) (by simp)) (sgS (later c10 hc24) (by simp)) (sgS (later c10 hc25) (by simp))) rfl rfl rfl ?_
      refine sc (vs := [.int .i64 m, .agg #[.int .i64 x16.id, .int .i64 x16.fr, .int .i64 x16.to, .int .i64 x16.sz]]) rfl rfl rfl (by kernel_rfl) rfl rfl (l2Pipe_any m x16 _) ?_
      rintro e w27 ⟨rfl, b26⟩
      have s28 := SG.of_below s15 b26
      refine ⟨_, rfl, s28, ?_⟩
      rcases Bool.eq_false_or_eq_true (pipeOk m x16) with q29 | q29
      · rw [q29]
        refine sq (v := .bool false) rfl (r_not rfl rfl rfl) rfl rfl rfl ?_
        refine sq (v := .bool false) rfl (r_move rfl rfl) rfl rfl rfl ?_
        simp only [List.set_cons_zero, List.set_cons_succ]
        refine sq (v := .int .i64 ((K : Nat) : Int)) rfl (r_move rfl rfl) rfl rfl rfl ?_
        by_cases q30 : (((K : Nat) : Int) : Int) > (0 : Int)
        · obtain ⟨k, rfl⟩ : ∃ k, K = k + 1 := ⟨K - 1, by omega⟩
          refine sq (v := .bool true) rfl (r_gtr rfl rfl rfl (decide_eq_true q30)) rfl rfl rfl ?_
          refine sq (v := .bool true) rfl (r_move rfl rfl) rfl rfl rfl ?_
          refine sq (v := .pointer (some ⟨b2, 1, none⟩)) rfl (r_field (k := 1) rfl rfl (by kernel_rfl)) rfl rfl rfl ?_
          refine sq (v := .slice A n c) rfl (r_load rfl rfl (by kernel_rfl) (sgS (blk_cell (j := 1) x6 rfl) (by simp))) rfl rfl rfl ?_
          simp only [List.set_cons_zero, List.set_cons_succ]
          refine sq (v := .int .i64 (((k + 1) : Nat) : Int)) rfl (r_move rfl rfl) rfl rfl rfl ?_
          refine sq (v := .int .i64 ((k : Nat) : Int)) rfl (r_sub (z := ((k : Nat) : Int)) rfl rfl rfl (by omega) (by omega)) rfl rfl rfl ?_
          obtain ⟨x31, hx32⟩ := get_of (zs := ps) (k := k) (by have := hl; omega)
          obtain ⟨b33, o34, hA35, hb36, hc37, hc38, hc39, hc40⟩ := Rd.elPipe ha hx32
          refine sq (v := .pointer (some ⟨b33, o34 + k * 4, none⟩)) rfl (r_idx (k := k) rfl rfl hA35 rfl (by kernel_rfl) (by have := hl; omega)) rfl rfl rfl ?_
          refine sq (v := .pointer (some ⟨b33, o34 + k * 4, none⟩)) rfl (r_field0 rfl rfl (by kernel_rfl)) rfl rfl rfl ?_
          refine sq (v := .int .i64 x31.id) rfl (r_load rfl rfl (by kernel_rfl) (sgS (later c10 hc37) (by simp))) rfl rfl rfl ?_
          simp only [List.set_cons_zero, List.set_cons_succ]
          refine sq (v := .pointer (some ⟨b2, 1, none⟩)) rfl (r_field (k := 1) rfl rfl (by kernel_rfl)) rfl rfl rfl ?_
          refine sq (v := .slice A n c) rfl (r_load rfl rfl (by kernel_rfl) (sgS (blk_cell (j := 1) x6 rfl) (by simp))) rfl rfl rfl ?_
          refine sq (v := .int .i64 (((k + 1) : Nat) : Int)) rfl (r_move rfl rfl) rfl rfl rfl ?_
          refine sq (v := .pointer (some ⟨b18, o19 + (k + 1) * 4, none⟩)) rfl (r_idx (k := (k + 1)) rfl rfl hA20 rfl (by kernel_rfl) (by have := hl; omega)) rfl rfl rfl ?_
          refine sq (v := .pointer (some ⟨b18, o19 + (k + 1) * 4, none⟩)) rfl (r_field0 rfl rfl (by kernel_rfl)) rfl rfl rfl ?_
          simp only [List.set_cons_zero, List.set_cons_succ]
          refine sq (v := .int .i64 x16.id) rfl (r_load rfl rfl (by kernel_rfl) (sgS (later c10 hc22) (by simp))) rfl rfl rfl ?_
          by_cases q41 : (x31.id : Int) ≥ (x16.id : Int)
          · refine sq (v := .bool true) rfl (r_geq rfl rfl rfl (decide_eq_true q41)) rfl rfl rfl ?_
            refine sq (v := .bool true) rfl (r_pick rfl rfl rfl) rfl rfl rfl ?_
            refine sq (v := .bool true) rfl (r_pick rfl rfl rfl) rfl rfl rfl ?_
            refine sch_end ?_
            simp only [List.set_cons_zero, List.set_cons_succ]
            have x6 := SG.blk s28 x6 (by simp)
            have c42 := (SG.belowR c10 s28 (fun kq e => by cases e))
            refine h8 _ _ ?_
            refine wp_cond_true rfl ?_
            refine wp_seq_k (fun K9 h9 => ?_)
            refine region_quiet [(0, false)] rfl ?_
            refine sq (v := .bool false) rfl (r_assign rfl rfl) rfl rfl rfl ?_
            refine sch_end ?_
            simp only [List.set_cons_zero, List.set_cons_succ]
            refine h9 _ _ ?_
            refine wp_ret ?_
            try simp only [Exit.then, Exit.inBlock]
            refine ret1 rfl rfl ?_
            exact ⟨ret_bool (goodN_bad (k := k + 1) (by omega) (by rw [okAt_next hx17 hx32, q29]; have := q41; simp; omega)).symm, c42⟩
          · refine sq (v := .bool false) rfl (r_geq rfl rfl rfl (decide_eq_false q41)) rfl rfl rfl ?_
            refine sq (v := .bool false) rfl (r_pick rfl rfl rfl) rfl rfl rfl ?_
            refine sq (v := .bool false) rfl (r_pick rfl rfl rfl) rfl rfl rfl ?_
            refine sch_end ?_
            simp only [List.set_cons_zero, List.set_cons_succ]
            have x6 := SG.blk s28 x6 (by simp)
            have c43 := (SG.belowR c10 s28 (fun kq e => by cases e))
            refine h8 _ _ ?_
            refine wp_cond_false rfl ?_
            refine wp_skip ?_
            refine h7 _ _ ?_
            refine region_quiet [(0, false), (1, false), (2, false)] rfl ?_
            refine sq (v := .int .i64 (((k + 1) : Nat) : Int)) rfl (r_move rfl rfl) rfl rfl rfl ?_
            refine sq (v := .int .i64 (((k + 1) + 1 : Nat) : Int)) rfl (r_add (z := (((k + 1) + 1 : Nat) : Int)) rfl rfl rfl (by omega) (by omega)) rfl rfl rfl ?_
            refine sq (v := .int .i64 (((k + 1) + 1 : Nat) : Int)) rfl (r_assign rfl rfl) rfl rfl rfl ?_
            refine sch_end ?_
            simp only [List.set_cons_zero, List.set_cons_succ]
            exact h4 _ _ _ (by omega : (n - (k + 1 + 1)) < _) ⟨k + 1 + 1, _, _, _, _, _, _, _, _, _, _, _, _, _, _, _, _, _, _, _, _, _, _, _, _, _, _, _, _, _, _, _, _, _, _, _, _, _, _, _, _, rfl, rfl, (by omega), (by omega), (okTo_next hok (by rw [okAt_next hx17 hx32, q29]; have := q41; simp; omega)), x6, c43⟩
        · refine sq (v := .bool false) rfl (r_gtr rfl rfl rfl (decide_eq_false q30)) rfl rfl rfl ?_
          refine sq (v := .bool false) rfl (r_move rfl rfl) rfl rfl rfl ?_
          refine sk s28 rfl rfl rfl rfl ?_
          refine sk s28 rfl rfl rfl rfl ?_
          simp only [List.set_cons_zero, List.set_cons_succ]
          refine sk s28 rfl rfl rfl rfl ?_
          refine sk s28 rfl rfl rfl rfl ?_
          refine sk s28 rfl rfl rfl rfl ?_
          refine sk s28 rfl rfl rfl rfl ?_
          refine sk s28 rfl rfl rfl rfl ?_
          simp only [List.set_cons_zero, List.set_cons_succ]
          refine sk s28 rfl rfl rfl rfl ?_
          refine sk s28 rfl rfl rfl rfl ?_
          refine sk s28 rfl rfl rfl rfl ?_
          refine sk s28 rfl rfl rfl rfl ?_
          refine sk s28 rfl rfl rfl rfl ?_
          simp only [List.set_cons_zero, List.set_cons_succ]
          refine sk s28 rfl rfl rfl rfl ?_
          refine sk s28 rfl rfl rfl rfl ?_
          refine sq (v := .bool false) rfl (r_pick rfl rfl rfl) rfl rfl rfl ?_
          refine sq (v := .bool false) rfl (r_pick rfl rfl rfl) rfl rfl rfl ?_
          refine sch_end ?_
          simp only [List.set_cons_zero, List.set_cons_succ]
          have x6 := SG.blk s28 x6 (by simp)
          have c44 := (SG.belowR c10 s28 (fun kq e => by cases e))
          refine h8 _ _ ?_
          refine wp_cond_false rfl ?_
          refine wp_skip ?_
          refine h7 _ _ ?_
          refine region_quiet [(0, false), (1, false), (2, false)] rfl ?_
          refine sq (v := .int .i64 ((K : Nat) : Int)) rfl (r_move rfl rfl) rfl rfl rfl ?_
          refine sq (v := .int .i64 ((K + 1 : Nat) : Int)) rfl (r_add (z := ((K + 1 : Nat) : Int)) rfl rfl rfl (by omega) (by omega)) rfl rfl rfl ?_
          refine sq (v := .int .i64 ((K + 1 : Nat) : Int)) rfl (r_assign rfl rfl) rfl rfl rfl ?_
          refine sch_end ?_
          simp only [List.set_cons_zero, List.set_cons_succ]
          exact h4 _ _ _ (by omega : (n - (K + 1)) < _) ⟨K + 1, _, _, _, _, _, _, _, _, _, _, _, _, _, _, _, _, _, _, _, _, _, _, _, _, _, _, _, _, _, _, _, _, _, _, _, _, _, _, _, _, rfl, rfl, (by omega), (by omega), (okTo_next hok (by have e0 : K = 0 := (by omega); subst e0; rw [okAt_zero hx17]; exact q29)), x6, c44⟩
      · rw [q29]
        refine sq (v := .bool true) rfl (r_not rfl rfl rfl) rfl rfl rfl ?_
        refine sq (v := .bool true) rfl (r_move rfl rfl) rfl rfl rfl ?_
        simp only [List.set_cons_zero, List.set_cons_succ]
        refine sk s28 rfl rfl rfl rfl ?_
        refine sk s28 rfl rfl rfl rfl ?_
        refine sk s28 rfl rfl rfl rfl ?_
        refine sk s28 rfl rfl rfl rfl ?_
        refine sk s28 rfl rfl rfl rfl ?_
        simp only [List.set_cons_zero, List.set_cons_succ]
        refine sk s28 rfl rfl rfl rfl ?_
        refine sk s28 rfl rfl rfl rfl ?_
        refine sk s28 rfl rfl rfl rfl ?_
        refine sk s28 rfl rfl rfl rfl ?_
        refine sk s28 rfl rfl rfl rfl ?_
        simp only [List.set_cons_zero, List.set_cons_succ]
        refine sk s28 rfl rfl rfl rfl ?_
        refine sk s28 rfl rfl rfl rfl ?_
        refine sk s28 rfl rfl rfl rfl ?_
        refine sk s28 rfl rfl rfl rfl ?_
        refine sk s28 rfl rfl rfl rfl ?_
        simp only [List.set_cons_zero, List.set_cons_succ]
        refine sk s28 rfl rfl rfl rfl ?_
        refine sk s28 rfl rfl rfl rfl ?_
        refine sk s28 rfl rfl rfl rfl ?_
        refine sq (v := .bool true) rfl (r_pick rfl rfl rfl) rfl rfl rfl ?_
        refine sch_end ?_
        simp only [List.set_cons_zero, List.set_cons_succ]
        have x6 := SG.blk s28 x6 (by simp)
        have c45 := (SG.belowR c10 s28 (fun kq e => by cases e))
        refine h8 _ _ ?_
        refine wp_cond_true rfl ?_
        refine wp_seq_k (fun K10 h10 => ?_)
        refine region_quiet [(0, false)] rfl ?_
        refine sq (v := .bool false) rfl (r_assign rfl rfl) rfl rfl rfl ?_
        refine sch_end ?_
        simp only [List.set_cons_zero, List.set_cons_succ]
        refine h10 _ _ ?_
        refine wp_ret ?_
        try simp only [Exit.then, Exit.inBlock]
        refine ret1 rfl rfl ?_
        exact ⟨ret_bool (goodN_bad (k := K) (by omega) (okAt_pipe hx17 q29)).symm, c45⟩
    · refine sq (v := .bool false) rfl (r_leq rfl rfl rfl (decide_eq_false q12)) rfl rfl rfl ?_
      refine sq (v := .bool false) rfl (r_pick rfl rfl rfl) rfl rfl rfl ?_
      refine sch_end ?_
      simp only [List.set_cons_zero, List.set_cons_succ]
      refine h6 _ _ ?_
      refine wp_cond_false rfl ?_
      refine wp_exit ?_
      refine h2 _ _ ?_
      refine wp_seq_k (fun K11 h11 => ?_)
      refine region_plain (row := none) [(0, false), (1, false), (2, true), (3, false), (4, false), (5, false), (6, false), (7, false), (8, false), (9, false)] rfl ?_
      have s46 := SG.self wl0 none
      refine sq (v := .pointer (some ⟨b2, 0, none⟩)) rfl (r_field0 rfl rfl (by kernel_rfl)) rfl rfl rfl ?_
      refine sq (v := .int .i64 m) rfl (r_load rfl rfl (by kernel_rfl) (sgS (blk_cell (j := 0) x6 rfl) (by simp))) rfl rfl rfl ?_
      refine sc (vs := [.int .i64 m, .int .i64 1, .int .i64 8]) rfl rfl rfl (by kernel_rfl) rfl rfl (l1In_any m 1 8 _) ?_
      rintro e w' ⟨rfl, rfl⟩
      refine ⟨_, rfl, s46, ?_⟩
      rcases Bool.eq_false_or_eq_true (inB m 1 8) with q49 | q49
      · rw [q49]
        refine sq (v := .bool true) rfl (r_move rfl rfl) rfl rfl rfl ?_
        refine sq (v := .pointer (some ⟨b2, 1, none⟩)) rfl (r_field (k := 1) rfl rfl (by kernel_rfl)) rfl rfl rfl ?_
        simp only [List.set_cons_zero, List.set_cons_succ]
        refine sq (v := .slice A n c) rfl (r_load rfl rfl (by kernel_rfl) (sgS (blk_cell (j := 1) x6 rfl) (by simp))) rfl rfl rfl ?_
        refine sq (v := .int .i64 ((n : Nat) : Int)) rfl (r_len rfl rfl (by kernel_rfl)) rfl rfl rfl ?_
        by_cases q50 : (((n : Nat) : Int) : Int) ≤ (10 : Int)
        · refine sq (v := .bool true) rfl (r_leq rfl rfl rfl (decide_eq_true q50)) rfl rfl rfl ?_
          refine sq (v := .bool true) rfl (r_pick rfl rfl rfl) rfl rfl rfl ?_
          refine sq (v := .bool true) rfl (r_assign rfl rfl) rfl rfl rfl ?_
          simp only [List.set_cons_zero, List.set_cons_succ]
          refine sch_end ?_
          have x6 := SG.blk s46 x6 (by simp)
          have c51 := (SG.belowR c10 s46 (fun kq e => by cases e))
          refine h11 _ _ ?_
          refine wp_ret ?_
          try simp only [Exit.then]
          refine ret1 rfl rfl ?_
          exact ⟨ret_bool (by rw [goodN_fin hl hk hok (by omega)]; simp [q49, q50]), c51⟩
        · refine sq (v := .bool false) rfl (r_leq rfl rfl rfl (decide_eq_false q50)) rfl rfl rfl ?_
          refine sq (v := .bool false) rfl (r_pick rfl rfl rfl) rfl rfl rfl ?_
          refine sq (v := .bool false) rfl (r_assign rfl rfl) rfl rfl rfl ?_
          simp only [List.set_cons_zero, List.set_cons_succ]
          refine sch_end ?_
          have x6 := SG.blk s46 x6 (by simp)
          have c52 := (SG.belowR c10 s46 (fun kq e => by cases e))
          refine h11 _ _ ?_
          refine wp_ret ?_
          try simp only [Exit.then]
          refine ret1 rfl rfl ?_
          exact ⟨ret_bool (by rw [goodN_fin hl hk hok (by omega)]; simp [q49, q50]), c52⟩
      · rw [q49]
        refine sq (v := .bool false) rfl (r_move rfl rfl) rfl rfl rfl ?_
        refine sk s46 rfl rfl rfl rfl ?_
        simp only [List.set_cons_zero, List.set_cons_succ]
        refine sk s46 rfl rfl rfl rfl ?_
        refine sk s46 rfl rfl rfl rfl ?_
        refine sk s46 rfl rfl rfl rfl ?_
        refine sq (v := .bool false) rfl (r_pick rfl rfl rfl) rfl rfl rfl ?_
        refine sq (v := .bool false) rfl (r_assign rfl rfl) rfl rfl rfl ?_
        simp only [List.set_cons_zero, List.set_cons_succ]
        refine sch_end ?_
        have x6 := SG.blk s46 x6 (by simp)
        have c53 := (SG.belowR c10 s46 (fun kq e => by cases e))
        refine h11 _ _ ?_
        refine wp_ret ?_
        try simp only [Exit.then]
        refine ret1 rfl rfl ?_
        exact ⟨ret_bool (by rw [goodN_fin hl hk hok (by omega)]; simp [q49]), c53⟩
  · refine sq (v := .bool false) rfl (r_lss rfl rfl rfl (decide_eq_false q11)) rfl rfl rfl ?_
    simp only [List.set_cons_zero, List.set_cons_succ]
    refine sq (v := .bool false) rfl (r_move rfl rfl) rfl rfl rfl ?_
    refine sk rfl rfl rfl rfl rfl ?_
    refine sk rfl rfl rfl rfl rfl ?_
    refine sq (v := .bool false) rfl (r_pick rfl rfl rfl) rfl rfl rfl ?_
    refine sch_end ?_
    simp only [List.set_cons_zero, List.set_cons_succ]
    refine h6 _ _ ?_
    refine wp_cond_false rfl ?_
    refine wp_exit ?_
    refine h2 _ _ ?_
    refine wp_seq_k (fun K12 h12 => ?_)
    refine region_plain (row := none) [(0, false), (1, false), (2, true), (3, false), (4, false), (5, false), (6, false), (7, false), (8, false), (9, false)] rfl ?_
    have s54 := SG.self wl0 none
    refine sq (v := .pointer (some ⟨b2, 0, none⟩)) rfl (r_field0 rfl rfl (by kernel_rfl)) rfl rfl rfl ?_
    refine sq (v := .int .i64 m) rfl (r_load rfl rfl (by kernel_rfl) (sgS (blk_cell (j := 0) x6 rfl) (by simp))) rfl rfl rfl ?_
    refine sc (vs := [.int .i64 m, .int .i64 1, .int .i64 8]) rfl rfl rfl (by kernel_rfl) rfl rfl (l1In_any m 1 8 _) ?_
    rintro e w' ⟨rfl, rfl⟩
    refine ⟨_, rfl, s54, ?_⟩
    rcases Bool.eq_false_or_eq_true (inB m 1 8) with q57 | q57
    · rw [q57]
      refine sq (v := .bool true) rfl (r_move rfl rfl) rfl rfl rfl ?_
      refine sq (v := .pointer (some ⟨b2, 1, none⟩)) rfl (r_field (k := 1) rfl rfl (by kernel_rfl)) rfl rfl rfl ?_
      simp only [List.set_cons_zero, List.set_cons_succ]
      refine sq (v := .slice A n c) rfl (r_load rfl rfl (by kernel_rfl) (sgS (blk_cell (j := 1) x6 rfl) (by simp))) rfl rfl rfl ?_
      refine sq (v := .int .i64 ((n : Nat) : Int)) rfl (r_len rfl rfl (by kernel_rfl)) rfl rfl rfl ?_
      by_cases q58 : (((n : Nat) : Int) : Int) ≤ (10 : Int)
      · refine sq (v := .bool true) rfl (r_leq rfl rfl rfl (decide_eq_true q58)) rfl rfl rfl ?_
        refine sq (v := .bool true) rfl (r_pick rfl rfl rfl) rfl rfl rfl ?_
        refine sq (v := .bool true) rfl (r_assign rfl rfl) rfl rfl rfl ?_
        simp only [List.set_cons_zero, List.set_cons_succ]
        refine sch_end ?_
        have x6 := SG.blk s54 x6 (by simp)
        have c59 := (SG.belowR c10 s54 (fun kq e => by cases e))
        refine h12 _ _ ?_
        refine wp_ret ?_
        try simp only [Exit.then]
        refine ret1 rfl rfl ?_
        exact ⟨ret_bool (by rw [goodN_fin hl hk hok (by omega)]; simp [q57, q58]), c59⟩
      · refine sq (v := .bool false) rfl (r_leq rfl rfl rfl (decide_eq_false q58)) rfl rfl rfl ?_
        refine sq (v := .bool false) rfl (r_pick rfl rfl rfl) rfl rfl rfl ?_
        refine sq (v := .bool false) rfl (r_assign rfl rfl) rfl rfl rfl ?_
        simp only [List.set_cons_zero, List.set_cons_succ]
        refine sch_end ?_
        have x6 := SG.blk s54 x6 (by simp)
        have c60 := (SG.belowR c10 s54 (fun kq e => by cases e))
        refine h12 _ _ ?_
        refine wp_ret ?_
        try simp only [Exit.then]
        refine ret1 rfl rfl ?_
        exact ⟨ret_bool (by rw [goodN_fin hl hk hok (by omega)]; simp [q57, q58]), c60⟩
    · rw [q57]
      refine sq (v := .bool false) rfl (r_move rfl rfl) rfl rfl rfl ?_
      refine sk s54 rfl rfl rfl rfl ?_
      simp only [List.set_cons_zero, List.set_cons_succ]
      refine sk s54 rfl rfl rfl rfl ?_
      refine sk s54 rfl rfl rfl rfl ?_
      refine sk s54 rfl rfl rfl rfl ?_
      refine sq (v := .bool false) rfl (r_pick rfl rfl rfl) rfl rfl rfl ?_
      refine sq (v := .bool false) rfl (r_assign rfl rfl) rfl rfl rfl ?_
      simp only [List.set_cons_zero, List.set_cons_succ]
      refine sch_end ?_
      have x6 := SG.blk s54 x6 (by simp)
      have c61 := (SG.belowR c10 s54 (fun kq e => by cases e))
      refine h12 _ _ ?_
      refine wp_ret ?_
      try simp only [Exit.then]
      refine ret1 rfl rfl ?_
      exact ⟨ret_bool (by rw [goodN_fin hl hk hok (by omega)]; simp [q57]), c61⟩

end Go.Proofs.Ytdlcldaogcbnlaa
