/- Lists and networks: single tests, by the engine. -/
import Derived.Test.YtdlcldaogcbnlaaDoorIn
import Derived.Test.YtdlcldaogcbnlaaDoorEl
import Derived.Test.YtdlcldaogcbnlaaDoorSch2
import Derived.Test.YtdlcldaogcbnlaaDoorReach
import Derived.Test.YtdlcldaogcbnlaaDoorFr2
namespace Go.Proofs.YtdlcldaogcbnlaaDoor
open Go.RowKit
set_option linter.unusedVariables false

def pipeOk (m : Int) (p : Pp) : Bool := inB p.id 1 99 && (inB p.fr 1 m && (inB p.to 1 m && (decide (p.fr ≠ p.to) && inB p.sz 1 9)))
/-- The pipe at k is a good pipe, and its number is above the one's before it. -/
def okAt (m : Int) (ps : List Pp) : Nat → Bool
  | 0 => match ps[0]? with | some p => pipeOk m p | none => true
  | k + 1 => match ps[k + 1]?, ps[k]? with | some p, some q => pipeOk m p && decide (q.id < p.id) | _, _ => true
def okTo (m : Int) (ps : List Pp) : Nat → Bool
  | 0 => true
  | k + 1 => okTo m ps k && okAt m ps k
def goodN (m : Int) (ps : List Pp) : Bool := inB m 1 8 && (decide (ps.length ≤ 10) && okTo m ps ps.length)
theorem okTo_bad {m : Int} {ps : List Pp} {k : Nat} (h : okAt m ps k = false) : ∀ n, k < n → okTo m ps n = false
  | 0, hk => absurd hk (by omega)
  | n + 1, hk => by
    by_cases e : k = n
    · subst e; unfold okTo; rw [h]; simp
    · unfold okTo; rw [okTo_bad h n (by omega)]; rfl
theorem goodN_bad {m : Int} {ps : List Pp} {k : Nat} (hk : k < ps.length) (h : okAt m ps k = false) : goodN m ps = false := by
  unfold goodN; rw [okTo_bad h _ hk]; simp
theorem okAt_zero {m : Int} {ps : List Pp} {x : Pp} (h : ps[0]? = some x) : okAt m ps 0 = pipeOk m x := by unfold okAt; rw [h]
theorem okAt_next {m : Int} {ps : List Pp} {k : Nat} {x y : Pp} (h : ps[k + 1]? = some x) (h' : ps[k]? = some y) : okAt m ps (k + 1) = (pipeOk m x && decide (y.id < x.id)) := by simp [okAt, h, h']
theorem okTo_next {m : Int} {ps : List Pp} {k : Nat} (h : okTo m ps k = true) (h' : okAt m ps k = true) : okTo m ps (k + 1) = true := by unfold okTo; rw [h, h']; rfl
theorem okAt_pipe {m : Int} {ps : List Pp} {k : Nat} {x : Pp} (h : ps[k]? = some x) (hx : pipeOk m x = false) : okAt m ps k = false := by
  rcases k with _ | k
  · rw [okAt_zero h, hx]
  · have hk : k + 1 < ps.length := (List.getElem?_eq_some_iff.1 h).1
    have hy : ps[k]? = some ps[k] := List.getElem?_eq_getElem (by omega)
    rw [okAt_next h hy, hx]; rfl
theorem goodN_fin {m : Int} {ps : List Pp} {n K : Nat} (hl : ps.length = n) (hK : K ≤ n) (hok : okTo m ps K = true) (hx : ¬ (K < n) ∨ 10 < n) : goodN m ps = (inB m 1 8 && decide ((n : Int) ≤ (10 : Int))) := by
  unfold goodN
  rw [hl]
  rcases hx with hx | hx
  · obtain rfl : K = n := by omega
    rw [hok, Bool.and_true]
    congr 1
    exact decide_eq_decide.2 (by omega)
  · rw [decide_eq_false (by omega), decide_eq_false (by omega), Bool.false_and]
theorem goodN_out {m : Int} {ps : List Pp} {n : Nat} (hl : ps.length = n) (h : inB m 1 8 = false ∨ 10 < n) : goodN m ps = false := by
  unfold goodN
  rw [hl]
  rcases h with h | h
  · rw [h]; rfl
  · rw [decide_eq_false (by omega)]; simp
/-- The index of the pipe with a number, -1 if there is none. -/
def findL : List Pp → Int → Int
  | [], _ => -1
  | p :: ps, v => if p.id = v then 0 else if findL ps v < 0 then -1 else findL ps v + 1
theorem findL_at : ∀ {ps : List Pp} {v : Int} {k : Nat} {x : Pp}, (∀ j z, j < k → ps[j]? = some z → z.id ≠ v) → ps[k]? = some x → x.id = v → findL ps v = (k : Int)
  | [], v, k, x, _, hx, _ => by simp at hx
  | p :: ps, v, 0, x, _, hx, e => by simp at hx; subst hx; unfold findL; rw [if_pos e]; rfl
  | p :: ps, v, k + 1, x, h, hx, e => by
    have h0 := h 0 p (by omega) rfl
    have ih := findL_at (ps := ps) (v := v) (k := k) (fun j z hj hz => h (j + 1) z (by omega) (by simpa using hz)) (by simpa using hx) e
    unfold findL; rw [if_neg h0, ih, if_neg (by omega)]; omega
theorem findL_no : ∀ {ps : List Pp} {v : Int}, (∀ z, z ∈ ps → z.id ≠ v) → findL ps v = -1
  | [], v, _ => rfl
  | p :: ps, v, h => by
    have ih := findL_no (ps := ps) (v := v) (fun z hz => h z (by simp [hz]))
    unfold findL; rw [if_neg (h p (by simp)), ih]; rfl
theorem findL_none {ps : List Pp} {v : Int} {n k : Nat} (hl : ps.length = n) (h : ∀ j z, j < k → ps[j]? = some z → z.id ≠ v) (hk : n ≤ k) : findL ps v = -1 :=
  findL_no (fun z hz => by
    obtain ⟨j, hj, e⟩ := List.getElem_of_mem hz
    exact h j z (by omega) (by rw [List.getElem?_eq_getElem hj, e]))

theorem inB_iff {x a b : Int} : inB x a b = true ↔ a ≤ x ∧ x ≤ b := inB_yes
theorem okTo_at {m : Int} {ps : List Pp} : ∀ {n k : Nat}, okTo m ps n = true → k < n → okAt m ps k = true
  | 0, k, _, hk => absurd hk (by omega)
  | n + 1, k, h, hk => by
    unfold okTo at h
    rw [Bool.and_eq_true] at h
    by_cases e : k = n
    · subst e; exact h.2
    · exact okTo_at h.1 (by omega)
structure GoodNet (m : Int) (ps : List Pp) : Prop where
  lo : 1 ≤ m
  hi : m ≤ 8
  len : ps.length ≤ 10
  ok : ∀ p, p ∈ ps → pipeOk m p = true
  rise : rises ps
theorem good_of {m : Int} {ps : List Pp} (h : goodN m ps = true) : GoodNet m ps := by
  unfold goodN at h
  rw [Bool.and_eq_true, Bool.and_eq_true, inB_iff, decide_eq_true_iff] at h
  obtain ⟨⟨h1, h2⟩, h3, h4⟩ := h
  have hat : ∀ k, k < ps.length → okAt m ps k = true := fun k hk => okTo_at h4 hk
  refine ⟨h1, h2, h3, fun p hp => ?_, ?_⟩
  · obtain ⟨k, hk, e⟩ := List.getElem_of_mem hp
    have := hat k hk
    have hg : ps[k]? = some p := by rw [List.getElem?_eq_getElem hk, e]
    rcases k with _ | k
    · rwa [okAt_zero hg] at this
    · rw [okAt_next hg (List.getElem?_eq_getElem (show k < ps.length by omega)), Bool.and_eq_true] at this; exact this.1
  · have step : ∀ k (h : k + 1 < ps.length), ps[k].id < ps[k + 1].id := fun k hk => by
      have := hat (k + 1) hk
      rw [okAt_next (List.getElem?_eq_getElem hk) (List.getElem?_eq_getElem (show k < ps.length by omega)), Bool.and_eq_true, decide_eq_true_iff] at this
      exact this.2
    have far : ∀ d k (h : k + d + 1 < ps.length), ps[k].id < ps[k + d + 1].id := by
      intro d
      induction d with
      | zero => intro k hk; exact step k hk
      | succ d ih =>
        intro k hk
        have h1 := ih k (by omega)
        have h2 := step (k + d + 1) (by omega)
        exact Int.lt_trans h1 h2
    refine List.pairwise_iff_getElem.2 (fun i j hi hj hij => ?_)
    have := far (j - i - 1) i (by omega)
    have e : i + (j - i - 1) + 1 = j := by omega
    simp only [e] at this
    exact this
theorem GoodNet.pipe {m : Int} {ps : List Pp} (h : GoodNet m ps) {p : Pp} (hp : p ∈ ps) : (1 ≤ p.id ∧ p.id ≤ 99) ∧ (1 ≤ p.fr ∧ p.fr ≤ m) ∧ (1 ≤ p.to ∧ p.to ≤ m) ∧ p.fr ≠ p.to ∧ (1 ≤ p.sz ∧ p.sz ≤ 9) := by
  have := h.ok p hp
  unfold pipeOk at this
  simp only [Bool.and_eq_true, inB_iff, decide_eq_true_iff] at this
  exact this
theorem GoodNet.at {m : Int} {ps : List Pp} (h : GoodNet m ps) {k : Nat} {p : Pp} (hp : ps[k]? = some p) : (1 ≤ p.id ∧ p.id ≤ 99) ∧ (1 ≤ p.fr ∧ p.fr ≤ m) ∧ (1 ≤ p.to ∧ p.to ≤ m) ∧ p.fr ≠ p.to ∧ (1 ≤ p.sz ∧ p.sz ≤ 9) := h.pipe (List.mem_of_getElem? hp)
theorem GoodNet.pipesIn {m : Int} {ps : List Pp} (h : GoodNet m ps) : pipesIn ps m.toNat := fun p hp => by
  have := h.pipe hp
  have := h.lo
  omega
theorem other_pos {p : Pp} {u : Int} (h1 : 1 ≤ p.fr) (h2 : 1 ≤ p.to) : 0 < otherOf p u ↔ p.fr = u ∨ p.to = u := by
  unfold otherOf
  by_cases e1 : u = p.fr
  · rw [if_pos e1]; constructor
    · intro _; exact .inl e1.symm
    · intro _; omega
  · rw [if_neg e1]
    by_cases e2 : u = p.to
    · rw [if_pos e2]; constructor
      · intro _; exact .inr e2.symm
      · intro _; omega
    · rw [if_neg e2]; constructor
      · intro h; omega
      · rintro (h | h)
        · exact absurd h.symm e1
        · exact absurd h.symm e2

set_option maxRecDepth 100000 in
set_option maxHeartbeats 8000000 in
theorem has_any (m : Int) (A : Option Addr) (n c : Nat) (ps : List Pp) (v : Int) (w : World) :
    Calls Tryd.prog 48 #[.agg #[.int .i64 m, .slice A n c], .int .i64 v] w fun e w' => e = .returned (.bool (inB v 1 m)) ∧ Below w.heap.size w w' := by
 go_enter Tryd.func48, Tryd.ntmps48
 refine F.begin 9 [(0, .agg #[.int .i64 m, .slice A n c]), (1, .int .i64 v)] (fun U0 => ?_)
 refine wk fun K1 h1 => ?_
 refine W.region_plain (row := none) [(0, true), (1, false)] kk ?_
 have s1 := SG.self w none
 refine W.sn (fun b => .pointer (some ⟨b, 0, none⟩)) #[.int .i64 m, .slice A n c] 24 s1 rfl kk rfl (fun _ => by kernel_rfl) (fun b2 w3 hb4 k5 x6 s7 => ?_)
 refine F.nx ?_
 have lo8 : w.heap.size ≤ b2 := Nat.le_trans ((SG.belowR (Below.refl _ _) s1 (fun kq e => by cases e))).size (Nat.le_of_eq hb4)
 refine Fa (.bool false) ?_
 refine F.es ?_
 have c9 := (SG.belowR (Below.refl _ _) s7 (fun kq e => by cases e))
 refine h1 _ _ ?_
 refine wk fun K2 h2 => ?_
 refine W.region_plain (row := none) [(0, false), (1, false), (2, false), (3, true), (4, false)] kk ?_
 have s10 := SG.self w3 none
 refine Fv (.int .i64 v) ?_
 refine Fq (.pointer (some ⟨b2, 0, none⟩)) (r_field0 rfl ek kk) ?_
 refine Fl (.int .i64 m) (sgS (blk_cell (j := 0) x6 kk) (Option.some_ne_none _)) ?_
 refine Fc [.int .i64 v, .int .i64 1, .int .i64 m] (inside_any v 1 m _) ?_
 rintro e w' ⟨rfl, rfl⟩
 refine ⟨_, rfl, s10, ?_⟩
 refine F.nx ?_
 refine Fa (.bool (inB v 1 m)) ?_
 refine F.es ?_
 have c13 := (SG.belowR c9 s10 (fun kq e => by cases e))
 refine h2 _ _ ?_
 refine wp_ret ?_
 try simp only [Exit.then]
 refine ret1 (v := .bool (inB v 1 m)) rfl kk ?_
 exact ⟨rfl, c13⟩

set_option maxRecDepth 100000 in
set_option maxHeartbeats 8000000 in
theorem l2Pipe_any (m : Int) (p : Pp) (w : World) :
    Calls Tryd.prog 82 #[.int .i64 m, .agg #[.int .i64 p.id, .int .i64 p.fr, .int .i64 p.to, .int .i64 p.sz]] w fun e w' => e = .returned (.bool (pipeOk m p)) ∧ Below w.heap.size w w' := by
 go_enter Tryd.func82, Tryd.ntmps82
 refine F.begin 32 [(0, .int .i64 m), (1, .agg #[.int .i64 p.id, .int .i64 p.fr, .int .i64 p.to, .int .i64 p.sz])] (fun U0 => ?_)
 refine wk fun K1 h1 => ?_
 refine W.region_plain (row := none) [(0, true), (1, false)] kk ?_
 have s1 := SG.self w none
 refine W.sn (fun b => .pointer (some ⟨b, 0, none⟩)) #[.int .i64 p.id, .int .i64 p.fr, .int .i64 p.to, .int .i64 p.sz] 38 s1 rfl kk rfl (fun _ => by kernel_rfl) (fun b2 w3 hb4 k5 x6 s7 => ?_)
 refine F.nx ?_
 have lo8 : w.heap.size ≤ b2 := Nat.le_trans ((SG.belowR (Below.refl _ _) s1 (fun kq e => by cases e))).size (Nat.le_of_eq hb4)
 refine Fa (.bool false) ?_
 refine F.es ?_
 have c9 := (SG.belowR (Below.refl _ _) s7 (fun kq e => by cases e))
 refine h1 _ _ ?_
 refine wk fun K2 h2 => ?_
 refine W.region_plain (row := none) [(0, false), (1, false), (2, true), (3, false), (4, false), (5, false), (6, false), (7, true), (8, false), (9, false), (10, false), (11, false), (12, false), (13, true), (14, false), (15, false), (16, false), (17, false), (18, false), (19, false), (20, false), (21, false), (22, false), (23, false), (24, false), (25, true), (26, false), (27, false)] kk ?_
 have s10 := SG.self w3 none
 refine Fq (.pointer (some ⟨b2, 0, none⟩)) (r_field0 rfl ek kk) ?_
 refine Fl (.int .i64 p.id) (sgS (blk_cell (j := 0) x6 kk) (Option.some_ne_none _)) ?_
 refine Fc [.int .i64 p.id, .int .i64 1, .int .i64 99] (l1In_any p.id 1 99 _) ?_
 rintro e w' ⟨rfl, rfl⟩
 refine ⟨_, rfl, s10, ?_⟩
 refine F.nx ?_
 rcases Bool.eq_false_or_eq_true (inB p.id 1 99) with q13 | q13
 ·rw [q13]
  refine Fv (.bool true) ?_
  refine Fq (.pointer (some ⟨b2, 1, none⟩)) (r_field (k := 1) rfl ek kk) ?_
  refine Fl (.int .i64 p.fr) (sgS (blk_cell (j := 1) x6 kk) (Option.some_ne_none _)) ?_
  refine Fv (.int .i64 m) ?_
  refine Fc [.int .i64 p.fr, .int .i64 1, .int .i64 m] (l1In_any p.fr 1 m _) ?_
  rintro e w' ⟨rfl, rfl⟩
  refine ⟨_, rfl, s10, ?_⟩
  refine F.nx ?_
  rcases Bool.eq_false_or_eq_true (inB p.fr 1 m) with q16 | q16
  ·rw [q16]
   refine Fq (.bool true) (r_pick (b := true) rfl ek ek) ?_
   refine Fv (.bool true) ?_
   refine Fq (.pointer (some ⟨b2, 2, none⟩)) (r_field (k := 2) rfl ek kk) ?_
   refine Fl (.int .i64 p.to) (sgS (blk_cell (j := 2) x6 kk) (Option.some_ne_none _)) ?_
   refine Fv (.int .i64 m) ?_
   refine Fc [.int .i64 p.to, .int .i64 1, .int .i64 m] (l1In_any p.to 1 m _) ?_
   rintro e w' ⟨rfl, rfl⟩
   refine ⟨_, rfl, s10, ?_⟩
   refine F.nx ?_
   rcases Bool.eq_false_or_eq_true (inB p.to 1 m) with q19 | q19
   ·rw [q19]
    refine Fq (.bool true) (r_pick (b := true) rfl ek ek) ?_
    refine Fv (.bool true) ?_
    refine Fq (.pointer (some ⟨b2, 1, none⟩)) (r_field (k := 1) rfl ek kk) ?_
    refine Fl (.int .i64 p.fr) (sgS (blk_cell (j := 1) x6 kk) (Option.some_ne_none _)) ?_
    refine Fq (.pointer (some ⟨b2, 2, none⟩)) (r_field (k := 2) rfl ek kk) ?_
    refine Fl (.int .i64 p.to) (sgS (blk_cell (j := 2) x6 kk) (Option.some_ne_none _)) ?_
    by_cases q20 : (p.fr : Int) ≠ (p.to : Int)
    ·refine Fq (.bool true) (r_neq (m := p.fr) (n := p.to) rfl ek ek (decide_eq_true q20)) ?_
     refine Fq (.bool true) (r_pick (b := true) rfl ek ek) ?_
     refine Fv (.bool true) ?_
     refine Fq (.pointer (some ⟨b2, 3, none⟩)) (r_field (k := 3) rfl ek kk) ?_
     refine Fl (.int .i64 p.sz) (sgS (blk_cell (j := 3) x6 kk) (Option.some_ne_none _)) ?_
     refine Fc [.int .i64 p.sz, .int .i64 1, .int .i64 9] (l1In_any p.sz 1 9 _) ?_
     rintro e w' ⟨rfl, rfl⟩
     refine ⟨_, rfl, s10, ?_⟩
     refine F.nx ?_
     rcases Bool.eq_false_or_eq_true (inB p.sz 1 9) with q23 | q23
     ·rw [q23]
      refine Fq (.bool true) (r_pick (b := true) rfl ek ek) ?_
      refine Fa (.bool true) ?_
      refine F.es ?_
      have c24 := (SG.belowR c9 s10 (fun kq e => by cases e))
      refine h2 _ _ ?_
      refine wp_ret ?_
      try simp only [Exit.then]
      refine ret1 (v := .bool true) rfl kk ?_
      exact ⟨ret_bool (by simp [pipeOk, q13, q16, q19, q20, q23]), c24⟩
     rw [q23]
     refine Fq (.bool false) (r_pick (b := true) rfl ek ek) ?_
     refine Fa (.bool false) ?_
     refine F.es ?_
     have c25 := (SG.belowR c9 s10 (fun kq e => by cases e))
     refine h2 _ _ ?_
     refine wp_ret ?_
     try simp only [Exit.then]
     refine ret1 (v := .bool false) rfl kk ?_
     exact ⟨ret_bool (by simp [pipeOk, q13, q16, q19, q20, q23]), c25⟩
    refine Fq (.bool false) (r_neq (m := p.fr) (n := p.to) rfl ek ek (decide_eq_false q20)) ?_
    refine Fq (.bool false) (r_pick (b := true) rfl ek ek) ?_
    refine Fv (.bool false) ?_
    refine Fs s10 ?_
    refine Fs s10 ?_
    refine Fs s10 ?_
    refine Fq (.bool false) (r_pick (b := false) rfl ek ek) ?_
    refine Fa (.bool false) ?_
    refine F.es ?_
    have c26 := (SG.belowR c9 s10 (fun kq e => by cases e))
    refine h2 _ _ ?_
    refine wp_ret ?_
    try simp only [Exit.then]
    refine ret1 (v := .bool false) rfl kk ?_
    exact ⟨ret_bool (by simp [pipeOk, q13, q16, q19, q20]), c26⟩
   rw [q19]
   refine Fq (.bool false) (r_pick (b := true) rfl ek ek) ?_
   refine Fv (.bool false) ?_
   refine Fs s10 ?_
   refine Fs s10 ?_
   refine Fs s10 ?_
   refine Fs s10 ?_
   refine Fs s10 ?_
   refine Fq (.bool false) (r_pick (b := false) rfl ek ek) ?_
   refine Fv (.bool false) ?_
   refine Fs s10 ?_
   refine Fs s10 ?_
   refine Fs s10 ?_
   refine Fq (.bool false) (r_pick (b := false) rfl ek ek) ?_
   refine Fa (.bool false) ?_
   refine F.es ?_
   have c27 := (SG.belowR c9 s10 (fun kq e => by cases e))
   refine h2 _ _ ?_
   refine wp_ret ?_
   try simp only [Exit.then]
   refine ret1 (v := .bool false) rfl kk ?_
   exact ⟨ret_bool (by simp [pipeOk, q13, q16, q19]), c27⟩
  rw [q16]
  refine Fq (.bool false) (r_pick (b := true) rfl ek ek) ?_
  refine Fv (.bool false) ?_
  refine Fs s10 ?_
  refine Fs s10 ?_
  refine Fs s10 ?_
  refine Fs s10 ?_
  refine Fq (.bool false) (r_pick (b := false) rfl ek ek) ?_
  refine Fv (.bool false) ?_
  refine Fs s10 ?_
  refine Fs s10 ?_
  refine Fs s10 ?_
  refine Fs s10 ?_
  refine Fs s10 ?_
  refine Fq (.bool false) (r_pick (b := false) rfl ek ek) ?_
  refine Fv (.bool false) ?_
  refine Fs s10 ?_
  refine Fs s10 ?_
  refine Fs s10 ?_
  refine Fq (.bool false) (r_pick (b := false) rfl ek ek) ?_
  refine Fa (.bool false) ?_
  refine F.es ?_
  have c28 := (SG.belowR c9 s10 (fun kq e => by cases e))
  refine h2 _ _ ?_
  refine wp_ret ?_
  try simp only [Exit.then]
  refine ret1 (v := .bool false) rfl kk ?_
  exact ⟨ret_bool (by simp [pipeOk, q13, q16]), c28⟩
 rw [q13]
 refine Fv (.bool false) ?_
 refine Fs s10 ?_
 refine Fs s10 ?_
 refine Fs s10 ?_
 refine Fs s10 ?_
 refine Fq (.bool false) (r_pick (b := false) rfl ek ek) ?_
 refine Fv (.bool false) ?_
 refine Fs s10 ?_
 refine Fs s10 ?_
 refine Fs s10 ?_
 refine Fs s10 ?_
 refine Fq (.bool false) (r_pick (b := false) rfl ek ek) ?_
 refine Fv (.bool false) ?_
 refine Fs s10 ?_
 refine Fs s10 ?_
 refine Fs s10 ?_
 refine Fs s10 ?_
 refine Fs s10 ?_
 refine Fq (.bool false) (r_pick (b := false) rfl ek ek) ?_
 refine Fv (.bool false) ?_
 refine Fs s10 ?_
 refine Fs s10 ?_
 refine Fs s10 ?_
 refine Fq (.bool false) (r_pick (b := false) rfl ek ek) ?_
 refine Fa (.bool false) ?_
 refine F.es ?_
 have c29 := (SG.belowR c9 s10 (fun kq e => by cases e))
 refine h2 _ _ ?_
 refine wp_ret ?_
 try simp only [Exit.then]
 refine ret1 (v := .bool false) rfl kk ?_
 exact ⟨ret_bool (by simp [pipeOk, q13]), c29⟩

set_option maxRecDepth 100000 in
set_option maxHeartbeats 8000000 in
theorem other_any (p : Pp) (u : Int) (w : World) :
    Calls Tryd.prog 63 #[.agg #[.int .i64 p.id, .int .i64 p.fr, .int .i64 p.to, .int .i64 p.sz], .int .i64 u] w fun e w' => e = .returned (.int .i64 (otherOf p u)) ∧ Below w.heap.size w w' := by
 go_enter Tryd.func63, Tryd.ntmps63
 refine F.begin 18 [(0, .agg #[.int .i64 p.id, .int .i64 p.fr, .int .i64 p.to, .int .i64 p.sz]), (1, .int .i64 u)] (fun U0 => ?_)
 refine wk fun K1 h1 => ?_
 refine W.region_plain (row := none) [(0, true), (1, false)] kk ?_
 have s1 := SG.self w none
 refine W.sn (fun b => .pointer (some ⟨b, 0, none⟩)) #[.int .i64 p.id, .int .i64 p.fr, .int .i64 p.to, .int .i64 p.sz] 38 s1 rfl kk rfl (fun _ => by kernel_rfl) (fun b2 w3 hb4 k5 x6 s7 => ?_)
 refine F.nx ?_
 have lo8 : w.heap.size ≤ b2 := Nat.le_trans ((SG.belowR (Below.refl _ _) s1 (fun kq e => by cases e))).size (Nat.le_of_eq hb4)
 refine Fa (.int .i64 0) ?_
 refine F.es ?_
 have c9 := (SG.belowR (Below.refl _ _) s7 (fun kq e => by cases e))
 refine h1 _ _ ?_
 refine wk fun K2 h2 => ?_
 refine wk fun K3 h3 => ?_
 refine W.region_quiet [(0, false)] kk ?_
 refine Fv (.int .i64 u) ?_
 refine F.es ?_
 refine h3 _ _ ?_
 refine wp_block ?_
 refine wk fun K4 h4 => ?_
 refine W.region_quiet [(0, false), (1, false), (2, false), (3, false)] kk ?_
 refine Fq (.pointer (some ⟨b2, 1, none⟩)) (r_field (k := 1) rfl ek kk) ?_
 refine Fl (.int .i64 p.fr) (eqS (blk_cell (j := 1) x6 kk)) ?_
 by_cases q10 : (u : Int) = (p.fr : Int)
 ·refine Fq (.bool true) (r_eql (m := u) (n := p.fr) rfl ek ek (decide_eq_true q10)) ?_
  refine Fa (.bool true) ?_
  refine F.es ?_
  refine h4 _ _ ?_
  refine wp_cond_true ek ?_
  refine wk fun K5 h5 => ?_
  refine W.region_quiet [(0, false), (1, false), (2, false)] kk ?_
  refine Fq (.pointer (some ⟨b2, 2, none⟩)) (r_field (k := 2) rfl ek kk) ?_
  refine Fl (.int .i64 p.to) (eqS (blk_cell (j := 2) x6 kk)) ?_
  refine Fa (.int .i64 p.to) ?_
  refine F.es ?_
  refine h5 _ _ ?_
  refine wp_ret ?_
  try simp only [Exit.then, Exit.inBlock]
  refine ret1 (v := .int .i64 p.to) rfl kk ?_
  exact ⟨ret_int (by unfold otherOf; first | rw [if_pos q10] | rw [if_neg q10, if_pos q10] | rw [if_neg q10, if_neg q10]), c9⟩
 refine Fq (.bool false) (r_eql (m := u) (n := p.fr) rfl ek ek (decide_eq_false q10)) ?_
 refine Fa (.bool false) ?_
 refine F.es ?_
 refine h4 _ _ ?_
 refine wp_cond_false ek ?_
 refine wk fun K6 h6 => ?_
 refine W.region_quiet [(0, false), (1, false), (2, false), (3, false)] kk ?_
 refine Fq (.pointer (some ⟨b2, 2, none⟩)) (r_field (k := 2) rfl ek kk) ?_
 refine Fl (.int .i64 p.to) (eqS (blk_cell (j := 2) x6 kk)) ?_
 by_cases q11 : (u : Int) = (p.to : Int)
 ·refine Fq (.bool true) (r_eql (m := u) (n := p.to) rfl ek ek (decide_eq_true q11)) ?_
  refine Fa (.bool true) ?_
  refine F.es ?_
  refine h6 _ _ ?_
  refine wp_cond_true ek ?_
  refine wk fun K7 h7 => ?_
  refine W.region_quiet [(0, false), (1, false), (2, false)] kk ?_
  refine Fq (.pointer (some ⟨b2, 1, none⟩)) (r_field (k := 1) rfl ek kk) ?_
  refine Fl (.int .i64 p.fr) (eqS (blk_cell (j := 1) x6 kk)) ?_
  refine Fa (.int .i64 p.fr) ?_
  refine F.es ?_
  refine h7 _ _ ?_
  refine wp_ret ?_
  try simp only [Exit.then, Exit.inBlock]
  refine ret1 (v := .int .i64 p.fr) rfl kk ?_
  exact ⟨ret_int (by unfold otherOf; first | rw [if_pos q10] | rw [if_neg q10, if_pos q11] | rw [if_neg q10, if_neg q11]), c9⟩
 refine Fq (.bool false) (r_eql (m := u) (n := p.to) rfl ek ek (decide_eq_false q11)) ?_
 refine Fa (.bool false) ?_
 refine F.es ?_
 refine h6 _ _ ?_
 refine wp_cond_false ek ?_
 refine wp_skip ?_
 refine h2 _ _ ?_
 refine wk fun K8 h8 => ?_
 refine W.region_quiet [(0, false)] kk ?_
 refine Fa (.int .i64 0) ?_
 refine F.es ?_
 refine h8 _ _ ?_
 refine wp_ret ?_
 try simp only [Exit.then]
 refine ret1 (v := .int .i64 0) rfl kk ?_
 exact ⟨ret_int (by unfold otherOf; first | rw [if_pos q10] | rw [if_neg q10, if_pos q11] | rw [if_neg q10, if_neg q11]), c9⟩

set_option maxRecDepth 100000 in
set_option maxHeartbeats 8000000 in
theorem l2Good_any (m : Int) (A : Option Addr) (n c : Nat) (ps : List Pp) (w : World) (ha : Rd w 4 A n (pipesV ps)) (hn : n ≤ 1048576) :
    Calls Tryd.prog 45 #[.agg #[.int .i64 m, .slice A n c]] w fun e w' => e = .returned (.bool (goodN m ps)) ∧ Below w.heap.size w w' := by
 have hl := rd_pipes_len ha
 go_enter Tryd.func45, Tryd.ntmps45
 refine F.begin 53 [(0, .agg #[.int .i64 m, .slice A n c])] (fun U0 => ?_)
 refine wk fun K1 h1 => ?_
 refine W.region_plain (row := none) [(0, true), (1, false)] kk ?_
 have s1 := SG.self w none
 refine W.sn (fun b => .pointer (some ⟨b, 0, none⟩)) #[.int .i64 m, .slice A n c] 24 s1 rfl kk rfl (fun _ => by kernel_rfl) (fun b2 w3 hb4 k5 x6 s7 => ?_)
 refine F.nx ?_
 have lo8 : w.heap.size ≤ b2 := Nat.le_trans ((SG.belowR (Below.refl _ _) s1 (fun kq e => by cases e))).size (Nat.le_of_eq hb4)
 refine Fa (.bool false) ?_
 refine F.es ?_
 have c9 := (SG.belowR (Below.refl _ _) s7 (fun kq e => by cases e))
 refine h1 _ _ ?_
 refine wk fun K2 h2 => ?_
 refine wk fun K3 h3 => ?_
 refine W.region_quiet [(0, false)] kk ?_
 refine Fa (.int .i64 0) ?_
 refine F.es ?_
 refine h3 _ _ ?_
 refine wp_block ?_
 refine loopK (fun am0 aa0 wl0 => ∃ (K : Nat) , Kn aa0 [(0, .agg #[.int .i64 m, .slice A n c]), (1, .pointer (some ⟨b2, 0, none⟩)), (2, .bool false), (3, .int .i64 (K : Int))] 53 ∧ (am0 = n - K) ∧ (K ≤ n) ∧ (K ≤ 11) ∧ (okTo m ps K = true) ∧ (wl0.heap[b2]? = some (.cells #[.int .i64 m, .slice A n c] 24 (0, 0))) ∧ (Below w.heap.size w wl0)) (n - 0) ?_ ?_
 ·exact ⟨0, Kn.of, rfl, (Nat.zero_le _), (Nat.zero_le _), rfl, x6, c9⟩
 rintro am0 aa0 wl0 K4 h4 ⟨K, ⟨U0, rfl⟩, rfl, hk, hk11, hok, x6, c10⟩
 refine wk fun K5 h5 => ?_
 refine wk fun K6 h6 => ?_
 refine W.region_quiet [(0, false), (1, false), (2, false), (3, false), (4, false), (5, false), (6, false), (7, false), (8, false)] kk ?_
 refine Fv (.int .i64 (K : Int)) ?_
 refine Fq (.pointer (some ⟨b2, 1, none⟩)) (r_field (k := 1) rfl ek kk) ?_
 refine Fl (.slice A n c) (eqS (blk_cell (j := 1) x6 kk)) ?_
 refine Fq (.int .i64 (n : Int)) (r_len (A := A) (n := n) (c := c) rfl ek kk) ?_
 by_cases q11 : ((K : Int) : Int) < ((n : Int) : Int)
 ·refine Fq (.bool true) (r_lss (m := (K : Int)) (n := (n : Int)) rfl ek ek (decide_eq_true q11)) ?_
  refine Fv (.bool true) ?_
  refine Fv (.int .i64 (K : Int)) ?_
  by_cases q12 : ((K : Int) : Int) ≤ (10 : Int)
  ·refine Fq (.bool true) (r_leq (m := (K : Int)) (n := 10) rfl ek ek (decide_eq_true q12)) ?_
   refine Fq (.bool true) (r_pick (b := true) rfl ek ek) ?_
   refine F.es ?_
   refine h6 _ _ ?_
   refine wp_cond_true ek ?_
   refine wp_skip ?_
   refine h5 _ _ ?_
   refine wk fun K7 h7 => ?_
   refine wp_block ?_
   refine wk fun K8 h8 => ?_
   refine W.region_sch (row := none) (Sch.of [(0, false), (1, false), (2, false), (3, false), (4, false), (5, false), (6, false), (7, true), (8, false), (9, false), (10, false), (11, false), (12, false), (13, false), (14, false), (15, false), (16, false), (17, false), (18, false), (19, false), (20, false), (21, false), (22, false), (23, false), (24, false), (25, false), (26, false), (27, false), (28, false)]) kk kk (fun _ d _ _ _ h => by cases d <;> exact h) kk (fun w13 e14 s15 => ?_)
   refine Fq (.pointer (some ⟨b2, 0, none⟩)) (r_field0 rfl ek kk) ?_
   refine Fl (.int .i64 m) (sgS (blk_cell (j := 0) x6 kk) (Option.some_ne_none _)) ?_
   refine Fq (.pointer (some ⟨b2, 1, none⟩)) (r_field (k := 1) rfl ek kk) ?_
   refine Fl (.slice A n c) (sgS (blk_cell (j := 1) x6 kk) (Option.some_ne_none _)) ?_
   refine Fv (.int .i64 (K : Int)) ?_
   obtain ⟨x16, hx17⟩ := get_of (zs := ps) (k := K) (by have := hl; omega)
   obtain ⟨b18, o19, hA20, hb21, hc22, hc23, hc24, hc25⟩ := Rd.elPipe ha hx17
   refine Fq (.pointer (some ⟨b18, o19 + K * 4, none⟩)) (r_idx (n := n) (c := c) (k := K) rfl ek hA20 kk kk (by have := hl; omega)) ?_
   refine Fq (.agg #[.int .i64 x16.id, .int .i64 x16.fr, .int .i64 x16.to, .int .i64 x16.sz]) (r_load4 rfl ek kk kk (sgS (later c10 hc22) (by simp)) (sgS (later c10 hc23) (by simp)) (sgS (later c10 hc24) (by simp)) (sgS (later c10 hc25) (by simp))) ?_
   refine Fc [.int .i64 m, .agg #[.int .i64 x16.id, .int .i64 x16.fr, .int .i64 x16.to, .int .i64 x16.sz]] (l2Pipe_any m x16 _) ?_
   rintro e w27 ⟨rfl, b26⟩
   have s28 := SG.of_below s15 b26
   refine ⟨_, rfl, s28, ?_⟩
   refine F.nx ?_
   rcases Bool.eq_false_or_eq_true (pipeOk m x16) with q29 | q29
   ·rw [q29]
    refine Fq (.bool false) (r_not (b := true) rfl ek rfl) ?_
    refine Fv (.bool false) ?_
    refine Fv (.int .i64 (K : Int)) ?_
    by_cases q30 : ((K : Int) : Int) > (0 : Int)
    ·obtain ⟨k, rfl⟩ : ∃ k, K = k + 1 := ⟨K - 1, by omega⟩
     refine Fq (.bool true) (r_gtr (m := (((k + 1) : Nat) : Int)) (n := 0) rfl ek ek (decide_eq_true q30)) ?_
     refine Fv (.bool true) ?_
     refine Fq (.pointer (some ⟨b2, 1, none⟩)) (r_field (k := 1) rfl ek kk) ?_
     refine Fl (.slice A n c) (sgS (blk_cell (j := 1) x6 kk) (Option.some_ne_none _)) ?_
     refine Fv (.int .i64 (((k + 1) : Nat) : Int)) ?_
     refine Fq (.int .i64 (k : Int)) (r_sub (m := (((k + 1) : Nat) : Int)) (n := 1) (z := (k : Int)) rfl ek ek (by omega) (by omega)) ?_
     obtain ⟨x31, hx32⟩ := get_of (zs := ps) (k := k) (by have := hl; omega)
     obtain ⟨b33, o34, hA35, hb36, hc37, hc38, hc39, hc40⟩ := Rd.elPipe ha hx32
     refine Fq (.pointer (some ⟨b33, o34 + k * 4, none⟩)) (r_idx (n := n) (c := c) (k := k) rfl ek hA35 kk kk (by have := hl; omega)) ?_
     refine Fq (.pointer (some ⟨b33, o34 + k * 4, none⟩)) (r_field0 rfl ek kk) ?_
     refine Fl (.int .i64 x31.id) (sgS (later c10 hc37) (by simp)) ?_
     refine Fq (.pointer (some ⟨b2, 1, none⟩)) (r_field (k := 1) rfl ek kk) ?_
     refine Fl (.slice A n c) (sgS (blk_cell (j := 1) x6 kk) (Option.some_ne_none _)) ?_
     refine Fv (.int .i64 (((k + 1) : Nat) : Int)) ?_
     refine Fq (.pointer (some ⟨b18, o19 + (k + 1) * 4, none⟩)) (r_idx (n := n) (c := c) (k := (k + 1)) rfl ek hA20 kk kk (by have := hl; omega)) ?_
     refine Fq (.pointer (some ⟨b18, o19 + (k + 1) * 4, none⟩)) (r_field0 rfl ek kk) ?_
     refine Fl (.int .i64 x16.id) (sgS (later c10 hc22) (by simp)) ?_
     by_cases q41 : (x31.id : Int) ≥ (x16.id : Int)
     ·refine Fq (.bool true) (r_geq (m := x31.id) (n := x16.id) rfl ek ek (decide_eq_true q41)) ?_
      refine Fq (.bool true) (r_pick (b := true) rfl ek ek) ?_
      refine Fq (.bool true) (r_pick (b := false) rfl ek ek) ?_
      refine F.es ?_
      have x6 := SG.blk s28 x6 (Option.some_ne_none _)
      have c42 := (SG.belowR c10 s28 (fun kq e => by cases e))
      refine h8 _ _ ?_
      refine wp_cond_true ek ?_
      refine wk fun K9 h9 => ?_
      refine W.region_quiet [(0, false)] kk ?_
      refine Fa (.bool false) ?_
      refine F.es ?_
      refine h9 _ _ ?_
      refine wp_ret ?_
      try simp only [Exit.then, Exit.inBlock]
      refine ret1 (v := .bool false) rfl kk ?_
      exact ⟨ret_bool (goodN_bad (k := k + 1) (by omega) (by rw [okAt_next hx17 hx32, q29]; have := q41; simp; omega)).symm, c42⟩
     refine Fq (.bool false) (r_geq (m := x31.id) (n := x16.id) rfl ek ek (decide_eq_false q41)) ?_
     refine Fq (.bool false) (r_pick (b := true) rfl ek ek) ?_
     refine Fq (.bool false) (r_pick (b := false) rfl ek ek) ?_
     refine F.es ?_
     have x6 := SG.blk s28 x6 (Option.some_ne_none _)
     have c43 := (SG.belowR c10 s28 (fun kq e => by cases e))
     refine h8 _ _ ?_
     refine wp_cond_false ek ?_
     refine wp_skip ?_
     refine h7 _ _ ?_
     refine W.region_quiet [(0, false), (1, false), (2, false)] kk ?_
     refine Fv (.int .i64 (((k + 1) : Nat) : Int)) ?_
     refine Fq (.int .i64 (((k + 1) + 1 : Nat) : Int)) (r_add (m := (((k + 1) : Nat) : Int)) (n := 1) (z := (((k + 1) + 1 : Nat) : Int)) rfl ek ek (by omega) (by omega)) ?_
     refine Fa (.int .i64 (((k + 1) + 1 : Nat) : Int)) ?_
     refine F.es ?_
     exact h4 _ _ _ (by omega : (n - (k + 1 + 1)) < _) ⟨k + 1 + 1, Kn.of, rfl, (by omega), (by omega), (okTo_next hok (by rw [okAt_next hx17 hx32, q29]; have := q41; simp; omega)), x6, c43⟩
    refine Fq (.bool false) (r_gtr (m := (K : Int)) (n := 0) rfl ek ek (decide_eq_false q30)) ?_
    refine Fv (.bool false) ?_
    refine Fs s28 ?_
    refine Fs s28 ?_
    refine Fs s28 ?_
    refine Fs s28 ?_
    refine Fs s28 ?_
    refine Fs s28 ?_
    refine Fs s28 ?_
    refine Fs s28 ?_
    refine Fs s28 ?_
    refine Fs s28 ?_
    refine Fs s28 ?_
    refine Fs s28 ?_
    refine Fs s28 ?_
    refine Fs s28 ?_
    refine Fq (.bool false) (r_pick (b := false) rfl ek ek) ?_
    refine Fq (.bool false) (r_pick (b := false) rfl ek ek) ?_
    refine F.es ?_
    have x6 := SG.blk s28 x6 (Option.some_ne_none _)
    have c44 := (SG.belowR c10 s28 (fun kq e => by cases e))
    refine h8 _ _ ?_
    refine wp_cond_false ek ?_
    refine wp_skip ?_
    refine h7 _ _ ?_
    refine W.region_quiet [(0, false), (1, false), (2, false)] kk ?_
    refine Fv (.int .i64 (K : Int)) ?_
    refine Fq (.int .i64 ((K + 1 : Nat) : Int)) (r_add (m := (K : Int)) (n := 1) (z := ((K + 1 : Nat) : Int)) rfl ek ek (by omega) (by omega)) ?_
    refine Fa (.int .i64 ((K + 1 : Nat) : Int)) ?_
    refine F.es ?_
    exact h4 _ _ _ (by omega : (n - (K + 1)) < _) ⟨K + 1, Kn.of, rfl, (by omega), (by omega), (okTo_next hok (by have e0 : K = 0 := (by omega); subst e0; rw [okAt_zero hx17]; exact q29)), x6, c44⟩
   rw [q29]
   refine Fq (.bool true) (r_not (b := false) rfl ek rfl) ?_
   refine Fv (.bool true) ?_
   refine Fs s28 ?_
   refine Fs s28 ?_
   refine Fs s28 ?_
   refine Fs s28 ?_
   refine Fs s28 ?_
   refine Fs s28 ?_
   refine Fs s28 ?_
   refine Fs s28 ?_
   refine Fs s28 ?_
   refine Fs s28 ?_
   refine Fs s28 ?_
   refine Fs s28 ?_
   refine Fs s28 ?_
   refine Fs s28 ?_
   refine Fs s28 ?_
   refine Fs s28 ?_
   refine Fs s28 ?_
   refine Fs s28 ?_
   refine Fq (.bool true) (r_pick (b := true) rfl ek ek) ?_
   refine F.es ?_
   have x6 := SG.blk s28 x6 (Option.some_ne_none _)
   have c45 := (SG.belowR c10 s28 (fun kq e => by cases e))
   refine h8 _ _ ?_
   refine wp_cond_true ek ?_
   refine wk fun K10 h10 => ?_
   refine W.region_quiet [(0, false)] kk ?_
   refine Fa (.bool false) ?_
   refine F.es ?_
   refine h10 _ _ ?_
   refine wp_ret ?_
   try simp only [Exit.then, Exit.inBlock]
   refine ret1 (v := .bool false) rfl kk ?_
   exact ⟨ret_bool (goodN_bad (k := K) (by omega) (okAt_pipe hx17 q29)).symm, c45⟩
  refine Fq (.bool false) (r_leq (m := (K : Int)) (n := 10) rfl ek ek (decide_eq_false q12)) ?_
  refine Fq (.bool false) (r_pick (b := true) rfl ek ek) ?_
  refine F.es ?_
  refine h6 _ _ ?_
  refine wp_cond_false ek ?_
  refine wp_exit ?_
  refine h2 _ _ ?_
  refine wk fun K11 h11 => ?_
  refine W.region_plain (row := none) [(0, false), (1, false), (2, true), (3, false), (4, false), (5, false), (6, false), (7, false), (8, false), (9, false)] kk ?_
  have s46 := SG.self wl0 none
  refine Fq (.pointer (some ⟨b2, 0, none⟩)) (r_field0 rfl ek kk) ?_
  refine Fl (.int .i64 m) (sgS (blk_cell (j := 0) x6 kk) (Option.some_ne_none _)) ?_
  refine Fc [.int .i64 m, .int .i64 1, .int .i64 8] (l1In_any m 1 8 _) ?_
  rintro e w' ⟨rfl, rfl⟩
  refine ⟨_, rfl, s46, ?_⟩
  refine F.nx ?_
  rcases Bool.eq_false_or_eq_true (inB m 1 8) with q49 | q49
  ·rw [q49]
   refine Fv (.bool true) ?_
   refine Fq (.pointer (some ⟨b2, 1, none⟩)) (r_field (k := 1) rfl ek kk) ?_
   refine Fl (.slice A n c) (sgS (blk_cell (j := 1) x6 kk) (Option.some_ne_none _)) ?_
   refine Fq (.int .i64 (n : Int)) (r_len (A := A) (n := n) (c := c) rfl ek kk) ?_
   by_cases q50 : ((n : Int) : Int) ≤ (10 : Int)
   ·refine Fq (.bool true) (r_leq (m := (n : Int)) (n := 10) rfl ek ek (decide_eq_true q50)) ?_
    refine Fq (.bool true) (r_pick (b := true) rfl ek ek) ?_
    refine Fa (.bool true) ?_
    refine F.es ?_
    have x6 := SG.blk s46 x6 (Option.some_ne_none _)
    have c51 := (SG.belowR c10 s46 (fun kq e => by cases e))
    refine h11 _ _ ?_
    refine wp_ret ?_
    try simp only [Exit.then]
    refine ret1 (v := .bool true) rfl kk ?_
    exact ⟨ret_bool (by rw [goodN_fin hl hk hok (by omega)]; simp [q49, q50]), c51⟩
   refine Fq (.bool false) (r_leq (m := (n : Int)) (n := 10) rfl ek ek (decide_eq_false q50)) ?_
   refine Fq (.bool false) (r_pick (b := true) rfl ek ek) ?_
   refine Fa (.bool false) ?_
   refine F.es ?_
   have x6 := SG.blk s46 x6 (Option.some_ne_none _)
   have c52 := (SG.belowR c10 s46 (fun kq e => by cases e))
   refine h11 _ _ ?_
   refine wp_ret ?_
   try simp only [Exit.then]
   refine ret1 (v := .bool false) rfl kk ?_
   exact ⟨ret_bool (by rw [goodN_fin hl hk hok (by omega)]; simp [q49, q50]), c52⟩
  rw [q49]
  refine Fv (.bool false) ?_
  refine Fs s46 ?_
  refine Fs s46 ?_
  refine Fs s46 ?_
  refine Fs s46 ?_
  refine Fq (.bool false) (r_pick (b := false) rfl ek ek) ?_
  refine Fa (.bool false) ?_
  refine F.es ?_
  have x6 := SG.blk s46 x6 (Option.some_ne_none _)
  have c53 := (SG.belowR c10 s46 (fun kq e => by cases e))
  refine h11 _ _ ?_
  refine wp_ret ?_
  try simp only [Exit.then]
  refine ret1 (v := .bool false) rfl kk ?_
  exact ⟨ret_bool (by rw [goodN_fin hl hk hok (by omega)]; simp [q49]), c53⟩
 refine Fq (.bool false) (r_lss (m := (K : Int)) (n := (n : Int)) rfl ek ek (decide_eq_false q11)) ?_
 refine Fv (.bool false) ?_
 refine Fs rfl ?_
 refine Fs rfl ?_
 refine Fq (.bool false) (r_pick (b := false) rfl ek ek) ?_
 refine F.es ?_
 refine h6 _ _ ?_
 refine wp_cond_false ek ?_
 refine wp_exit ?_
 refine h2 _ _ ?_
 refine wk fun K12 h12 => ?_
 refine W.region_plain (row := none) [(0, false), (1, false), (2, true), (3, false), (4, false), (5, false), (6, false), (7, false), (8, false), (9, false)] kk ?_
 have s54 := SG.self wl0 none
 refine Fq (.pointer (some ⟨b2, 0, none⟩)) (r_field0 rfl ek kk) ?_
 refine Fl (.int .i64 m) (sgS (blk_cell (j := 0) x6 kk) (Option.some_ne_none _)) ?_
 refine Fc [.int .i64 m, .int .i64 1, .int .i64 8] (l1In_any m 1 8 _) ?_
 rintro e w' ⟨rfl, rfl⟩
 refine ⟨_, rfl, s54, ?_⟩
 refine F.nx ?_
 rcases Bool.eq_false_or_eq_true (inB m 1 8) with q57 | q57
 ·rw [q57]
  refine Fv (.bool true) ?_
  refine Fq (.pointer (some ⟨b2, 1, none⟩)) (r_field (k := 1) rfl ek kk) ?_
  refine Fl (.slice A n c) (sgS (blk_cell (j := 1) x6 kk) (Option.some_ne_none _)) ?_
  refine Fq (.int .i64 (n : Int)) (r_len (A := A) (n := n) (c := c) rfl ek kk) ?_
  by_cases q58 : ((n : Int) : Int) ≤ (10 : Int)
  ·refine Fq (.bool true) (r_leq (m := (n : Int)) (n := 10) rfl ek ek (decide_eq_true q58)) ?_
   refine Fq (.bool true) (r_pick (b := true) rfl ek ek) ?_
   refine Fa (.bool true) ?_
   refine F.es ?_
   have c59 := (SG.belowR c10 s54 (fun kq e => by cases e))
   refine h12 _ _ ?_
   refine wp_ret ?_
   try simp only [Exit.then]
   refine ret1 (v := .bool true) rfl kk ?_
   exact ⟨ret_bool (by rw [goodN_fin hl hk hok (by omega)]; simp [q57, q58]), c59⟩
  refine Fq (.bool false) (r_leq (m := (n : Int)) (n := 10) rfl ek ek (decide_eq_false q58)) ?_
  refine Fq (.bool false) (r_pick (b := true) rfl ek ek) ?_
  refine Fa (.bool false) ?_
  refine F.es ?_
  have c60 := (SG.belowR c10 s54 (fun kq e => by cases e))
  refine h12 _ _ ?_
  refine wp_ret ?_
  try simp only [Exit.then]
  refine ret1 (v := .bool false) rfl kk ?_
  exact ⟨ret_bool (by rw [goodN_fin hl hk hok (by omega)]; simp [q57, q58]), c60⟩
 rw [q57]
 refine Fv (.bool false) ?_
 refine Fs s54 ?_
 refine Fs s54 ?_
 refine Fs s54 ?_
 refine Fs s54 ?_
 refine Fq (.bool false) (r_pick (b := false) rfl ek ek) ?_
 refine Fa (.bool false) ?_
 refine F.es ?_
 have c61 := (SG.belowR c10 s54 (fun kq e => by cases e))
 refine h12 _ _ ?_
 refine wp_ret ?_
 try simp only [Exit.then]
 refine ret1 (v := .bool false) rfl kk ?_
 exact ⟨ret_bool (by rw [goodN_fin hl hk hok (by omega)]; simp [q57]), c61⟩

end Go.Proofs.YtdlcldaogcbnlaaDoor
