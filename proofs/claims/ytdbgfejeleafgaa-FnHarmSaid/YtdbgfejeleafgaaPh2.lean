/- What the texts behind it build on; conditions: none. -/
import Derived.Test.YtdbgfejeleafgaaPh1
import Derived.Lib.SmallJoins
import Derived.Laws.IdiomStrings
import Derived.Test.YtdbgfejeleafgaaProg
import Derived.Deep.RegionHeld3
namespace Go.Proofs.Ytdbgfejeleafgaa
open Go.RowKit
set_option linter.unusedVariables false
def pipeOk (m : Int) (p : Pp) : Bool := inB p.id 1 99 && (inB p.fr 1 m && (inB p.to 1 m && (decide (p.fr ≠ p.to) && inB p.sz 1 9)))
def okAt (m : Int) (ps : List Pp) : Nat → Bool
  | 0 => match ps[0]? with | some p => pipeOk m p | none => true
  | k + 1 => match ps[k + 1]?, ps[k]? with | some p, some q => pipeOk m p && decide (q.id < p.id) | _, _ => true
def okTo (m : Int) (ps : List Pp) : Nat → Bool
  | 0 => true
  | k + 1 => okTo m ps k && okAt m ps k
def goodN (m : Int) (ps : List Pp) : Bool := inB m 1 8 && (decide (ps.length ≤ 10) && okTo m ps ps.length)
theorem okTo_bad {m : Int} {ps : List Pp} {k : Nat} (h : okAt m ps k = false) : ∀ n, k < n → okTo m ps n = false
  | 0, hk => absurd hk (by omega)
  | n + 1, hk => by
    by_cases e : k = n
    · subst e; unfold okTo; rw [h]; simp
    · unfold okTo; rw [okTo_bad h n (by omega)]; rfl
theorem goodN_bad {m : Int} {ps : List Pp} {k : Nat} (hk : k < ps.length) (h : okAt m ps k = false) : goodN m ps = false := by
  unfold goodN; rw [okTo_bad h _ hk]; simp
theorem okAt_zero {m : Int} {ps : List Pp} {x : Pp} (h : ps[0]? = some x) : okAt m ps 0 = pipeOk m x := by unfold okAt; rw [h]
theorem okAt_next {m : Int} {ps : List Pp} {k : Nat} {x y : Pp} (h : ps[k + 1]? = some x) (h' : ps[k]? = some y) : okAt m ps (k + 1) = (pipeOk m x && decide (y.id < x.id)) := by simp [okAt, h, h']
theorem okTo_next {m : Int} {ps : List Pp} {k : Nat} (h : okTo m ps k = true) (h' : okAt m ps k = true) : okTo m ps (k + 1) = true := by unfold okTo; rw [h, h']; rfl
theorem okAt_pipe {m : Int} {ps : List Pp} {k : Nat} {x : Pp} (h : ps[k]? = some x) (hx : pipeOk m x = false) : okAt m ps k = false := by
  rcases k with _ | k
  · rw [okAt_zero h, hx]
  · have hk : k + 1 < ps.length := (List.getElem?_eq_some_iff.1 h).1
    have hy : ps[k]? = some ps[k] := List.getElem?_eq_getElem (by omega)
    rw [okAt_next h hy, hx]; rfl
theorem goodN_fin {m : Int} {ps : List Pp} {n K : Nat} (hl : ps.length = n) (hK : K ≤ n) (hok : okTo m ps K = true) (hx : ¬ (K < n) ∨ 10 < n) : goodN m ps = (inB m 1 8 && decide ((n : Int) ≤ (10 : Int))) := by
  unfold goodN
  rw [hl]
  rcases hx with hx | hx
  · obtain rfl : K = n := by omega
    rw [hok, Bool.and_true]
    congr 1
    exact decide_eq_decide.2 (by omega)
  · rw [decide_eq_false (by omega), decide_eq_false (by omega), Bool.false_and]
theorem goodN_out {m : Int} {ps : List Pp} {n : Nat} (hl : ps.length = n) (h : inB m 1 8 = false ∨ 10 < n) : goodN m ps = false := by
  unfold goodN
  rw [hl]
  rcases h with h | h
  · rw [h]; rfl
  · rw [decide_eq_false (by omega)]; simp
def findL : List Pp → Int → Int
  | [], _ => -1
  | p :: ps, v => if p.id = v then 0 else if findL ps v < 0 then -1 else findL ps v + 1
theorem findL_at : ∀ {ps : List Pp} {v : Int} {k : Nat} {x : Pp}, (∀ j z, j < k → ps[j]? = some z → z.id ≠ v) → ps[k]? = some x → x.id = v → findL ps v = (k : Int)
  | [], v, k, x, _, hx, _ => by simp at hx
  | p :: ps, v, 0, x, _, hx, e => by simp at hx; subst hx; unfold findL; rw [if_pos e]; rfl
  | p :: ps, v, k + 1, x, h, hx, e => by
    have h0 := h 0 p (by omega) rfl
    have ih := findL_at (ps := ps) (v := v) (k := k) (fun j z hj hz => h (j + 1) z (by omega) (by simpa using hz)) (by simpa using hx) e
    unfold findL; rw [if_neg h0, ih, if_neg (by omega)]; omega
theorem findL_no : ∀ {ps : List Pp} {v : Int}, (∀ z, z ∈ ps → z.id ≠ v) → findL ps v = -1
  | [], v, _ => rfl
  | p :: ps, v, h => by
    have ih := findL_no (ps := ps) (v := v) (fun z hz => h z (by simp [hz]))
    unfold findL; rw [if_neg (h p (by simp)), ih]; rfl
theorem findL_none {ps : List Pp} {v : Int} {n k : Nat} (hl : ps.length = n) (h : ∀ j z, j < k → ps[j]? = some z → z.id ≠ v) (hk : n ≤ k) : findL ps v = -1 :=
  findL_no (fun z hz => by
    obtain ⟨j, hj, e⟩ := List.getElem_of_mem hz
    exact h j z (by omega) (by rw [List.getElem?_eq_getElem hj, e]))
theorem inB_iff {x a b : Int} : inB x a b = true ↔ a ≤ x ∧ x ≤ b := inB_yes
theorem okTo_at {m : Int} {ps : List Pp} : ∀ {n k : Nat}, okTo m ps n = true → k < n → okAt m ps k = true
  | 0, k, _, hk => absurd hk (by omega)
  | n + 1, k, h, hk => by
    unfold okTo at h
    rw [Bool.and_eq_true] at h
    by_cases e : k = n
    · subst e; exact h.2
    · exact okTo_at h.1 (by omega)
structure GoodNet (m : Int) (ps : List Pp) : Prop where
  lo : 1 ≤ m
  hi : m ≤ 8
  len : ps.length ≤ 10
  ok : ∀ p, p ∈ ps → pipeOk m p = true
  rise : rises ps
theorem good_of {m : Int} {ps : List Pp} (h : goodN m ps = true) : GoodNet m ps := by
  unfold goodN at h
  rw [Bool.and_eq_true, Bool.and_eq_true, inB_iff, decide_eq_true_iff] at h
  obtain ⟨⟨h1, h2⟩, h3, h4⟩ := h
  have hat : ∀ k, k < ps.length → okAt m ps k = true := fun k hk => okTo_at h4 hk
  refine ⟨h1, h2, h3, fun p hp => ?_, ?_⟩
  · obtain ⟨k, hk, e⟩ := List.getElem_of_mem hp
    have := hat k hk
    have hg : ps[k]? = some p := by rw [List.getElem?_eq_getElem hk, e]
    rcases k with _ | k
    · rwa [okAt_zero hg] at this
    · rw [okAt_next hg (List.getElem?_eq_getElem (show k < ps.length by omega)), Bool.and_eq_true] at this; exact this.1
  · have step : ∀ k (h : k + 1 < ps.length), ps[k].id < ps[k + 1].id := fun k hk => by
      have := hat (k + 1) hk
      rw [okAt_next (List.getElem?_eq_getElem hk) (List.getElem?_eq_getElem (show k < ps.length by omega)), Bool.and_eq_true, decide_eq_true_iff] at this
      exact this.2
    have far : ∀ d k (h : k + d + 1 < ps.length), ps[k].id < ps[k + d + 1].id := by
      intro d
      induction d with
      | zero => intro k hk; exact step k hk
      | succ d ih =>
        intro k hk
        have h1 := ih k (by omega)
        have h2 := step (k + d + 1) (by omega)
        exact Int.lt_trans h1 h2
    refine List.pairwise_iff_getElem.2 (fun i j hi hj hij => ?_)
    have := far (j - i - 1) i (by omega)
    have e : i + (j - i - 1) + 1 = j := by omega
    simp only [e] at this
    exact this
theorem GoodNet.pipe {m : Int} {ps : List Pp} (h : GoodNet m ps) {p : Pp} (hp : p ∈ ps) : (1 ≤ p.id ∧ p.id ≤ 99) ∧ (1 ≤ p.fr ∧ p.fr ≤ m) ∧ (1 ≤ p.to ∧ p.to ≤ m) ∧ p.fr ≠ p.to ∧ (1 ≤ p.sz ∧ p.sz ≤ 9) := by
  have := h.ok p hp
  unfold pipeOk at this
  simp only [Bool.and_eq_true, inB_iff, decide_eq_true_iff] at this
  exact this
theorem GoodNet.at {m : Int} {ps : List Pp} (h : GoodNet m ps) {k : Nat} {p : Pp} (hp : ps[k]? = some p) : (1 ≤ p.id ∧ p.id ≤ 99) ∧ (1 ≤ p.fr ∧ p.fr ≤ m) ∧ (1 ≤ p.to ∧ p.to ≤ m) ∧ p.fr ≠ p.to ∧ (1 ≤ p.sz ∧ p.sz ≤ 9) := h.pipe (List.mem_of_getElem? hp)
theorem GoodNet.pipesIn {m : Int} {ps : List Pp} (h : GoodNet m ps) : pipesIn ps m.toNat := fun p hp => by
  have := h.pipe hp
  have := h.lo
  omega
theorem other_pos {p : Pp} {u : Int} (h1 : 1 ≤ p.fr) (h2 : 1 ≤ p.to) : 0 < otherOf p u ↔ p.fr = u ∨ p.to = u := by
  unfold otherOf
  by_cases e1 : u = p.fr
  · rw [if_pos e1]; constructor
    · intro _; exact .inl e1.symm
    · intro _; omega
  · rw [if_neg e1]
    by_cases e2 : u = p.to
    · rw [if_pos e2]; constructor
      · intro _; exact .inr e2.symm
      · intro _; omega
    · rw [if_neg e2]; constructor
      · intro h; omega
      · rintro (h | h)
        · exact absurd h.symm e1
        · exact absurd h.symm e2
set_option maxRecDepth 100000 in
set_option maxHeartbeats 8000000 in
theorem l1Has_any (A : Option Addr) (n c : Nat) (zs : List Int) (v : Int) (w : World) (ha : Rd w 1 A n (intsV zs)) (hn : n ≤ 1000000000) :
    Calls Try.prog 97 #[.slice A n c, .int .i64 v] w fun e w' => e = .returned (.bool (zs.contains v)) ∧ Below w.heap.size w w' := by
 have hl := rd_ints_len ha
 go_enter Try.func97, Try.ntmps97
 refine F.begin 18 [(0, .slice A n c), (1, .int .i64 v)] (fun U0 => ?_)
 refine wk fun K1 h1 => ?_
 refine Rq 1 ?_
 refine Fa (.bool false) ?_
 apply F.es
 apply h1
 refine wk fun K2 h2 => ?_
 refine wk fun K3 h3 => ?_
 refine Rq 1 ?_
 refine Fa (.int .i64 0) ?_
 apply F.es
 apply h3
 refine wp_block ?_
 refine loopK (fun am0 aa0 wl0 => ∃ (k : Nat) , Kn aa0 [(0, .slice A n c), (1, .int .i64 v), (4, .bool false), (5, .int .i64 (k : Int))] 18 ∧ (am0 = n - k) ∧ (k ≤ n) ∧ (∀ j z, j < k → zs[j]? = some z → z ≠ v) ∧ (Below w.heap.size w wl0)) (n - 0) ?_ ?_
 ·exact ⟨0, Kn.of, rfl, (Nat.zero_le _), upto_zero, (Below.refl _ _)⟩
 rintro am0 aa0 wl0 K4 h4 ⟨k, ⟨U0, rfl⟩, rfl, hk, hok, c1⟩
 refine wk fun K5 h5 => ?_
 refine wk fun K6 h6 => ?_
 refine Rq 4 ?_
 refine Fv (.int .i64 (k : Int)) ?_
 refine Fv (.slice A n c) ?_
 refine Fq (.int .i64 (n : Int)) (r_len (A := A) (n := n) (c := c) rfl ek kk) ?_
 by_cases q2 : ((k : Int) : Int) < ((n : Int) : Int)
 ·refine Fq (.bool true) (r_lss (m := (k : Int)) (n := (n : Int)) rfl ek ek (dt q2)) ?_
  apply F.es
  apply h6
  refine wp_cond_true ek ?_
  apply wp_skip
  apply h5
  refine wk fun K7 h7 => ?_
  refine wp_block ?_
  refine wk fun K8 h8 => ?_
  refine Rq 6 ?_
  refine Fv (.slice A n c) ?_
  refine Fv (.int .i64 (k : Int)) ?_
  obtain ⟨x3, hx4⟩ := get_of (zs := zs) (k := k) (by have := hl; omega)
  obtain ⟨b5, o6, hA7, hb8, hc9⟩ := Rd.elInt ha hx4
  refine Fq (.pointer (some ⟨b5, o6 + k, none⟩)) (r_idx1 (n := n) (c := c) (k := k) rfl ek hA7 kk kk (by have := hl; omega)) ?_
  refine Fl (.int .i64 x3) (eqS (later c1 hc9)) ?_
  refine Fv (.int .i64 v) ?_
  by_cases q10 : (x3 : Int) = (v : Int)
  ·refine Fq (.bool true) (r_eql (m := x3) (n := v) rfl ek ek (dt q10)) ?_
   apply F.es
   apply h8
   refine wp_cond_true ek ?_
   refine wk fun K9 h9 => ?_
   refine Rq 1 ?_
   refine Fa (.bool true) ?_
   apply F.es
   apply h9
   refine wp_ret ?_
   try simp only [Exit.then, Exit.inBlock]
   refine ret1 (v := .bool true) rfl kk ?_
   exact ⟨ret_bool (has_yes hx4 q10), c1⟩
  refine Fq (.bool false) (r_eql (m := x3) (n := v) rfl ek ek (df q10)) ?_
  apply F.es
  apply h8
  refine wp_cond_false ek ?_
  apply wp_skip
  apply h7
  refine Rq 3 ?_
  refine Fv (.int .i64 (k : Int)) ?_
  refine Fq (.int .i64 ((k + 1 : Nat) : Int)) (r_add (m := (k : Int)) (n := 1) (z := ((k + 1 : Nat) : Int)) rfl ek ek (by omega) (by omega)) ?_
  refine Fa (.int .i64 ((k + 1 : Nat) : Int)) ?_
  apply F.es
  exact h4 _ _ _ (by omega : (n - (k + 1)) < _) ⟨k + 1, Kn.of, rfl, (by omega), (upto_succ hok hx4 q10), c1⟩
 refine Fq (.bool false) (r_lss (m := (k : Int)) (n := (n : Int)) rfl ek ek (df q2)) ?_
 apply F.es
 apply h6
 refine wp_cond_false ek ?_
 refine wp_exit ?_
 apply h2
 refine wk fun K10 h10 => ?_
 refine Rq 1 ?_
 refine Fa (.bool false) ?_
 apply F.es
 apply h10
 refine wp_ret ?_
 try simp only [Exit.then]
 refine ret1 (v := .bool false) rfl kk ?_
 exact ⟨ret_bool (has_no hl hok (by omega)), c1⟩
set_option maxRecDepth 100000 in
set_option maxHeartbeats 8000000 in
theorem has_any (m : Int) (A : Option Addr) (n c : Nat) (ps : List Pp) (v : Int) (w : World) :
    Calls Try.prog 84 #[.agg #[.int .i64 m, .slice A n c], .int .i64 v] w fun e w' => e = .returned (.bool (inB v 1 m)) ∧ Below w.heap.size w w' := by
 go_enter Try.func84, Try.ntmps84
 refine F.begin 9 [(0, .agg #[.int .i64 m, .slice A n c]), (1, .int .i64 v)] (fun U0 => ?_)
 refine wk fun K1 h1 => ?_
 refine W.region_plain (row := none) [(0, true), (1, false)] kk ?_
 have s1 := SG.self w none
 refine W.sn (fun b => .pointer (some ⟨b, 0, none⟩)) #[.int .i64 m, .slice A n c] 26 s1 rfl kk rfl (fun _ => by kernel_rfl) (fun b2 w3 hb4 k5 x6 s7 => ?_)
 apply F.nx
 have lo8 : w.heap.size ≤ b2 := Nl ((Sb (Below.refl _ _) s1 nkk)).size (Nat.le_of_eq hb4)
 refine Fa (.bool false) ?_
 apply F.es
 have c9 := (Sb (Below.refl _ _) s7 nkk)
 apply h1
 refine wk fun K2 h2 => ?_
 refine W.region_plain (row := none) [(0, false), (1, false), (2, false), (3, true), (4, false)] kk ?_
 have s10 := SG.self w3 none
 refine Fv (.int .i64 v) ?_
 refine Fq (.pointer (some ⟨b2, 0, none⟩)) (r_field0 rfl ek kk) ?_
 refine Fl (.int .i64 m) (sgS (blk_cell (j := 0) x6 kk) onn) ?_
 refine Fc [.int .i64 v, .int .i64 1, .int .i64 m] (inside_any v 1 m _) ?_
 rintro e w' ⟨rfl, rfl⟩
 refine ⟨_, rfl, s10, ?_⟩
 apply F.nx
 refine Fa (.bool (inB v 1 m)) ?_
 apply F.es
 have c13 := (Sb c9 s10 nkk)
 apply h2
 refine wp_ret ?_
 try simp only [Exit.then]
 refine ret1 (v := .bool (inB v 1 m)) rfl kk ?_
 exact ⟨rfl, c13⟩
set_option maxRecDepth 100000 in
set_option maxHeartbeats 8000000 in
theorem l2Pipe_any (m : Int) (p : Pp) (w : World) :
    Calls Try.prog 151 #[.int .i64 m, .agg #[.int .i64 p.id, .int .i64 p.fr, .int .i64 p.to, .int .i64 p.sz]] w fun e w' => e = .returned (.bool (pipeOk m p)) ∧ Below w.heap.size w w' := by
 go_enter Try.func151, Try.ntmps151
 refine F.begin 32 [(0, .int .i64 m), (1, .agg #[.int .i64 p.id, .int .i64 p.fr, .int .i64 p.to, .int .i64 p.sz])] (fun U0 => ?_)
 refine wk fun K1 h1 => ?_
 refine W.region_plain (row := none) [(0, true), (1, false)] kk ?_
 have s1 := SG.self w none
 refine W.sn (fun b => .pointer (some ⟨b, 0, none⟩)) #[.int .i64 p.id, .int .i64 p.fr, .int .i64 p.to, .int .i64 p.sz] 51 s1 rfl kk rfl (fun _ => by kernel_rfl) (fun b2 w3 hb4 k5 x6 s7 => ?_)
 apply F.nx
 have lo8 : w.heap.size ≤ b2 := Nl ((Sb (Below.refl _ _) s1 nkk)).size (Nat.le_of_eq hb4)
 refine Fa (.bool false) ?_
 apply F.es
 have c9 := (Sb (Below.refl _ _) s7 nkk)
 apply h1
 refine wk fun K2 h2 => ?_
 refine W.region_plain (row := none) [(0, false), (1, false), (2, true), (3, false), (4, false), (5, false), (6, false), (7, true), (8, false), (9, false), (10, false), (11, false), (12, false), (13, true), (14, false), (15, false), (16, false), (17, false), (18, false), (19, false), (20, false), (21, false), (22, false), (23, false), (24, false), (25, true), (26, false), (27, false)] kk ?_
 have s10 := SG.self w3 none
 refine Fq (.pointer (some ⟨b2, 0, none⟩)) (r_field0 rfl ek kk) ?_
 refine Fl (.int .i64 p.id) (sgS (blk_cell (j := 0) x6 kk) onn) ?_
 refine Fc [.int .i64 p.id, .int .i64 1, .int .i64 99] (l1In_any p.id 1 99 _) ?_
 rintro e w' ⟨rfl, rfl⟩
 refine ⟨_, rfl, s10, ?_⟩
 apply F.nx
 rcases Bool.eq_false_or_eq_true (inB p.id 1 99) with q13 | q13
 ·rw [q13]
  refine Fv (.bool true) ?_
  refine Fq (.pointer (some ⟨b2, 1, none⟩)) (r_field (k := 1) rfl ek kk) ?_
  refine Fl (.int .i64 p.fr) (sgS (blk_cell (j := 1) x6 kk) onn) ?_
  refine Fv (.int .i64 m) ?_
  refine Fc [.int .i64 p.fr, .int .i64 1, .int .i64 m] (l1In_any p.fr 1 m _) ?_
  rintro e w' ⟨rfl, rfl⟩
  refine ⟨_, rfl, s10, ?_⟩
  apply F.nx
  rcases Bool.eq_false_or_eq_true (inB p.fr 1 m) with q16 | q16
  ·rw [q16]
   refine Fq (.bool true) (r_pick (b := true) rfl ek ek) ?_
   refine Fv (.bool true) ?_
   refine Fq (.pointer (some ⟨b2, 2, none⟩)) (r_field (k := 2) rfl ek kk) ?_
   refine Fl (.int .i64 p.to) (sgS (blk_cell (j := 2) x6 kk) onn) ?_
   refine Fv (.int .i64 m) ?_
   refine Fc [.int .i64 p.to, .int .i64 1, .int .i64 m] (l1In_any p.to 1 m _) ?_
   rintro e w' ⟨rfl, rfl⟩
   refine ⟨_, rfl, s10, ?_⟩
   apply F.nx
   rcases Bool.eq_false_or_eq_true (inB p.to 1 m) with q19 | q19
   ·rw [q19]
    refine Fq (.bool true) (r_pick (b := true) rfl ek ek) ?_
    refine Fv (.bool true) ?_
    refine Fq (.pointer (some ⟨b2, 1, none⟩)) (r_field (k := 1) rfl ek kk) ?_
    refine Fl (.int .i64 p.fr) (sgS (blk_cell (j := 1) x6 kk) onn) ?_
    refine Fq (.pointer (some ⟨b2, 2, none⟩)) (r_field (k := 2) rfl ek kk) ?_
    refine Fl (.int .i64 p.to) (sgS (blk_cell (j := 2) x6 kk) onn) ?_
    by_cases q20 : (p.fr : Int) ≠ (p.to : Int)
    ·refine Fq (.bool true) (r_neq (m := p.fr) (n := p.to) rfl ek ek (dt q20)) ?_
     refine Fq (.bool true) (r_pick (b := true) rfl ek ek) ?_
     refine Fv (.bool true) ?_
     refine Fq (.pointer (some ⟨b2, 3, none⟩)) (r_field (k := 3) rfl ek kk) ?_
     refine Fl (.int .i64 p.sz) (sgS (blk_cell (j := 3) x6 kk) onn) ?_
     refine Fc [.int .i64 p.sz, .int .i64 1, .int .i64 9] (l1In_any p.sz 1 9 _) ?_
     rintro e w' ⟨rfl, rfl⟩
     refine ⟨_, rfl, s10, ?_⟩
     apply F.nx
     rcases Bool.eq_false_or_eq_true (inB p.sz 1 9) with q23 | q23
     ·rw [q23]
      refine Fq (.bool true) (r_pick (b := true) rfl ek ek) ?_
      refine Fa (.bool true) ?_
      apply F.es
      have c24 := (Sb c9 s10 nkk)
      apply h2
      refine wp_ret ?_
      try simp only [Exit.then]
      refine ret1 (v := .bool true) rfl kk ?_
      exact ⟨ret_bool (by simp [pipeOk, q13, q16, q19, q20, q23]), c24⟩
     rw [q23]
     refine Fq (.bool false) (r_pick (b := true) rfl ek ek) ?_
     refine Fa (.bool false) ?_
     apply F.es
     have c25 := (Sb c9 s10 nkk)
     apply h2
     refine wp_ret ?_
     try simp only [Exit.then]
     refine ret1 (v := .bool false) rfl kk ?_
     exact ⟨ret_bool (by simp [pipeOk, q13, q16, q19, q20, q23]), c25⟩
    refine Fq (.bool false) (r_neq (m := p.fr) (n := p.to) rfl ek ek (df q20)) ?_
    refine Fq (.bool false) (r_pick (b := true) rfl ek ek) ?_
    refine Fv (.bool false) ?_
    refine Fs s10 ?_
    refine Fs s10 ?_
    refine Fs s10 ?_
    refine Fq (.bool false) (r_pick (b := false) rfl ek ek) ?_
    refine Fa (.bool false) ?_
    apply F.es
    have c26 := (Sb c9 s10 nkk)
    apply h2
    refine wp_ret ?_
    try simp only [Exit.then]
    refine ret1 (v := .bool false) rfl kk ?_
    exact ⟨ret_bool (by simp [pipeOk, q13, q16, q19, q20]), c26⟩
   rw [q19]
   refine Fq (.bool false) (r_pick (b := true) rfl ek ek) ?_
   refine Fv (.bool false) ?_
   refine Fs s10 ?_
   refine Fs s10 ?_
   refine Fs s10 ?_
   refine Fs s10 ?_
   refine Fs s10 ?_
   refine Fq (.bool false) (r_pick (b := false) rfl ek ek) ?_
   refine Fv (.bool false) ?_
   refine Fs s10 ?_
   refine Fs s10 ?_
   refine Fs s10 ?_
   refine Fq (.bool false) (r_pick (b := false) rfl ek ek) ?_
   refine Fa (.bool false) ?_
   apply F.es
   have c27 := (Sb c9 s10 nkk)
   apply h2
   refine wp_ret ?_
   try simp only [Exit.then]
   refine ret1 (v := .bool false) rfl kk ?_
   exact ⟨ret_bool (by simp [pipeOk, q13, q16, q19]), c27⟩
  rw [q16]
  refine Fq (.bool false) (r_pick (b := true) rfl ek ek) ?_
  refine Fv (.bool false) ?_
  refine Fs s10 ?_
  refine Fs s10 ?_
  refine Fs s10 ?_
  refine Fs s10 ?_
  refine Fq (.bool false) (r_pick (b := false) rfl ek ek) ?_
  refine Fv (.bool false) ?_
  refine Fs s10 ?_
  refine Fs s10 ?_
  refine Fs s10 ?_
  refine Fs s10 ?_
  refine Fs s10 ?_
  refine Fq (.bool false) (r_pick (b := false) rfl ek ek) ?_
  refine Fv (.bool false) ?_
  refine Fs s10 ?_
  refine Fs s10 ?_
  refine Fs s10 ?_
  refine Fq (.bool false) (r_pick (b := false) rfl ek ek) ?_
  refine Fa (.bool false) ?_
  apply F.es
  have c28 := (Sb c9 s10 nkk)
  apply h2
  refine wp_ret ?_
  try simp only [Exit.then]
  refine ret1 (v := .bool false) rfl kk ?_
  exact ⟨ret_bool (by simp [pipeOk, q13, q16]), c28⟩
 rw [q13]
 refine Fv (.bool false) ?_
 refine Fs s10 ?_
 refine Fs s10 ?_
 refine Fs s10 ?_
 refine Fs s10 ?_
 refine Fq (.bool false) (r_pick (b := false) rfl ek ek) ?_
 refine Fv (.bool false) ?_
 refine Fs s10 ?_
 refine Fs s10 ?_
 refine Fs s10 ?_
 refine Fs s10 ?_
 refine Fq (.bool false) (r_pick (b := false) rfl ek ek) ?_
 refine Fv (.bool false) ?_
 refine Fs s10 ?_
 refine Fs s10 ?_
 refine Fs s10 ?_
 refine Fs s10 ?_
 refine Fs s10 ?_
 refine Fq (.bool false) (r_pick (b := false) rfl ek ek) ?_
 refine Fv (.bool false) ?_
 refine Fs s10 ?_
 refine Fs s10 ?_
 refine Fs s10 ?_
 refine Fq (.bool false) (r_pick (b := false) rfl ek ek) ?_
 refine Fa (.bool false) ?_
 apply F.es
 have c29 := (Sb c9 s10 nkk)
 apply h2
 refine wp_ret ?_
 try simp only [Exit.then]
 refine ret1 (v := .bool false) rfl kk ?_
 exact ⟨ret_bool (by simp [pipeOk, q13]), c29⟩
set_option maxRecDepth 100000 in
set_option maxHeartbeats 8000000 in
theorem other_any (p : Pp) (u : Int) (w : World) :
    Calls Try.prog 81 #[.agg #[.int .i64 p.id, .int .i64 p.fr, .int .i64 p.to, .int .i64 p.sz], .int .i64 u] w fun e w' => e = .returned (.int .i64 (otherOf p u)) ∧ Below w.heap.size w w' := by
 go_enter Try.func81, Try.ntmps81
 refine F.begin 18 [(0, .agg #[.int .i64 p.id, .int .i64 p.fr, .int .i64 p.to, .int .i64 p.sz]), (1, .int .i64 u)] (fun U0 => ?_)
 refine wk fun K1 h1 => ?_
 refine W.region_plain (row := none) [(0, true), (1, false)] kk ?_
 have s1 := SG.self w none
 refine W.sn (fun b => .pointer (some ⟨b, 0, none⟩)) #[.int .i64 p.id, .int .i64 p.fr, .int .i64 p.to, .int .i64 p.sz] 51 s1 rfl kk rfl (fun _ => by kernel_rfl) (fun b2 w3 hb4 k5 x6 s7 => ?_)
 apply F.nx
 have lo8 : w.heap.size ≤ b2 := Nl ((Sb (Below.refl _ _) s1 nkk)).size (Nat.le_of_eq hb4)
 refine Fa (.int .i64 0) ?_
 apply F.es
 have c9 := (Sb (Below.refl _ _) s7 nkk)
 apply h1
 refine wk fun K2 h2 => ?_
 refine wk fun K3 h3 => ?_
 refine Rq 1 ?_
 refine Fv (.int .i64 u) ?_
 apply F.es
 apply h3
 refine wp_block ?_
 refine wk fun K4 h4 => ?_
 refine Rq 4 ?_
 refine Fq (.pointer (some ⟨b2, 1, none⟩)) (r_field (k := 1) rfl ek kk) ?_
 refine Fl (.int .i64 p.fr) (eqS (blk_cell (j := 1) x6 kk)) ?_
 by_cases q10 : (u : Int) = (p.fr : Int)
 ·refine Fq (.bool true) (r_eql (m := u) (n := p.fr) rfl ek ek (dt q10)) ?_
  refine Fa (.bool true) ?_
  apply F.es
  apply h4
  refine wp_cond_true ek ?_
  refine wk fun K5 h5 => ?_
  refine Rq 3 ?_
  refine Fq (.pointer (some ⟨b2, 2, none⟩)) (r_field (k := 2) rfl ek kk) ?_
  refine Fl (.int .i64 p.to) (eqS (blk_cell (j := 2) x6 kk)) ?_
  refine Fa (.int .i64 p.to) ?_
  apply F.es
  apply h5
  refine wp_ret ?_
  try simp only [Exit.then, Exit.inBlock]
  refine ret1 (v := .int .i64 p.to) rfl kk ?_
  exact ⟨ret_int (by unfold otherOf; first | rw [if_pos q10] | rw [if_neg q10, if_pos q10] | rw [if_neg q10, if_neg q10]), c9⟩
 refine Fq (.bool false) (r_eql (m := u) (n := p.fr) rfl ek ek (df q10)) ?_
 refine Fa (.bool false) ?_
 apply F.es
 apply h4
 refine wp_cond_false ek ?_
 refine wk fun K6 h6 => ?_
 refine Rq 4 ?_
 refine Fq (.pointer (some ⟨b2, 2, none⟩)) (r_field (k := 2) rfl ek kk) ?_
 refine Fl (.int .i64 p.to) (eqS (blk_cell (j := 2) x6 kk)) ?_
 by_cases q11 : (u : Int) = (p.to : Int)
 ·refine Fq (.bool true) (r_eql (m := u) (n := p.to) rfl ek ek (dt q11)) ?_
  refine Fa (.bool true) ?_
  apply F.es
  apply h6
  refine wp_cond_true ek ?_
  refine wk fun K7 h7 => ?_
  refine Rq 3 ?_
  refine Fq (.pointer (some ⟨b2, 1, none⟩)) (r_field (k := 1) rfl ek kk) ?_
  refine Fl (.int .i64 p.fr) (eqS (blk_cell (j := 1) x6 kk)) ?_
  refine Fa (.int .i64 p.fr) ?_
  apply F.es
  apply h7
  refine wp_ret ?_
  try simp only [Exit.then, Exit.inBlock]
  refine ret1 (v := .int .i64 p.fr) rfl kk ?_
  exact ⟨ret_int (by unfold otherOf; first | rw [if_pos q10] | rw [if_neg q10, if_pos q11] | rw [if_neg q10, if_neg q11]), c9⟩
 refine Fq (.bool false) (r_eql (m := u) (n := p.to) rfl ek ek (df q11)) ?_
 refine Fa (.bool false) ?_
 apply F.es
 apply h6
 refine wp_cond_false ek ?_
 apply wp_skip
 apply h2
 refine wk fun K8 h8 => ?_
 refine Rq 1 ?_
 refine Fa (.int .i64 0) ?_
 apply F.es
 apply h8
 refine wp_ret ?_
 try simp only [Exit.then]
 refine ret1 (v := .int .i64 0) rfl kk ?_
 exact ⟨ret_int (by unfold otherOf; first | rw [if_pos q10] | rw [if_neg q10, if_pos q11] | rw [if_neg q10, if_neg q11]), c9⟩
set_option maxRecDepth 100000 in
set_option maxHeartbeats 8000000 in
theorem l2Good_any (m : Int) (A : Option Addr) (n c : Nat) (ps : List Pp) (w : World) (ha : Rd w 4 A n (pipesV ps)) (hn : n ≤ 1048576) :
    Calls Try.prog 130 #[.agg #[.int .i64 m, .slice A n c]] w fun e w' => e = .returned (.bool (goodN m ps)) ∧ Below w.heap.size w w' := by
 have hl := rd_pipes_len ha
 go_enter Try.func130, Try.ntmps130
 refine F.begin 53 [(0, .agg #[.int .i64 m, .slice A n c])] (fun U0 => ?_)
 refine wk fun K1 h1 => ?_
 refine W.region_plain (row := none) [(0, true), (1, false)] kk ?_
 have s1 := SG.self w none
 refine W.sn (fun b => .pointer (some ⟨b, 0, none⟩)) #[.int .i64 m, .slice A n c] 26 s1 rfl kk rfl (fun _ => by kernel_rfl) (fun b2 w3 hb4 k5 x6 s7 => ?_)
 apply F.nx
 have lo8 : w.heap.size ≤ b2 := Nl ((Sb (Below.refl _ _) s1 nkk)).size (Nat.le_of_eq hb4)
 refine Fa (.bool false) ?_
 apply F.es
 have c9 := (Sb (Below.refl _ _) s7 nkk)
 apply h1
 refine wk fun K2 h2 => ?_
 refine wk fun K3 h3 => ?_
 refine Rq 1 ?_
 refine Fa (.int .i64 0) ?_
 apply F.es
 apply h3
 refine wp_block ?_
 refine loopK (fun am0 aa0 wl0 => ∃ (K : Nat) , Kn aa0 [(0, .agg #[.int .i64 m, .slice A n c]), (1, .pointer (some ⟨b2, 0, none⟩)), (2, .bool false), (3, .int .i64 (K : Int))] 53 ∧ (am0 = n - K) ∧ (K ≤ n) ∧ (K ≤ 11) ∧ (okTo m ps K = true) ∧ (wl0.heap[b2]? = some (.cells #[.int .i64 m, .slice A n c] 26 (0, 0))) ∧ (Below w.heap.size w wl0)) (n - 0) ?_ ?_
 ·exact ⟨0, Kn.of, rfl, (Nat.zero_le _), (Nat.zero_le _), rfl, x6, c9⟩
 rintro am0 aa0 wl0 K4 h4 ⟨K, ⟨U0, rfl⟩, rfl, hk, hk11, hok, x6, c10⟩
 refine wk fun K5 h5 => ?_
 refine wk fun K6 h6 => ?_
 refine Rq 9 ?_
 refine Fv (.int .i64 (K : Int)) ?_
 refine Fq (.pointer (some ⟨b2, 1, none⟩)) (r_field (k := 1) rfl ek kk) ?_
 refine Fl (.slice A n c) (eqS (blk_cell (j := 1) x6 kk)) ?_
 refine Fq (.int .i64 (n : Int)) (r_len (A := A) (n := n) (c := c) rfl ek kk) ?_
 by_cases q11 : ((K : Int) : Int) < ((n : Int) : Int)
 ·refine Fq (.bool true) (r_lss (m := (K : Int)) (n := (n : Int)) rfl ek ek (dt q11)) ?_
  refine Fv (.bool true) ?_
  refine Fv (.int .i64 (K : Int)) ?_
  by_cases q12 : ((K : Int) : Int) ≤ (10 : Int)
  ·refine Fq (.bool true) (r_leq (m := (K : Int)) (n := 10) rfl ek ek (dt q12)) ?_
   refine Fq (.bool true) (r_pick (b := true) rfl ek ek) ?_
   apply F.es
   apply h6
   refine wp_cond_true ek ?_
   apply wp_skip
   apply h5
   refine wk fun K7 h7 => ?_
   refine wp_block ?_
   refine wk fun K8 h8 => ?_
   refine W.region_sch (row := none) (Sch.of [(0, false), (1, false), (2, false), (3, false), (4, false), (5, false), (6, false), (7, true), (8, false), (9, false), (10, false), (11, false), (12, false), (13, false), (14, false), (15, false), (16, false), (17, false), (18, false), (19, false), (20, false), (21, false), (22, false), (23, false), (24, false), (25, false), (26, false), (27, false), (28, false)]) kk kk (fun _ d _ _ _ h => by cases d <;> exact h) kk (fun w13 e14 s15 => ?_)
   refine Fq (.pointer (some ⟨b2, 0, none⟩)) (r_field0 rfl ek kk) ?_
   refine Fl (.int .i64 m) (sgS (blk_cell (j := 0) x6 kk) onn) ?_
   refine Fq (.pointer (some ⟨b2, 1, none⟩)) (r_field (k := 1) rfl ek kk) ?_
   refine Fl (.slice A n c) (sgS (blk_cell (j := 1) x6 kk) onn) ?_
   refine Fv (.int .i64 (K : Int)) ?_
   obtain ⟨x16, hx17⟩ := get_of (zs := ps) (k := K) (by have := hl; omega)
   obtain ⟨b18, o19, hA20, hb21, hc22, hc23, hc24, hc25⟩ := Rd.elPipe ha hx17
   refine Fq (.pointer (some ⟨b18, o19 + K * 4, none⟩)) (r_idx (n := n) (c := c) (k := K) rfl ek hA20 kk kk (by have := hl; omega)) ?_
   refine Fq (.agg #[.int .i64 x16.id, .int .i64 x16.fr, .int .i64 x16.to, .int .i64 x16.sz]) (r_load4 rfl ek kk kk (sgS (later c10 hc22) (by simp)) (sgS (later c10 hc23) (by simp)) (sgS (later c10 hc24) (by simp)) (sgS (later c10 hc25) (by simp))) ?_
   refine Fc [.int .i64 m, .agg #[.int .i64 x16.id, .int .i64 x16.fr, .int .i64 x16.to, .int .i64 x16.sz]] (l2Pipe_any m x16 _) ?_
   rintro e w27 ⟨rfl, b26⟩
   have s28 := SG.of_below s15 b26
   refine ⟨_, rfl, s28, ?_⟩
   apply F.nx
   rcases Bool.eq_false_or_eq_true (pipeOk m x16) with q29 | q29
   ·rw [q29]
    refine Fq (.bool false) (r_not (b := true) rfl ek rfl) ?_
    refine Fv (.bool false) ?_
    refine Fv (.int .i64 (K : Int)) ?_
    by_cases q30 : ((K : Int) : Int) > (0 : Int)
    ·obtain ⟨k, rfl⟩ : ∃ k, K = k + 1 := ⟨K - 1, by omega⟩
     refine Fq (.bool true) (r_gtr (m := (((k + 1) : Nat) : Int)) (n := 0) rfl ek ek (dt q30)) ?_
     refine Fv (.bool true) ?_
     refine Fq (.pointer (some ⟨b2, 1, none⟩)) (r_field (k := 1) rfl ek kk) ?_
     refine Fl (.slice A n c) (sgS (blk_cell (j := 1) x6 kk) onn) ?_
     refine Fv (.int .i64 (((k + 1) : Nat) : Int)) ?_
     refine Fq (.int .i64 (k : Int)) (r_sub (m := (((k + 1) : Nat) : Int)) (n := 1) (z := (k : Int)) rfl ek ek (by omega) (by omega)) ?_
     obtain ⟨x31, hx32⟩ := get_of (zs := ps) (k := k) (by have := hl; omega)
     obtain ⟨b33, o34, hA35, hb36, hc37, hc38, hc39, hc40⟩ := Rd.elPipe ha hx32
     refine Fq (.pointer (some ⟨b33, o34 + k * 4, none⟩)) (r_idx (n := n) (c := c) (k := k) rfl ek hA35 kk kk (by have := hl; omega)) ?_
     refine Fq (.pointer (some ⟨b33, o34 + k * 4, none⟩)) (r_field0 rfl ek kk) ?_
     refine Fl (.int .i64 x31.id) (sgS (later c10 hc37) (by simp)) ?_
     refine Fq (.pointer (some ⟨b2, 1, none⟩)) (r_field (k := 1) rfl ek kk) ?_
     refine Fl (.slice A n c) (sgS (blk_cell (j := 1) x6 kk) onn) ?_
     refine Fv (.int .i64 (((k + 1) : Nat) : Int)) ?_
     refine Fq (.pointer (some ⟨b18, o19 + (k + 1) * 4, none⟩)) (r_idx (n := n) (c := c) (k := (k + 1)) rfl ek hA20 kk kk (by have := hl; omega)) ?_
     refine Fq (.pointer (some ⟨b18, o19 + (k + 1) * 4, none⟩)) (r_field0 rfl ek kk) ?_
     refine Fl (.int .i64 x16.id) (sgS (later c10 hc22) (by simp)) ?_
     by_cases q41 : (x31.id : Int) ≥ (x16.id : Int)
     ·refine Fq (.bool true) (r_geq (m := x31.id) (n := x16.id) rfl ek ek (dt q41)) ?_
      refine Fq (.bool true) (r_pick (b := true) rfl ek ek) ?_
      refine Fq (.bool true) (r_pick (b := false) rfl ek ek) ?_
      apply F.es
      have x6 := Sk s28 x6 onn
      have c42 := (Sb c10 s28 nkk)
      apply h8
      refine wp_cond_true ek ?_
      refine wk fun K9 h9 => ?_
      refine Rq 1 ?_
      refine Fa (.bool false) ?_
      apply F.es
      apply h9
      refine wp_ret ?_
      try simp only [Exit.then, Exit.inBlock]
      refine ret1 (v := .bool false) rfl kk ?_
      exact ⟨ret_bool (goodN_bad (k := k + 1) (by omega) (by rw [okAt_next hx17 hx32, q29]; have := q41; simp; omega)).symm, c42⟩
     refine Fq (.bool false) (r_geq (m := x31.id) (n := x16.id) rfl ek ek (df q41)) ?_
     refine Fq (.bool false) (r_pick (b := true) rfl ek ek) ?_
     refine Fq (.bool false) (r_pick (b := false) rfl ek ek) ?_
     apply F.es
     have x6 := Sk s28 x6 onn
     have c43 := (Sb c10 s28 nkk)
     apply h8
     refine wp_cond_false ek ?_
     apply wp_skip
     apply h7
     refine Rq 3 ?_
     refine Fv (.int .i64 (((k + 1) : Nat) : Int)) ?_
     refine Fq (.int .i64 (((k + 1) + 1 : Nat) : Int)) (r_add (m := (((k + 1) : Nat) : Int)) (n := 1) (z := (((k + 1) + 1 : Nat) : Int)) rfl ek ek (by omega) (by omega)) ?_
     refine Fa (.int .i64 (((k + 1) + 1 : Nat) : Int)) ?_
     apply F.es
     exact h4 _ _ _ (by omega : (n - (k + 1 + 1)) < _) ⟨k + 1 + 1, Kn.of, rfl, (by omega), (by omega), (okTo_next hok (by rw [okAt_next hx17 hx32, q29]; have := q41; simp; omega)), x6, c43⟩
    refine Fq (.bool false) (r_gtr (m := (K : Int)) (n := 0) rfl ek ek (df q30)) ?_
    refine Fv (.bool false) ?_
    refine Fs s28 ?_
    refine Fs s28 ?_
    refine Fs s28 ?_
    refine Fs s28 ?_
    refine Fs s28 ?_
    refine Fs s28 ?_
    refine Fs s28 ?_
    refine Fs s28 ?_
    refine Fs s28 ?_
    refine Fs s28 ?_
    refine Fs s28 ?_
    refine Fs s28 ?_
    refine Fs s28 ?_
    refine Fs s28 ?_
    refine Fq (.bool false) (r_pick (b := false) rfl ek ek) ?_
    refine Fq (.bool false) (r_pick (b := false) rfl ek ek) ?_
    apply F.es
    have x6 := Sk s28 x6 onn
    have c44 := (Sb c10 s28 nkk)
    apply h8
    refine wp_cond_false ek ?_
    apply wp_skip
    apply h7
    refine Rq 3 ?_
    refine Fv (.int .i64 (K : Int)) ?_
    refine Fq (.int .i64 ((K + 1 : Nat) : Int)) (r_add (m := (K : Int)) (n := 1) (z := ((K + 1 : Nat) : Int)) rfl ek ek (by omega) (by omega)) ?_
    refine Fa (.int .i64 ((K + 1 : Nat) : Int)) ?_
    apply F.es
    exact h4 _ _ _ (by omega : (n - (K + 1)) < _) ⟨K + 1, Kn.of, rfl, (by omega), (by omega), (okTo_next hok (by have e0 : K = 0 := (by omega); subst e0; rw [okAt_zero hx17]; exact q29)), x6, c44⟩
   rw [q29]
   refine Fq (.bool true) (r_not (b := false) rfl ek rfl) ?_
   refine Fv (.bool true) ?_
   refine Fs s28 ?_
   refine Fs s28 ?_
   refine Fs s28 ?_
   refine Fs s28 ?_
   refine Fs s28 ?_
   refine Fs s28 ?_
   refine Fs s28 ?_
   refine Fs s28 ?_
   refine Fs s28 ?_
   refine Fs s28 ?_
   refine Fs s28 ?_
   refine Fs s28 ?_
   refine Fs s28 ?_
   refine Fs s28 ?_
   refine Fs s28 ?_
   refine Fs s28 ?_
   refine Fs s28 ?_
   refine Fs s28 ?_
   refine Fq (.bool true) (r_pick (b := true) rfl ek ek) ?_
   apply F.es
   have x6 := Sk s28 x6 onn
   have c45 := (Sb c10 s28 nkk)
   apply h8
   refine wp_cond_true ek ?_
   refine wk fun K10 h10 => ?_
   refine Rq 1 ?_
   refine Fa (.bool false) ?_
   apply F.es
   apply h10
   refine wp_ret ?_
   try simp only [Exit.then, Exit.inBlock]
   refine ret1 (v := .bool false) rfl kk ?_
   exact ⟨ret_bool (goodN_bad (k := K) (by omega) (okAt_pipe hx17 q29)).symm, c45⟩
  refine Fq (.bool false) (r_leq (m := (K : Int)) (n := 10) rfl ek ek (df q12)) ?_
  refine Fq (.bool false) (r_pick (b := true) rfl ek ek) ?_
  apply F.es
  apply h6
  refine wp_cond_false ek ?_
  refine wp_exit ?_
  apply h2
  refine wk fun K11 h11 => ?_
  refine W.region_plain (row := none) [(0, false), (1, false), (2, true), (3, false), (4, false), (5, false), (6, false), (7, false), (8, false), (9, false)] kk ?_
  have s46 := SG.self wl0 none
  refine Fq (.pointer (some ⟨b2, 0, none⟩)) (r_field0 rfl ek kk) ?_
  refine Fl (.int .i64 m) (sgS (blk_cell (j := 0) x6 kk) onn) ?_
  refine Fc [.int .i64 m, .int .i64 1, .int .i64 8] (l1In_any m 1 8 _) ?_
  rintro e w' ⟨rfl, rfl⟩
  refine ⟨_, rfl, s46, ?_⟩
  apply F.nx
  rcases Bool.eq_false_or_eq_true (inB m 1 8) with q49 | q49
  ·rw [q49]
   refine Fv (.bool true) ?_
   refine Fq (.pointer (some ⟨b2, 1, none⟩)) (r_field (k := 1) rfl ek kk) ?_
   refine Fl (.slice A n c) (sgS (blk_cell (j := 1) x6 kk) onn) ?_
   refine Fq (.int .i64 (n : Int)) (r_len (A := A) (n := n) (c := c) rfl ek kk) ?_
   by_cases q50 : ((n : Int) : Int) ≤ (10 : Int)
   ·refine Fq (.bool true) (r_leq (m := (n : Int)) (n := 10) rfl ek ek (dt q50)) ?_
    refine Fq (.bool true) (r_pick (b := true) rfl ek ek) ?_
    refine Fa (.bool true) ?_
    apply F.es
    have x6 := Sk s46 x6 onn
    have c51 := (Sb c10 s46 nkk)
    apply h11
    refine wp_ret ?_
    try simp only [Exit.then]
    refine ret1 (v := .bool true) rfl kk ?_
    exact ⟨ret_bool (by rw [goodN_fin hl hk hok (by omega)]; simp [q49, q50]), c51⟩
   refine Fq (.bool false) (r_leq (m := (n : Int)) (n := 10) rfl ek ek (df q50)) ?_
   refine Fq (.bool false) (r_pick (b := true) rfl ek ek) ?_
   refine Fa (.bool false) ?_
   apply F.es
   have x6 := Sk s46 x6 onn
   have c52 := (Sb c10 s46 nkk)
   apply h11
   refine wp_ret ?_
   try simp only [Exit.then]
   refine ret1 (v := .bool false) rfl kk ?_
   exact ⟨ret_bool (by rw [goodN_fin hl hk hok (by omega)]; simp [q49, q50]), c52⟩
  rw [q49]
  refine Fv (.bool false) ?_
  refine Fs s46 ?_
  refine Fs s46 ?_
  refine Fs s46 ?_
  refine Fs s46 ?_
  refine Fq (.bool false) (r_pick (b := false) rfl ek ek) ?_
  refine Fa (.bool false) ?_
  apply F.es
  have x6 := Sk s46 x6 onn
  have c53 := (Sb c10 s46 nkk)
  apply h11
  refine wp_ret ?_
  try simp only [Exit.then]
  refine ret1 (v := .bool false) rfl kk ?_
  exact ⟨ret_bool (by rw [goodN_fin hl hk hok (by omega)]; simp [q49]), c53⟩
 refine Fq (.bool false) (r_lss (m := (K : Int)) (n := (n : Int)) rfl ek ek (df q11)) ?_
 refine Fv (.bool false) ?_
 refine Fs rfl ?_
 refine Fs rfl ?_
 refine Fq (.bool false) (r_pick (b := false) rfl ek ek) ?_
 apply F.es
 apply h6
 refine wp_cond_false ek ?_
 refine wp_exit ?_
 apply h2
 refine wk fun K12 h12 => ?_
 refine W.region_plain (row := none) [(0, false), (1, false), (2, true), (3, false), (4, false), (5, false), (6, false), (7, false), (8, false), (9, false)] kk ?_
 have s54 := SG.self wl0 none
 refine Fq (.pointer (some ⟨b2, 0, none⟩)) (r_field0 rfl ek kk) ?_
 refine Fl (.int .i64 m) (sgS (blk_cell (j := 0) x6 kk) onn) ?_
 refine Fc [.int .i64 m, .int .i64 1, .int .i64 8] (l1In_any m 1 8 _) ?_
 rintro e w' ⟨rfl, rfl⟩
 refine ⟨_, rfl, s54, ?_⟩
 apply F.nx
 rcases Bool.eq_false_or_eq_true (inB m 1 8) with q57 | q57
 ·rw [q57]
  refine Fv (.bool true) ?_
  refine Fq (.pointer (some ⟨b2, 1, none⟩)) (r_field (k := 1) rfl ek kk) ?_
  refine Fl (.slice A n c) (sgS (blk_cell (j := 1) x6 kk) onn) ?_
  refine Fq (.int .i64 (n : Int)) (r_len (A := A) (n := n) (c := c) rfl ek kk) ?_
  by_cases q58 : ((n : Int) : Int) ≤ (10 : Int)
  ·refine Fq (.bool true) (r_leq (m := (n : Int)) (n := 10) rfl ek ek (dt q58)) ?_
   refine Fq (.bool true) (r_pick (b := true) rfl ek ek) ?_
   refine Fa (.bool true) ?_
   apply F.es
   have c59 := (Sb c10 s54 nkk)
   apply h12
   refine wp_ret ?_
   try simp only [Exit.then]
   refine ret1 (v := .bool true) rfl kk ?_
   exact ⟨ret_bool (by rw [goodN_fin hl hk hok (by omega)]; simp [q57, q58]), c59⟩
  refine Fq (.bool false) (r_leq (m := (n : Int)) (n := 10) rfl ek ek (df q58)) ?_
  refine Fq (.bool false) (r_pick (b := true) rfl ek ek) ?_
  refine Fa (.bool false) ?_
  apply F.es
  have c60 := (Sb c10 s54 nkk)
  apply h12
  refine wp_ret ?_
  try simp only [Exit.then]
  refine ret1 (v := .bool false) rfl kk ?_
  exact ⟨ret_bool (by rw [goodN_fin hl hk hok (by omega)]; simp [q57, q58]), c60⟩
 rw [q57]
 refine Fv (.bool false) ?_
 refine Fs s54 ?_
 refine Fs s54 ?_
 refine Fs s54 ?_
 refine Fs s54 ?_
 refine Fq (.bool false) (r_pick (b := false) rfl ek ek) ?_
 refine Fa (.bool false) ?_
 apply F.es
 have c61 := (Sb c10 s54 nkk)
 apply h12
 refine wp_ret ?_
 try simp only [Exit.then]
 refine ret1 (v := .bool false) rfl kk ?_
 exact ⟨ret_bool (by rw [goodN_fin hl hk hok (by omega)]; simp [q57]), c61⟩
end Go.Proofs.Ytdbgfejeleafgaa
namespace Go.Proofs.Ytdbgfejeleafgaa
open Go.RowKit
set_option linter.unusedVariables false
set_option maxRecDepth 100000 in
set_option maxHeartbeats 8000000 in
theorem IsValid_any (m : Int) (A : Option Addr) (n c : Nat) (ps : List Pp) (w : World) (ha : Rd w 4 A n (pipesV ps)) (hn : n ≤ 1048576) :
    Calls Try.prog 79 #[.agg #[.int .i64 m, .slice A n c]] w fun e w' => e = .returned (.bool (goodN m ps)) ∧ Below w.heap.size w w' := by
 have hl := rd_pipes_len ha
 go_enter Try.func79, Try.ntmps79
 refine F.begin 71 [(0, .agg #[.int .i64 m, .slice A n c])] (fun U0 => ?_)
 refine wk fun K1 h1 => ?_
 refine W.region_plain (row := none) [(0, true), (1, false)] kk ?_
 have s1 := SG.self w none
 refine W.sn (fun b => .pointer (some ⟨b, 0, none⟩)) #[.int .i64 m, .slice A n c] 26 s1 rfl kk rfl (fun _ => by kernel_rfl) (fun b2 w3 hb4 k5 x6 s7 => ?_)
 apply F.nx
 have lo8 : w.heap.size ≤ b2 := Nl ((Sb (Below.refl _ _) s1 nkk)).size (Nat.le_of_eq hb4)
 refine Fa (.bool false) ?_
 apply F.es
 have c9 := (Sb (Below.refl _ _) s7 nkk)
 apply h1
 refine wk fun K2 h2 => ?_
 refine wk fun K3 h3 => ?_
 refine W.region_plain (row := none) [(0, false), (1, false), (2, true), (3, false), (4, false), (5, false), (6, false), (7, false), (8, false), (9, false)] kk ?_
 have s10 := SG.self w3 none
 refine Fq (.pointer (some ⟨b2, 0, none⟩)) (r_field0 rfl ek kk) ?_
 refine Fl (.int .i64 m) (sgS (blk_cell (j := 0) x6 kk) onn) ?_
 refine Fc [.int .i64 m, .int .i64 1, .int .i64 8] (inside_any m 1 8 _) ?_
 rintro e w' ⟨rfl, rfl⟩
 refine ⟨_, rfl, s10, ?_⟩
 apply F.nx
 rcases Bool.eq_false_or_eq_true (inB m 1 8) with q13 | q13
 ·rw [q13]
  refine Fq (.bool false) (r_not (b := true) rfl ek rfl) ?_
  refine Fv (.bool false) ?_
  refine Fq (.pointer (some ⟨b2, 1, none⟩)) (r_field (k := 1) rfl ek kk) ?_
  refine Fl (.slice A n c) (sgS (blk_cell (j := 1) x6 kk) onn) ?_
  refine Fq (.int .i64 (n : Int)) (r_len (A := A) (n := n) (c := c) rfl ek kk) ?_
  by_cases q14 : ((n : Int) : Int) > (10 : Int)
  ·refine Fq (.bool true) (r_gtr (m := (n : Int)) (n := 10) rfl ek ek (dt q14)) ?_
   refine Fq (.bool true) (r_pick (b := false) rfl ek ek) ?_
   apply F.es
   have x6 := Sk s10 x6 onn
   have c15 := (Sb c9 s10 nkk)
   apply h3
   refine wp_cond_true ek ?_
   refine wk fun K4 h4 => ?_
   refine Rq 1 ?_
   refine Fa (.bool false) ?_
   apply F.es
   apply h4
   refine wp_ret ?_
   try simp only [Exit.then]
   refine ret1 (v := .bool false) rfl kk ?_
   exact ⟨ret_bool (goodN_out hl (by simp [q13]; omega)).symm, c15⟩
  refine Fq (.bool false) (r_gtr (m := (n : Int)) (n := 10) rfl ek ek (df q14)) ?_
  refine Fq (.bool false) (r_pick (b := false) rfl ek ek) ?_
  apply F.es
  have x6 := Sk s10 x6 onn
  have c16 := (Sb c9 s10 nkk)
  apply h3
  refine wp_cond_false ek ?_
  apply wp_skip
  apply h2
  refine wk fun K5 h5 => ?_
  refine wk fun K6 h6 => ?_
  refine Rq 4 ?_
  refine Fq (.pointer (some ⟨b2, 1, none⟩)) (r_field (k := 1) rfl ek kk) ?_
  refine Fl (.slice A n c) (eqS (blk_cell (j := 1) x6 kk)) ?_
  refine Fq (.int .i64 (n : Int)) (r_len (A := A) (n := n) (c := c) rfl ek kk) ?_
  refine Fv (.int .i64 0) ?_
  apply F.es
  apply h6
  refine wp_block ?_
  refine loopK (fun am0 aa0 wl0 => ∃ (K : Nat) , Kn aa0 [(0, .agg #[.int .i64 m, .slice A n c]), (1, .pointer (some ⟨b2, 0, none⟩)), (2, .bool false), (14, .bool false), (16, .slice A n c), (17, .int .i64 (n : Int)), (18, .int .i64 (K : Int))] 71 ∧ (am0 = n - K) ∧ (K ≤ n) ∧ (okTo m ps K = true) ∧ (wl0.heap[b2]? = some (.cells #[.int .i64 m, .slice A n c] 26 (0, 0))) ∧ (Below w.heap.size w wl0)) (n - 0) ?_ ?_
  ·exact ⟨0, Kn.of, rfl, (Nat.zero_le _), rfl, x6, c16⟩
  rintro am0 aa0 wl0 K7 h7 ⟨K, ⟨U0, rfl⟩, rfl, hk, hok, x6, c17⟩
  refine wk fun K8 h8 => ?_
  refine Rq 1 ?_
  by_cases q18 : ((K : Int) : Int) < ((n : Int) : Int)
  ·refine Fq (.bool true) (r_lss (m := (K : Int)) (n := (n : Int)) rfl ek ek (dt q18)) ?_
   apply F.es
   apply h8
   refine wk fun K9 h9 => ?_
   refine wp_cond_true ek ?_
   apply wp_skip
   apply h9
   refine wk fun K10 h10 => ?_
   refine wp_block ?_
   refine wk fun K11 h11 => ?_
   refine W.region_plain (row := none) [(0, false), (1, false), (2, false), (3, true), (4, false), (5, true)] kk ?_
   have s19 := SG.self wl0 none
   refine Fv (.int .i64 (K : Int)) ?_
   obtain ⟨x20, hx21⟩ := get_of (zs := ps) (k := K) (by have := hl; omega)
   obtain ⟨b22, o23, hA24, hb25, hc26, hc27, hc28, hc29⟩ := Rd.elPipe ha hx21
   refine Fq (.pointer (some ⟨b22, o23 + K * 4, none⟩)) (r_idx (n := n) (c := c) (k := K) rfl ek hA24 kk kk (by have := hl; omega)) ?_
   refine Fq (.agg #[.int .i64 x20.id, .int .i64 x20.fr, .int .i64 x20.to, .int .i64 x20.sz]) (r_load4 rfl ek kk kk (sgS (later c17 hc26) (by simp)) (sgS (later c17 hc27) (by simp)) (sgS (later c17 hc28) (by simp)) (sgS (later c17 hc29) (by simp))) ?_
   refine W.sn (fun b => .pointer (some ⟨b, 0, none⟩)) #[.int .i64 0, .int .i64 0, .int .i64 0, .int .i64 0] 51 s19 rfl kk rfl (fun _ => by kernel_rfl) (fun b30 w31 hb32 k33 x34 s35 => ?_)
   apply F.nx
   have lo36 : w.heap.size ≤ b30 := Nl ((Sb c17 s19 nkk)).size (Nat.le_of_eq hb32)
   refine Fa (.int .i64 (K : Int)) ?_
   refine W.ss (v := .agg #[.int .i64 x20.id, .int .i64 x20.fr, .int .i64 x20.to, .int .i64 x20.sz]) (j := 0) (news := [.int .i64 x20.id, .int .i64 x20.fr, .int .i64 x20.to, .int .i64 x20.sz]) (cs' := #[.int .i64 x20.id, .int .i64 x20.fr, .int .i64 x20.to, .int .i64 x20.sz]) s35 rfl kk rfl rfl kk kk x34 kk kk (by simp) kk kk (.inr (Nl (s19).size (Nat.le_of_eq hb32))) (fun w38 g39 x40 s41 => ?_)
   apply F.es
   have x6 := Sk s41 x6 onn
   have c42 := (Sb c17 s41 nkk)
   apply h11
   refine wk fun K12 h12 => ?_
   refine W.region_sch (row := none) (Sch.of [(0, false), (1, false), (2, true), (3, false), (4, false), (5, false), (6, false), (7, false), (8, true), (9, false), (10, false), (11, false), (12, false), (13, false), (14, false), (15, true), (16, false), (17, false), (18, false), (19, false), (20, false), (21, false), (22, false), (23, false), (24, false), (25, false), (26, false), (27, false), (28, true), (29, false), (30, false), (31, false), (32, false), (33, false), (34, false), (35, false), (36, false), (37, false), (38, false), (39, false), (40, false), (41, false), (42, false), (43, false), (44, false), (45, false), (46, false)]) kk kk (fun _ d _ _ _ h => by cases d <;> exact h) kk (fun w43 e44 s45 => ?_)
   refine Fq (.pointer (some ⟨b30, 0, none⟩)) (r_field0 rfl ek kk) ?_
   refine Fl (.int .i64 x20.id) (sgS (blk_cell (j := 0) x40 kk) onn) ?_
   refine Fc [.int .i64 x20.id, .int .i64 1, .int .i64 99] (inside_any x20.id 1 99 _) ?_
   rintro e w' ⟨rfl, rfl⟩
   refine ⟨_, rfl, s45, ?_⟩
   apply F.nx
   rcases Bool.eq_false_or_eq_true (inB x20.id 1 99) with q48 | q48
   ·rw [q48]
    refine Fq (.bool false) (r_not (b := true) rfl ek rfl) ?_
    refine Fv (.bool false) ?_
    refine Fq (.agg #[.int .i64 m, .slice A n c]) (r_load2 rfl ek kk kk (sgS (blk_cell (j := 0) x6 kk) onn) (sgS (blk_cell (j := 1) x6 kk) onn)) ?_
    refine Fq (.pointer (some ⟨b30, 1, none⟩)) (r_field (k := 1) rfl ek kk) ?_
    refine Fl (.int .i64 x20.fr) (sgS (blk_cell (j := 1) x40 kk) onn) ?_
    refine Fc [.agg #[.int .i64 m, .slice A n c], .int .i64 x20.fr] (has_any m A n c ps x20.fr _) ?_
    rintro e w50 ⟨rfl, b49⟩
    have s51 := SG.of_below s45 b49
    refine ⟨_, rfl, s51, ?_⟩
    apply F.nx
    rcases Bool.eq_false_or_eq_true (inB x20.fr 1 m) with q52 | q52
    ·rw [q52]
     refine Fq (.bool false) (r_not (b := true) rfl ek rfl) ?_
     refine Fq (.bool false) (r_pick (b := false) rfl ek ek) ?_
     refine Fv (.bool false) ?_
     refine Fq (.agg #[.int .i64 m, .slice A n c]) (r_load2 rfl ek kk kk (sgS (blk_cell (j := 0) x6 kk) onn) (sgS (blk_cell (j := 1) x6 kk) onn)) ?_
     refine Fq (.pointer (some ⟨b30, 2, none⟩)) (r_field (k := 2) rfl ek kk) ?_
     refine Fl (.int .i64 x20.to) (sgS (blk_cell (j := 2) x40 kk) onn) ?_
     refine Fc [.agg #[.int .i64 m, .slice A n c], .int .i64 x20.to] (has_any m A n c ps x20.to _) ?_
     rintro e w54 ⟨rfl, b53⟩
     have s55 := SG.of_below s51 b53
     refine ⟨_, rfl, s55, ?_⟩
     apply F.nx
     rcases Bool.eq_false_or_eq_true (inB x20.to 1 m) with q56 | q56
     ·rw [q56]
      refine Fq (.bool false) (r_not (b := true) rfl ek rfl) ?_
      refine Fq (.bool false) (r_pick (b := false) rfl ek ek) ?_
      refine Fv (.bool false) ?_
      refine Fq (.pointer (some ⟨b30, 1, none⟩)) (r_field (k := 1) rfl ek kk) ?_
      refine Fl (.int .i64 x20.fr) (sgS (blk_cell (j := 1) x40 kk) onn) ?_
      refine Fq (.pointer (some ⟨b30, 2, none⟩)) (r_field (k := 2) rfl ek kk) ?_
      refine Fl (.int .i64 x20.to) (sgS (blk_cell (j := 2) x40 kk) onn) ?_
      by_cases q57 : (x20.fr : Int) = (x20.to : Int)
      ·refine Fq (.bool true) (r_eql (m := x20.fr) (n := x20.to) rfl ek ek (dt q57)) ?_
       refine Fq (.bool true) (r_pick (b := false) rfl ek ek) ?_
       refine Fv (.bool true) ?_
       refine Fs s55 ?_
       refine Fs s55 ?_
       refine Fs s55 ?_
       refine Fs s55 ?_
       refine Fq (.bool true) (r_pick (b := true) rfl ek ek) ?_
       refine Fv (.bool true) ?_
       refine Fs s55 ?_
       refine Fs s55 ?_
       refine Fs s55 ?_
       refine Fs s55 ?_
       refine Fs s55 ?_
       refine Fs s55 ?_
       refine Fs s55 ?_
       refine Fs s55 ?_
       refine Fs s55 ?_
       refine Fs s55 ?_
       refine Fs s55 ?_
       refine Fs s55 ?_
       refine Fs s55 ?_
       refine Fs s55 ?_
       refine Fq (.bool true) (r_pick (b := true) rfl ek ek) ?_
       apply F.es
       have x6 := Sk s55 x6 onn
       have x40 := Sk s55 x40 onn
       have c58 := (Sb c42 s55 nkk)
       apply h12
       refine wp_cond_true ek ?_
       refine wk fun K13 h13 => ?_
       refine Rq 1 ?_
       refine Fa (.bool false) ?_
       apply F.es
       apply h13
       refine wp_ret ?_
       try simp only [Exit.then, Exit.inBlock]
       refine ret1 (v := .bool false) rfl kk ?_
       exact ⟨ret_bool (goodN_bad (k := K) (by omega) (okAt_pipe hx21 (by simp [pipeOk, q57]))).symm, c58⟩
      refine Fq (.bool false) (r_eql (m := x20.fr) (n := x20.to) rfl ek ek (df q57)) ?_
      refine Fq (.bool false) (r_pick (b := false) rfl ek ek) ?_
      refine Fv (.bool false) ?_
      refine Fq (.pointer (some ⟨b30, 3, none⟩)) (r_field (k := 3) rfl ek kk) ?_
      refine Fl (.int .i64 x20.sz) (sgS (blk_cell (j := 3) x40 kk) onn) ?_
      refine Fc [.int .i64 x20.sz, .int .i64 1, .int .i64 9] (inside_any x20.sz 1 9 _) ?_
      rintro e w' ⟨rfl, rfl⟩
      refine ⟨_, rfl, s55, ?_⟩
      apply F.nx
      rcases Bool.eq_false_or_eq_true (inB x20.sz 1 9) with q61 | q61
      ·rw [q61]
       refine Fq (.bool false) (r_not (b := true) rfl ek rfl) ?_
       refine Fq (.bool false) (r_pick (b := false) rfl ek ek) ?_
       refine Fv (.bool false) ?_
       refine Fv (.int .i64 (K : Int)) ?_
       by_cases q62 : ((K : Int) : Int) > (0 : Int)
       ·obtain ⟨k, rfl⟩ : ∃ k, K = k + 1 := ⟨K - 1, by omega⟩
        refine Fq (.bool true) (r_gtr (m := (((k + 1) : Nat) : Int)) (n := 0) rfl ek ek (dt q62)) ?_
        refine Fv (.bool true) ?_
        refine Fq (.pointer (some ⟨b2, 1, none⟩)) (r_field (k := 1) rfl ek kk) ?_
        refine Fl (.slice A n c) (sgS (blk_cell (j := 1) x6 kk) onn) ?_
        refine Fv (.int .i64 (((k + 1) : Nat) : Int)) ?_
        refine Fq (.int .i64 (k : Int)) (r_sub (m := (((k + 1) : Nat) : Int)) (n := 1) (z := (k : Int)) rfl ek ek (by omega) (by omega)) ?_
        obtain ⟨x63, hx64⟩ := get_of (zs := ps) (k := k) (by have := hl; omega)
        obtain ⟨b65, o66, hA67, hb68, hc69, hc70, hc71, hc72⟩ := Rd.elPipe ha hx64
        refine Fq (.pointer (some ⟨b65, o66 + k * 4, none⟩)) (r_idx (n := n) (c := c) (k := k) rfl ek hA67 kk kk (by have := hl; omega)) ?_
        refine Fq (.pointer (some ⟨b65, o66 + k * 4, none⟩)) (r_field0 rfl ek kk) ?_
        refine Fl (.int .i64 x63.id) (sgS (later c42 hc69) (by simp)) ?_
        refine Fq (.pointer (some ⟨b30, 0, none⟩)) (r_field0 rfl ek kk) ?_
        refine Fl (.int .i64 x20.id) (sgS (blk_cell (j := 0) x40 kk) onn) ?_
        by_cases q73 : (x63.id : Int) ≥ (x20.id : Int)
        ·refine Fq (.bool true) (r_geq (m := x63.id) (n := x20.id) rfl ek ek (dt q73)) ?_
         refine Fq (.bool true) (r_pick (b := true) rfl ek ek) ?_
         refine Fq (.bool true) (r_pick (b := false) rfl ek ek) ?_
         apply F.es
         have x6 := Sk s55 x6 onn
         have c74 := (Sb c42 s55 nkk)
         apply h12
         refine wp_cond_true ek ?_
         refine wk fun K14 h14 => ?_
         refine Rq 1 ?_
         refine Fa (.bool false) ?_
         apply F.es
         apply h14
         refine wp_ret ?_
         try simp only [Exit.then, Exit.inBlock]
         refine ret1 (v := .bool false) rfl kk ?_
         exact ⟨ret_bool (goodN_bad (k := k + 1) (by omega) (by rw [okAt_next hx21 hx64]; have := q73; simp [pipeOk, q48, q52, q56, q57, q61]; omega)).symm, c74⟩
        refine Fq (.bool false) (r_geq (m := x63.id) (n := x20.id) rfl ek ek (df q73)) ?_
        refine Fq (.bool false) (r_pick (b := true) rfl ek ek) ?_
        refine Fq (.bool false) (r_pick (b := false) rfl ek ek) ?_
        apply F.es
        have x6 := Sk s55 x6 onn
        have c75 := (Sb c42 s55 nkk)
        apply h12
        refine wp_cond_false ek ?_
        apply wp_skip
        apply h10
        refine Rq 2 ?_
        refine Fq (.int .i64 (((k + 1) + 1 : Nat) : Int)) (r_add (m := (((k + 1) : Nat) : Int)) (n := 1) (z := (((k + 1) + 1 : Nat) : Int)) rfl ek ek (by omega) (by omega)) ?_
        refine Fv (.int .i64 (((k + 1) + 1 : Nat) : Int)) ?_
        apply F.es
        exact h7 _ _ _ (by omega : (n - (k + 1 + 1)) < _) ⟨k + 1 + 1, Kn.of, rfl, (by omega), (okTo_next hok (by rw [okAt_next hx21 hx64]; have := q73; simp [pipeOk, q48, q52, q56, q57, q61]; omega)), x6, c75⟩
       refine Fq (.bool false) (r_gtr (m := (K : Int)) (n := 0) rfl ek ek (df q62)) ?_
       refine Fv (.bool false) ?_
       refine Fs s55 ?_
       refine Fs s55 ?_
       refine Fs s55 ?_
       refine Fs s55 ?_
       refine Fs s55 ?_
       refine Fs s55 ?_
       refine Fs s55 ?_
       refine Fs s55 ?_
       refine Fs s55 ?_
       refine Fs s55 ?_
       refine Fq (.bool false) (r_pick (b := false) rfl ek ek) ?_
       refine Fq (.bool false) (r_pick (b := false) rfl ek ek) ?_
       apply F.es
       have x6 := Sk s55 x6 onn
       have c76 := (Sb c42 s55 nkk)
       apply h12
       refine wp_cond_false ek ?_
       apply wp_skip
       apply h10
       refine Rq 2 ?_
       refine Fq (.int .i64 ((K + 1 : Nat) : Int)) (r_add (m := (K : Int)) (n := 1) (z := ((K + 1 : Nat) : Int)) rfl ek ek (by omega) (by omega)) ?_
       refine Fv (.int .i64 ((K + 1 : Nat) : Int)) ?_
       apply F.es
       exact h7 _ _ _ (by omega : (n - (K + 1)) < _) ⟨K + 1, Kn.of, rfl, (by omega), (okTo_next hok (by have e0 : K = 0 := (by omega); subst e0; rw [okAt_zero hx21]; simp [pipeOk, q48, q52, q56, q57, q61])), x6, c76⟩
      rw [q61]
      refine Fq (.bool true) (r_not (b := false) rfl ek rfl) ?_
      refine Fq (.bool true) (r_pick (b := false) rfl ek ek) ?_
      refine Fv (.bool true) ?_
      refine Fs s55 ?_
      refine Fs s55 ?_
      refine Fs s55 ?_
      refine Fs s55 ?_
      refine Fs s55 ?_
      refine Fs s55 ?_
      refine Fs s55 ?_
      refine Fs s55 ?_
      refine Fs s55 ?_
      refine Fs s55 ?_
      refine Fs s55 ?_
      refine Fs s55 ?_
      refine Fs s55 ?_
      refine Fs s55 ?_
      refine Fq (.bool true) (r_pick (b := true) rfl ek ek) ?_
      apply F.es
      have c77 := (Sb c42 s55 nkk)
      apply h12
      refine wp_cond_true ek ?_
      refine wk fun K15 h15 => ?_
      refine Rq 1 ?_
      refine Fa (.bool false) ?_
      apply F.es
      apply h15
      refine wp_ret ?_
      try simp only [Exit.then, Exit.inBlock]
      refine ret1 (v := .bool false) rfl kk ?_
      exact ⟨ret_bool (goodN_bad (k := K) (by omega) (okAt_pipe hx21 (by simp [pipeOk, q61]))).symm, c77⟩
     rw [q56]
     refine Fq (.bool true) (r_not (b := false) rfl ek rfl) ?_
     refine Fq (.bool true) (r_pick (b := false) rfl ek ek) ?_
     refine Fv (.bool true) ?_
     refine Fs s55 ?_
     refine Fs s55 ?_
     refine Fs s55 ?_
     refine Fs s55 ?_
     refine Fs s55 ?_
     refine Fq (.bool true) (r_pick (b := true) rfl ek ek) ?_
     refine Fv (.bool true) ?_
     refine Fs s55 ?_
     refine Fs s55 ?_
     refine Fs s55 ?_
     refine Fs s55 ?_
     refine Fq (.bool true) (r_pick (b := true) rfl ek ek) ?_
     refine Fv (.bool true) ?_
     refine Fs s55 ?_
     refine Fs s55 ?_
     refine Fs s55 ?_
     refine Fs s55 ?_
     refine Fs s55 ?_
     refine Fs s55 ?_
     refine Fs s55 ?_
     refine Fs s55 ?_
     refine Fs s55 ?_
     refine Fs s55 ?_
     refine Fs s55 ?_
     refine Fs s55 ?_
     refine Fs s55 ?_
     refine Fs s55 ?_
     refine Fq (.bool true) (r_pick (b := true) rfl ek ek) ?_
     apply F.es
     have c78 := (Sb c42 s55 nkk)
     apply h12
     refine wp_cond_true ek ?_
     refine wk fun K16 h16 => ?_
     refine Rq 1 ?_
     refine Fa (.bool false) ?_
     apply F.es
     apply h16
     refine wp_ret ?_
     try simp only [Exit.then, Exit.inBlock]
     refine ret1 (v := .bool false) rfl kk ?_
     exact ⟨ret_bool (goodN_bad (k := K) (by omega) (okAt_pipe hx21 (by simp [pipeOk, q56]))).symm, c78⟩
    rw [q52]
    refine Fq (.bool true) (r_not (b := false) rfl ek rfl) ?_
    refine Fq (.bool true) (r_pick (b := false) rfl ek ek) ?_
    refine Fv (.bool true) ?_
    refine Fs s51 ?_
    refine Fs s51 ?_
    refine Fs s51 ?_
    refine Fs s51 ?_
    refine Fs s51 ?_
    refine Fq (.bool true) (r_pick (b := true) rfl ek ek) ?_
    refine Fv (.bool true) ?_
    refine Fs s51 ?_
    refine Fs s51 ?_
    refine Fs s51 ?_
    refine Fs s51 ?_
    refine Fs s51 ?_
    refine Fq (.bool true) (r_pick (b := true) rfl ek ek) ?_
    refine Fv (.bool true) ?_
    refine Fs s51 ?_
    refine Fs s51 ?_
    refine Fs s51 ?_
    refine Fs s51 ?_
    refine Fq (.bool true) (r_pick (b := true) rfl ek ek) ?_
    refine Fv (.bool true) ?_
    refine Fs s51 ?_
    refine Fs s51 ?_
    refine Fs s51 ?_
    refine Fs s51 ?_
    refine Fs s51 ?_
    refine Fs s51 ?_
    refine Fs s51 ?_
    refine Fs s51 ?_
    refine Fs s51 ?_
    refine Fs s51 ?_
    refine Fs s51 ?_
    refine Fs s51 ?_
    refine Fs s51 ?_
    refine Fs s51 ?_
    refine Fq (.bool true) (r_pick (b := true) rfl ek ek) ?_
    apply F.es
    have c79 := (Sb c42 s51 nkk)
    apply h12
    refine wp_cond_true ek ?_
    refine wk fun K17 h17 => ?_
    refine Rq 1 ?_
    refine Fa (.bool false) ?_
    apply F.es
    apply h17
    refine wp_ret ?_
    try simp only [Exit.then, Exit.inBlock]
    refine ret1 (v := .bool false) rfl kk ?_
    exact ⟨ret_bool (goodN_bad (k := K) (by omega) (okAt_pipe hx21 (by simp [pipeOk, q52]))).symm, c79⟩
   rw [q48]
   refine Fq (.bool true) (r_not (b := false) rfl ek rfl) ?_
   refine Fv (.bool true) ?_
   refine Fs s45 ?_
   refine Fs s45 ?_
   refine Fs s45 ?_
   refine Fs s45 ?_
   refine Fs s45 ?_
   refine Fq (.bool true) (r_pick (b := true) rfl ek ek) ?_
   refine Fv (.bool true) ?_
   refine Fs s45 ?_
   refine Fs s45 ?_
   refine Fs s45 ?_
   refine Fs s45 ?_
   refine Fs s45 ?_
   refine Fq (.bool true) (r_pick (b := true) rfl ek ek) ?_
   refine Fv (.bool true) ?_
   refine Fs s45 ?_
   refine Fs s45 ?_
   refine Fs s45 ?_
   refine Fs s45 ?_
   refine Fs s45 ?_
   refine Fq (.bool true) (r_pick (b := true) rfl ek ek) ?_
   refine Fv (.bool true) ?_
   refine Fs s45 ?_
   refine Fs s45 ?_
   refine Fs s45 ?_
   refine Fs s45 ?_
   refine Fq (.bool true) (r_pick (b := true) rfl ek ek) ?_
   refine Fv (.bool true) ?_
   refine Fs s45 ?_
   refine Fs s45 ?_
   refine Fs s45 ?_
   refine Fs s45 ?_
   refine Fs s45 ?_
   refine Fs s45 ?_
   refine Fs s45 ?_
   refine Fs s45 ?_
   refine Fs s45 ?_
   refine Fs s45 ?_
   refine Fs s45 ?_
   refine Fs s45 ?_
   refine Fs s45 ?_
   refine Fs s45 ?_
   refine Fq (.bool true) (r_pick (b := true) rfl ek ek) ?_
   apply F.es
   have c80 := (Sb c42 s45 nkk)
   apply h12
   refine wp_cond_true ek ?_
   refine wk fun K18 h18 => ?_
   refine Rq 1 ?_
   refine Fa (.bool false) ?_
   apply F.es
   apply h18
   refine wp_ret ?_
   try simp only [Exit.then, Exit.inBlock]
   refine ret1 (v := .bool false) rfl kk ?_
   exact ⟨ret_bool (goodN_bad (k := K) (by omega) (okAt_pipe hx21 (by simp [pipeOk, q48]))).symm, c80⟩
  refine Fq (.bool false) (r_lss (m := (K : Int)) (n := (n : Int)) rfl ek ek (df q18)) ?_
  apply F.es
  apply h8
  refine wk fun K19 h19 => ?_
  refine wp_cond_false ek ?_
  refine wp_exit ?_
  apply h5
  refine wk fun K20 h20 => ?_
  refine Rq 1 ?_
  refine Fa (.bool true) ?_
  apply F.es
  apply h20
  refine wp_ret ?_
  try simp only [Exit.then]
  refine ret1 (v := .bool true) rfl kk ?_
  exact ⟨ret_bool (by rw [goodN_fin hl hk hok (by omega)]; simp [q13]; omega), c17⟩
 rw [q13]
 refine Fq (.bool true) (r_not (b := false) rfl ek rfl) ?_
 refine Fv (.bool true) ?_
 refine Fs s10 ?_
 refine Fs s10 ?_
 refine Fs s10 ?_
 refine Fs s10 ?_
 refine Fq (.bool true) (r_pick (b := true) rfl ek ek) ?_
 apply F.es
 have c81 := (Sb c9 s10 nkk)
 apply h3
 refine wp_cond_true ek ?_
 refine wk fun K21 h21 => ?_
 refine Rq 1 ?_
 refine Fa (.bool false) ?_
 apply F.es
 apply h21
 refine wp_ret ?_
 try simp only [Exit.then]
 refine ret1 (v := .bool false) rfl kk ?_
 exact ⟨ret_bool (goodN_out hl (by simp [q13])).symm, c81⟩
end Go.Proofs.Ytdbgfejeleafgaa
namespace Go.Proofs.Ytdbgfejeleafgaa
open Go.RowKit
set_option linter.unusedVariables false
set_option maxRecDepth 100000 in
set_option maxHeartbeats 1000000 in
theorem l2Node_any (m : Int) (A : Option Addr) (n c : Nat) (ps : List Pp) (v : Int) (w : World) (ha : Rd w 4 A n (pipesV ps)) (hn : n ≤ 1048576) :
    Calls Try.prog 90 #[.agg #[.int .i64 m, .slice A n c], .int .i64 v] w fun e w' => e = .returned (.bool (goodN m ps && inB v 1 m)) ∧ Below w.heap.size w w' := by
  go_enter Try.func90, Try.ntmps90
  refine wp_seq_k (fun K1 h1 => ?_)
  refine region_plain (row := none) [(0, true), (1, false)] rfl ?_
  have s1 := SG.self w none
  refine sn (fun b => .pointer (some ⟨b, 0, none⟩)) #[.int .i64 m, .slice A n c] 26 s1 rfl rfl rfl (fun _ => by kernel_rfl) (fun b2 w3 hb4 k5 x6 s7 => ?_)
  have lo8 : w.heap.size ≤ b2 := by have := ((Sb (Below.refl _ _) s1 nkk)).size; omega
  refine sq (v := .bool false) rfl (r_assign rfl rfl) rfl rfl rfl ?_
  refine sch_end ?_
  simp only [List.set_cons_zero, List.set_cons_succ]
  have c9 := (Sb (Below.refl _ _) s7 nkk)
  apply h1
  refine wp_seq_k (fun K2 h2 => ?_)
  refine region_plain (row := none) [(0, false), (1, true), (2, false), (3, false), (4, false), (5, false), (6, true), (7, false), (8, false)] rfl ?_
  have s10 := SG.self w3 none
  refine sq (v := .agg #[.int .i64 m, .slice A n c]) rfl (r_load2 rfl rfl (by kernel_rfl) (by kernel_rfl) (sgS (blk_cell (j := 0) x6 rfl) (by simp)) (sgS (blk_cell (j := 1) x6 rfl) (by simp))) rfl rfl rfl ?_
  refine sc (vs := [.agg #[.int .i64 m, .slice A n c]]) rfl rfl rfl (by kernel_rfl) rfl rfl (l2Good_any m A n c ps _ (Rk ha (Sb c9 s10 nkk)) (by omega)) ?_
  rintro e w12 ⟨rfl, b11⟩
  have s13 := SG.of_below s10 b11
  refine ⟨_, rfl, s13, ?_⟩
  rcases Bool.eq_false_or_eq_true (goodN m ps) with q14 | q14
  · rw [q14]
    refine sq (v := .bool true) rfl (r_move rfl rfl) rfl rfl rfl ?_
    refine sq (v := .int .i64 v) rfl (r_move rfl rfl) rfl rfl rfl ?_
    refine sq (v := .pointer (some ⟨b2, 0, none⟩)) rfl (r_field0 rfl rfl (by kernel_rfl)) rfl rfl rfl ?_
    simp only [List.set_cons_zero, List.set_cons_succ]
    refine sq (v := .int .i64 m) rfl (r_load rfl rfl (by kernel_rfl) (sgS (blk_cell (j := 0) x6 rfl) (by simp))) rfl rfl rfl ?_
    refine sc (vs := [.int .i64 v, .int .i64 1, .int .i64 m]) rfl rfl rfl (by kernel_rfl) rfl rfl (l1In_any v 1 m _) ?_
    rintro e w' ⟨rfl, rfl⟩
    refine ⟨_, rfl, s13, ?_⟩
    rcases Bool.eq_false_or_eq_true (inB v 1 m) with q17 | q17
    · rw [q17]
      refine sq (v := .bool true) rfl (r_pick rfl rfl rfl) rfl rfl rfl ?_
      refine sq (v := .bool true) rfl (r_assign rfl rfl) rfl rfl rfl ?_
      refine sch_end ?_
      simp only [List.set_cons_zero, List.set_cons_succ]
      have x6 := Sk s13 x6 (by simp)
      have c18 := (Sb c9 s13 nkk)
      apply h2
      refine wp_ret ?_
      try simp only [Exit.then]
      refine ret1 rfl rfl ?_
      exact ⟨ret_bool (by simp [q14, q17]), c18⟩
    · rw [q17]
      refine sq (v := .bool false) rfl (r_pick rfl rfl rfl) rfl rfl rfl ?_
      refine sq (v := .bool false) rfl (r_assign rfl rfl) rfl rfl rfl ?_
      refine sch_end ?_
      simp only [List.set_cons_zero, List.set_cons_succ]
      have x6 := Sk s13 x6 (by simp)
      have c19 := (Sb c9 s13 nkk)
      apply h2
      refine wp_ret ?_
      try simp only [Exit.then]
      refine ret1 rfl rfl ?_
      exact ⟨ret_bool (by simp [q14, q17]), c19⟩
  · rw [q14]
    refine sq (v := .bool false) rfl (r_move rfl rfl) rfl rfl rfl ?_
    refine sk s13 rfl rfl rfl rfl ?_
    refine sk s13 rfl rfl rfl rfl ?_
    simp only [List.set_cons_zero, List.set_cons_succ]
    refine sk s13 rfl rfl rfl rfl ?_
    refine sk s13 rfl rfl rfl rfl ?_
    refine sq (v := .bool false) rfl (r_pick rfl rfl rfl) rfl rfl rfl ?_
    refine sq (v := .bool false) rfl (r_assign rfl rfl) rfl rfl rfl ?_
    refine sch_end ?_
    simp only [List.set_cons_zero, List.set_cons_succ]
    have x6 := Sk s13 x6 (by simp)
    have c20 := (Sb c9 s13 nkk)
    apply h2
    refine wp_ret ?_
    try simp only [Exit.then]
    refine ret1 rfl rfl ?_
    exact ⟨ret_bool (by simp [q14]), c20⟩
set_option maxRecDepth 100000 in
set_option maxHeartbeats 1000000 in
theorem l2Find_any (m : Int) (A : Option Addr) (n c : Nat) (ps : List Pp) (v : Int) (w : World) (ha : Rd w 4 A n (pipesV ps)) (hn : n ≤ 1048576) :
    Calls Try.prog 75 #[.agg #[.int .i64 m, .slice A n c], .int .i64 v] w fun e w' => e = .returned (.int .i64 (findL ps v)) ∧ Below w.heap.size w w' := by
  have hl := rd_pipes_len ha
  go_enter Try.func75, Try.ntmps75
  refine wp_seq_k (fun K1 h1 => ?_)
  refine region_plain (row := none) [(0, true), (1, false)] rfl ?_
  have s1 := SG.self w none
  refine sn (fun b => .pointer (some ⟨b, 0, none⟩)) #[.int .i64 m, .slice A n c] 26 s1 rfl rfl rfl (fun _ => by kernel_rfl) (fun b2 w3 hb4 k5 x6 s7 => ?_)
  have lo8 : w.heap.size ≤ b2 := by have := ((Sb (Below.refl _ _) s1 nkk)).size; omega
  refine sq (v := .int .i64 0) rfl (r_assign rfl rfl) rfl rfl rfl ?_
  refine sch_end ?_
  simp only [List.set_cons_zero, List.set_cons_succ]
  have c9 := (Sb (Below.refl _ _) s7 nkk)
  apply h1
  refine wp_seq_k (fun K2 h2 => ?_)
  refine wp_seq_k (fun K3 h3 => ?_)
  refine region_quiet [(0, false)] rfl ?_
  refine sq (v := .int .i64 0) rfl (r_assign rfl rfl) rfl rfl rfl ?_
  refine sch_end ?_
  simp only [List.set_cons_zero, List.set_cons_succ]
  apply h3
  refine wp_block ?_
  refine loopK (fun am0 aa0 wl0 => ∃ (k : Nat) (u0_6 u0_7 u0_8 u0_9 u0_10 u0_11 u0_12 u0_13 u0_14 u0_15 u0_16 u0_17 u0_18 u0_19 u0_20 u0_21 : Value), aa0 = ⟨[.agg #[.int .i64 m, .slice A n c], .int .i64 v, .pointer (some ⟨b2, 0, none⟩), undef, .int .i64 0, .int .i64 ((k : Nat) : Int), u0_6, u0_7, u0_8, u0_9, u0_10, u0_11, u0_12, u0_13, u0_14, u0_15, u0_16, u0_17, u0_18, u0_19, u0_20, u0_21].toArray, []⟩ ∧ (am0 = n - k) ∧ (k ≤ n) ∧ (∀ j z, j < k → ps[j]? = some z → z.id ≠ v) ∧ (wl0.heap[b2]? = some (.cells #[.int .i64 m, .slice A n c] 26 (0, 0))) ∧ (Below w.heap.size w wl0)) (n - 0) ?_ ?_
  · exact ⟨0, _, _, _, _, _, _, _, _, _, _, _, _, _, _, _, _, rfl, rfl, (Nat.zero_le _), upto_zero, x6, c9⟩
  rintro am0 aa0 wl0 K4 h4 ⟨k, u0_6, u0_7, u0_8, u0_9, u0_10, u0_11, u0_12, u0_13, u0_14, u0_15, u0_16, u0_17, u0_18, u0_19, u0_20, u0_21, rfl, rfl, hk, hok, x6, c10⟩
  refine wp_seq_k (fun K5 h5 => ?_)
  refine wp_seq_k (fun K6 h6 => ?_)
  refine region_quiet [(0, false), (1, false), (2, false), (3, false), (4, false)] rfl ?_
  refine sq (v := .int .i64 ((k : Nat) : Int)) rfl (r_move rfl rfl) rfl rfl rfl ?_
  refine sq (v := .pointer (some ⟨b2, 1, none⟩)) rfl (r_field (k := 1) rfl rfl (by kernel_rfl)) rfl rfl rfl ?_
  refine sq (v := .slice A n c) rfl (r_load rfl rfl (by kernel_rfl) (eqS (blk_cell (j := 1) x6 rfl))) rfl rfl rfl ?_
  refine sq (v := .int .i64 ((n : Nat) : Int)) rfl (r_len rfl rfl (by kernel_rfl)) rfl rfl rfl ?_
  by_cases q11 : (((k : Nat) : Int) : Int) < (((n : Nat) : Int) : Int)
  · refine sq (v := .bool true) rfl (r_lss rfl rfl rfl (dt q11)) rfl rfl rfl ?_
    simp only [List.set_cons_zero, List.set_cons_succ]
    refine sch_end ?_
    apply h6
    refine wp_cond_true rfl ?_
    apply wp_skip
    apply h5
    refine wp_seq_k (fun K7 h7 => ?_)
    refine wp_block ?_
    refine wp_seq_k (fun K8 h8 => ?_)
    refine region_quiet [(0, false), (1, false), (2, false), (3, false), (4, false), (5, false), (6, false), (7, false)] rfl ?_
    refine sq (v := .pointer (some ⟨b2, 1, none⟩)) rfl (r_field (k := 1) rfl rfl (by kernel_rfl)) rfl rfl rfl ?_
    refine sq (v := .slice A n c) rfl (r_load rfl rfl (by kernel_rfl) (eqS (blk_cell (j := 1) x6 rfl))) rfl rfl rfl ?_
    refine sq (v := .int .i64 ((k : Nat) : Int)) rfl (r_move rfl rfl) rfl rfl rfl ?_
    obtain ⟨x12, hx13⟩ := get_of (zs := ps) (k := k) (by have := hl; omega)
    obtain ⟨b14, o15, hA16, hb17, hc18, hc19, hc20, hc21⟩ := Rd.elPipe ha hx13
    refine sq (v := .pointer (some ⟨b14, o15 + k * 4, none⟩)) rfl (r_idx (k := k) rfl rfl hA16 rfl (by kernel_rfl) (by have := hl; omega)) rfl rfl rfl ?_
    refine sq (v := .pointer (some ⟨b14, o15 + k * 4, none⟩)) rfl (r_field0 rfl rfl (by kernel_rfl)) rfl rfl rfl ?_
    simp only [List.set_cons_zero, List.set_cons_succ]
    refine sq (v := .int .i64 x12.id) rfl (r_load rfl rfl (by kernel_rfl) (eqS (later c10 hc18))) rfl rfl rfl ?_
    refine sq (v := .int .i64 v) rfl (r_move rfl rfl) rfl rfl rfl ?_
    by_cases q22 : (x12.id : Int) = (v : Int)
    · refine sq (v := .bool true) rfl (r_eql rfl rfl rfl (dt q22)) rfl rfl rfl ?_
      refine sch_end ?_
      simp only [List.set_cons_zero, List.set_cons_succ]
      apply h8
      refine wp_cond_true rfl ?_
      refine wp_seq_k (fun K9 h9 => ?_)
      refine region_quiet [(0, false), (1, false)] rfl ?_
      refine sq (v := .int .i64 ((k : Nat) : Int)) rfl (r_move rfl rfl) rfl rfl rfl ?_
      refine sq (v := .int .i64 ((k : Nat) : Int)) rfl (r_assign rfl rfl) rfl rfl rfl ?_
      refine sch_end ?_
      simp only [List.set_cons_zero, List.set_cons_succ]
      apply h9
      refine wp_ret ?_
      try simp only [Exit.then, Exit.inBlock]
      refine ret1 rfl rfl ?_
      exact ⟨ret_int ((findL_at hok hx13 q22).symm), c10⟩
    · refine sq (v := .bool false) rfl (r_eql rfl rfl rfl (df q22)) rfl rfl rfl ?_
      refine sch_end ?_
      simp only [List.set_cons_zero, List.set_cons_succ]
      apply h8
      refine wp_cond_false rfl ?_
      apply wp_skip
      apply h7
      refine region_quiet [(0, false), (1, false), (2, false)] rfl ?_
      refine sq (v := .int .i64 ((k : Nat) : Int)) rfl (r_move rfl rfl) rfl rfl rfl ?_
      refine sq (v := .int .i64 ((k + 1 : Nat) : Int)) rfl (r_add (z := ((k + 1 : Nat) : Int)) rfl rfl rfl (by omega) (by omega)) rfl rfl rfl ?_
      refine sq (v := .int .i64 ((k + 1 : Nat) : Int)) rfl (r_assign rfl rfl) rfl rfl rfl ?_
      refine sch_end ?_
      simp only [List.set_cons_zero, List.set_cons_succ]
      exact h4 _ _ _ (by omega : (n - (k + 1)) < _) ⟨k + 1, _, _, _, _, _, _, _, _, _, _, _, _, _, _, _, _, rfl, rfl, (by omega), (upto_succ (Q := fun z => z.id ≠ v) hok hx13 q22), x6, c10⟩
  · refine sq (v := .bool false) rfl (r_lss rfl rfl rfl (df q11)) rfl rfl rfl ?_
    simp only [List.set_cons_zero, List.set_cons_succ]
    refine sch_end ?_
    apply h6
    refine wp_cond_false rfl ?_
    refine wp_exit ?_
    apply h2
    refine wp_seq_k (fun K10 h10 => ?_)
    refine region_quiet [(0, false)] rfl ?_
    refine sq (v := .int .i64 (-1)) rfl (r_assign rfl rfl) rfl rfl rfl ?_
    refine sch_end ?_
    simp only [List.set_cons_zero, List.set_cons_succ]
    apply h10
    refine wp_ret ?_
    try simp only [Exit.then]
    refine ret1 rfl rfl ?_
    exact ⟨ret_int ((findL_none hl hok (by omega)).symm), c10⟩
end Go.Proofs.Ytdbgfejeleafgaa
namespace Go.Proofs.Ytdbgfejeleafgaa
open Go.RowKit
set_option linter.unusedVariables false
def Sp (A : Option Addr) (n : Nat) (g : Option Nat) : Prop := 0 < n → ∀ b off, A = some ⟨b, off, none⟩ → some b ≠ g
theorem sp_new {W : World} {size n b : Nat} {A : Option Addr} {xs : List Value} (h : Rd W size A n xs) (hb : W.heap.size ≤ b) : Sp A n (some b) := fun hn b' off e e2 => by
  obtain ⟨b1, o1, e1, hlt, _⟩ := h.2 hn
  rw [e] at e1; cases e1; cases e2; omega
theorem sp_own {A : Option Addr} {n b n' c : Nat} (h : Sp A n (some b)) : Sp A n (Value.ownBlock (.slice (some ⟨b, 0, none⟩) n' c)) := by
  have e : Value.ownBlock (.slice (some ⟨b, 0, none⟩) n' c) = some b := by simp [Value.ownBlock]
  rw [e]; exact h
theorem sp_app {W : World} {size n H : Nat} {A : Option Addr} {xs : List Value} {v v' : Value} (h : Sp A n v.ownBlock) (hr : Rd W size A n xs) (hs : W.heap.size ≤ H) (hat : v'.ownBlock = v.ownBlock ∨ ∀ k, v'.ownBlock = some k → H ≤ k) : Sp A n v'.ownBlock := fun hn b off e e2 => by
  rcases hat with h1 | h1
  · exact h hn b off e (e2.trans h1)
  · obtain ⟨b1, o1, e1, hlt, _⟩ := hr.2 hn
    rw [e] at e1; cases e1
    have := h1 b e2.symm; omega
theorem rd_sep {w w' : World} {size n : Nat} {A : Option Addr} {xs : List Value} {g : Option Nat} (h : Rd w size A n xs) (hg : SG w g w') (hs : Sp A n g) : Rd w' size A n xs :=
  ⟨h.1, fun hn => by
    obtain ⟨b, off, e, hb, hc⟩ := h.2 hn
    exact ⟨b, off, e, Nat.lt_of_lt_of_le hb hg.size, fun j u hu => hg.cell (hc j u hu) (hs hn b off e)⟩⟩
theorem evk {a : Act} {i : Operand} {z : Int} {k : Nat} (h : a.eval i = .int .i64 z) (e : z = (k : Int)) : a.eval i = .int .i64 ((k : Nat) : Int) := by rw [h, e]
end Go.Proofs.Ytdbgfejeleafgaa
namespace Go.Proofs.Ytdbgfejeleafgaa
open Go.RowKit
set_option linter.unusedVariables false
set_option linter.unusedSimpArgs false
section
variable {P : Program} {S : World → Prop} {o : Oper} {a : Act}
theorem r_shr {t u : TypeId} {x y : Operand} {q k : Nat} {yk : IntKind} (ho : o.op = .binOp .shr t x y u) (hx : a.eval x = .int .i64 (q : Int)) (hy : a.eval y = .int yk (k : Int)) (hk : k ≤ 64) :
    ∀ w, S w → (execOp a.eval o).run P w = .ok (.value (.int .i64 ((q / 2 ^ k : Nat) : Int))) w := fun w _ => by
  have hs := shift_shr .i64 yk (q : Int) (k : Int) (by omega) (by show (k : Int) ≤ ((64 : Nat) : Int); omega)
  rw [Int.toNat_natCast, show ((q : Int) / 2 ^ k) = ((q / 2 ^ k : Nat) : Int) by simp] at hs
  simp [execOp, ho, hx, hy, eqGuard, binOp, hs]
theorem r_shl {t u : TypeId} {x y : Operand} {k : Nat} {yk : IntKind} (ho : o.op = .binOp .shl t x y u) (hx : a.eval x = .int .i64 1) (hy : a.eval y = .int yk (k : Int)) (hk : k ≤ 20) :
    ∀ w, S w → (execOp a.eval o).run P w = .ok (.value (.int .i64 ((2 ^ k : Nat) : Int))) w := fun w _ => by
  have h2 : (2 : Nat) ^ k ≤ 2 ^ 20 := Nat.pow_le_pow_right (by omega) hk
  have hw : IntKind.i64.wrap (1 * 2 ^ k) = ((2 ^ k : Nat) : Int) := by
    rw [Int.one_mul, show ((2 : Int) ^ k) = ((2 ^ k : Nat) : Int) by simp]; exact IntWalk.i64_in _ ⟨Int.le_trans (by decide) (Int.natCast_nonneg _), Int.le_trans (Int.ofNat_le.2 h2) (by decide)⟩
  have hs : binOp .shl t (.int .i64 1) (.int yk (k : Int)) = pure (.int .i64 ((2 ^ k : Nat) : Int)) := by
    show Op.shift .shl .i64 1 yk (k : Int) = _
    rw [shift_shl .i64 yk 1 (k : Int) (by omega) (by show (k : Int) ≤ ((64 : Nat) : Int); omega), Int.toNat_natCast, hw]
  generalize ((2 ^ k : Nat) : Int) = z at hs ⊢
  simp [execOp, ho, hx, hy, eqGuard, hs]
theorem r_and1 {t u : TypeId} {x y : Operand} {q : Nat} (ho : o.op = .binOp .and t x y u) (hx : a.eval x = .int .i64 (q : Int)) (hy : a.eval y = .int .i64 1) (hq : q < 9223372036854775808) :
    ∀ w, S w → (execOp a.eval o).run P w = .ok (.value (.int .i64 ((q % 2 : Nat) : Int))) w := fun w _ => by
  have hs : Op.intBits .and .i64 (q : Int) 1 = pure (.int .i64 ((q % 2 : Nat) : Int)) := by
    unfold Op.intBits
    have e1 : (BitVec.ofInt IntKind.i64.bits (q : Int) &&& BitVec.ofInt IntKind.i64.bits 1).toNat = q % 2 := by
      rw [show (1 : Int) = ((1 : Nat) : Int) from rfl, BitVec.ofInt_natCast, BitVec.ofInt_natCast, BitVec.toNat_and, BitVec.toNat_ofNat, BitVec.toNat_ofNat]
      show q % 2 ^ 64 &&& 1 % 2 ^ 64 = q % 2
      rw [Nat.mod_eq_of_lt (by omega : q < 2 ^ 64), show 1 % 2 ^ 64 = 1 from rfl, Nat.and_one_is_mod]
    simp only [e1]
    rw [IntWalk.i64_in _ (by omega)]
  simp [execOp, ho, hx, hy, eqGuard, binOp, hs]
theorem r_convU {src dst : TypeId} {x : Operand} {k : Nat} (ho : o.op = .convert src dst x) (hx : a.eval x = .int .i64 (k : Int)) (hs : (P.underlying src).isSome = true) (hd : P.underlying dst = some (.int .u64)) (hk : k < 9223372036854775808) :
    ∀ w, S w → (execOp a.eval o).run P w = .ok (.value (.int .u64 (k : Int))) w := fun w _ => by
  have hw : IntKind.u64.wrap (k : Int) = (k : Int) := IntWalk.u64_in _ (by omega)
  obtain ⟨s, hs'⟩ := Option.isSome_iff_exists.1 hs
  simp [execOp, ho, hx, convert, underlying, hs', hd, Conv.intToInt, hw]
end
theorem sp_of_nbr {A : Option Addr} {n n' c : Nat} {u : Value} (h : NbR (.slice A n' c) u) : Sp A n u.ownBlock := fun _ b off e e2 => h b (by rw [e]; simp [Value.ownBlock]) e2.symm
theorem sp_of_nb {A : Option Addr} {n n' c b : Nat} (h : Nb b (.slice A n' c)) : Sp A n (some b) := fun _ b' off e e2 => h (by rw [e]; simp [Value.ownBlock]; cases e2; rfl)
end Go.Proofs.Ytdbgfejeleafgaa
namespace Go.Proofs.Ytdbgfejeleafgaa
open Go.RowKit
set_option linter.unusedVariables false
set_option linter.unusedSimpArgs false
section
variable {P : Program} {S : World → Prop} {o : Oper} {a : Act}
theorem r_conv {src dst : TypeId} {x : Operand} {k k' : IntKind} {n m : Int} (ho : o.op = .convert src dst x) (hx : a.eval x = .int k n) (hs : P.underlying src = some (.int k)) (hd : P.underlying dst = some (.int k')) (hw : k'.wrap n = m) :
    ∀ w, S w → (execOp a.eval o).run P w = .ok (.value (.int k' m)) w := fun w _ => by
  subst hw
  simp [execOp, ho, hx, convert, underlying, hs, hd, Conv.intToInt]
theorem wrap_i64 {n : Int} (h0 : -9223372036854775808 ≤ n) (h1 : n ≤ 9223372036854775807) : IntKind.i64.wrap n = n := IntWalk.i64_in _ (by omega)
section
variable {k : IntKind}
theorem r_addK {t u : TypeId} {x y : Operand} {m n z : Int} (ho : o.op = .binOp .add t x y u) (hx : a.eval x = .int k m) (hy : a.eval y = .int k n) (hz : k.wrap (m + n) = z) :
    ∀ w, S w → (execOp a.eval o).run P w = .ok (.value (.int k z)) w := fun w _ => by
  subst hz
  simp [execOp, ho, hx, hy, eqGuard, binOp, Op.intArith]
theorem r_mulK {t u : TypeId} {x y : Operand} {m n z : Int} (ho : o.op = .binOp .mul t x y u) (hx : a.eval x = .int k m) (hy : a.eval y = .int k n) (hz : k.wrap (m * n) = z) :
    ∀ w, S w → (execOp a.eval o).run P w = .ok (.value (.int k z)) w := fun w _ => by
  subst hz
  simp [execOp, ho, hx, hy, eqGuard, binOp, Op.intArith]
theorem r_remK {t u : TypeId} {x y : Operand} {m n z : Int} (ho : o.op = .binOp .rem t x y u) (hx : a.eval x = .int k m) (hy : a.eval y = .int k n) (hn : n ≠ 0) (hz : m.tmod n = z) :
    ∀ w, S w → (execOp a.eval o).run P w = .ok (.value (.int k z)) w := fun w _ => by
  subst hz
  simp [execOp, ho, hx, hy, eqGuard, binOp, Op.intDiv, hn]
end
end
end Go.Proofs.Ytdbgfejeleafgaa
namespace Go.Proofs.Ytdbgfejeleafgaa
open Go.RowKit
set_option linter.unusedVariables false
set_option linter.unusedSimpArgs false
def bytesV (zs : List Int) : List Value := zs.map (Value.int .u8)
theorem bytes_len (zs : List Int) : (bytesV zs).length = zs.length := by simp [bytesV]
theorem rd_bytes_len {w : World} {A : Option Addr} {n : Nat} {zs : List Int} (h : Rd w 1 A n (bytesV zs)) : zs.length = n := by
  have := h.1; rw [bytes_len] at this; omega
theorem Rd.elByte {w : World} {A : Option Addr} {n k : Nat} {zs : List Int} {x : Int} (h : Rd w 1 A n (bytesV zs)) (hx : zs[k]? = some x) : ∃ b off, A = some ⟨b, off, none⟩ ∧ b < w.heap.size ∧ w.cell? ⟨b, off + k, none⟩ = some (.int .u8 x) := by
  have hl := rd_bytes_len h
  have hk := (List.getElem?_eq_some_iff.1 hx).1
  obtain ⟨b, off, e, hb, hc⟩ := h.2 (by omega)
  exact ⟨b, off, e, hb, hc k _ (by unfold bytesV; rw [List.getElem?_map, hx]; rfl)⟩
section
variable {P : Program} {S : World → Prop} {o : Oper} {a : Act}
theorem r_shrZ {t u : TypeId} {x y : Operand} {z : Int} {k : Nat} {yk : IntKind} (ho : o.op = .binOp .shr t x y u) (hx : a.eval x = .int .u64 z) (hy : a.eval y = .int yk (k : Int)) (hk : k ≤ 64) :
    ∀ w, S w → (execOp a.eval o).run P w = .ok (.value (.int .u64 (z / 2 ^ k))) w := fun w _ => by
  have hs := shift_shr .u64 yk z (k : Int) (by omega) (by show (k : Int) ≤ ((64 : Nat) : Int); omega)
  rw [Int.toNat_natCast] at hs
  simp [execOp, ho, hx, hy, eqGuard, binOp, hs]
def and255 (z : Int) : Nat := (BitVec.ofInt 64 z &&& BitVec.ofInt 64 255).toNat
theorem and255_lt (z : Int) : and255 z < 256 := by
  unfold and255
  rw [BitVec.toNat_and]
  have : (BitVec.ofInt 64 255).toNat = 255 := by decide
  rw [this]
  have := @Nat.and_le_right (BitVec.ofInt 64 z).toNat 255
  omega
theorem r_and255 {t u : TypeId} {x y : Operand} {z : Int} (ho : o.op = .binOp .and t x y u) (hx : a.eval x = .int .u64 z) (hy : a.eval y = .int .u64 255) :
    ∀ w, S w → (execOp a.eval o).run P w = .ok (.value (.int .u64 ((and255 z : Nat) : Int))) w := fun w _ => by
  have hs : Op.intBits .and .u64 z 255 = pure (.int .u64 ((and255 z : Nat) : Int)) := by
    unfold Op.intBits
    show (pure (Value.int .u64 (IntKind.u64.wrap ((and255 z : Nat) : Int))) : Sem Value) = _
    have := and255_lt z
    rw [show IntKind.u64.wrap ((and255 z : Nat) : Int) = ((and255 z : Nat) : Int) from IntWalk.u64_in _ (by omega)]
  simp [execOp, ho, hx, hy, eqGuard, binOp, hs]
end
theorem rd_sepG {w w' : World} {size n : Nat} {A : Option Addr} {xs : List Value} {g : Option Nat} (h : Rd w size A n xs) (hg : w.grownBy w' g) (hs : Sp A n g) : Rd w' size A n xs := rd_sep h hg hs
theorem rd_sepM {w w' : World} {size n : Nat} {A : Option Addr} {xs : List Value} {r : List (Option Nat)} (h : Rd w size A n xs) (hg : SM w r w') (hs : ∀ g ∈ r, Sp A n g) : Rd w' size A n xs :=
  ⟨h.1, fun hn => by
    obtain ⟨b, off, e, hb, hc⟩ := h.2 hn
    exact ⟨b, off, e, Nat.lt_of_lt_of_le hb hg.size, fun j u hu => hg.cell (hc j u hu) (fun hm => hs _ hm hn b off e rfl)⟩⟩
theorem sp2 {A : Option Addr} {n : Nat} {a b : Option Nat} (h1 : Sp A n a) (h2 : Sp A n b) : ∀ g ∈ [a, b], Sp A n g := fun g h => by
  simp only [List.mem_cons, List.not_mem_nil, or_false] at h
  rcases h with rfl | rfl <;> assumption
theorem sp3 {A : Option Addr} {n : Nat} {a b c : Option Nat} (h1 : Sp A n a) (h2 : Sp A n b) (h3 : Sp A n c) : ∀ g ∈ [a, b, c], Sp A n g := fun g h => by
  simp only [List.mem_cons, List.not_mem_nil, or_false] at h
  rcases h with rfl | rfl | rfl <;> assumption
theorem sp_ne {b B n : Nat} (h : b ≠ B) : Sp (some ⟨b, 0, none⟩) n (some B) := fun _ b' off e e2 => by
  cases e; cases e2; exact h rfl
theorem rd_blk {w : World} {b n : Nat} {cs : Array Value} {t : TypeId} {xs : List Value} (h : w.heap[b]? = some (.cells cs t (0, 0))) (e : cs.toList = xs) (hn : cs.size = n) : Rd w 1 (some ⟨b, 0, none⟩) n xs := by
  subst e
  refine ⟨by rw [Array.length_toList, hn]; omega, fun _ => ⟨b, 0, rfl, blk_lt h, fun j u hu => ?_⟩⟩
  rw [Nat.zero_add]
  exact blk_cell h (by rw [← Array.getElem?_toList]; exact hu)
def Cur (w : World) (B N k : Nat) : Prop := ∃ (A : Option Addr) (n c : Nat) (zs : List Int) (at_ : Nat) (sd : Int), w.heap[B]? = some (.cells #[.slice A n c, .int .i64 ((at_ : Nat) : Int), .int .u64 sd] 86 (0, 0)) ∧
  Rd w 1 A n (bytesV zs) ∧ (∀ z ∈ zs, 0 ≤ z ∧ z < 256) ∧ n ≤ 4611686018427387904 ∧ at_ ≤ k ∧ N ≤ B ∧ ∀ b off, 0 < n → A = some ⟨b, off, none⟩ → b < N
theorem Cur.lt {w : World} {B N k : Nat} (h : Cur w B N k) : B < w.heap.size := by
  obtain ⟨_, _, _, _, _, _, h1, _⟩ := h; exact blk_lt h1
theorem Cur.hN {w : World} {B N k : Nat} (h : Cur w B N k) : N ≤ w.heap.size := by
  have := h.lt
  obtain ⟨_, _, _, _, _, _, h1, _, _, _, _, h2, _⟩ := h; omega
theorem Cur.mono {w : World} {B N k k' : Nat} (h : Cur w B N k) (hk : k ≤ k') : Cur w B N k' := by
  obtain ⟨A, n, c, zs, at_, sd, h1, h2, h3, h4, h5, h6⟩ := h
  exact ⟨A, n, c, zs, at_, sd, h1, h2, h3, h4, by omega, h6⟩
theorem Cur.keeps {w w' : World} {B N k : Nat} (h : Cur w B N k) (hs : w.heap.size ≤ w'.heap.size) (hb : w'.heap[B]? = w.heap[B]?) (hn : ∀ j, j < N → w'.heap[j]? = w.heap[j]?) : Cur w' B N k := by
  obtain ⟨A, n, c, zs, at_, sd, h1, h2, h3, h4, h5, h6, h7⟩ := h
  refine ⟨A, n, c, zs, at_, sd, hb.trans h1, ⟨h2.1, fun hp => ?_⟩, h3, h4, h5, h6, h7⟩
  obtain ⟨b, off, e, hlt, hc⟩ := h2.2 hp
  exact ⟨b, off, e, by omega, fun j u hu => (World.cell?_of_block (hn b (h7 b off hp e))).trans (hc j u hu)⟩
theorem Cur.heap {w w' : World} {B N k : Nat} (h : Cur w B N k) (e : w'.heap = w.heap) : Cur w' B N k := h.keeps (by rw [e]; exact Nat.le_refl _) (by rw [e]) (fun j _ => by rw [e])
theorem Cur.below {w w' : World} {B N k : Nat} (h : Cur w B N k) (b : Below w.heap.size w w') : Cur w' B N k := h.keeps b.size (b.block _ h.lt) (fun j hj => b.block _ (Nat.lt_of_lt_of_le hj h.hN))
theorem Cur.grown {w w' : World} {B N k : Nat} {r : Option Nat} (h : Cur w B N k) (g : w.grownBy w' r) (hne : some B ≠ r) (hlo : ∀ j, r = some j → N ≤ j) : Cur w' B N k :=
  h.keeps g.size (g.block _ h.lt hne) (fun j hj => g.block _ (Nat.lt_of_lt_of_le hj h.hN) (fun e => by have := hlo j e.symm; omega))
theorem Cur.sm {w w' : World} {B N k : Nat} {r : List (Option Nat)} (h : Cur w B N k) (g : SM w r w') (hne : some B ∉ r) (hlo : ∀ j, some j ∈ r → N ≤ j) : Cur w' B N k :=
  h.keeps g.size (g.block _ h.lt hne) (fun j hj => g.block _ (Nat.lt_of_lt_of_le hj h.hN) (fun e => by have := hlo j e; omega))
theorem Cur.new {w w' : World} {B : Nat} {A : Option Addr} {n c : Nat} {zs : List Int} (h : w'.heap[B]? = some (.cells #[.slice A n c, .int .i64 0, .int .u64 0] 86 (0, 0))) (hr : Rd w 1 A n (bytesV zs)) (hz : ∀ z ∈ zs, 0 ≤ z ∧ z < 256) (hn : n ≤ 4611686018427387904)
    (b : Below w.heap.size w w') (lo : w.heap.size ≤ B) : Cur w' B w.heap.size 0 :=
  ⟨A, n, c, zs, 0, 0, h, hr.kept b, hz, hn, Nat.le_refl _, lo, fun b off hp e => by
    obtain ⟨b1, o1, e1, hlt, _⟩ := hr.2 hp
    rw [e] at e1; cases e1; exact hlt⟩
end Go.Proofs.Ytdbgfejeleafgaa
namespace Go.Proofs.Ytdbgfejeleafgaa
open Go.RowKit
set_option linter.unusedVariables false
set_option linter.unusedSimpArgs false
set_option maxRecDepth 100000 in
set_option maxHeartbeats 8000000 in
theorem vBig_any (A : Option Addr) (n c : Nat) (zs : List Int) (w : World) (hcode : Rd w 1 A n (bytesV zs)) (hz : ∀ z ∈ zs, 0 ≤ z ∧ z < 256) (hn : n ≤ 9223372036854775807) :
    Calls Try.prog 8 #[.slice A n c] w fun e w' => e = .returned (.bool (decide (65536 < n))) ∧ Below w.heap.size w w' := by
 have hl := rd_bytes_len hcode
 go_enter Try.func8, Try.ntmps8
 refine F.begin 6 [(0, .slice A n c)] (fun U0 => ?_)
 refine wk fun K1 h1 => ?_
 refine Rq 1 ?_
 refine Fa (.bool false) ?_
 apply F.es
 apply h1
 refine wk fun K2 h2 => ?_
 refine Rq 4 ?_
 refine Fv (.slice A n c) ?_
 refine Fq (.int .i64 (n : Int)) (r_len (A := A) (n := n) (c := c) rfl ek kk) ?_
 by_cases q1 : ((n : Int) : Int) > (65536 : Int)
 ·refine Fq (.bool true) (r_gtr (m := (n : Int)) (n := 65536) rfl ek ek (dt q1)) ?_
  refine Fa (.bool true) ?_
  apply F.es
  apply h2
  refine wp_ret ?_
  try simp only [Exit.then]
  refine ret1 (v := .bool true) rfl kk ?_
  exact ⟨by rw [decide_eq_true (by omega)], (Below.refl _ _)⟩
 refine Fq (.bool false) (r_gtr (m := (n : Int)) (n := 65536) rfl ek ek (df q1)) ?_
 refine Fa (.bool false) ?_
 apply F.es
 apply h2
 refine wp_ret ?_
 try simp only [Exit.then]
 refine ret1 (v := .bool false) rfl kk ?_
 exact ⟨by rw [decide_eq_false (by omega)], (Below.refl _ _)⟩
set_option maxRecDepth 100000 in
set_option maxHeartbeats 8000000 in
theorem vInts_same (A B : Option Addr) (n c d : Nat) (zs : List Int) (w : World) (ha : Rd w 1 A n (intsV zs)) (hb : Rd w 1 B n (intsV zs)) (hn : n ≤ 9223372036854775807) :
    Calls Try.prog 12 #[.slice A n c, .slice B n d] w fun e w' => e = .returned (.bool true) ∧ Below w.heap.size w w' := by
 have hl := rd_ints_len ha
 go_enter Try.func12, Try.ntmps12
 refine F.begin 26 [(0, .slice A n c), (1, .slice B n d)] (fun U0 => ?_)
 refine wk fun K1 h1 => ?_
 refine Rq 1 ?_
 refine Fa (.bool false) ?_
 apply F.es
 apply h1
 refine wk fun K2 h2 => ?_
 refine wk fun K3 h3 => ?_
 refine Rq 5 ?_
 refine Fv (.slice A n c) ?_
 refine Fq (.int .i64 (n : Int)) (r_len (A := A) (n := n) (c := c) rfl ek kk) ?_
 refine Fv (.slice B n d) ?_
 refine Fq (.int .i64 (n : Int)) (r_len (A := B) (n := n) (c := d) rfl ek kk) ?_
 refine Fq (.bool false) (r_neq (m := (n : Int)) (n := (n : Int)) rfl ek ek (df (by omega))) ?_
 apply F.es
 apply h3
 refine wp_cond_false ek ?_
 apply wp_skip
 apply h2
 refine wk fun K4 h4 => ?_
 refine wk fun K5 h5 => ?_
 refine Rq 1 ?_
 refine Fa (.int .i64 0) ?_
 apply F.es
 apply h5
 refine wp_block ?_
 refine loopK (fun am0 aa0 wl0 => ∃ (i : Nat) , Kn aa0 [(0, .slice A n c), (1, .slice B n d), (4, .bool false), (5, .int .i64 (i : Int)), (10, .bool false)] 26 ∧ (am0 = n - i) ∧ (i ≤ n) ∧ (Below w.heap.size w wl0)) (n - 0) ?_ ?_
 ·exact ⟨0, Kn.of, rfl, (Nat.zero_le _), (Below.refl _ _)⟩
 rintro am0 aa0 wl0 K6 h6 ⟨i, ⟨U0, rfl⟩, rfl, hi, c1⟩
 refine wk fun K7 h7 => ?_
 refine wk fun K8 h8 => ?_
 refine Rq 4 ?_
 refine Fv (.int .i64 (i : Int)) ?_
 refine Fv (.slice A n c) ?_
 refine Fq (.int .i64 (n : Int)) (r_len (A := A) (n := n) (c := c) rfl ek kk) ?_
 by_cases q2 : ((i : Int) : Int) < ((n : Int) : Int)
 ·refine Fq (.bool true) (r_lss (m := (i : Int)) (n := (n : Int)) rfl ek ek (dt q2)) ?_
  apply F.es
  apply h8
  refine wp_cond_true ek ?_
  apply wp_skip
  apply h7
  refine wk fun K9 h9 => ?_
  refine wp_block ?_
  refine wk fun K10 h10 => ?_
  refine W.region_sch (row := none) (Sch.of [(0, false), (1, false), (2, false), (3, false), (4, false), (5, false), (6, false), (7, false), (8, false)]) kk kk (fun _ d _ _ _ h => by cases d <;> exact h) kk (fun w3 e4 s5 => ?_)
  refine Fv (.slice A n c) ?_
  refine Fv (.int .i64 (i : Int)) ?_
  obtain ⟨x6, hx7⟩ := get_of (zs := zs) (k := i) (by have := hl; omega)
  obtain ⟨b8, o9, hA10, hb11, hc12⟩ := Rd.elInt ha hx7
  refine Fq (.pointer (some ⟨b8, o9 + i, none⟩)) (r_idx1 (n := n) (c := c) (k := i) rfl ek hA10 kk kk (by have := hl; omega)) ?_
  refine Fl (.int .i64 x6) (sgS (later c1 hc12) (by simp)) ?_
  refine Fv (.slice B n d) ?_
  refine Fv (.int .i64 (i : Int)) ?_
  obtain ⟨b13, o14, hA15, hb16, hc17⟩ := Rd.elInt hb hx7
  refine Fq (.pointer (some ⟨b13, o14 + i, none⟩)) (r_idx1 (n := n) (c := d) (k := i) rfl ek hA15 kk kk (by have := hl; omega)) ?_
  refine Fl (.int .i64 x6) (sgS (later c1 hc17) (by simp)) ?_
  refine Fq (.bool false) (r_neq (m := x6) (n := x6) rfl ek ek (df (by omega))) ?_
  apply F.es
  have c18 := (Sb c1 s5 nkk)
  apply h10
  refine wp_cond_false ek ?_
  apply wp_skip
  apply h9
  refine Rq 3 ?_
  refine Fv (.int .i64 (i : Int)) ?_
  refine Fq (.int .i64 ((i + 1 : Nat) : Int)) (r_add (m := (i : Int)) (n := 1) (z := ((i + 1 : Nat) : Int)) rfl ek ek (by omega) (by omega)) ?_
  refine Fa (.int .i64 ((i + 1 : Nat) : Int)) ?_
  apply F.es
  exact h6 _ _ _ (by omega : (n - (i + 1)) < _) ⟨i + 1, Kn.of, rfl, (by omega), c18⟩
 refine Fq (.bool false) (r_lss (m := (i : Int)) (n := (n : Int)) rfl ek ek (df q2)) ?_
 apply F.es
 apply h8
 refine wp_cond_false ek ?_
 refine wp_exit ?_
 apply h4
 refine wk fun K11 h11 => ?_
 refine Rq 1 ?_
 refine Fa (.bool true) ?_
 apply F.es
 apply h11
 refine wp_ret ?_
 try simp only [Exit.then]
 refine ret1 (v := .bool true) rfl kk ?_
 exact ⟨rfl, c1⟩
end Go.Proofs.Ytdbgfejeleafgaa
namespace Go.Proofs.Ytdbgfejeleafgaa
open Go.RowKit
set_option linter.unusedVariables false
theorem valvesV_len (ps : List Vv) : (valvesV ps).length = ps.length * 4 := flat_len Vv.vals 4 (fun _ => rfl) ps
theorem valvesV_at (ps : List Vv) (i r : Nat) (hr : r < 4) : (valvesV ps)[i * 4 + r]? = (ps[i]?).bind (fun a => a.vals[r]?) := flat_at Vv.vals 4 (fun _ => rfl) ps i r hr
theorem Rd.atValve {w : World} {A : Option Addr} {n : Nat} {ps : List Vv} (h : Rd w 4 A n (valvesV ps)) {k : Nat} (hk : k < n) :
    ∃ b off x, A = some ⟨b, off, none⟩ ∧ b < w.heap.size ∧ ps[k]? = some x ∧ w.cell? ⟨b, off + k * 4, none⟩ = some (.int .i64 x.id) ∧ w.cell? ⟨b, off + k * 4 + 1, none⟩ = some (.int .i64 x.pipe) ∧ w.cell? ⟨b, off + k * 4 + 2, none⟩ = some (.int .i64 x.node) ∧ w.cell? ⟨b, off + k * 4 + 3, none⟩ = some (.bool x.shut) := by
  have hl : k < ps.length := by have := h.1; rw [valvesV_len] at this; omega
  obtain ⟨b, off, e, hb, hc⟩ := h.2 (by omega)
  have hx : ps[k]? = some ps[k] := List.getElem?_eq_getElem hl
  refine ⟨b, off, ps[k], e, hb, hx, ?_, ?_, ?_, ?_⟩
  · exact hc (k * 4) _ (by have := valvesV_at ps k 0 (by omega); rw [hx] at this; exact this)
  · exact hc (k * 4 + 1) _ (by rw [valvesV_at ps k 1 (by omega), hx]; rfl)
  · exact hc (k * 4 + 2) _ (by rw [valvesV_at ps k 2 (by omega), hx]; rfl)
  · exact hc (k * 4 + 3) _ (by rw [valvesV_at ps k 3 (by omega), hx]; rfl)
end Go.Proofs.Ytdbgfejeleafgaa
namespace Go.Proofs.Ytdbgfejeleafgaa
open Go.RowKit
set_option linter.unusedVariables false
theorem Rd.elValve {w : World} {A : Option Addr} {n : Nat} {ps : List Vv} (h : Rd w 4 A n (valvesV ps)) {k : Nat} {x : Vv} (hx : ps[k]? = some x) :
    ∃ b off, A = some ⟨b, off, none⟩ ∧ b < w.heap.size ∧ w.cell? ⟨b, off + k * 4, none⟩ = some (.int .i64 x.id) ∧ w.cell? ⟨b, off + k * 4 + 1, none⟩ = some (.int .i64 x.pipe) ∧ w.cell? ⟨b, off + k * 4 + 2, none⟩ = some (.int .i64 x.node) ∧ w.cell? ⟨b, off + k * 4 + 3, none⟩ = some (.bool x.shut) := by
  have hk : k < n := by have h1 := (List.getElem?_eq_some_iff.1 hx).1; have h2 := h.1; rw [valvesV_len] at h2; omega
  obtain ⟨b, off, y, e, hb, hy, r⟩ := h.atValve hk
  obtain rfl := Option.some.inj (hy.symm.trans hx)
  exact ⟨b, off, e, hb, r⟩
theorem rd_valves_len {w : World} {A : Option Addr} {n : Nat} {ps : List Vv} (h : Rd w 4 A n (valvesV ps)) : ps.length = n := by have := h.1; rw [valvesV_len] at this; omega
def endAt (ps : List Pp) (k : Int) (node : Int) : Bool := if 0 ≤ k then match ps[k.toNat]? with | some p => decide (p.fr = node) || decide (p.to = node) | none => false else false
def placed (vs : List Vv) (pipe node : Int) : Bool := vs.any (fun u => decide (u.pipe = pipe) && decide (u.node = node))
def above (vs : List Vv) (i : Nat) (v : Vv) : Bool := if i = 0 then true else match vs[i - 1]? with | some u => decide (u.id < v.id) | none => true
def okV (ps : List Pp) (vs : List Vv) (i : Nat) : Bool := match vs[i]? with
  | some v => inB v.id 1 99 && above vs i v && endAt ps (findL ps v.pipe) v.node && !placed (vs.take i) v.pipe v.node
  | none => true
def okVTo (ps : List Pp) (vs : List Vv) : Nat → Bool
  | 0 => true
  | k + 1 => okVTo ps vs k && okV ps vs k
def goodV (m : Int) (ps : List Pp) (vs : List Vv) : Bool := goodN m ps && (decide (vs.length ≤ 10) && okVTo ps vs vs.length)
theorem okVTo_bad {ps : List Pp} {vs : List Vv} {k : Nat} (h : okV ps vs k = false) : ∀ n, k < n → okVTo ps vs n = false
  | 0, hk => absurd hk (by omega)
  | n + 1, hk => by
    by_cases e : k = n
    · subst e; unfold okVTo; rw [h]; simp
    · unfold okVTo; rw [okVTo_bad h n (by omega)]; rfl
theorem goodV_bad {m : Int} {ps : List Pp} {vs : List Vv} {k : Nat} (hk : k < vs.length) (h : okV ps vs k = false) : goodV m ps vs = false := by
  unfold goodV; rw [okVTo_bad h _ hk]; simp
theorem okVTo_next {ps : List Pp} {vs : List Vv} {k : Nat} (h : okVTo ps vs k = true) (h' : okV ps vs k = true) : okVTo ps vs (k + 1) = true := by unfold okVTo; rw [h, h']; rfl
theorem okVTo_at {ps : List Pp} {vs : List Vv} : ∀ {n k : Nat}, okVTo ps vs n = true → k < n → okV ps vs k = true
  | 0, k, _, hk => absurd hk (by omega)
  | n + 1, k, h, hk => by
    unfold okVTo at h
    rw [Bool.and_eq_true] at h
    by_cases e : k = n
    · subst e; exact h.2
    · exact okVTo_at h.1 (by omega)
theorem goodV_fin {m : Int} {ps : List Pp} {vs : List Vv} (hg : goodN m ps = true) (hl : vs.length ≤ 10) (h : okVTo ps vs vs.length = true) : goodV m ps vs = true := by
  unfold goodV; rw [hg, h, decide_eq_true hl]; rfl
theorem goodV_out {m : Int} {ps : List Pp} {vs : List Vv} (h : goodN m ps = false ∨ 10 < vs.length) : goodV m ps vs = false := by
  unfold goodV
  rcases h with h | h
  · rw [h]; rfl
  · rw [decide_eq_false (by omega)]; simp
theorem okV_iff {ps : List Pp} {vs : List Vv} {i : Nat} {v : Vv} (hv : vs[i]? = some v) : okV ps vs i = true ↔ ((1 ≤ v.id ∧ v.id ≤ 99) ∧ above vs i v = true) ∧ endAt ps (findL ps v.pipe) v.node = true ∧ placed (vs.take i) v.pipe v.node = false := by
  unfold okV
  rw [hv]
  simp only [Bool.and_eq_true, inB_iff, Bool.not_eq_true', and_assoc]
def blocked (vs : List Vv) (pipe node : Int) (only : Bool) : Bool := vs.any (fun u => decide (u.pipe = pipe) && decide (u.node = node) && (!only || u.shut))
def linked (ps : List Pp) (q : Pp → Int → Bool) (a b : Int) : Prop := ∃ (i : Nat) (p : Pp) (v : Int), ps[i]? = some p ∧ (v = p.fr ∨ v = p.to) ∧ q p v = true ∧ ((a = v ∧ b = 9 + (i : Int)) ∨ (a = 9 + (i : Int) ∧ b = v))
theorem linked_symm (ps : List Pp) (q : Pp → Int → Bool) : Symm (linked ps q) := by
  rintro a b ⟨i, p, v, h1, h2, h3, h4⟩
  exact ⟨i, p, v, h1, h2, h3, h4.symm.imp (fun h => ⟨h.2, h.1⟩) (fun h => ⟨h.2, h.1⟩)⟩
end Go.Proofs.Ytdbgfejeleafgaa
namespace Go.Proofs.Ytdbgfejeleafgaa
open Go.RowKit
set_option linter.unusedVariables false
set_option linter.unusedSimpArgs false
set_option maxRecDepth 100000 in
set_option maxHeartbeats 8000000 in
theorem pipeIndexF_any (p : Pp) (id : Int) (B : Nat) (w : World) (hB : w.heap[B]? = some (.cells #[.int .i64 id] 3 (0, 0))) :
    Calls Try.prog 126 #[.agg #[.int .i64 p.id, .int .i64 p.fr, .int .i64 p.to, .int .i64 p.sz], .pointer (some ⟨B, 0, none⟩)] w fun e w' => e = .returned (.bool (decide (p.id = id))) ∧ Below w.heap.size w w' := by
 go_enter Try.func126, Try.ntmps126
 refine F.begin 8 [(0, .agg #[.int .i64 p.id, .int .i64 p.fr, .int .i64 p.to, .int .i64 p.sz]), (1, .pointer (some ⟨B, 0, none⟩))] (fun U0 => ?_)
 refine wk fun K1 h1 => ?_
 refine W.region_plain (row := none) [(0, true), (1, false)] kk ?_
 have s1 := SG.self w none
 refine W.sn (fun b => .pointer (some ⟨b, 0, none⟩)) #[.int .i64 p.id, .int .i64 p.fr, .int .i64 p.to, .int .i64 p.sz] 51 s1 rfl kk rfl (fun _ => by kernel_rfl) (fun b2 w3 hb4 k5 x6 s7 => ?_)
 apply F.nx
 have lo8 : w.heap.size ≤ b2 := Nl ((Sb (Below.refl _ _) s1 nkk)).size (Nat.le_of_eq hb4)
 refine Fa (.bool false) ?_
 apply F.es
 have hB := Sk s7 hB onn
 have c10 := (Sb (Below.refl _ _) s7 nkk)
 apply h1
 refine wk fun K2 h2 => ?_
 refine Rq 5 ?_
 refine Fq (.pointer (some ⟨b2, 0, none⟩)) (r_field0 rfl ek kk) ?_
 refine Fl (.int .i64 p.id) (eqS (blk_cell (j := 0) x6 kk)) ?_
 refine Fl (.int .i64 id) (eqS (blk_cell (j := 0) hB kk)) ?_
 by_cases q11 : (p.id : Int) = (id : Int)
 ·refine Fq (.bool true) (r_eql (m := p.id) (n := id) rfl ek ek (dt q11)) ?_
  refine Fa (.bool true) ?_
  apply F.es
  apply h2
  refine wp_ret ?_
  try simp only [Exit.then]
  refine ret1 (v := .bool true) rfl kk ?_
  exact ⟨by simp_all, c10⟩
 refine Fq (.bool false) (r_eql (m := p.id) (n := id) rfl ek ek (df q11)) ?_
 refine Fa (.bool false) ?_
 apply F.es
 apply h2
 refine wp_ret ?_
 try simp only [Exit.then]
 refine ret1 (v := .bool false) rfl kk ?_
 exact ⟨by simp_all, c10⟩
def idxP (q : Pp → Bool) : List Pp → Int
  | [] => -1
  | p :: ps => if q p = true then 0 else if idxP q ps < 0 then -1 else idxP q ps + 1
theorem idxP_at {q : Pp → Bool} : ∀ {ps : List Pp} {k : Nat} {x : Pp}, (∀ j z, j < k → ps[j]? = some z → q z = false) → ps[k]? = some x → q x = true → idxP q ps = (k : Int)
  | [], k, x, _, hx, _ => by simp at hx
  | p :: ps, 0, x, _, hx, e => by simp at hx; subst hx; unfold idxP; rw [if_pos e]; rfl
  | p :: ps, k + 1, x, h, hx, e => by
    have h0 := h 0 p (by omega) rfl
    have ih := idxP_at (q := q) (ps := ps) (k := k) (fun j z hj hz => h (j + 1) z (by omega) (by simpa using hz)) (by simpa using hx) e
    unfold idxP; rw [if_neg (by rw [h0]; simp), ih, if_neg (by omega)]; omega
theorem idxP_none {q : Pp → Bool} : ∀ {ps : List Pp}, (∀ (j : Nat) z, j < ps.length → ps[j]? = some z → q z = false) → idxP q ps = -1
  | [], _ => rfl
  | p :: ps, h => by
    have h0 := h 0 p (by simp) rfl
    have ih := idxP_none (q := q) (ps := ps) (fun j z hj hz => h (j + 1) z (by simp; omega) (by simpa using hz))
    unfold idxP; rw [if_neg (by rw [h0]; simp), ih]; rfl
theorem idxP_find (ps : List Pp) (v : Int) : idxP (fun p => decide (p.id = v)) ps = findL ps v := by
  induction ps with
  | nil => rfl
  | cons p ps ih => unfold idxP findL; rw [ih]; simp
set_option maxRecDepth 100000 in
set_option maxHeartbeats 8000000 in
theorem idxP_any (A : Option Addr) (n c : Nat) (ps : List Pp) (g : FuncId) (lb : Array Value) (q : Pp → Bool) (w : World) (ha : Rd w 4 A n (pipesV ps)) (hn : n ≤ 1048576) (he : enters Try.prog g = true) (HG : ∀ W p, Below w.heap.size w W → Calls Try.prog g (#[.agg #[.int .i64 p.id, .int .i64 p.fr, .int .i64 p.to, .int .i64 p.sz]] ++ lb) W fun e w' => e = .returned (.bool (q p)) ∧ Below W.heap.size W w') :
    Calls Try.prog 125 #[.slice A n c, .func (.func g) #[] lb] w fun e w' => e = .returned (.int .i64 (idxP q ps)) ∧ Below w.heap.size w w' := by
 have hl := rd_pipes_len ha
 go_enter Try.func125, Try.ntmps125
 refine F.begin 19 [(0, .slice A n c), (1, .func (.func g) #[] lb)] (fun U0 => ?_)
 refine wk fun K1 h1 => ?_
 refine Rq 1 ?_
 refine Fa (.int .i64 0) ?_
 apply F.es
 apply h1
 refine wk fun K2 h2 => ?_
 refine wk fun K3 h3 => ?_
 refine Rq 3 ?_
 refine Fv (.slice A n c) ?_
 refine Fq (.int .i64 (n : Int)) (r_len (A := A) (n := n) (c := c) rfl ek kk) ?_
 refine Fv (.int .i64 0) ?_
 apply F.es
 apply h3
 refine wp_block ?_
 refine loopK (fun am0 aa0 wl0 => ∃ (k : Nat) , Kn aa0 [(0, .slice A n c), (1, .func (.func g) #[] lb), (4, .int .i64 0), (7, .int .i64 (n : Int)), (8, .int .i64 (k : Int))] 19 ∧ (am0 = n - k) ∧ (k ≤ n) ∧ (∀ j z, j < k → ps[j]? = some z → q z = false) ∧ (Below w.heap.size w wl0)) (n - 0) ?_ ?_
 ·exact ⟨0, Kn.of, rfl, (Nat.zero_le _), (fun j z hj => absurd hj (by omega)), (Below.refl _ _)⟩
 rintro am0 aa0 wl0 K4 h4 ⟨k, ⟨U0, rfl⟩, rfl, hk, hno, c1⟩
 refine wk fun K5 h5 => ?_
 refine Rq 1 ?_
 by_cases q2 : ((k : Int) : Int) < ((n : Int) : Int)
 ·refine Fq (.bool true) (r_lss (m := (k : Int)) (n := (n : Int)) rfl ek ek (dt q2)) ?_
  apply F.es
  apply h5
  refine wk fun K6 h6 => ?_
  refine wp_cond_true ek ?_
  apply wp_skip
  apply h6
  refine wk fun K7 h7 => ?_
  refine wp_block ?_
  refine wk fun K8 h8 => ?_
  refine Rq 2 ?_
  refine Fv (.int .i64 (k : Int)) ?_
  refine Fa (.int .i64 (k : Int)) ?_
  apply F.es
  apply h8
  refine wk fun K9 h9 => ?_
  refine W.region_plain (row := none) [(0, false), (1, false), (2, false), (3, false), (4, false), (5, true)] kk ?_
  have s3 := SG.self wl0 none
  refine Fv (.func (.func g) #[] lb) ?_
  refine Fv (.slice A n c) ?_
  refine Fv (.int .i64 (k : Int)) ?_
  obtain ⟨x4, hx5⟩ := get_of (zs := ps) (k := k) (by have := hl; omega)
  obtain ⟨b6, o7, hA8, hb9, hc10, hc11, hc12, hc13⟩ := Rd.elPipe ha hx5
  refine Fq (.pointer (some ⟨b6, o7 + k * 4, none⟩)) (r_idx (n := n) (c := c) (k := k) rfl ek hA8 kk kk (by have := hl; omega)) ?_
  refine Fq (.agg #[.int .i64 x4.id, .int .i64 x4.fr, .int .i64 x4.to, .int .i64 x4.sz]) (r_load4 rfl ek kk kk (sgS (later c1 hc10) (by simp)) (sgS (later c1 hc11) (by simp)) (sgS (later c1 hc12) (by simp)) (sgS (later c1 hc13) (by simp))) ?_
  refine W.scv (vs := [.agg #[.int .i64 x4.id, .int .i64 x4.fr, .int .i64 x4.to, .int .i64 x4.sz]]) (g := g) (lb := lb) rfl rfl kk kk he kk rfl (HG _ x4 ((Sb c1 s3 nkk))) ?_
  rintro e w15 ⟨rfl, b14⟩
  have s16 := SG.of_below s3 b14
  refine ⟨_, rfl, s16, ?_⟩
  apply F.nx
  rcases Bool.eq_false_or_eq_true (q x4) with q17 | q17
  ·rw [q17]
   apply F.es
   have c18 := (Sb c1 s16 nkk)
   apply h9
   refine wp_cond_true ek ?_
   refine wk fun K10 h10 => ?_
   refine Rq 2 ?_
   refine Fv (.int .i64 (k : Int)) ?_
   refine Fa (.int .i64 (k : Int)) ?_
   apply F.es
   apply h10
   refine wp_ret ?_
   try simp only [Exit.then, Exit.inBlock]
   refine ret1 (v := .int .i64 (k : Int)) rfl kk ?_
   exact ⟨by rw [idxP_at hno hx5 q17]; try rfl, c18⟩
  rw [q17]
  apply F.es
  have c19 := (Sb c1 s16 nkk)
  apply h9
  refine wp_cond_false ek ?_
  apply wp_skip
  apply h7
  refine Rq 2 ?_
  refine Fq (.int .i64 ((k + 1 : Nat) : Int)) (r_add (m := (k : Int)) (n := 1) (z := ((k + 1 : Nat) : Int)) rfl ek ek (by omega) (by omega)) ?_
  refine Fv (.int .i64 ((k + 1 : Nat) : Int)) ?_
  apply F.es
  exact h4 _ _ _ (by omega : (n - (k + 1)) < _) ⟨k + 1, Kn.of, rfl, (by omega), (upto_succ (Q := fun z => q z = false) hno hx5 q17), c19⟩
 refine Fq (.bool false) (r_lss (m := (k : Int)) (n := (n : Int)) rfl ek ek (df q2)) ?_
 apply F.es
 apply h5
 refine wk fun K11 h11 => ?_
 refine wp_cond_false ek ?_
 refine wp_exit ?_
 apply h2
 refine wk fun K12 h12 => ?_
 refine Rq 1 ?_
 refine Fa (.int .i64 (-1)) ?_
 apply F.es
 apply h12
 refine wp_ret ?_
 try simp only [Exit.then]
 refine ret1 (v := .int .i64 (-1)) rfl kk ?_
 exact ⟨by rw [idxP_none (fun j z hj => hno j z (by omega))]; try rfl, c1⟩
set_option maxRecDepth 100000 in
set_option maxHeartbeats 8000000 in
theorem pipeIndex_any (m : Int) (A : Option Addr) (n c : Nat) (ps : List Pp) (v : Int) (w : World) (ha : Rd w 4 A n (pipesV ps)) (hn : n ≤ 1048576) :
    Calls Try.prog 71 #[.agg #[.int .i64 m, .slice A n c], .int .i64 v] w fun e w' => e = .returned (.int .i64 (findL ps v)) ∧ Below w.heap.size w w' := by
 have hl := rd_pipes_len ha
 go_enter Try.func71, Try.ntmps71
 refine F.begin 9 [(0, .agg #[.int .i64 m, .slice A n c]), (1, .int .i64 v)] (fun U0 => ?_)
 refine wk fun K1 h1 => ?_
 refine W.region_plain (row := none) [(0, true), (1, true), (2, false)] kk ?_
 have s1 := SG.self w none
 refine W.sn (fun b => .pointer (some ⟨b, 0, none⟩)) #[.int .i64 m, .slice A n c] 26 s1 rfl kk rfl (fun _ => by kernel_rfl) (fun b2 w3 hb4 k5 x6 s7 => ?_)
 apply F.nx
 have lo8 : w.heap.size ≤ b2 := Nl ((Sb (Below.refl _ _) s1 nkk)).size (Nat.le_of_eq hb4)
 refine W.sn (fun b => .pointer (some ⟨b, 0, none⟩)) #[.int .i64 v] 3 s7 rfl kk rfl (fun _ => by kernel_rfl) (fun b9 w10 hb11 k12 x13 s14 => ?_)
 apply F.nx
 have lo15 : w.heap.size ≤ b9 := Nl ((Sb (Below.refl _ _) s7 nkk)).size (Nat.le_of_eq hb11)
 have x6 := (k12.block _ (blk_lt x6)).trans x6
 refine Fa (.int .i64 0) ?_
 apply F.es
 have c17 := (Sb (Below.refl _ _) s14 nkk)
 apply h1
 refine wk fun K2 h2 => ?_
 refine W.region_plain (row := none) [(0, false), (1, false), (2, false), (3, true), (4, false)] kk ?_
 have s18 := SG.self w10 none
 refine Fq (.pointer (some ⟨b2, 1, none⟩)) (r_field (k := 1) rfl ek kk) ?_
 refine Fl (.slice A n c) (sgS (blk_cell (j := 1) x6 kk) onn) ?_
 refine Fq (.func (.func 126) #[] #[.pointer (some ⟨b9, 0, none⟩)]) (r_makeFunc (vs := [.pointer (some ⟨b9, 0, none⟩)]) rfl kk) ?_
 refine Fc [.slice A n c, .func (.func 126) #[] #[.pointer (some ⟨b9, 0, none⟩)]] (idxP_any A n c ps 126 #[.pointer (some ⟨b9, 0, none⟩)] (fun p => decide (p.id = v)) _ (Rk ha (Sb c17 s18 nkk)) (by omega) kk (fun W p hW => pipeIndexF_any p v b9 W ((hW.block _ (blk_lt x13)).trans x13))) ?_
 rintro e w20 ⟨rfl, b19⟩
 have s21 := SG.of_below s18 b19
 refine ⟨_, rfl, s21, ?_⟩
 apply F.nx
 refine Fa (.int .i64 (idxP (fun p => decide (p.id = v)) ps)) ?_
 apply F.es
 have c22 := (Sb c17 s21 nkk)
 apply h2
 refine wp_ret ?_
 try simp only [Exit.then]
 refine ret1 (v := .int .i64 (idxP (fun p => decide (p.id = v)) ps)) rfl kk ?_
 exact ⟨by rw [idxP_find]; try rfl, c22⟩
end Go.Proofs.Ytdbgfejeleafgaa
namespace Go.Proofs.Ytdbgfejeleafgaa
open Go.RowKit
set_option linter.unusedVariables false
set_option linter.unusedSimpArgs false
set_option maxRecDepth 100000 in
set_option maxHeartbeats 8000000 in
theorem valveIndexF_any (v : Vv) (id : Int) (B : Nat) (w : World) (hB : w.heap[B]? = some (.cells #[.int .i64 id] 3 (0, 0))) :
    Calls Try.prog 135 #[.agg #[.int .i64 v.id, .int .i64 v.pipe, .int .i64 v.node, .bool v.shut], .pointer (some ⟨B, 0, none⟩)] w fun e w' => e = .returned (.bool (decide (v.id = id))) ∧ Below w.heap.size w w' := by
 go_enter Try.func135, Try.ntmps135
 refine F.begin 8 [(0, .agg #[.int .i64 v.id, .int .i64 v.pipe, .int .i64 v.node, .bool v.shut]), (1, .pointer (some ⟨B, 0, none⟩))] (fun U0 => ?_)
 refine wk fun K1 h1 => ?_
 refine W.region_plain (row := none) [(0, true), (1, false)] kk ?_
 have s1 := SG.self w none
 refine W.sn (fun b => .pointer (some ⟨b, 0, none⟩)) #[.int .i64 v.id, .int .i64 v.pipe, .int .i64 v.node, .bool v.shut] 40 s1 rfl kk rfl (fun _ => by kernel_rfl) (fun b2 w3 hb4 k5 x6 s7 => ?_)
 apply F.nx
 have lo8 : w.heap.size ≤ b2 := Nl ((Sb (Below.refl _ _) s1 nkk)).size (Nat.le_of_eq hb4)
 refine Fa (.bool false) ?_
 apply F.es
 have hB := Sk s7 hB onn
 have c10 := (Sb (Below.refl _ _) s7 nkk)
 apply h1
 refine wk fun K2 h2 => ?_
 refine Rq 5 ?_
 refine Fq (.pointer (some ⟨b2, 0, none⟩)) (r_field0 rfl ek kk) ?_
 refine Fl (.int .i64 v.id) (eqS (blk_cell (j := 0) x6 kk)) ?_
 refine Fl (.int .i64 id) (eqS (blk_cell (j := 0) hB kk)) ?_
 by_cases q11 : (v.id : Int) = (id : Int)
 ·refine Fq (.bool true) (r_eql (m := v.id) (n := id) rfl ek ek (dt q11)) ?_
  refine Fa (.bool true) ?_
  apply F.es
  apply h2
  refine wp_ret ?_
  try simp only [Exit.then]
  refine ret1 (v := .bool true) rfl kk ?_
  exact ⟨by simp_all, c10⟩
 refine Fq (.bool false) (r_eql (m := v.id) (n := id) rfl ek ek (df q11)) ?_
 refine Fa (.bool false) ?_
 apply F.es
 apply h2
 refine wp_ret ?_
 try simp only [Exit.then]
 refine ret1 (v := .bool false) rfl kk ?_
 exact ⟨by simp_all, c10⟩
set_option maxRecDepth 100000 in
set_option maxHeartbeats 8000000 in
theorem valveAtF_any (v : Vv) (p : Pp) (node : Int) (B C : Nat) (w : World) (hB : w.heap[B]? = some (.cells #[.int .i64 p.id, .int .i64 p.fr, .int .i64 p.to, .int .i64 p.sz] 51 (0, 0))) (hC : w.heap[C]? = some (.cells #[.int .i64 node] 3 (0, 0))) (hNE : B ≠ C) :
    Calls Try.prog 150 #[.agg #[.int .i64 v.id, .int .i64 v.pipe, .int .i64 v.node, .bool v.shut], .pointer (some ⟨B, 0, none⟩), .pointer (some ⟨C, 0, none⟩)] w fun e w' => e = .returned (.bool (decide (v.pipe = p.id) && decide (v.node = node))) ∧ Below w.heap.size w w' := by
 go_enter Try.func150, Try.ntmps150
 refine F.begin 16 [(0, .agg #[.int .i64 v.id, .int .i64 v.pipe, .int .i64 v.node, .bool v.shut]), (1, .pointer (some ⟨B, 0, none⟩)), (2, .pointer (some ⟨C, 0, none⟩))] (fun U0 => ?_)
 refine wk fun K1 h1 => ?_
 refine W.region_plain (row := none) [(0, true), (1, false)] kk ?_
 have s1 := SG.self w none
 refine W.sn (fun b => .pointer (some ⟨b, 0, none⟩)) #[.int .i64 v.id, .int .i64 v.pipe, .int .i64 v.node, .bool v.shut] 40 s1 rfl kk rfl (fun _ => by kernel_rfl) (fun b2 w3 hb4 k5 x6 s7 => ?_)
 apply F.nx
 have lo8 : w.heap.size ≤ b2 := Nl ((Sb (Below.refl _ _) s1 nkk)).size (Nat.le_of_eq hb4)
 refine Fa (.bool false) ?_
 apply F.es
 have hB := Sk s7 hB onn
 have hC := Sk s7 hC onn
 have c11 := (Sb (Below.refl _ _) s7 nkk)
 apply h1
 refine wk fun K2 h2 => ?_
 refine Rq 12 ?_
 refine Fq (.pointer (some ⟨b2, 1, none⟩)) (r_field (k := 1) rfl ek kk) ?_
 refine Fl (.int .i64 v.pipe) (eqS (blk_cell (j := 1) x6 kk)) ?_
 refine Fq (.pointer (some ⟨B, 0, none⟩)) (r_field0 rfl ek kk) ?_
 refine Fl (.int .i64 p.id) (eqS (blk_cell (j := 0) hB kk)) ?_
 by_cases q12 : (v.pipe : Int) = (p.id : Int)
 ·refine Fq (.bool true) (r_eql (m := v.pipe) (n := p.id) rfl ek ek (dt q12)) ?_
  refine Fv (.bool true) ?_
  refine Fq (.pointer (some ⟨b2, 2, none⟩)) (r_field (k := 2) rfl ek kk) ?_
  refine Fl (.int .i64 v.node) (eqS (blk_cell (j := 2) x6 kk)) ?_
  refine Fl (.int .i64 node) (eqS (blk_cell (j := 0) hC kk)) ?_
  by_cases q13 : (v.node : Int) = (node : Int)
  ·refine Fq (.bool true) (r_eql (m := v.node) (n := node) rfl ek ek (dt q13)) ?_
   refine Fq (.bool true) (r_pick (b := true) rfl ek ek) ?_
   refine Fa (.bool true) ?_
   apply F.es
   apply h2
   refine wp_ret ?_
   try simp only [Exit.then]
   refine ret1 (v := .bool true) rfl kk ?_
   exact ⟨by simp_all, c11⟩
  refine Fq (.bool false) (r_eql (m := v.node) (n := node) rfl ek ek (df q13)) ?_
  refine Fq (.bool false) (r_pick (b := true) rfl ek ek) ?_
  refine Fa (.bool false) ?_
  apply F.es
  apply h2
  refine wp_ret ?_
  try simp only [Exit.then]
  refine ret1 (v := .bool false) rfl kk ?_
  exact ⟨by simp_all, c11⟩
 refine Fq (.bool false) (r_eql (m := v.pipe) (n := p.id) rfl ek ek (df q12)) ?_
 refine Fv (.bool false) ?_
 refine Fs rfl ?_
 refine Fs rfl ?_
 refine Fs rfl ?_
 refine Fs rfl ?_
 refine Fq (.bool false) (r_pick (b := false) rfl ek ek) ?_
 refine Fa (.bool false) ?_
 apply F.es
 apply h2
 refine wp_ret ?_
 try simp only [Exit.then]
 refine ret1 (v := .bool false) rfl kk ?_
 exact ⟨by simp_all, c11⟩
set_option maxRecDepth 100000 in
set_option maxHeartbeats 8000000 in
theorem validF_any (v u : Vv) (B : Nat) (w : World) (hB : w.heap[B]? = some (.cells #[.int .i64 u.id, .int .i64 u.pipe, .int .i64 u.node, .bool u.shut] 40 (0, 0))) :
    Calls Try.prog 83 #[.agg #[.int .i64 v.id, .int .i64 v.pipe, .int .i64 v.node, .bool v.shut], .pointer (some ⟨B, 0, none⟩)] w fun e w' => e = .returned (.bool (decide (v.pipe = u.pipe) && decide (v.node = u.node))) ∧ Below w.heap.size w w' := by
 go_enter Try.func83, Try.ntmps83
 refine F.begin 16 [(0, .agg #[.int .i64 v.id, .int .i64 v.pipe, .int .i64 v.node, .bool v.shut]), (1, .pointer (some ⟨B, 0, none⟩))] (fun U0 => ?_)
 refine wk fun K1 h1 => ?_
 refine W.region_plain (row := none) [(0, true), (1, false)] kk ?_
 have s1 := SG.self w none
 refine W.sn (fun b => .pointer (some ⟨b, 0, none⟩)) #[.int .i64 v.id, .int .i64 v.pipe, .int .i64 v.node, .bool v.shut] 40 s1 rfl kk rfl (fun _ => by kernel_rfl) (fun b2 w3 hb4 k5 x6 s7 => ?_)
 apply F.nx
 have lo8 : w.heap.size ≤ b2 := Nl ((Sb (Below.refl _ _) s1 nkk)).size (Nat.le_of_eq hb4)
 refine Fa (.bool false) ?_
 apply F.es
 have hB := Sk s7 hB onn
 have c10 := (Sb (Below.refl _ _) s7 nkk)
 apply h1
 refine wk fun K2 h2 => ?_
 refine Rq 13 ?_
 refine Fq (.pointer (some ⟨b2, 1, none⟩)) (r_field (k := 1) rfl ek kk) ?_
 refine Fl (.int .i64 v.pipe) (eqS (blk_cell (j := 1) x6 kk)) ?_
 refine Fq (.pointer (some ⟨B, 1, none⟩)) (r_field (k := 1) rfl ek kk) ?_
 refine Fl (.int .i64 u.pipe) (eqS (blk_cell (j := 1) hB kk)) ?_
 by_cases q11 : (v.pipe : Int) = (u.pipe : Int)
 ·refine Fq (.bool true) (r_eql (m := v.pipe) (n := u.pipe) rfl ek ek (dt q11)) ?_
  refine Fv (.bool true) ?_
  refine Fq (.pointer (some ⟨b2, 2, none⟩)) (r_field (k := 2) rfl ek kk) ?_
  refine Fl (.int .i64 v.node) (eqS (blk_cell (j := 2) x6 kk)) ?_
  refine Fq (.pointer (some ⟨B, 2, none⟩)) (r_field (k := 2) rfl ek kk) ?_
  refine Fl (.int .i64 u.node) (eqS (blk_cell (j := 2) hB kk)) ?_
  by_cases q12 : (v.node : Int) = (u.node : Int)
  ·refine Fq (.bool true) (r_eql (m := v.node) (n := u.node) rfl ek ek (dt q12)) ?_
   refine Fq (.bool true) (r_pick (b := true) rfl ek ek) ?_
   refine Fa (.bool true) ?_
   apply F.es
   apply h2
   refine wp_ret ?_
   try simp only [Exit.then]
   refine ret1 (v := .bool true) rfl kk ?_
   exact ⟨by simp_all, c10⟩
  refine Fq (.bool false) (r_eql (m := v.node) (n := u.node) rfl ek ek (df q12)) ?_
  refine Fq (.bool false) (r_pick (b := true) rfl ek ek) ?_
  refine Fa (.bool false) ?_
  apply F.es
  apply h2
  refine wp_ret ?_
  try simp only [Exit.then]
  refine ret1 (v := .bool false) rfl kk ?_
  exact ⟨by simp_all, c10⟩
 refine Fq (.bool false) (r_eql (m := v.pipe) (n := u.pipe) rfl ek ek (df q11)) ?_
 refine Fv (.bool false) ?_
 refine Fs rfl ?_
 refine Fs rfl ?_
 refine Fs rfl ?_
 refine Fs rfl ?_
 refine Fs rfl ?_
 refine Fq (.bool false) (r_pick (b := false) rfl ek ek) ?_
 refine Fa (.bool false) ?_
 apply F.es
 apply h2
 refine wp_ret ?_
 try simp only [Exit.then]
 refine ret1 (v := .bool false) rfl kk ?_
 exact ⟨by simp_all, c10⟩
def idxV (q : Vv → Bool) : List Vv → Int
  | [] => -1
  | p :: ps => if q p = true then 0 else if idxV q ps < 0 then -1 else idxV q ps + 1
theorem idxV_at {q : Vv → Bool} : ∀ {ps : List Vv} {k : Nat} {x : Vv}, (∀ j z, j < k → ps[j]? = some z → q z = false) → ps[k]? = some x → q x = true → idxV q ps = (k : Int)
  | [], k, x, _, hx, _ => by simp at hx
  | p :: ps, 0, x, _, hx, e => by simp at hx; subst hx; unfold idxV; rw [if_pos e]; rfl
  | p :: ps, k + 1, x, h, hx, e => by
    have h0 := h 0 p (by omega) rfl
    have ih := idxV_at (q := q) (ps := ps) (k := k) (fun j z hj hz => h (j + 1) z (by omega) (by simpa using hz)) (by simpa using hx) e
    unfold idxV; rw [if_neg (by rw [h0]; simp), ih, if_neg (by omega)]; omega
theorem idxV_none {q : Vv → Bool} : ∀ {ps : List Vv}, (∀ (j : Nat) z, j < ps.length → ps[j]? = some z → q z = false) → idxV q ps = -1
  | [], _ => rfl
  | p :: ps, h => by
    have h0 := h 0 p (by simp) rfl
    have ih := idxV_none (q := q) (ps := ps) (fun j z hj hz => h (j + 1) z (by simp; omega) (by simpa using hz))
    unfold idxV; rw [if_neg (by rw [h0]; simp), ih]; rfl
theorem idxV_cases (q : Vv → Bool) (ps : List Vv) : (idxV q ps = -1 ∧ ps.any q = false) ∨ ∃ (k : Nat) (x : Vv), idxV q ps = (k : Int) ∧ ps[k]? = some x ∧ q x = true ∧ ps.any q = true ∧ ∀ j z, j < k → ps[j]? = some z → q z = false := by
  induction ps with
  | nil => exact .inl ⟨rfl, rfl⟩
  | cons p ps ih =>
    by_cases hp : q p = true
    · exact .inr ⟨0, p, by unfold idxV; rw [if_pos hp]; rfl, rfl, hp, by simp [hp], fun j z hj => absurd hj (by omega)⟩
    · have hp' : q p = false := by simpa using hp
      rcases ih with ⟨h1, h2⟩ | ⟨k, x, h1, h2, h3, h4, h5⟩
      · exact .inl ⟨by unfold idxV; rw [if_neg hp, h1]; rfl, by simp [hp', h2]⟩
      · refine .inr ⟨k + 1, x, by unfold idxV; rw [if_neg hp, h1, if_neg (by omega)]; omega, by simpa using h2, h3, by rw [List.any_cons, h4, Bool.or_true], fun j z hj hz => ?_⟩
        rcases j with _ | j
        · simp at hz; subst hz; exact hp'
        · exact h5 j z (by omega) (by simpa using hz)
theorem idxV_pos (q : Vv → Bool) (ps : List Vv) : decide (0 ≤ idxV q ps) = ps.any q := by
  rcases idxV_cases q ps with ⟨h1, h2⟩ | ⟨k, x, h1, _, _, h4, _⟩
  · rw [h1, h2]; rfl
  · rw [h1, h4]; exact decide_eq_true (by omega)
set_option maxRecDepth 100000 in
set_option maxHeartbeats 8000000 in
theorem idxV_any (A : Option Addr) (n c : Nat) (vs : List Vv) (g : FuncId) (lb : Array Value) (q : Vv → Bool) (w : World) (ha : Rd w 4 A n (valvesV vs)) (hn : n ≤ 1048576) (he : enters Try.prog g = true) (HG : ∀ W v, Below w.heap.size w W → Calls Try.prog g (#[.agg #[.int .i64 v.id, .int .i64 v.pipe, .int .i64 v.node, .bool v.shut]] ++ lb) W fun e w' => e = .returned (.bool (q v)) ∧ Below W.heap.size W w') :
    Calls Try.prog 134 #[.slice A n c, .func (.func g) #[] lb] w fun e w' => e = .returned (.int .i64 (idxV q vs)) ∧ Below w.heap.size w w' := by
 have hl := rd_valves_len ha
 go_enter Try.func134, Try.ntmps134
 refine F.begin 19 [(0, .slice A n c), (1, .func (.func g) #[] lb)] (fun U0 => ?_)
 refine wk fun K1 h1 => ?_
 refine Rq 1 ?_
 refine Fa (.int .i64 0) ?_
 apply F.es
 apply h1
 refine wk fun K2 h2 => ?_
 refine wk fun K3 h3 => ?_
 refine Rq 3 ?_
 refine Fv (.slice A n c) ?_
 refine Fq (.int .i64 (n : Int)) (r_len (A := A) (n := n) (c := c) rfl ek kk) ?_
 refine Fv (.int .i64 0) ?_
 apply F.es
 apply h3
 refine wp_block ?_
 refine loopK (fun am0 aa0 wl0 => ∃ (k : Nat) , Kn aa0 [(0, .slice A n c), (1, .func (.func g) #[] lb), (4, .int .i64 0), (7, .int .i64 (n : Int)), (8, .int .i64 (k : Int))] 19 ∧ (am0 = n - k) ∧ (k ≤ n) ∧ (∀ j z, j < k → vs[j]? = some z → q z = false) ∧ (Below w.heap.size w wl0)) (n - 0) ?_ ?_
 ·exact ⟨0, Kn.of, rfl, (Nat.zero_le _), (fun j z hj => absurd hj (by omega)), (Below.refl _ _)⟩
 rintro am0 aa0 wl0 K4 h4 ⟨k, ⟨U0, rfl⟩, rfl, hk, hno, c1⟩
 refine wk fun K5 h5 => ?_
 refine Rq 1 ?_
 by_cases q2 : ((k : Int) : Int) < ((n : Int) : Int)
 ·refine Fq (.bool true) (r_lss (m := (k : Int)) (n := (n : Int)) rfl ek ek (dt q2)) ?_
  apply F.es
  apply h5
  refine wk fun K6 h6 => ?_
  refine wp_cond_true ek ?_
  apply wp_skip
  apply h6
  refine wk fun K7 h7 => ?_
  refine wp_block ?_
  refine wk fun K8 h8 => ?_
  refine Rq 2 ?_
  refine Fv (.int .i64 (k : Int)) ?_
  refine Fa (.int .i64 (k : Int)) ?_
  apply F.es
  apply h8
  refine wk fun K9 h9 => ?_
  refine W.region_plain (row := none) [(0, false), (1, false), (2, false), (3, false), (4, false), (5, true)] kk ?_
  have s3 := SG.self wl0 none
  refine Fv (.func (.func g) #[] lb) ?_
  refine Fv (.slice A n c) ?_
  refine Fv (.int .i64 (k : Int)) ?_
  obtain ⟨x4, hx5⟩ := get_of (zs := vs) (k := k) (by have := hl; omega)
  obtain ⟨b6, o7, hA8, hb9, hc10, hc11, hc12, hc13⟩ := Rd.elValve ha hx5
  refine Fq (.pointer (some ⟨b6, o7 + k * 4, none⟩)) (r_idx (n := n) (c := c) (k := k) rfl ek hA8 kk kk (by have := hl; omega)) ?_
  refine Fq (.agg #[.int .i64 x4.id, .int .i64 x4.pipe, .int .i64 x4.node, .bool x4.shut]) (r_load4 rfl ek kk kk (sgS (later c1 hc10) (by simp)) (sgS (later c1 hc11) (by simp)) (sgS (later c1 hc12) (by simp)) (sgS (later c1 hc13) (by simp))) ?_
  refine W.scv (vs := [.agg #[.int .i64 x4.id, .int .i64 x4.pipe, .int .i64 x4.node, .bool x4.shut]]) (g := g) (lb := lb) rfl rfl kk kk he kk rfl (HG _ x4 ((Sb c1 s3 nkk))) ?_
  rintro e w15 ⟨rfl, b14⟩
  have s16 := SG.of_below s3 b14
  refine ⟨_, rfl, s16, ?_⟩
  apply F.nx
  rcases Bool.eq_false_or_eq_true (q x4) with q17 | q17
  ·rw [q17]
   apply F.es
   have c18 := (Sb c1 s16 nkk)
   apply h9
   refine wp_cond_true ek ?_
   refine wk fun K10 h10 => ?_
   refine Rq 2 ?_
   refine Fv (.int .i64 (k : Int)) ?_
   refine Fa (.int .i64 (k : Int)) ?_
   apply F.es
   apply h10
   refine wp_ret ?_
   try simp only [Exit.then, Exit.inBlock]
   refine ret1 (v := .int .i64 (k : Int)) rfl kk ?_
   exact ⟨by rw [idxV_at hno hx5 q17]; try rfl, c18⟩
  rw [q17]
  apply F.es
  have c19 := (Sb c1 s16 nkk)
  apply h9
  refine wp_cond_false ek ?_
  apply wp_skip
  apply h7
  refine Rq 2 ?_
  refine Fq (.int .i64 ((k + 1 : Nat) : Int)) (r_add (m := (k : Int)) (n := 1) (z := ((k + 1 : Nat) : Int)) rfl ek ek (by omega) (by omega)) ?_
  refine Fv (.int .i64 ((k + 1 : Nat) : Int)) ?_
  apply F.es
  exact h4 _ _ _ (by omega : (n - (k + 1)) < _) ⟨k + 1, Kn.of, rfl, (by omega), (upto_succ (Q := fun z => q z = false) hno hx5 q17), c19⟩
 refine Fq (.bool false) (r_lss (m := (k : Int)) (n := (n : Int)) rfl ek ek (df q2)) ?_
 apply F.es
 apply h5
 refine wk fun K11 h11 => ?_
 refine wp_cond_false ek ?_
 refine wp_exit ?_
 apply h2
 refine wk fun K12 h12 => ?_
 refine Rq 1 ?_
 refine Fa (.int .i64 (-1)) ?_
 apply F.es
 apply h12
 refine wp_ret ?_
 try simp only [Exit.then]
 refine ret1 (v := .int .i64 (-1)) rfl kk ?_
 exact ⟨by rw [idxV_none (fun j z hj => hno j z (by omega))]; try rfl, c1⟩
set_option maxRecDepth 100000 in
set_option maxHeartbeats 8000000 in
theorem anyV_any (A : Option Addr) (n c : Nat) (vs : List Vv) (g : FuncId) (lb : Array Value) (q : Vv → Bool) (w : World) (ha : Rd w 4 A n (valvesV vs)) (hn : n ≤ 1048576) (he : enters Try.prog g = true) (HG : ∀ W v, Below w.heap.size w W → Calls Try.prog g (#[.agg #[.int .i64 v.id, .int .i64 v.pipe, .int .i64 v.node, .bool v.shut]] ++ lb) W fun e w' => e = .returned (.bool (q v)) ∧ Below W.heap.size W w') :
    Calls Try.prog 82 #[.slice A n c, .func (.func g) #[] lb] w fun e w' => e = .returned (.bool (vs.any q)) ∧ Below w.heap.size w w' := by
 have hl := rd_valves_len ha
 go_enter Try.func82, Try.ntmps82
 refine F.begin 9 [(0, .slice A n c), (1, .func (.func g) #[] lb)] (fun U0 => ?_)
 refine wk fun K1 h1 => ?_
 refine Rq 1 ?_
 refine Fa (.bool false) ?_
 apply F.es
 apply h1
 refine wk fun K2 h2 => ?_
 refine W.region_plain (row := none) [(0, false), (1, false), (2, true), (3, false), (4, false)] kk ?_
 have s1 := SG.self w none
 refine Fv (.slice A n c) ?_
 refine Fv (.func (.func g) #[] lb) ?_
 refine Fc [.slice A n c, .func (.func g) #[] lb] (idxV_any A n c vs g lb q _ (Rk ha (Sb (Below.refl _ _) s1 nkk)) (by omega) he (fun W v hW => HG W v (((Sb (Below.refl _ _) s1 nkk)).trans (hW.mono ((Sb (Below.refl _ _) s1 nkk)).size)))) ?_
 rintro e w3 ⟨rfl, b2⟩
 have s4 := SG.of_below s1 b2
 refine ⟨_, rfl, s4, ?_⟩
 apply F.nx
 by_cases q5 : (idxV q vs : Int) ≥ (0 : Int)
 ·refine Fq (.bool true) (r_geq (m := idxV q vs) (n := 0) rfl ek ek (dt q5)) ?_
  refine Fa (.bool true) ?_
  apply F.es
  have c6 := (Sb (Below.refl _ _) s4 nkk)
  apply h2
  refine wp_ret ?_
  try simp only [Exit.then]
  refine ret1 (v := .bool true) rfl kk ?_
  exact ⟨by rw [← idxV_pos]; simp_all, c6⟩
 refine Fq (.bool false) (r_geq (m := idxV q vs) (n := 0) rfl ek ek (df q5)) ?_
 refine Fa (.bool false) ?_
 apply F.es
 have c7 := (Sb (Below.refl _ _) s4 nkk)
 apply h2
 refine wp_ret ?_
 try simp only [Exit.then]
 refine ret1 (v := .bool false) rfl kk ?_
 exact ⟨by rw [← idxV_pos]; simp_all, c7⟩
set_option maxRecDepth 100000 in
set_option maxHeartbeats 8000000 in
theorem valveAt_any (A : Option Addr) (n c : Nat) (vs : List Vv) (p : Pp) (node : Int) (w : World) (ha : Rd w 4 A n (valvesV vs)) (hn : n ≤ 1048576) :
    Calls Try.prog 129 #[.slice A n c, .agg #[.int .i64 p.id, .int .i64 p.fr, .int .i64 p.to, .int .i64 p.sz], .int .i64 node] w fun e w' => e = .returned (.int .i64 (idxV (fun v => decide (v.pipe = p.id) && decide (v.node = node)) vs)) ∧ Below w.heap.size w w' := by
 have hl := rd_valves_len ha
 go_enter Try.func129, Try.ntmps129
 refine F.begin 10 [(0, .slice A n c), (1, .agg #[.int .i64 p.id, .int .i64 p.fr, .int .i64 p.to, .int .i64 p.sz]), (2, .int .i64 node)] (fun U0 => ?_)
 refine wk fun K1 h1 => ?_
 refine W.region_plain (row := none) [(0, true), (1, true), (2, false)] kk ?_
 have s1 := SG.self w none
 refine W.sn (fun b => .pointer (some ⟨b, 0, none⟩)) #[.int .i64 p.id, .int .i64 p.fr, .int .i64 p.to, .int .i64 p.sz] 51 s1 rfl kk rfl (fun _ => by kernel_rfl) (fun b2 w3 hb4 k5 x6 s7 => ?_)
 apply F.nx
 have lo8 : w.heap.size ≤ b2 := Nl ((Sb (Below.refl _ _) s1 nkk)).size (Nat.le_of_eq hb4)
 refine W.sn (fun b => .pointer (some ⟨b, 0, none⟩)) #[.int .i64 node] 3 s7 rfl kk rfl (fun _ => by kernel_rfl) (fun b9 w10 hb11 k12 x13 s14 => ?_)
 apply F.nx
 have lo15 : w.heap.size ≤ b9 := Nl ((Sb (Below.refl _ _) s7 nkk)).size (Nat.le_of_eq hb11)
 have ne16 : b2 ≠ b9 := Nat.ne_of_lt (Nat.lt_of_lt_of_eq (blk_lt x6) hb11)
 have x6 := (k12.block _ (blk_lt x6)).trans x6
 refine Fa (.int .i64 0) ?_
 apply F.es
 have c17 := (Sb (Below.refl _ _) s14 nkk)
 apply h1
 refine wk fun K2 h2 => ?_
 refine W.region_plain (row := none) [(0, false), (1, false), (2, true), (3, false)] kk ?_
 have s18 := SG.self w10 none
 refine Fv (.slice A n c) ?_
 refine Fq (.func (.func 150) #[] #[.pointer (some ⟨b2, 0, none⟩), .pointer (some ⟨b9, 0, none⟩)]) (r_makeFunc (vs := [.pointer (some ⟨b2, 0, none⟩), .pointer (some ⟨b9, 0, none⟩)]) rfl kk) ?_
 refine Fc [.slice A n c, .func (.func 150) #[] #[.pointer (some ⟨b2, 0, none⟩), .pointer (some ⟨b9, 0, none⟩)]] (idxV_any A n c vs 150 #[.pointer (some ⟨b2, 0, none⟩), .pointer (some ⟨b9, 0, none⟩)] (fun v => decide (v.pipe = p.id) && decide (v.node = node)) _ (Rk ha (Sb c17 s18 nkk)) (by omega) kk (fun W v hW => valveAtF_any v p node b2 b9 W ((hW.block _ (blk_lt x6)).trans x6) ((hW.block _ (blk_lt x13)).trans x13) (by have := ne16; omega))) ?_
 rintro e w20 ⟨rfl, b19⟩
 have s21 := SG.of_below s18 b19
 refine ⟨_, rfl, s21, ?_⟩
 apply F.nx
 refine Fa (.int .i64 (idxV (fun v => decide (v.pipe = p.id) && decide (v.node = node)) vs)) ?_
 apply F.es
 have c22 := (Sb c17 s21 nkk)
 apply h2
 refine wp_ret ?_
 try simp only [Exit.then]
 refine ret1 (v := .int .i64 (idxV (fun v => decide (v.pipe = p.id) && decide (v.node = node)) vs)) rfl kk ?_
 exact ⟨rfl, c22⟩
set_option maxRecDepth 100000 in
set_option maxHeartbeats 8000000 in
theorem valveIndex_any (A : Option Addr) (n c : Nat) (vs : List Vv) (id : Int) (w : World) (ha : Rd w 4 A n (valvesV vs)) (hn : n ≤ 1048576) :
    Calls Try.prog 87 #[.slice A n c, .int .i64 id] w fun e w' => e = .returned (.int .i64 (idxV (fun v => decide (v.id = id)) vs)) ∧ Below w.heap.size w w' := by
 have hl := rd_valves_len ha
 go_enter Try.func87, Try.ntmps87
 refine F.begin 8 [(0, .slice A n c), (1, .int .i64 id)] (fun U0 => ?_)
 refine wk fun K1 h1 => ?_
 refine W.region_plain (row := none) [(0, true), (1, false)] kk ?_
 have s1 := SG.self w none
 refine W.sn (fun b => .pointer (some ⟨b, 0, none⟩)) #[.int .i64 id] 3 s1 rfl kk rfl (fun _ => by kernel_rfl) (fun b2 w3 hb4 k5 x6 s7 => ?_)
 apply F.nx
 have lo8 : w.heap.size ≤ b2 := Nl ((Sb (Below.refl _ _) s1 nkk)).size (Nat.le_of_eq hb4)
 refine Fa (.int .i64 0) ?_
 apply F.es
 have c9 := (Sb (Below.refl _ _) s7 nkk)
 apply h1
 refine wk fun K2 h2 => ?_
 refine W.region_plain (row := none) [(0, false), (1, false), (2, true), (3, false)] kk ?_
 have s10 := SG.self w3 none
 refine Fv (.slice A n c) ?_
 refine Fq (.func (.func 135) #[] #[.pointer (some ⟨b2, 0, none⟩)]) (r_makeFunc (vs := [.pointer (some ⟨b2, 0, none⟩)]) rfl kk) ?_
 refine Fc [.slice A n c, .func (.func 135) #[] #[.pointer (some ⟨b2, 0, none⟩)]] (idxV_any A n c vs 135 #[.pointer (some ⟨b2, 0, none⟩)] (fun v => decide (v.id = id)) _ (Rk ha (Sb c9 s10 nkk)) (by omega) kk (fun W v hW => valveIndexF_any v id b2 W ((hW.block _ (blk_lt x6)).trans x6))) ?_
 rintro e w12 ⟨rfl, b11⟩
 have s13 := SG.of_below s10 b11
 refine ⟨_, rfl, s13, ?_⟩
 apply F.nx
 refine Fa (.int .i64 (idxV (fun v => decide (v.id = id)) vs)) ?_
 apply F.es
 have c14 := (Sb c9 s13 nkk)
 apply h2
 refine wp_ret ?_
 try simp only [Exit.then]
 refine ret1 (v := .int .i64 (idxV (fun v => decide (v.id = id)) vs)) rfl kk ?_
 exact ⟨rfl, c14⟩
end Go.Proofs.Ytdbgfejeleafgaa
namespace Go.Proofs.Ytdbgfejeleafgaa
open Go.RowKit
set_option linter.unusedVariables false
set_option linter.unusedSimpArgs false
theorem any_no {vs : List Vv} {q : Vv → Bool} {n k : Nat} (hl : vs.length = n) (h : ∀ j z, j < k → vs[j]? = some z → q z = false) (hk : n ≤ k) : vs.any q = false := by
  rw [← idxV_pos, idxV_none (fun j z hj => h j z (by omega))]; rfl
theorem any_yes {vs : List Vv} {q : Vv → Bool} {k : Nat} {x : Vv} (hx : vs[k]? = some x) (h : q x = true) : vs.any q = true := List.any_eq_true.2 ⟨x, List.mem_of_getElem? hx, h⟩
set_option maxRecDepth 100000 in
set_option maxHeartbeats 8000000 in
theorem l4Find_any (A : Option Addr) (n c : Nat) (vs : List Vv) (id : Int) (w : World) (ha : Rd w 4 A n (valvesV vs)) (hn : n ≤ 1048576) :
    Calls Try.prog 93 #[.slice A n c, .int .i64 id] w fun e w' => e = .returned (.int .i64 (idxV (fun v : Vv => decide (v.id = id)) vs)) ∧ Below w.heap.size w w' := by
 have hl := rd_valves_len ha
 go_enter Try.func93, Try.ntmps93
 refine F.begin 20 [(0, .slice A n c), (1, .int .i64 id)] (fun U0 => ?_)
 refine wk fun K1 h1 => ?_
 refine Rq 1 ?_
 refine Fa (.int .i64 0) ?_
 apply F.es
 apply h1
 refine wk fun K2 h2 => ?_
 refine wk fun K3 h3 => ?_
 refine Rq 1 ?_
 refine Fa (.int .i64 0) ?_
 apply F.es
 apply h3
 refine wp_block ?_
 refine loopK (fun am0 aa0 wl0 => ∃ (k : Nat) , Kn aa0 [(0, .slice A n c), (1, .int .i64 id), (4, .int .i64 0), (5, .int .i64 (k : Int))] 20 ∧ (am0 = n - k) ∧ (k ≤ n) ∧ (∀ j z, j < k → vs[j]? = some z → (fun v : Vv => decide (v.id = id)) z = false) ∧ (Below w.heap.size w wl0)) (n - 0) ?_ ?_
 ·exact ⟨0, Kn.of, rfl, (Nat.zero_le _), (fun j z hj => absurd hj (by omega)), (Below.refl _ _)⟩
 rintro am0 aa0 wl0 K4 h4 ⟨k, ⟨U0, rfl⟩, rfl, hk, hno, c1⟩
 refine wk fun K5 h5 => ?_
 refine wk fun K6 h6 => ?_
 refine Rq 4 ?_
 refine Fv (.int .i64 (k : Int)) ?_
 refine Fv (.slice A n c) ?_
 refine Fq (.int .i64 (n : Int)) (r_len (A := A) (n := n) (c := c) rfl ek kk) ?_
 by_cases q2 : ((k : Int) : Int) < ((n : Int) : Int)
 ·refine Fq (.bool true) (r_lss (m := (k : Int)) (n := (n : Int)) rfl ek ek (dt q2)) ?_
  apply F.es
  apply h6
  refine wp_cond_true ek ?_
  apply wp_skip
  apply h5
  refine wk fun K7 h7 => ?_
  refine wp_block ?_
  refine wk fun K8 h8 => ?_
  refine Rq 7 ?_
  refine Fv (.slice A n c) ?_
  refine Fv (.int .i64 (k : Int)) ?_
  obtain ⟨x3, hx4⟩ := get_of (zs := vs) (k := k) (by have := hl; omega)
  obtain ⟨b5, o6, hA7, hb8, hc9, hc10, hc11, hc12⟩ := Rd.elValve ha hx4
  refine Fq (.pointer (some ⟨b5, o6 + k * 4, none⟩)) (r_idx (n := n) (c := c) (k := k) rfl ek hA7 kk kk (by have := hl; omega)) ?_
  refine Fq (.pointer (some ⟨b5, o6 + k * 4, none⟩)) (r_field0 rfl ek kk) ?_
  refine Fl (.int .i64 x3.id) (eqS (later c1 hc9)) ?_
  refine Fv (.int .i64 id) ?_
  by_cases q13 : (x3.id : Int) = (id : Int)
  ·refine Fq (.bool true) (r_eql (m := x3.id) (n := id) rfl ek ek (dt q13)) ?_
   apply F.es
   apply h8
   refine wp_cond_true ek ?_
   refine wk fun K9 h9 => ?_
   refine Rq 2 ?_
   refine Fv (.int .i64 (k : Int)) ?_
   refine Fa (.int .i64 (k : Int)) ?_
   apply F.es
   apply h9
   refine wp_ret ?_
   try simp only [Exit.then, Exit.inBlock]
   refine ret1 (v := .int .i64 (k : Int)) rfl kk ?_
   exact ⟨by rw [idxV_at (q := fun v : Vv => decide (v.id = id)) hno hx4 (by simp_all)]; try rfl, c1⟩
  refine Fq (.bool false) (r_eql (m := x3.id) (n := id) rfl ek ek (df q13)) ?_
  apply F.es
  apply h8
  refine wp_cond_false ek ?_
  apply wp_skip
  apply h7
  refine Rq 3 ?_
  refine Fv (.int .i64 (k : Int)) ?_
  refine Fq (.int .i64 ((k + 1 : Nat) : Int)) (r_add (m := (k : Int)) (n := 1) (z := ((k + 1 : Nat) : Int)) rfl ek ek (by omega) (by omega)) ?_
  refine Fa (.int .i64 ((k + 1 : Nat) : Int)) ?_
  apply F.es
  exact h4 _ _ _ (by omega : (n - (k + 1)) < _) ⟨k + 1, Kn.of, rfl, (by omega), (upto_succ (Q := fun z => (fun v : Vv => decide (v.id = id)) z = false) hno hx4 (by simp_all)), c1⟩
 refine Fq (.bool false) (r_lss (m := (k : Int)) (n := (n : Int)) rfl ek ek (df q2)) ?_
 apply F.es
 apply h6
 refine wp_cond_false ek ?_
 refine wp_exit ?_
 apply h2
 refine wk fun K10 h10 => ?_
 refine Rq 1 ?_
 refine Fa (.int .i64 (-1)) ?_
 apply F.es
 apply h10
 refine wp_ret ?_
 try simp only [Exit.then]
 refine ret1 (v := .int .i64 (-1)) rfl kk ?_
 exact ⟨by rw [idxV_none (q := fun v : Vv => decide (v.id = id)) (fun j z hj => hno j z (by omega))]; try rfl, c1⟩
set_option maxRecDepth 100000 in
set_option maxHeartbeats 8000000 in
theorem l4Blocked_true (A : Option Addr) (n c : Nat) (vs : List Vv) (pipe node : Int) (w : World) (ha : Rd w 4 A n (valvesV vs)) (hn : n ≤ 1048576) :
    Calls Try.prog 132 #[.slice A n c, .int .i64 pipe, .int .i64 node, .bool true] w fun e w' => e = .returned (.bool (blocked vs pipe node true)) ∧ Below w.heap.size w w' := by
 have hl := rd_valves_len ha
 go_enter Try.func132, Try.ntmps132
 refine F.begin 43 [(0, .slice A n c), (1, .int .i64 pipe), (2, .int .i64 node), (3, .bool true)] (fun U0 => ?_)
 refine wk fun K1 h1 => ?_
 refine Rq 1 ?_
 refine Fa (.bool false) ?_
 apply F.es
 apply h1
 refine wk fun K2 h2 => ?_
 refine wk fun K3 h3 => ?_
 refine Rq 1 ?_
 refine Fa (.int .i64 0) ?_
 apply F.es
 apply h3
 refine wp_block ?_
 refine loopK (fun am0 aa0 wl0 => ∃ (k : Nat) , Kn aa0 [(0, .slice A n c), (1, .int .i64 pipe), (2, .int .i64 node), (3, .bool true), (8, .bool false), (9, .int .i64 (k : Int))] 43 ∧ (am0 = n - k) ∧ (k ≤ n) ∧ (∀ j z, j < k → vs[j]? = some z → (fun u : Vv => decide (u.pipe = pipe) && decide (u.node = node) && (!true || u.shut)) z = false) ∧ (Below w.heap.size w wl0)) (n - 0) ?_ ?_
 ·exact ⟨0, Kn.of, rfl, (Nat.zero_le _), (fun j z hj => absurd hj (by omega)), (Below.refl _ _)⟩
 rintro am0 aa0 wl0 K4 h4 ⟨k, ⟨U0, rfl⟩, rfl, hk, hno, c1⟩
 refine wk fun K5 h5 => ?_
 refine wk fun K6 h6 => ?_
 refine Rq 4 ?_
 refine Fv (.int .i64 (k : Int)) ?_
 refine Fv (.slice A n c) ?_
 refine Fq (.int .i64 (n : Int)) (r_len (A := A) (n := n) (c := c) rfl ek kk) ?_
 by_cases q2 : ((k : Int) : Int) < ((n : Int) : Int)
 ·refine Fq (.bool true) (r_lss (m := (k : Int)) (n := (n : Int)) rfl ek ek (dt q2)) ?_
  apply F.es
  apply h6
  refine wp_cond_true ek ?_
  apply wp_skip
  apply h5
  refine wk fun K7 h7 => ?_
  refine wp_block ?_
  refine wk fun K8 h8 => ?_
  refine Rq 27 ?_
  refine Fv (.slice A n c) ?_
  refine Fv (.int .i64 (k : Int)) ?_
  obtain ⟨x3, hx4⟩ := get_of (zs := vs) (k := k) (by have := hl; omega)
  obtain ⟨b5, o6, hA7, hb8, hc9, hc10, hc11, hc12⟩ := Rd.elValve ha hx4
  refine Fq (.pointer (some ⟨b5, o6 + k * 4, none⟩)) (r_idx (n := n) (c := c) (k := k) rfl ek hA7 kk kk (by have := hl; omega)) ?_
  refine Fq (.pointer (some ⟨b5, o6 + k * 4 + 1, none⟩)) (r_field (k := 1) rfl ek kk) ?_
  refine Fl (.int .i64 x3.pipe) (eqS (later c1 hc10)) ?_
  refine Fv (.int .i64 pipe) ?_
  by_cases q13 : (x3.pipe : Int) = (pipe : Int)
  ·refine Fq (.bool true) (r_eql (m := x3.pipe) (n := pipe) rfl ek ek (dt q13)) ?_
   refine Fv (.bool true) ?_
   refine Fv (.slice A n c) ?_
   refine Fv (.int .i64 (k : Int)) ?_
   refine Fq (.pointer (some ⟨b5, o6 + k * 4, none⟩)) (r_idx (n := n) (c := c) (k := k) rfl ek hA7 kk kk (by have := hl; omega)) ?_
   refine Fq (.pointer (some ⟨b5, o6 + k * 4 + 2, none⟩)) (r_field (k := 2) rfl ek kk) ?_
   refine Fl (.int .i64 x3.node) (eqS (later c1 hc11)) ?_
   refine Fv (.int .i64 node) ?_
   by_cases q14 : (x3.node : Int) = (node : Int)
   ·refine Fq (.bool true) (r_eql (m := x3.node) (n := node) rfl ek ek (dt q14)) ?_
    refine Fq (.bool true) (r_pick (b := true) rfl ek ek) ?_
    refine Fv (.bool true) ?_
    refine Fv (.bool true) ?_
    refine Fq (.bool false) (r_not (b := true) rfl ek rfl) ?_
    refine Fv (.bool false) ?_
    refine Fv (.slice A n c) ?_
    refine Fv (.int .i64 (k : Int)) ?_
    refine Fq (.pointer (some ⟨b5, o6 + k * 4, none⟩)) (r_idx (n := n) (c := c) (k := k) rfl ek hA7 kk kk (by have := hl; omega)) ?_
    refine Fq (.pointer (some ⟨b5, o6 + k * 4 + 3, none⟩)) (r_field (k := 3) rfl ek kk) ?_
    refine Fl (.bool x3.shut) (eqS (later c1 hc12)) ?_
    refine Fq (.bool x3.shut) (r_pick (b := false) rfl ek ek) ?_
    refine Fq (.bool x3.shut) (r_pick (b := true) rfl ek ek) ?_
    apply F.es
    apply h8
    rcases Bool.eq_false_or_eq_true x3.shut with q15 | q15
    ·rw [q15]
     refine wp_cond_true ek ?_
     refine wk fun K9 h9 => ?_
     refine Rq 1 ?_
     refine Fa (.bool true) ?_
     apply F.es
     apply h9
     refine wp_ret ?_
     try simp only [Exit.then, Exit.inBlock]
     refine ret1 (v := .bool true) rfl kk ?_
     exact ⟨by unfold blocked; rw [any_yes (q := fun u : Vv => decide (u.pipe = pipe) && decide (u.node = node) && (!true || u.shut)) hx4 (by simp_all)]; try rfl, c1⟩
    rw [q15]
    refine wp_cond_false ek ?_
    apply wp_skip
    apply h7
    refine Rq 3 ?_
    refine Fv (.int .i64 (k : Int)) ?_
    refine Fq (.int .i64 ((k + 1 : Nat) : Int)) (r_add (m := (k : Int)) (n := 1) (z := ((k + 1 : Nat) : Int)) rfl ek ek (by omega) (by omega)) ?_
    refine Fa (.int .i64 ((k + 1 : Nat) : Int)) ?_
    apply F.es
    exact h4 _ _ _ (by omega : (n - (k + 1)) < _) ⟨k + 1, Kn.of, rfl, (by omega), (upto_succ (Q := fun z => (fun u : Vv => decide (u.pipe = pipe) && decide (u.node = node) && (!true || u.shut)) z = false) hno hx4 (by simp_all)), c1⟩
   refine Fq (.bool false) (r_eql (m := x3.node) (n := node) rfl ek ek (df q14)) ?_
   refine Fq (.bool false) (r_pick (b := true) rfl ek ek) ?_
   refine Fv (.bool false) ?_
   refine Fs rfl ?_
   refine Fs rfl ?_
   refine Fs rfl ?_
   refine Fs rfl ?_
   refine Fs rfl ?_
   refine Fs rfl ?_
   refine Fs rfl ?_
   refine Fs rfl ?_
   refine Fs rfl ?_
   refine Fq (.bool false) (r_pick (b := false) rfl ek ek) ?_
   apply F.es
   apply h8
   refine wp_cond_false ek ?_
   apply wp_skip
   apply h7
   refine Rq 3 ?_
   refine Fv (.int .i64 (k : Int)) ?_
   refine Fq (.int .i64 ((k + 1 : Nat) : Int)) (r_add (m := (k : Int)) (n := 1) (z := ((k + 1 : Nat) : Int)) rfl ek ek (by omega) (by omega)) ?_
   refine Fa (.int .i64 ((k + 1 : Nat) : Int)) ?_
   apply F.es
   exact h4 _ _ _ (by omega : (n - (k + 1)) < _) ⟨k + 1, Kn.of, rfl, (by omega), (upto_succ (Q := fun z => (fun u : Vv => decide (u.pipe = pipe) && decide (u.node = node) && (!true || u.shut)) z = false) hno hx4 (by simp_all)), c1⟩
  refine Fq (.bool false) (r_eql (m := x3.pipe) (n := pipe) rfl ek ek (df q13)) ?_
  refine Fv (.bool false) ?_
  refine Fs rfl ?_
  refine Fs rfl ?_
  refine Fs rfl ?_
  refine Fs rfl ?_
  refine Fs rfl ?_
  refine Fs rfl ?_
  refine Fs rfl ?_
  refine Fq (.bool false) (r_pick (b := false) rfl ek ek) ?_
  refine Fv (.bool false) ?_
  refine Fs rfl ?_
  refine Fs rfl ?_
  refine Fs rfl ?_
  refine Fs rfl ?_
  refine Fs rfl ?_
  refine Fs rfl ?_
  refine Fs rfl ?_
  refine Fs rfl ?_
  refine Fs rfl ?_
  refine Fq (.bool false) (r_pick (b := false) rfl ek ek) ?_
  apply F.es
  apply h8
  refine wp_cond_false ek ?_
  apply wp_skip
  apply h7
  refine Rq 3 ?_
  refine Fv (.int .i64 (k : Int)) ?_
  refine Fq (.int .i64 ((k + 1 : Nat) : Int)) (r_add (m := (k : Int)) (n := 1) (z := ((k + 1 : Nat) : Int)) rfl ek ek (by omega) (by omega)) ?_
  refine Fa (.int .i64 ((k + 1 : Nat) : Int)) ?_
  apply F.es
  exact h4 _ _ _ (by omega : (n - (k + 1)) < _) ⟨k + 1, Kn.of, rfl, (by omega), (upto_succ (Q := fun z => (fun u : Vv => decide (u.pipe = pipe) && decide (u.node = node) && (!true || u.shut)) z = false) hno hx4 (by simp_all)), c1⟩
 refine Fq (.bool false) (r_lss (m := (k : Int)) (n := (n : Int)) rfl ek ek (df q2)) ?_
 apply F.es
 apply h6
 refine wp_cond_false ek ?_
 refine wp_exit ?_
 apply h2
 refine wk fun K10 h10 => ?_
 refine Rq 1 ?_
 refine Fa (.bool false) ?_
 apply F.es
 apply h10
 refine wp_ret ?_
 try simp only [Exit.then]
 refine ret1 (v := .bool false) rfl kk ?_
 exact ⟨by unfold blocked; rw [any_no (q := fun u : Vv => decide (u.pipe = pipe) && decide (u.node = node) && (!true || u.shut)) hl hno (by omega)]; try rfl, c1⟩
end Go.Proofs.Ytdbgfejeleafgaa
namespace Go.Proofs.Ytdbgfejeleafgaa
open Go.RowKit
set_option linter.unusedVariables false
theorem findL_lt (ps : List Pp) (v : Int) : -1 ≤ findL ps v ∧ findL ps v < (ps.length : Int) := by
  induction ps with
  | nil => unfold findL; simp
  | cons p ps ih => unfold findL; rw [List.length_cons]; split <;> (try split) <;> omega
theorem above_zero {vs : List Vv} {v : Vv} : above vs 0 v = true := rfl
theorem above_next {vs : List Vv} {k : Nat} {u v : Vv} (h : vs[k]? = some u) : above vs (k + 1) v = decide (u.id < v.id) := by unfold above; rw [if_neg (by omega), Nat.add_sub_cancel, h]
theorem endAt_pos {ps : List Pp} {k v : Int} (h : endAt ps k v = true) : 0 ≤ k ∧ ∃ p, ps[k.toNat]? = some p ∧ (p.fr = v ∨ p.to = v) := by
  unfold endAt at h
  split at h
  · rename_i h0
    split at h
    · rename_i p hp; exact ⟨h0, p, hp, by simpa using h⟩
    · cases h
  · cases h
theorem endAt_of {ps : List Pp} {k v : Int} {p : Pp} (h0 : 0 ≤ k) (hp : ps[k.toNat]? = some p) (h : p.fr = v ∨ p.to = v) : endAt ps k v = true := by
  unfold endAt; rw [if_pos h0, hp]; simpa using h
theorem placed_yes {vs : List Vv} {j k : Nat} {z : Vv} {a b : Int} (hz : vs[j]? = some z) (hj : j < k) (h1 : z.pipe = a) (h2 : z.node = b) : placed (vs.take k) a b = true := by
  unfold placed
  exact List.any_eq_true.2 ⟨z, List.mem_of_getElem? (by rw [List.getElem?_take_of_lt hj]; exact hz), by simp [h1, h2]⟩
theorem placed_no {vs : List Vv} {j k : Nat} {a b : Int} (h : ∀ i z, i < j → vs[i]? = some z → ¬ (z.pipe = a ∧ z.node = b)) (hk : k ≤ j) : placed (vs.take k) a b = false := by
  unfold placed
  refine List.any_eq_false.2 (fun z hz => ?_)
  obtain ⟨i, hi, e⟩ := List.getElem_of_mem hz
  rw [List.length_take] at hi
  rw [List.getElem_take] at e
  have := h i z (by omega) (by rw [List.getElem?_eq_getElem (by omega), e])
  simpa using this
end Go.Proofs.Ytdbgfejeleafgaa
namespace Go.Proofs.Ytdbgfejeleafgaa
open Go.RowKit
set_option linter.unusedVariables false
set_option linter.unusedSimpArgs false
end Go.Proofs.Ytdbgfejeleafgaa
