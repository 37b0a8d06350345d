/- What the texts behind it build on; conditions: none. -/
import Derived.Test.YtdbgfejeleafgaaPg1
namespace Go.Proofs.Ytdbgfejeleafgaa
open Go.RowKit
set_option linter.unusedVariables false
def pipeOk (m : Int) (p : Pp) : Bool := inB p.id 1 99 && (inB p.fr 1 m && (inB p.to 1 m && (decide (p.fr ≠ p.to) && inB p.sz 1 9)))
def okAt (m : Int) (ps : List Pp) : Nat → Bool
  | 0 => match ps[0]? with | some p => pipeOk m p | none => true
  | k + 1 => match ps[k + 1]?, ps[k]? with | some p, some q => pipeOk m p && decide (q.id < p.id) | _, _ => true
def okTo (m : Int) (ps : List Pp) : Nat → Bool
  | 0 => true
  | k + 1 => okTo m ps k && okAt m ps k
def goodN (m : Int) (ps : List Pp) : Bool := inB m 1 8 && (decide (ps.length ≤ 10) && okTo m ps ps.length)
theorem okTo_bad {m : Int} {ps : List Pp} {k : Nat} (h : okAt m ps k = false) : ∀ n, k < n → okTo m ps n = false
  | 0, hk => absurd hk (by omega)
  | n + 1, hk => by
    by_cases e : k = n
    · subst e; unfold okTo; rw [h]; simp
    · unfold okTo; rw [okTo_bad h n (by omega)]; rfl
theorem goodN_bad {m : Int} {ps : List Pp} {k : Nat} (hk : k < ps.length) (h : okAt m ps k = false) : goodN m ps = false := by
  unfold goodN; rw [okTo_bad h _ hk]; simp
theorem okAt_zero {m : Int} {ps : List Pp} {x : Pp} (h : ps[0]? = some x) : okAt m ps 0 = pipeOk m x := by unfold okAt; rw [h]
theorem okAt_next {m : Int} {ps : List Pp} {k : Nat} {x y : Pp} (h : ps[k + 1]? = some x) (h' : ps[k]? = some y) : okAt m ps (k + 1) = (pipeOk m x && decide (y.id < x.id)) := by simp [okAt, h, h']
theorem okTo_next {m : Int} {ps : List Pp} {k : Nat} (h : okTo m ps k = true) (h' : okAt m ps k = true) : okTo m ps (k + 1) = true := by unfold okTo; rw [h, h']; rfl
theorem okAt_pipe {m : Int} {ps : List Pp} {k : Nat} {x : Pp} (h : ps[k]? = some x) (hx : pipeOk m x = false) : okAt m ps k = false := by
  rcases k with _ | k
  · rw [okAt_zero h, hx]
  · have hk : k + 1 < ps.length := (List.getElem?_eq_some_iff.1 h).1
    have hy : ps[k]? = some ps[k] := List.getElem?_eq_getElem (by omega)
    rw [okAt_next h hy, hx]; rfl
theorem goodN_fin {m : Int} {ps : List Pp} {n K : Nat} (hl : ps.length = n) (hK : K ≤ n) (hok : okTo m ps K = true) (hx : ¬ (K < n) ∨ 10 < n) : goodN m ps = (inB m 1 8 && decide ((n : Int) ≤ (10 : Int))) := by
  unfold goodN
  rw [hl]
  rcases hx with hx | hx
  · obtain rfl : K = n := by omega
    rw [hok, Bool.and_true]
    congr 1
    exact decide_eq_decide.2 (by omega)
  · rw [decide_eq_false (by omega), decide_eq_false (by omega), Bool.false_and]
theorem goodN_out {m : Int} {ps : List Pp} {n : Nat} (hl : ps.length = n) (h : inB m 1 8 = false ∨ 10 < n) : goodN m ps = false := by
  unfold goodN
  rw [hl]
  rcases h with h | h
  · rw [h]; rfl
  · rw [decide_eq_false (by omega)]; simp
def findL : List Pp → Int → Int
  | [], _ => -1
  | p :: ps, v => if p.id = v then 0 else if findL ps v < 0 then -1 else findL ps v + 1
theorem findL_at : ∀ {ps : List Pp} {v : Int} {k : Nat} {x : Pp}, (∀ j z, j < k → ps[j]? = some z → z.id ≠ v) → ps[k]? = some x → x.id = v → findL ps v = (k : Int)
  | [], v, k, x, _, hx, _ => by simp at hx
  | p :: ps, v, 0, x, _, hx, e => by simp at hx; subst hx; unfold findL; rw [if_pos e]; rfl
  | p :: ps, v, k + 1, x, h, hx, e => by
    have h0 := h 0 p (by omega) rfl
    have ih := findL_at (ps := ps) (v := v) (k := k) (fun j z hj hz => h (j + 1) z (by omega) (by simpa using hz)) (by simpa using hx) e
    unfold findL; rw [if_neg h0, ih, if_neg (by omega)]; omega
theorem findL_no : ∀ {ps : List Pp} {v : Int}, (∀ z, z ∈ ps → z.id ≠ v) → findL ps v = -1
  | [], v, _ => rfl
  | p :: ps, v, h => by
    have ih := findL_no (ps := ps) (v := v) (fun z hz => h z (by simp [hz]))
    unfold findL; rw [if_neg (h p (by simp)), ih]; rfl
theorem findL_none {ps : List Pp} {v : Int} {n k : Nat} (hl : ps.length = n) (h : ∀ j z, j < k → ps[j]? = some z → z.id ≠ v) (hk : n ≤ k) : findL ps v = -1 :=
  findL_no (fun z hz => by
    obtain ⟨j, hj, e⟩ := List.getElem_of_mem hz
    exact h j z (by omega) (by rw [List.getElem?_eq_getElem hj, e]))
theorem inB_iff {x a b : Int} : inB x a b = true ↔ a ≤ x ∧ x ≤ b := inB_yes
theorem okTo_at {m : Int} {ps : List Pp} : ∀ {n k : Nat}, okTo m ps n = true → k < n → okAt m ps k = true
  | 0, k, _, hk => absurd hk (by omega)
  | n + 1, k, h, hk => by
    unfold okTo at h
    rw [Bool.and_eq_true] at h
    by_cases e : k = n
    · subst e; exact h.2
    · exact okTo_at h.1 (by omega)
structure GoodNet (m : Int) (ps : List Pp) : Prop where
  lo : 1 ≤ m
  hi : m ≤ 8
  len : ps.length ≤ 10
  ok : ∀ p, p ∈ ps → pipeOk m p = true
  rise : rises ps
theorem good_of {m : Int} {ps : List Pp} (h : goodN m ps = true) : GoodNet m ps := by
  unfold goodN at h
  rw [Bool.and_eq_true, Bool.and_eq_true, inB_iff, decide_eq_true_iff] at h
  obtain ⟨⟨h1, h2⟩, h3, h4⟩ := h
  have hat : ∀ k, k < ps.length → okAt m ps k = true := fun k hk => okTo_at h4 hk
  refine ⟨h1, h2, h3, fun p hp => ?_, ?_⟩
  · obtain ⟨k, hk, e⟩ := List.getElem_of_mem hp
    have := hat k hk
    have hg : ps[k]? = some p := by rw [List.getElem?_eq_getElem hk, e]
    rcases k with _ | k
    · rwa [okAt_zero hg] at this
    · rw [okAt_next hg (List.getElem?_eq_getElem (show k < ps.length by omega)), Bool.and_eq_true] at this; exact this.1
  · have step : ∀ k (h : k + 1 < ps.length), ps[k].id < ps[k + 1].id := fun k hk => by
      have := hat (k + 1) hk
      rw [okAt_next (List.getElem?_eq_getElem hk) (List.getElem?_eq_getElem (show k < ps.length by omega)), Bool.and_eq_true, decide_eq_true_iff] at this
      exact this.2
    have far : ∀ d k (h : k + d + 1 < ps.length), ps[k].id < ps[k + d + 1].id := by
      intro d
      induction d with
      | zero => intro k hk; exact step k hk
      | succ d ih =>
        intro k hk
        have h1 := ih k (by omega)
        have h2 := step (k + d + 1) (by omega)
        exact Int.lt_trans h1 h2
    refine List.pairwise_iff_getElem.2 (fun i j hi hj hij => ?_)
    have := far (j - i - 1) i (by omega)
    have e : i + (j - i - 1) + 1 = j := by omega
    simp only [e] at this
    exact this
theorem GoodNet.pipe {m : Int} {ps : List Pp} (h : GoodNet m ps) {p : Pp} (hp : p ∈ ps) : (1 ≤ p.id ∧ p.id ≤ 99) ∧ (1 ≤ p.fr ∧ p.fr ≤ m) ∧ (1 ≤ p.to ∧ p.to ≤ m) ∧ p.fr ≠ p.to ∧ (1 ≤ p.sz ∧ p.sz ≤ 9) := by
  have := h.ok p hp
  unfold pipeOk at this
  simp only [Bool.and_eq_true, inB_iff, decide_eq_true_iff] at this
  exact this
theorem GoodNet.at {m : Int} {ps : List Pp} (h : GoodNet m ps) {k : Nat} {p : Pp} (hp : ps[k]? = some p) : (1 ≤ p.id ∧ p.id ≤ 99) ∧ (1 ≤ p.fr ∧ p.fr ≤ m) ∧ (1 ≤ p.to ∧ p.to ≤ m) ∧ p.fr ≠ p.to ∧ (1 ≤ p.sz ∧ p.sz ≤ 9) := h.pipe (List.mem_of_getElem? hp)
theorem GoodNet.pipesIn {m : Int} {ps : List Pp} (h : GoodNet m ps) : pipesIn ps m.toNat := fun p hp => by
  have := h.pipe hp
  have := h.lo
  omega
theorem other_pos {p : Pp} {u : Int} (h1 : 1 ≤ p.fr) (h2 : 1 ≤ p.to) : 0 < otherOf p u ↔ p.fr = u ∨ p.to = u := by
  unfold otherOf
  by_cases e1 : u = p.fr
  · rw [if_pos e1]; constructor
    · intro _; exact .inl e1.symm
    · intro _; omega
  · rw [if_neg e1]
    by_cases e2 : u = p.to
    · rw [if_pos e2]; constructor
      · intro _; exact .inr e2.symm
      · intro _; omega
    · rw [if_neg e2]; constructor
      · intro h; omega
      · rintro (h | h)
        · exact absurd h.symm e1
        · exact absurd h.symm e2
set_option maxRecDepth 100000 in
set_option maxHeartbeats 8000000 in
theorem l1Has_any (A : Option Addr) (n c : Nat) (zs : List Int) (v : Int) (w : World) (ha : Rd w 1 A n (intsV zs)) (hn : n ≤ 1000000000) :
    Calls Try.prog 97 #[.slice A n c, .int .i64 v] w fun e w' => e = .returned (.bool (zs.contains v)) ∧ Below w.heap.size w w' := by
 have hl := rd_ints_len ha
 go_enter Try.func97, Try.ntmps97
 refine F.begin 18 [(0, .slice A n c), (1, .int .i64 v)] (fun U0 => ?_)
 refine wk fun K1 h1 => ?_
 refine Rq 1 ?_
 refine Fa (.bool false) ?_
 apply F.es
 apply h1
 refine wk fun K2 h2 => ?_
 refine wk fun K3 h3 => ?_
 refine Rq 1 ?_
 refine Fa (.int .i64 0) ?_
 apply F.es
 apply h3
 refine wp_block ?_
 refine loopK (fun am0 aa0 wl0 => ∃ (k : Nat) , Kn aa0 [(0, .slice A n c), (1, .int .i64 v), (4, .bool false), (5, .int .i64 (k : Int))] 18 ∧ (am0 = n - k) ∧ (k ≤ n) ∧ (∀ j z, j < k → zs[j]? = some z → z ≠ v) ∧ (Below w.heap.size w wl0)) (n - 0) ?_ ?_
 ·exact ⟨0, Kn.of, rfl, (Nat.zero_le _), upto_zero, (Below.refl _ _)⟩
 rintro am0 aa0 wl0 K4 h4 ⟨k, ⟨U0, rfl⟩, rfl, hk, hok, c1⟩
 refine wk fun K5 h5 => ?_
 refine wk fun K6 h6 => ?_
 refine Rq 4 ?_
 refine Fv (.int .i64 (k : Int)) ?_
 refine Fv (.slice A n c) ?_
 refine Fq (.int .i64 (n : Int)) (r_len (A := A) (n := n) (c := c) rfl ek kk) ?_
 by_cases q2 : ((k : Int) : Int) < ((n : Int) : Int)
 ·refine Fq (.bool true) (r_lss (m := (k : Int)) (n := (n : Int)) rfl ek ek (dt q2)) ?_
  apply F.es
  apply h6
  refine wp_cond_true ek ?_
  apply wp_skip
  apply h5
  refine wk fun K7 h7 => ?_
  refine wp_block ?_
  refine wk fun K8 h8 => ?_
  refine Rq 6 ?_
  refine Fv (.slice A n c) ?_
  refine Fv (.int .i64 (k : Int)) ?_
  obtain ⟨x3, hx4⟩ := get_of (zs := zs) (k := k) (by have := hl; omega)
  obtain ⟨b5, o6, hA7, hb8, hc9⟩ := Rd.elInt ha hx4
  refine Fq (.pointer (some ⟨b5, o6 + k, none⟩)) (r_idx1 (n := n) (c := c) (k := k) rfl ek hA7 kk kk (by have := hl; omega)) ?_
  refine Fl (.int .i64 x3) (eqS (later c1 hc9)) ?_
  refine Fv (.int .i64 v) ?_
  by_cases q10 : (x3 : Int) = (v : Int)
  ·refine Fq (.bool true) (r_eql (m := x3) (n := v) rfl ek ek (dt q10)) ?_
   apply F.es
   apply h8
   refine wp_cond_true ek ?_
   refine wk fun K9 h9 => ?_
   refine Rq 1 ?_
   refine Fa (.bool true) ?_
   apply F.es
   apply h9
   refine wp_ret ?_
   try simp only [Exit.then, Exit.inBlock]
   refine ret1 (v := .bool true) rfl kk ?_
   exact ⟨ret_bool (has_yes hx4 q10), c1⟩
  refine Fq (.bool false) (r_eql (m := x3) (n := v) rfl ek ek (df q10)) ?_
  apply F.es
  apply h8
  refine wp_cond_false ek ?_
  apply wp_skip
  apply h7
  refine Rq 3 ?_
  refine Fv (.int .i64 (k : Int)) ?_
  refine Fq (.int .i64 ((k + 1 : Nat) : Int)) (r_add (m := (k : Int)) (n := 1) (z := ((k + 1 : Nat) : Int)) rfl ek ek (by omega) (by omega)) ?_
  refine Fa (.int .i64 ((k + 1 : Nat) : Int)) ?_
  apply F.es
  exact h4 _ _ _ (by omega : (n - (k + 1)) < _) ⟨k + 1, Kn.of, rfl, (by omega), (upto_succ hok hx4 q10), c1⟩
 refine Fq (.bool false) (r_lss (m := (k : Int)) (n := (n : Int)) rfl ek ek (df q2)) ?_
 apply F.es
 apply h6
 refine wp_cond_false ek ?_
 refine wp_exit ?_
 apply h2
 refine wk fun K10 h10 => ?_
 refine Rq 1 ?_
 refine Fa (.bool false) ?_
 apply F.es
 apply h10
 refine wp_ret ?_
 try simp only [Exit.then]
 refine ret1 (v := .bool false) rfl kk ?_
 exact ⟨ret_bool (has_no hl hok (by omega)), c1⟩
set_option maxRecDepth 100000 in
set_option maxHeartbeats 8000000 in
theorem has_any (m : Int) (A : Option Addr) (n c : Nat) (ps : List Pp) (v : Int) (w : World) :
    Calls Try.prog 84 #[.agg #[.int .i64 m, .slice A n c], .int .i64 v] w fun e w' => e = .returned (.bool (inB v 1 m)) ∧ Below w.heap.size w w' := by
 go_enter Try.func84, Try.ntmps84
 refine F.begin 9 [(0, .agg #[.int .i64 m, .slice A n c]), (1, .int .i64 v)] (fun U0 => ?_)
 refine wk fun K1 h1 => ?_
 refine W.region_plain (row := none) [(0, true), (1, false)] kk ?_
 have s1 := SG.self w none
 refine W.sn (fun b => .pointer (some ⟨b, 0, none⟩)) #[.int .i64 m, .slice A n c] 26 s1 rfl kk rfl (fun _ => by kernel_rfl) (fun b2 w3 hb4 k5 x6 s7 => ?_)
 apply F.nx
 have lo8 : w.heap.size ≤ b2 := Nl ((Sb (Below.refl _ _) s1 nkk)).size (Nat.le_of_eq hb4)
 refine Fa (.bool false) ?_
 apply F.es
 have c9 := (Sb (Below.refl _ _) s7 nkk)
 apply h1
 refine wk fun K2 h2 => ?_
 refine W.region_plain (row := none) [(0, false), (1, false), (2, false), (3, true), (4, false)] kk ?_
 have s10 := SG.self w3 none
 refine Fv (.int .i64 v) ?_
 refine Fq (.pointer (some ⟨b2, 0, none⟩)) (r_field0 rfl ek kk) ?_
 refine Fl (.int .i64 m) (sgS (blk_cell (j := 0) x6 kk) onn) ?_
 refine Fc [.int .i64 v, .int .i64 1, .int .i64 m] (inside_any v 1 m _) ?_
 rintro e w' ⟨rfl, rfl⟩
 refine ⟨_, rfl, s10, ?_⟩
 apply F.nx
 refine Fa (.bool (inB v 1 m)) ?_
 apply F.es
 have c13 := (Sb c9 s10 nkk)
 apply h2
 refine wp_ret ?_
 try simp only [Exit.then]
 refine ret1 (v := .bool (inB v 1 m)) rfl kk ?_
 exact ⟨rfl, c13⟩
set_option maxRecDepth 100000 in
set_option maxHeartbeats 8000000 in
theorem l2Pipe_any (m : Int) (p : Pp) (w : World) :
    Calls Try.prog 151 #[.int .i64 m, .agg #[.int .i64 p.id, .int .i64 p.fr, .int .i64 p.to, .int .i64 p.sz]] w fun e w' => e = .returned (.bool (pipeOk m p)) ∧ Below w.heap.size w w' := by
 go_enter Try.func151, Try.ntmps151
 refine F.begin 32 [(0, .int .i64 m), (1, .agg #[.int .i64 p.id, .int .i64 p.fr, .int .i64 p.to, .int .i64 p.sz])] (fun U0 => ?_)
 refine wk fun K1 h1 => ?_
 refine W.region_plain (row := none) [(0, true), (1, false)] kk ?_
 have s1 := SG.self w none
 refine W.sn (fun b => .pointer (some ⟨b, 0, none⟩)) #[.int .i64 p.id, .int .i64 p.fr, .int .i64 p.to, .int .i64 p.sz] 51 s1 rfl kk rfl (fun _ => by kernel_rfl) (fun b2 w3 hb4 k5 x6 s7 => ?_)
 apply F.nx
 have lo8 : w.heap.size ≤ b2 := Nl ((Sb (Below.refl _ _) s1 nkk)).size (Nat.le_of_eq hb4)
 refine Fa (.bool false) ?_
 apply F.es
 have c9 := (Sb (Below.refl _ _) s7 nkk)
 apply h1
 refine wk fun K2 h2 => ?_
 refine W.region_plain (row := none) [(0, false), (1, false), (2, true), (3, false), (4, false), (5, false), (6, false), (7, true), (8, false), (9, false), (10, false), (11, false), (12, false), (13, true), (14, false), (15, false), (16, false), (17, false), (18, false), (19, false), (20, false), (21, false), (22, false), (23, false), (24, false), (25, true), (26, false), (27, false)] kk ?_
 have s10 := SG.self w3 none
 refine Fq (.pointer (some ⟨b2, 0, none⟩)) (r_field0 rfl ek kk) ?_
 refine Fl (.int .i64 p.id) (sgS (blk_cell (j := 0) x6 kk) onn) ?_
 refine Fc [.int .i64 p.id, .int .i64 1, .int .i64 99] (l1In_any p.id 1 99 _) ?_
 rintro e w' ⟨rfl, rfl⟩
 refine ⟨_, rfl, s10, ?_⟩
 apply F.nx
 rcases Bool.eq_false_or_eq_true (inB p.id 1 99) with q13 | q13
 ·rw [q13]
  refine Fv (.bool true) ?_
  refine Fq (.pointer (some ⟨b2, 1, none⟩)) (r_field (k := 1) rfl ek kk) ?_
  refine Fl (.int .i64 p.fr) (sgS (blk_cell (j := 1) x6 kk) onn) ?_
  refine Fv (.int .i64 m) ?_
  refine Fc [.int .i64 p.fr, .int .i64 1, .int .i64 m] (l1In_any p.fr 1 m _) ?_
  rintro e w' ⟨rfl, rfl⟩
  refine ⟨_, rfl, s10, ?_⟩
  apply F.nx
  rcases Bool.eq_false_or_eq_true (inB p.fr 1 m) with q16 | q16
  ·rw [q16]
   refine Fq (.bool true) (r_pick (b := true) rfl ek ek) ?_
   refine Fv (.bool true) ?_
   refine Fq (.pointer (some ⟨b2, 2, none⟩)) (r_field (k := 2) rfl ek kk) ?_
   refine Fl (.int .i64 p.to) (sgS (blk_cell (j := 2) x6 kk) onn) ?_
   refine Fv (.int .i64 m) ?_
   refine Fc [.int .i64 p.to, .int .i64 1, .int .i64 m] (l1In_any p.to 1 m _) ?_
   rintro e w' ⟨rfl, rfl⟩
   refine ⟨_, rfl, s10, ?_⟩
   apply F.nx
   rcases Bool.eq_false_or_eq_true (inB p.to 1 m) with q19 | q19
   ·rw [q19]
    refine Fq (.bool true) (r_pick (b := true) rfl ek ek) ?_
    refine Fv (.bool true) ?_
    refine Fq (.pointer (some ⟨b2, 1, none⟩)) (r_field (k := 1) rfl ek kk) ?_
    refine Fl (.int .i64 p.fr) (sgS (blk_cell (j := 1) x6 kk) onn) ?_
    refine Fq (.pointer (some ⟨b2, 2, none⟩)) (r_field (k := 2) rfl ek kk) ?_
    refine Fl (.int .i64 p.to) (sgS (blk_cell (j := 2) x6 kk) onn) ?_
    by_cases q20 : (p.fr : Int) ≠ (p.to : Int)
    ·refine Fq (.bool true) (r_neq (m := p.fr) (n := p.to) rfl ek ek (dt q20)) ?_
     refine Fq (.bool true) (r_pick (b := true) rfl ek ek) ?_
     refine Fv (.bool true) ?_
     refine Fq (.pointer (some ⟨b2, 3, none⟩)) (r_field (k := 3) rfl ek kk) ?_
     refine Fl (.int .i64 p.sz) (sgS (blk_cell (j := 3) x6 kk) onn) ?_
     refine Fc [.int .i64 p.sz, .int .i64 1, .int .i64 9] (l1In_any p.sz 1 9 _) ?_
     rintro e w' ⟨rfl, rfl⟩
     refine ⟨_, rfl, s10, ?_⟩
     apply F.nx
     rcases Bool.eq_false_or_eq_true (inB p.sz 1 9) with q23 | q23
     ·rw [q23]
      refine Fq (.bool true) (r_pick (b := true) rfl ek ek) ?_
      refine Fa (.bool true) ?_
      apply F.es
      have c24 := (Sb c9 s10 nkk)
      apply h2
      refine wp_ret ?_
      try simp only [Exit.then]
      refine ret1 (v := .bool true) rfl kk ?_
      exact ⟨ret_bool (by simp [pipeOk, q13, q16, q19, q20, q23]), c24⟩
     rw [q23]
     refine Fq (.bool false) (r_pick (b := true) rfl ek ek) ?_
     refine Fa (.bool false) ?_
     apply F.es
     have c25 := (Sb c9 s10 nkk)
     apply h2
     refine wp_ret ?_
     try simp only [Exit.then]
     refine ret1 (v := .bool false) rfl kk ?_
     exact ⟨ret_bool (by simp [pipeOk, q13, q16, q19, q20, q23]), c25⟩
    refine Fq (.bool false) (r_neq (m := p.fr) (n := p.to) rfl ek ek (df q20)) ?_
    refine Fq (.bool false) (r_pick (b := true) rfl ek ek) ?_
    refine Fv (.bool false) ?_
    refine Fs s10 ?_
    refine Fs s10 ?_
    refine Fs s10 ?_
    refine Fq (.bool false) (r_pick (b := false) rfl ek ek) ?_
    refine Fa (.bool false) ?_
    apply F.es
    have c26 := (Sb c9 s10 nkk)
    apply h2
    refine wp_ret ?_
    try simp only [Exit.then]
    refine ret1 (v := .bool false) rfl kk ?_
    exact ⟨ret_bool (by simp [pipeOk, q13, q16, q19, q20]), c26⟩
   rw [q19]
   refine Fq (.bool false) (r_pick (b := true) rfl ek ek) ?_
   refine Fv (.bool false) ?_
   refine Fs s10 ?_
   refine Fs s10 ?_
   refine Fs s10 ?_
   refine Fs s10 ?_
   refine Fs s10 ?_
   refine Fq (.bool false) (r_pick (b := false) rfl ek ek) ?_
   refine Fv (.bool false) ?_
   refine Fs s10 ?_
   refine Fs s10 ?_
   refine Fs s10 ?_
   refine Fq (.bool false) (r_pick (b := false) rfl ek ek) ?_
   refine Fa (.bool false) ?_
   apply F.es
   have c27 := (Sb c9 s10 nkk)
   apply h2
   refine wp_ret ?_
   try simp only [Exit.then]
   refine ret1 (v := .bool false) rfl kk ?_
   exact ⟨ret_bool (by simp [pipeOk, q13, q16, q19]), c27⟩
  rw [q16]
  refine Fq (.bool false) (r_pick (b := true) rfl ek ek) ?_
  refine Fv (.bool false) ?_
  refine Fs s10 ?_
  refine Fs s10 ?_
  refine Fs s10 ?_
  refine Fs s10 ?_
  refine Fq (.bool false) (r_pick (b := false) rfl ek ek) ?_
  refine Fv (.bool false) ?_
  refine Fs s10 ?_
  refine Fs s10 ?_
  refine Fs s10 ?_
  refine Fs s10 ?_
  refine Fs s10 ?_
  refine Fq (.bool false) (r_pick (b := false) rfl ek ek) ?_
  refine Fv (.bool false) ?_
  refine Fs s10 ?_
  refine Fs s10 ?_
  refine Fs s10 ?_
  refine Fq (.bool false) (r_pick (b := false) rfl ek ek) ?_
  refine Fa (.bool false) ?_
  apply F.es
  have c28 := (Sb c9 s10 nkk)
  apply h2
  refine wp_ret ?_
  try simp only [Exit.then]
  refine ret1 (v := .bool false) rfl kk ?_
  exact ⟨ret_bool (by simp [pipeOk, q13, q16]), c28⟩
 rw [q13]
 refine Fv (.bool false) ?_
 refine Fs s10 ?_
 refine Fs s10 ?_
 refine Fs s10 ?_
 refine Fs s10 ?_
 refine Fq (.bool false) (r_pick (b := false) rfl ek ek) ?_
 refine Fv (.bool false) ?_
 refine Fs s10 ?_
 refine Fs s10 ?_
 refine Fs s10 ?_
 refine Fs s10 ?_
 refine Fq (.bool false) (r_pick (b := false) rfl ek ek) ?_
 refine Fv (.bool false) ?_
 refine Fs s10 ?_
 refine Fs s10 ?_
 refine Fs s10 ?_
 refine Fs s10 ?_
 refine Fs s10 ?_
 refine Fq (.bool false) (r_pick (b := false) rfl ek ek) ?_
 refine Fv (.bool false) ?_
 refine Fs s10 ?_
 refine Fs s10 ?_
 refine Fs s10 ?_
 refine Fq (.bool false) (r_pick (b := false) rfl ek ek) ?_
 refine Fa (.bool false) ?_
 apply F.es
 have c29 := (Sb c9 s10 nkk)
 apply h2
 refine wp_ret ?_
 try simp only [Exit.then]
 refine ret1 (v := .bool false) rfl kk ?_
 exact ⟨ret_bool (by simp [pipeOk, q13]), c29⟩
set_option maxRecDepth 100000 in
set_option maxHeartbeats 8000000 in
theorem other_any (p : Pp) (u : Int) (w : World) :
    Calls Try.prog 81 #[.agg #[.int .i64 p.id, .int .i64 p.fr, .int .i64 p.to, .int .i64 p.sz], .int .i64 u] w fun e w' => e = .returned (.int .i64 (otherOf p u)) ∧ Below w.heap.size w w' := by
 go_enter Try.func81, Try.ntmps81
 refine F.begin 18 [(0, .agg #[.int .i64 p.id, .int .i64 p.fr, .int .i64 p.to, .int .i64 p.sz]), (1, .int .i64 u)] (fun U0 => ?_)
 refine wk fun K1 h1 => ?_
 refine W.region_plain (row := none) [(0, true), (1, false)] kk ?_
 have s1 := SG.self w none
 refine W.sn (fun b => .pointer (some ⟨b, 0, none⟩)) #[.int .i64 p.id, .int .i64 p.fr, .int .i64 p.to, .int .i64 p.sz] 51 s1 rfl kk rfl (fun _ => by kernel_rfl) (fun b2 w3 hb4 k5 x6 s7 => ?_)
 apply F.nx
 have lo8 : w.heap.size ≤ b2 := Nl ((Sb (Below.refl _ _) s1 nkk)).size (Nat.le_of_eq hb4)
 refine Fa (.int .i64 0) ?_
 apply F.es
 have c9 := (Sb (Below.refl _ _) s7 nkk)
 apply h1
 refine wk fun K2 h2 => ?_
 refine wk fun K3 h3 => ?_
 refine Rq 1 ?_
 refine Fv (.int .i64 u) ?_
 apply F.es
 apply h3
 refine wp_block ?_
 refine wk fun K4 h4 => ?_
 refine Rq 4 ?_
 refine Fq (.pointer (some ⟨b2, 1, none⟩)) (r_field (k := 1) rfl ek kk) ?_
 refine Fl (.int .i64 p.fr) (eqS (blk_cell (j := 1) x6 kk)) ?_
 by_cases q10 : (u : Int) = (p.fr : Int)
 ·refine Fq (.bool true) (r_eql (m := u) (n := p.fr) rfl ek ek (dt q10)) ?_
  refine Fa (.bool true) ?_
  apply F.es
  apply h4
  refine wp_cond_true ek ?_
  refine wk fun K5 h5 => ?_
  refine Rq 3 ?_
  refine Fq (.pointer (some ⟨b2, 2, none⟩)) (r_field (k := 2) rfl ek kk) ?_
  refine Fl (.int .i64 p.to) (eqS (blk_cell (j := 2) x6 kk)) ?_
  refine Fa (.int .i64 p.to) ?_
  apply F.es
  apply h5
  refine wp_ret ?_
  try simp only [Exit.then, Exit.inBlock]
  refine ret1 (v := .int .i64 p.to) rfl kk ?_
  exact ⟨ret_int (by unfold otherOf; first | rw [if_pos q10] | rw [if_neg q10, if_pos q10] | rw [if_neg q10, if_neg q10]), c9⟩
 refine Fq (.bool false) (r_eql (m := u) (n := p.fr) rfl ek ek (df q10)) ?_
 refine Fa (.bool false) ?_
 apply F.es
 apply h4
 refine wp_cond_false ek ?_
 refine wk fun K6 h6 => ?_
 refine Rq 4 ?_
 refine Fq (.pointer (some ⟨b2, 2, none⟩)) (r_field (k := 2) rfl ek kk) ?_
 refine Fl (.int .i64 p.to) (eqS (blk_cell (j := 2) x6 kk)) ?_
 by_cases q11 : (u : Int) = (p.to : Int)
 ·refine Fq (.bool true) (r_eql (m := u) (n := p.to) rfl ek ek (dt q11)) ?_
  refine Fa (.bool true) ?_
  apply F.es
  apply h6
  refine wp_cond_true ek ?_
  refine wk fun K7 h7 => ?_
  refine Rq 3 ?_
  refine Fq (.pointer (some ⟨b2, 1, none⟩)) (r_field (k := 1) rfl ek kk) ?_
  refine Fl (.int .i64 p.fr) (eqS (blk_cell (j := 1) x6 kk)) ?_
  refine Fa (.int .i64 p.fr) ?_
  apply F.es
  apply h7
  refine wp_ret ?_
  try simp only [Exit.then, Exit.inBlock]
  refine ret1 (v := .int .i64 p.fr) rfl kk ?_
  exact ⟨ret_int (by unfold otherOf; first | rw [if_pos q10] | rw [if_neg q10, if_pos q11] | rw [if_neg q10, if_neg q11]), c9⟩
 refine Fq (.bool false) (r_eql (m := u) (n := p.to) rfl ek ek (df q11)) ?_
 refine Fa (.bool false) ?_
 apply F.es
 apply h6
 refine wp_cond_false ek ?_
 apply wp_skip
 apply h2
 refine wk fun K8 h8 => ?_
 refine Rq 1 ?_
 refine Fa (.int .i64 0) ?_
 apply F.es
 apply h8
 refine wp_ret ?_
 try simp only [Exit.then]
 refine ret1 (v := .int .i64 0) rfl kk ?_
 exact ⟨ret_int (by unfold otherOf; first | rw [if_pos q10] | rw [if_neg q10, if_pos q11] | rw [if_neg q10, if_neg q11]), c9⟩
set_option maxRecDepth 100000 in
set_option maxHeartbeats 8000000 in
theorem l2Good_any (m : Int) (A : Option Addr) (n c : Nat) (ps : List Pp) (w : World) (ha : Rd w 4 A n (pipesV ps)) (hn : n ≤ 1048576) :
    Calls Try.prog 130 #[.agg #[.int .i64 m, .slice A n c]] w fun e w' => e = .returned (.bool (goodN m ps)) ∧ Below w.heap.size w w' := by
 have hl := rd_pipes_len ha
 go_enter Try.func130, Try.ntmps130
 refine F.begin 53 [(0, .agg #[.int .i64 m, .slice A n c])] (fun U0 => ?_)
 refine wk fun K1 h1 => ?_
 refine W.region_plain (row := none) [(0, true), (1, false)] kk ?_
 have s1 := SG.self w none
 refine W.sn (fun b => .pointer (some ⟨b, 0, none⟩)) #[.int .i64 m, .slice A n c] 26 s1 rfl kk rfl (fun _ => by kernel_rfl) (fun b2 w3 hb4 k5 x6 s7 => ?_)
 apply F.nx
 have lo8 : w.heap.size ≤ b2 := Nl ((Sb (Below.refl _ _) s1 nkk)).size (Nat.le_of_eq hb4)
 refine Fa (.bool false) ?_
 apply F.es
 have c9 := (Sb (Below.refl _ _) s7 nkk)
 apply h1
 refine wk fun K2 h2 => ?_
 refine wk fun K3 h3 => ?_
 refine Rq 1 ?_
 refine Fa (.int .i64 0) ?_
 apply F.es
 apply h3
 refine wp_block ?_
 refine loopK (fun am0 aa0 wl0 => ∃ (K : Nat) , Kn aa0 [(0, .agg #[.int .i64 m, .slice A n c]), (1, .pointer (some ⟨b2, 0, none⟩)), (2, .bool false), (3, .int .i64 (K : Int))] 53 ∧ (am0 = n - K) ∧ (K ≤ n) ∧ (K ≤ 11) ∧ (okTo m ps K = true) ∧ (wl0.heap[b2]? = some (.cells #[.int .i64 m, .slice A n c] 26 (0, 0))) ∧ (Below w.heap.size w wl0)) (n - 0) ?_ ?_
 ·exact ⟨0, Kn.of, rfl, (Nat.zero_le _), (Nat.zero_le _), rfl, x6, c9⟩
 rintro am0 aa0 wl0 K4 h4 ⟨K, ⟨U0, rfl⟩, rfl, hk, hk11, hok, x6, c10⟩
 refine wk fun K5 h5 => ?_
 refine wk fun K6 h6 => ?_
 refine Rq 9 ?_
 refine Fv (.int .i64 (K : Int)) ?_
 refine Fq (.pointer (some ⟨b2, 1, none⟩)) (r_field (k := 1) rfl ek kk) ?_
 refine Fl (.slice A n c) (eqS (blk_cell (j := 1) x6 kk)) ?_
 refine Fq (.int .i64 (n : Int)) (r_len (A := A) (n := n) (c := c) rfl ek kk) ?_
 by_cases q11 : ((K : Int) : Int) < ((n : Int) : Int)
 ·refine Fq (.bool true) (r_lss (m := (K : Int)) (n := (n : Int)) rfl ek ek (dt q11)) ?_
  refine Fv (.bool true) ?_
  refine Fv (.int .i64 (K : Int)) ?_
  by_cases q12 : ((K : Int) : Int) ≤ (10 : Int)
  ·refine Fq (.bool true) (r_leq (m := (K : Int)) (n := 10) rfl ek ek (dt q12)) ?_
   refine Fq (.bool true) (r_pick (b := true) rfl ek ek) ?_
   apply F.es
   apply h6
   refine wp_cond_true ek ?_
   apply wp_skip
   apply h5
   refine wk fun K7 h7 => ?_
   refine wp_block ?_
   refine wk fun K8 h8 => ?_
   refine W.region_sch (row := none) (Sch.of [(0, false), (1, false), (2, false), (3, false), (4, false), (5, false), (6, false), (7, true), (8, false), (9, false), (10, false), (11, false), (12, false), (13, false), (14, false), (15, false), (16, false), (17, false), (18, false), (19, false), (20, false), (21, false), (22, false), (23, false), (24, false), (25, false), (26, false), (27, false), (28, false)]) kk kk (fun _ d _ _ _ h => by cases d <;> exact h) kk (fun w13 e14 s15 => ?_)
   refine Fq (.pointer (some ⟨b2, 0, none⟩)) (r_field0 rfl ek kk) ?_
   refine Fl (.int .i64 m) (sgS (blk_cell (j := 0) x6 kk) onn) ?_
   refine Fq (.pointer (some ⟨b2, 1, none⟩)) (r_field (k := 1) rfl ek kk) ?_
   refine Fl (.slice A n c) (sgS (blk_cell (j := 1) x6 kk) onn) ?_
   refine Fv (.int .i64 (K : Int)) ?_
   obtain ⟨x16, hx17⟩ := get_of (zs := ps) (k := K) (by have := hl; omega)
   obtain ⟨b18, o19, hA20, hb21, hc22, hc23, hc24, hc25⟩ := Rd.elPipe ha hx17
   refine Fq (.pointer (some ⟨b18, o19 + K * 4, none⟩)) (r_idx (n := n) (c := c) (k := K) rfl ek hA20 kk kk (by have := hl; omega)) ?_
   refine Fq (.agg #[.int .i64 x16.id, .int .i64 x16.fr, .int .i64 x16.to, .int .i64 x16.sz]) (r_load4 rfl ek kk kk (sgS (later c10 hc22) (by simp)) (sgS (later c10 hc23) (by simp)) (sgS (later c10 hc24) (by simp)) (sgS (later c10 hc25) (by simp))) ?_
   refine Fc [.int .i64 m, .agg #[.int .i64 x16.id, .int .i64 x16.fr, .int .i64 x16.to, .int .i64 x16.sz]] (l2Pipe_any m x16 _) ?_
   rintro e w27 ⟨rfl, b26⟩
   have s28 := SG.of_below s15 b26
   refine ⟨_, rfl, s28, ?_⟩
   apply F.nx
   rcases Bool.eq_false_or_eq_true (pipeOk m x16) with q29 | q29
   ·rw [q29]
    refine Fq (.bool false) (r_not (b := true) rfl ek rfl) ?_
    refine Fv (.bool false) ?_
    refine Fv (.int .i64 (K : Int)) ?_
    by_cases q30 : ((K : Int) : Int) > (0 : Int)
    ·obtain ⟨k, rfl⟩ : ∃ k, K = k + 1 := ⟨K - 1, by omega⟩
     refine Fq (.bool true) (r_gtr (m := (((k + 1) : Nat) : Int)) (n := 0) rfl ek ek (dt q30)) ?_
     refine Fv (.bool true) ?_
     refine Fq (.pointer (some ⟨b2, 1, none⟩)) (r_field (k := 1) rfl ek kk) ?_
     refine Fl (.slice A n c) (sgS (blk_cell (j := 1) x6 kk) onn) ?_
     refine Fv (.int .i64 (((k + 1) : Nat) : Int)) ?_
     refine Fq (.int .i64 (k : Int)) (r_sub (m := (((k + 1) : Nat) : Int)) (n := 1) (z := (k : Int)) rfl ek ek (by omega) (by omega)) ?_
     obtain ⟨x31, hx32⟩ := get_of (zs := ps) (k := k) (by have := hl; omega)
     obtain ⟨b33, o34, hA35, hb36, hc37, hc38, hc39, hc40⟩ := Rd.elPipe ha hx32
     refine Fq (.pointer (some ⟨b33, o34 + k * 4, none⟩)) (r_idx (n := n) (c := c) (k := k) rfl ek hA35 kk kk (by have := hl; omega)) ?_
     refine Fq (.pointer (some ⟨b33, o34 + k * 4, none⟩)) (r_field0 rfl ek kk) ?_
     refine Fl (.int .i64 x31.id) (sgS (later c10 hc37) (by simp)) ?_
     refine Fq (.pointer (some ⟨b2, 1, none⟩)) (r_field (k := 1) rfl ek kk) ?_
     refine Fl (.slice A n c) (sgS (blk_cell (j := 1) x6 kk) onn) ?_
     refine Fv (.int .i64 (((k + 1) : Nat) : Int)) ?_
     refine Fq (.pointer (some ⟨b18, o19 + (k + 1) * 4, none⟩)) (r_idx (n := n) (c := c) (k := (k + 1)) rfl ek hA20 kk kk (by have := hl; omega)) ?_
     refine Fq (.pointer (some ⟨b18, o19 + (k + 1) * 4, none⟩)) (r_field0 rfl ek kk) ?_
     refine Fl (.int .i64 x16.id) (sgS (later c10 hc22) (by simp)) ?_
     by_cases q41 : (x31.id : Int) ≥ (x16.id : Int)
     ·refine Fq (.bool true) (r_geq (m := x31.id) (n := x16.id) rfl ek ek (dt q41)) ?_
      refine Fq (.bool true) (r_pick (b := true) rfl ek ek) ?_
      refine Fq (.bool true) (r_pick (b := false) rfl ek ek) ?_
      apply F.es
      have x6 := Sk s28 x6 onn
      have c42 := (Sb c10 s28 nkk)
      apply h8
      refine wp_cond_true ek ?_
      refine wk fun K9 h9 => ?_
      refine Rq 1 ?_
      refine Fa (.bool false) ?_
      apply F.es
      apply h9
      refine wp_ret ?_
      try simp only [Exit.then, Exit.inBlock]
      refine ret1 (v := .bool false) rfl kk ?_
      exact ⟨ret_bool (goodN_bad (k := k + 1) (by omega) (by rw [okAt_next hx17 hx32, q29]; have := q41; simp; omega)).symm, c42⟩
     refine Fq (.bool false) (r_geq (m := x31.id) (n := x16.id) rfl ek ek (df q41)) ?_
     refine Fq (.bool false) (r_pick (b := true) rfl ek ek) ?_
     refine Fq (.bool false) (r_pick (b := false) rfl ek ek) ?_
     apply F.es
     have x6 := Sk s28 x6 onn
     have c43 := (Sb c10 s28 nkk)
     apply h8
     refine wp_cond_false ek ?_
     apply wp_skip
     apply h7
     refine Rq 3 ?_
     refine Fv (.int .i64 (((k + 1) : Nat) : Int)) ?_
     refine Fq (.int .i64 (((k + 1) + 1 : Nat) : Int)) (r_add (m := (((k + 1) : Nat) : Int)) (n := 1) (z := (((k + 1) + 1 : Nat) : Int)) rfl ek ek (by omega) (by omega)) ?_
     refine Fa (.int .i64 (((k + 1) + 1 : Nat) : Int)) ?_
     apply F.es
     exact h4 _ _ _ (by omega : (n - (k + 1 + 1)) < _) ⟨k + 1 + 1, Kn.of, rfl, (by omega), (by omega), (okTo_next hok (by rw [okAt_next hx17 hx32, q29]; have := q41; simp; omega)), x6, c43⟩
    refine Fq (.bool false) (r_gtr (m := (K : Int)) (n := 0) rfl ek ek (df q30)) ?_
    refine Fv (.bool false) ?_
    refine Fs s28 ?_
    refine Fs s28 ?_
    refine Fs s28 ?_
    refine Fs s28 ?_
    refine Fs s28 ?_
    refine Fs s28 ?_
    refine Fs s28 ?_
    refine Fs s28 ?_
    refine Fs s28 ?_
    refine Fs s28 ?_
    refine Fs s28 ?_
    refine Fs s28 ?_
    refine Fs s28 ?_
    refine Fs s28 ?_
    refine Fq (.bool false) (r_pick (b := false) rfl ek ek) ?_
    refine Fq (.bool false) (r_pick (b := false) rfl ek ek) ?_
    apply F.es
    have x6 := Sk s28 x6 onn
    have c44 := (Sb c10 s28 nkk)
    apply h8
    refine wp_cond_false ek ?_
    apply wp_skip
    apply h7
    refine Rq 3 ?_
    refine Fv (.int .i64 (K : Int)) ?_
    refine Fq (.int .i64 ((K + 1 : Nat) : Int)) (r_add (m := (K : Int)) (n := 1) (z := ((K + 1 : Nat) : Int)) rfl ek ek (by omega) (by omega)) ?_
    refine Fa (.int .i64 ((K + 1 : Nat) : Int)) ?_
    apply F.es
    exact h4 _ _ _ (by omega : (n - (K + 1)) < _) ⟨K + 1, Kn.of, rfl, (by omega), (by omega), (okTo_next hok (by have e0 : K = 0 := (by omega); subst e0; rw [okAt_zero hx17]; exact q29)), x6, c44⟩
   rw [q29]
   refine Fq (.bool true) (r_not (b := false) rfl ek rfl) ?_
   refine Fv (.bool true) ?_
   refine Fs s28 ?_
   refine Fs s28 ?_
   refine Fs s28 ?_
   refine Fs s28 ?_
   refine Fs s28 ?_
   refine Fs s28 ?_
   refine Fs s28 ?_
   refine Fs s28 ?_
   refine Fs s28 ?_
   refine Fs s28 ?_
   refine Fs s28 ?_
   refine Fs s28 ?_
   refine Fs s28 ?_
   refine Fs s28 ?_
   refine Fs s28 ?_
   refine Fs s28 ?_
   refine Fs s28 ?_
   refine Fs s28 ?_
   refine Fq (.bool true) (r_pick (b := true) rfl ek ek) ?_
   apply F.es
   have x6 := Sk s28 x6 onn
   have c45 := (Sb c10 s28 nkk)
   apply h8
   refine wp_cond_true ek ?_
   refine wk fun K10 h10 => ?_
   refine Rq 1 ?_
   refine Fa (.bool false) ?_
   apply F.es
   apply h10
   refine wp_ret ?_
   try simp only [Exit.then, Exit.inBlock]
   refine ret1 (v := .bool false) rfl kk ?_
   exact ⟨ret_bool (goodN_bad (k := K) (by omega) (okAt_pipe hx17 q29)).symm, c45⟩
  refine Fq (.bool false) (r_leq (m := (K : Int)) (n := 10) rfl ek ek (df q12)) ?_
  refine Fq (.bool false) (r_pick (b := true) rfl ek ek) ?_
  apply F.es
  apply h6
  refine wp_cond_false ek ?_
  refine wp_exit ?_
  apply h2
  refine wk fun K11 h11 => ?_
  refine W.region_plain (row := none) [(0, false), (1, false), (2, true), (3, false), (4, false), (5, false), (6, false), (7, false), (8, false), (9, false)] kk ?_
  have s46 := SG.self wl0 none
  refine Fq (.pointer (some ⟨b2, 0, none⟩)) (r_field0 rfl ek kk) ?_
  refine Fl (.int .i64 m) (sgS (blk_cell (j := 0) x6 kk) onn) ?_
  refine Fc [.int .i64 m, .int .i64 1, .int .i64 8] (l1In_any m 1 8 _) ?_
  rintro e w' ⟨rfl, rfl⟩
  refine ⟨_, rfl, s46, ?_⟩
  apply F.nx
  rcases Bool.eq_false_or_eq_true (inB m 1 8) with q49 | q49
  ·rw [q49]
   refine Fv (.bool true) ?_
   refine Fq (.pointer (some ⟨b2, 1, none⟩)) (r_field (k := 1) rfl ek kk) ?_
   refine Fl (.slice A n c) (sgS (blk_cell (j := 1) x6 kk) onn) ?_
   refine Fq (.int .i64 (n : Int)) (r_len (A := A) (n := n) (c := c) rfl ek kk) ?_
   by_cases q50 : ((n : Int) : Int) ≤ (10 : Int)
   ·refine Fq (.bool true) (r_leq (m := (n : Int)) (n := 10) rfl ek ek (dt q50)) ?_
    refine Fq (.bool true) (r_pick (b := true) rfl ek ek) ?_
    refine Fa (.bool true) ?_
    apply F.es
    have x6 := Sk s46 x6 onn
    have c51 := (Sb c10 s46 nkk)
    apply h11
    refine wp_ret ?_
    try simp only [Exit.then]
    refine ret1 (v := .bool true) rfl kk ?_
    exact ⟨ret_bool (by rw [goodN_fin hl hk hok (by omega)]; simp [q49, q50]), c51⟩
   refine Fq (.bool false) (r_leq (m := (n : Int)) (n := 10) rfl ek ek (df q50)) ?_
   refine Fq (.bool false) (r_pick (b := true) rfl ek ek) ?_
   refine Fa (.bool false) ?_
   apply F.es
   have x6 := Sk s46 x6 onn
   have c52 := (Sb c10 s46 nkk)
   apply h11
   refine wp_ret ?_
   try simp only [Exit.then]
   refine ret1 (v := .bool false) rfl kk ?_
   exact ⟨ret_bool (by rw [goodN_fin hl hk hok (by omega)]; simp [q49, q50]), c52⟩
  rw [q49]
  refine Fv (.bool false) ?_
  refine Fs s46 ?_
  refine Fs s46 ?_
  refine Fs s46 ?_
  refine Fs s46 ?_
  refine Fq (.bool false) (r_pick (b := false) rfl ek ek) ?_
  refine Fa (.bool false) ?_
  apply F.es
  have x6 := Sk s46 x6 onn
  have c53 := (Sb c10 s46 nkk)
  apply h11
  refine wp_ret ?_
  try simp only [Exit.then]
  refine ret1 (v := .bool false) rfl kk ?_
  exact ⟨ret_bool (by rw [goodN_fin hl hk hok (by omega)]; simp [q49]), c53⟩
 refine Fq (.bool false) (r_lss (m := (K : Int)) (n := (n : Int)) rfl ek ek (df q11)) ?_
 refine Fv (.bool false) ?_
 refine Fs rfl ?_
 refine Fs rfl ?_
 refine Fq (.bool false) (r_pick (b := false) rfl ek ek) ?_
 apply F.es
 apply h6
 refine wp_cond_false ek ?_
 refine wp_exit ?_
 apply h2
 refine wk fun K12 h12 => ?_
 refine W.region_plain (row := none) [(0, false), (1, false), (2, true), (3, false), (4, false), (5, false), (6, false), (7, false), (8, false), (9, false)] kk ?_
 have s54 := SG.self wl0 none
 refine Fq (.pointer (some ⟨b2, 0, none⟩)) (r_field0 rfl ek kk) ?_
 refine Fl (.int .i64 m) (sgS (blk_cell (j := 0) x6 kk) onn) ?_
 refine Fc [.int .i64 m, .int .i64 1, .int .i64 8] (l1In_any m 1 8 _) ?_
 rintro e w' ⟨rfl, rfl⟩
 refine ⟨_, rfl, s54, ?_⟩
 apply F.nx
 rcases Bool.eq_false_or_eq_true (inB m 1 8) with q57 | q57
 ·rw [q57]
  refine Fv (.bool true) ?_
  refine Fq (.pointer (some ⟨b2, 1, none⟩)) (r_field (k := 1) rfl ek kk) ?_
  refine Fl (.slice A n c) (sgS (blk_cell (j := 1) x6 kk) onn) ?_
  refine Fq (.int .i64 (n : Int)) (r_len (A := A) (n := n) (c := c) rfl ek kk) ?_
  by_cases q58 : ((n : Int) : Int) ≤ (10 : Int)
  ·refine Fq (.bool true) (r_leq (m := (n : Int)) (n := 10) rfl ek ek (dt q58)) ?_
   refine Fq (.bool true) (r_pick (b := true) rfl ek ek) ?_
   refine Fa (.bool true) ?_
   apply F.es
   have c59 := (Sb c10 s54 nkk)
   apply h12
   refine wp_ret ?_
   try simp only [Exit.then]
   refine ret1 (v := .bool true) rfl kk ?_
   exact ⟨ret_bool (by rw [goodN_fin hl hk hok (by omega)]; simp [q57, q58]), c59⟩
  refine Fq (.bool false) (r_leq (m := (n : Int)) (n := 10) rfl ek ek (df q58)) ?_
  refine Fq (.bool false) (r_pick (b := true) rfl ek ek) ?_
  refine Fa (.bool false) ?_
  apply F.es
  have c60 := (Sb c10 s54 nkk)
  apply h12
  refine wp_ret ?_
  try simp only [Exit.then]
  refine ret1 (v := .bool false) rfl kk ?_
  exact ⟨ret_bool (by rw [goodN_fin hl hk hok (by omega)]; simp [q57, q58]), c60⟩
 rw [q57]
 refine Fv (.bool false) ?_
 refine Fs s54 ?_
 refine Fs s54 ?_
 refine Fs s54 ?_
 refine Fs s54 ?_
 refine Fq (.bool false) (r_pick (b := false) rfl ek ek) ?_
 refine Fa (.bool false) ?_
 apply F.es
 have c61 := (Sb c10 s54 nkk)
 apply h12
 refine wp_ret ?_
 try simp only [Exit.then]
 refine ret1 (v := .bool false) rfl kk ?_
 exact ⟨ret_bool (by rw [goodN_fin hl hk hok (by omega)]; simp [q57]), c61⟩
end Go.Proofs.Ytdbgfejeleafgaa
namespace Go.Proofs.Ytdbgfejeleafgaa
open Go.RowKit
set_option linter.unusedVariables false
set_option maxRecDepth 100000 in
set_option maxHeartbeats 8000000 in
theorem IsValid_any (m : Int) (A : Option Addr) (n c : Nat) (ps : List Pp) (w : World) (ha : Rd w 4 A n (pipesV ps)) (hn : n ≤ 1048576) :
    Calls Try.prog 79 #[.agg #[.int .i64 m, .slice A n c]] w fun e w' => e = .returned (.bool (goodN m ps)) ∧ Below w.heap.size w w' := by
 have hl := rd_pipes_len ha
 go_enter Try.func79, Try.ntmps79
 refine F.begin 71 [(0, .agg #[.int .i64 m, .slice A n c])] (fun U0 => ?_)
 refine wk fun K1 h1 => ?_
 refine W.region_plain (row := none) [(0, true), (1, false)] kk ?_
 have s1 := SG.self w none
 refine W.sn (fun b => .pointer (some ⟨b, 0, none⟩)) #[.int .i64 m, .slice A n c] 26 s1 rfl kk rfl (fun _ => by kernel_rfl) (fun b2 w3 hb4 k5 x6 s7 => ?_)
 apply F.nx
 have lo8 : w.heap.size ≤ b2 := Nl ((Sb (Below.refl _ _) s1 nkk)).size (Nat.le_of_eq hb4)
 refine Fa (.bool false) ?_
 apply F.es
 have c9 := (Sb (Below.refl _ _) s7 nkk)
 apply h1
 refine wk fun K2 h2 => ?_
 refine wk fun K3 h3 => ?_
 refine W.region_plain (row := none) [(0, false), (1, false), (2, true), (3, false), (4, false), (5, false), (6, false), (7, false), (8, false), (9, false)] kk ?_
 have s10 := SG.self w3 none
 refine Fq (.pointer (some ⟨b2, 0, none⟩)) (r_field0 rfl ek kk) ?_
 refine Fl (.int .i64 m) (sgS (blk_cell (j := 0) x6 kk) onn) ?_
 refine Fc [.int .i64 m, .int .i64 1, .int .i64 8] (inside_any m 1 8 _) ?_
 rintro e w' ⟨rfl, rfl⟩
 refine ⟨_, rfl, s10, ?_⟩
 apply F.nx
 rcases Bool.eq_false_or_eq_true (inB m 1 8) with q13 | q13
 ·rw [q13]
  refine Fq (.bool false) (r_not (b := true) rfl ek rfl) ?_
  refine Fv (.bool false) ?_
  refine Fq (.pointer (some ⟨b2, 1, none⟩)) (r_field (k := 1) rfl ek kk) ?_
  refine Fl (.slice A n c) (sgS (blk_cell (j := 1) x6 kk) onn) ?_
  refine Fq (.int .i64 (n : Int)) (r_len (A := A) (n := n) (c := c) rfl ek kk) ?_
  by_cases q14 : ((n : Int) : Int) > (10 : Int)
  ·refine Fq (.bool true) (r_gtr (m := (n : Int)) (n := 10) rfl ek ek (dt q14)) ?_
   refine Fq (.bool true) (r_pick (b := false) rfl ek ek) ?_
   apply F.es
   have x6 := Sk s10 x6 onn
   have c15 := (Sb c9 s10 nkk)
   apply h3
   refine wp_cond_true ek ?_
   refine wk fun K4 h4 => ?_
   refine Rq 1 ?_
   refine Fa (.bool false) ?_
   apply F.es
   apply h4
   refine wp_ret ?_
   try simp only [Exit.then]
   refine ret1 (v := .bool false) rfl kk ?_
   exact ⟨ret_bool (goodN_out hl (by simp [q13]; omega)).symm, c15⟩
  refine Fq (.bool false) (r_gtr (m := (n : Int)) (n := 10) rfl ek ek (df q14)) ?_
  refine Fq (.bool false) (r_pick (b := false) rfl ek ek) ?_
  apply F.es
  have x6 := Sk s10 x6 onn
  have c16 := (Sb c9 s10 nkk)
  apply h3
  refine wp_cond_false ek ?_
  apply wp_skip
  apply h2
  refine wk fun K5 h5 => ?_
  refine wk fun K6 h6 => ?_
  refine Rq 4 ?_
  refine Fq (.pointer (some ⟨b2, 1, none⟩)) (r_field (k := 1) rfl ek kk) ?_
  refine Fl (.slice A n c) (eqS (blk_cell (j := 1) x6 kk)) ?_
  refine Fq (.int .i64 (n : Int)) (r_len (A := A) (n := n) (c := c) rfl ek kk) ?_
  refine Fv (.int .i64 0) ?_
  apply F.es
  apply h6
  refine wp_block ?_
  refine loopK (fun am0 aa0 wl0 => ∃ (K : Nat) , Kn aa0 [(0, .agg #[.int .i64 m, .slice A n c]), (1, .pointer (some ⟨b2, 0, none⟩)), (2, .bool false), (14, .bool false), (16, .slice A n c), (17, .int .i64 (n : Int)), (18, .int .i64 (K : Int))] 71 ∧ (am0 = n - K) ∧ (K ≤ n) ∧ (okTo m ps K = true) ∧ (wl0.heap[b2]? = some (.cells #[.int .i64 m, .slice A n c] 26 (0, 0))) ∧ (Below w.heap.size w wl0)) (n - 0) ?_ ?_
  ·exact ⟨0, Kn.of, rfl, (Nat.zero_le _), rfl, x6, c16⟩
  rintro am0 aa0 wl0 K7 h7 ⟨K, ⟨U0, rfl⟩, rfl, hk, hok, x6, c17⟩
  refine wk fun K8 h8 => ?_
  refine Rq 1 ?_
  by_cases q18 : ((K : Int) : Int) < ((n : Int) : Int)
  ·refine Fq (.bool true) (r_lss (m := (K : Int)) (n := (n : Int)) rfl ek ek (dt q18)) ?_
   apply F.es
   apply h8
   refine wk fun K9 h9 => ?_
   refine wp_cond_true ek ?_
   apply wp_skip
   apply h9
   refine wk fun K10 h10 => ?_
   refine wp_block ?_
   refine wk fun K11 h11 => ?_
   refine W.region_plain (row := none) [(0, false), (1, false), (2, false), (3, true), (4, false), (5, true)] kk ?_
   have s19 := SG.self wl0 none
   refine Fv (.int .i64 (K : Int)) ?_
   obtain ⟨x20, hx21⟩ := get_of (zs := ps) (k := K) (by have := hl; omega)
   obtain ⟨b22, o23, hA24, hb25, hc26, hc27, hc28, hc29⟩ := Rd.elPipe ha hx21
   refine Fq (.pointer (some ⟨b22, o23 + K * 4, none⟩)) (r_idx (n := n) (c := c) (k := K) rfl ek hA24 kk kk (by have := hl; omega)) ?_
   refine Fq (.agg #[.int .i64 x20.id, .int .i64 x20.fr, .int .i64 x20.to, .int .i64 x20.sz]) (r_load4 rfl ek kk kk (sgS (later c17 hc26) (by simp)) (sgS (later c17 hc27) (by simp)) (sgS (later c17 hc28) (by simp)) (sgS (later c17 hc29) (by simp))) ?_
   refine W.sn (fun b => .pointer (some ⟨b, 0, none⟩)) #[.int .i64 0, .int .i64 0, .int .i64 0, .int .i64 0] 51 s19 rfl kk rfl (fun _ => by kernel_rfl) (fun b30 w31 hb32 k33 x34 s35 => ?_)
   apply F.nx
   have lo36 : w.heap.size ≤ b30 := Nl ((Sb c17 s19 nkk)).size (Nat.le_of_eq hb32)
   refine Fa (.int .i64 (K : Int)) ?_
   refine W.ss (v := .agg #[.int .i64 x20.id, .int .i64 x20.fr, .int .i64 x20.to, .int .i64 x20.sz]) (j := 0) (news := [.int .i64 x20.id, .int .i64 x20.fr, .int .i64 x20.to, .int .i64 x20.sz]) (cs' := #[.int .i64 x20.id, .int .i64 x20.fr, .int .i64 x20.to, .int .i64 x20.sz]) s35 rfl kk rfl rfl kk kk x34 kk kk (by simp) kk kk (.inr (Nl (s19).size (Nat.le_of_eq hb32))) (fun w38 g39 x40 s41 => ?_)
   apply F.es
   have x6 := Sk s41 x6 onn
   have c42 := (Sb c17 s41 nkk)
   apply h11
   refine wk fun K12 h12 => ?_
   refine W.region_sch (row := none) (Sch.of [(0, false), (1, false), (2, true), (3, false), (4, false), (5, false), (6, false), (7, false), (8, true), (9, false), (10, false), (11, false), (12, false), (13, false), (14, false), (15, true), (16, false), (17, false), (18, false), (19, false), (20, false), (21, false), (22, false), (23, false), (24, false), (25, false), (26, false), (27, false), (28, true), (29, false), (30, false), (31, false), (32, false), (33, false), (34, false), (35, false), (36, false), (37, false), (38, false), (39, false), (40, false), (41, false), (42, false), (43, false), (44, false), (45, false), (46, false)]) kk kk (fun _ d _ _ _ h => by cases d <;> exact h) kk (fun w43 e44 s45 => ?_)
   refine Fq (.pointer (some ⟨b30, 0, none⟩)) (r_field0 rfl ek kk) ?_
   refine Fl (.int .i64 x20.id) (sgS (blk_cell (j := 0) x40 kk) onn) ?_
   refine Fc [.int .i64 x20.id, .int .i64 1, .int .i64 99] (inside_any x20.id 1 99 _) ?_
   rintro e w' ⟨rfl, rfl⟩
   refine ⟨_, rfl, s45, ?_⟩
   apply F.nx
   rcases Bool.eq_false_or_eq_true (inB x20.id 1 99) with q48 | q48
   ·rw [q48]
    refine Fq (.bool false) (r_not (b := true) rfl ek rfl) ?_
    refine Fv (.bool false) ?_
    refine Fq (.agg #[.int .i64 m, .slice A n c]) (r_load2 rfl ek kk kk (sgS (blk_cell (j := 0) x6 kk) onn) (sgS (blk_cell (j := 1) x6 kk) onn)) ?_
    refine Fq (.pointer (some ⟨b30, 1, none⟩)) (r_field (k := 1) rfl ek kk) ?_
    refine Fl (.int .i64 x20.fr) (sgS (blk_cell (j := 1) x40 kk) onn) ?_
    refine Fc [.agg #[.int .i64 m, .slice A n c], .int .i64 x20.fr] (has_any m A n c ps x20.fr _) ?_
    rintro e w50 ⟨rfl, b49⟩
    have s51 := SG.of_below s45 b49
    refine ⟨_, rfl, s51, ?_⟩
    apply F.nx
    rcases Bool.eq_false_or_eq_true (inB x20.fr 1 m) with q52 | q52
    ·rw [q52]
     refine Fq (.bool false) (r_not (b := true) rfl ek rfl) ?_
     refine Fq (.bool false) (r_pick (b := false) rfl ek ek) ?_
     refine Fv (.bool false) ?_
     refine Fq (.agg #[.int .i64 m, .slice A n c]) (r_load2 rfl ek kk kk (sgS (blk_cell (j := 0) x6 kk) onn) (sgS (blk_cell (j := 1) x6 kk) onn)) ?_
     refine Fq (.pointer (some ⟨b30, 2, none⟩)) (r_field (k := 2) rfl ek kk) ?_
     refine Fl (.int .i64 x20.to) (sgS (blk_cell (j := 2) x40 kk) onn) ?_
     refine Fc [.agg #[.int .i64 m, .slice A n c], .int .i64 x20.to] (has_any m A n c ps x20.to _) ?_
     rintro e w54 ⟨rfl, b53⟩
     have s55 := SG.of_below s51 b53
     refine ⟨_, rfl, s55, ?_⟩
     apply F.nx
     rcases Bool.eq_false_or_eq_true (inB x20.to 1 m) with q56 | q56
     ·rw [q56]
      refine Fq (.bool false) (r_not (b := true) rfl ek rfl) ?_
      refine Fq (.bool false) (r_pick (b := false) rfl ek ek) ?_
      refine Fv (.bool false) ?_
      refine Fq (.pointer (some ⟨b30, 1, none⟩)) (r_field (k := 1) rfl ek kk) ?_
      refine Fl (.int .i64 x20.fr) (sgS (blk_cell (j := 1) x40 kk) onn) ?_
      refine Fq (.pointer (some ⟨b30, 2, none⟩)) (r_field (k := 2) rfl ek kk) ?_
      refine Fl (.int .i64 x20.to) (sgS (blk_cell (j := 2) x40 kk) onn) ?_
      by_cases q57 : (x20.fr : Int) = (x20.to : Int)
      ·refine Fq (.bool true) (r_eql (m := x20.fr) (n := x20.to) rfl ek ek (dt q57)) ?_
       refine Fq (.bool true) (r_pick (b := false) rfl ek ek) ?_
       refine Fv (.bool true) ?_
       refine Fs s55 ?_
       refine Fs s55 ?_
       refine Fs s55 ?_
       refine Fs s55 ?_
       refine Fq (.bool true) (r_pick (b := true) rfl ek ek) ?_
       refine Fv (.bool true) ?_
       refine Fs s55 ?_
       refine Fs s55 ?_
       refine Fs s55 ?_
       refine Fs s55 ?_
       refine Fs s55 ?_
       refine Fs s55 ?_
       refine Fs s55 ?_
       refine Fs s55 ?_
       refine Fs s55 ?_
       refine Fs s55 ?_
       refine Fs s55 ?_
       refine Fs s55 ?_
       refine Fs s55 ?_
       refine Fs s55 ?_
       refine Fq (.bool true) (r_pick (b := true) rfl ek ek) ?_
       apply F.es
       have x6 := Sk s55 x6 onn
       have x40 := Sk s55 x40 onn
       have c58 := (Sb c42 s55 nkk)
       apply h12
       refine wp_cond_true ek ?_
       refine wk fun K13 h13 => ?_
       refine Rq 1 ?_
       refine Fa (.bool false) ?_
       apply F.es
       apply h13
       refine wp_ret ?_
       try simp only [Exit.then, Exit.inBlock]
       refine ret1 (v := .bool false) rfl kk ?_
       exact ⟨ret_bool (goodN_bad (k := K) (by omega) (okAt_pipe hx21 (by simp [pipeOk, q57]))).symm, c58⟩
      refine Fq (.bool false) (r_eql (m := x20.fr) (n := x20.to) rfl ek ek (df q57)) ?_
      refine Fq (.bool false) (r_pick (b := false) rfl ek ek) ?_
      refine Fv (.bool false) ?_
      refine Fq (.pointer (some ⟨b30, 3, none⟩)) (r_field (k := 3) rfl ek kk) ?_
      refine Fl (.int .i64 x20.sz) (sgS (blk_cell (j := 3) x40 kk) onn) ?_
      refine Fc [.int .i64 x20.sz, .int .i64 1, .int .i64 9] (inside_any x20.sz 1 9 _) ?_
      rintro e w' ⟨rfl, rfl⟩
      refine ⟨_, rfl, s55, ?_⟩
      apply F.nx
      rcases Bool.eq_false_or_eq_true (inB x20.sz 1 9) with q61 | q61
      ·rw [q61]
       refine Fq (.bool false) (r_not (b := true) rfl ek rfl) ?_
       refine Fq (.bool false) (r_pick (b := false) rfl ek ek) ?_
       refine Fv (.bool false) ?_
       refine Fv (.int .i64 (K : Int)) ?_
       by_cases q62 : ((K : Int) : Int) > (0 : Int)
       ·obtain ⟨k, rfl⟩ : ∃ k, K = k + 1 := ⟨K - 1, by omega⟩
        refine Fq (.bool true) (r_gtr (m := (((k + 1) : Nat) : Int)) (n := 0) rfl ek ek (dt q62)) ?_
        refine Fv (.bool true) ?_
        refine Fq (.pointer (some ⟨b2, 1, none⟩)) (r_field (k := 1) rfl ek kk) ?_
        refine Fl (.slice A n c) (sgS (blk_cell (j := 1) x6 kk) onn) ?_
        refine Fv (.int .i64 (((k + 1) : Nat) : Int)) ?_
        refine Fq (.int .i64 (k : Int)) (r_sub (m := (((k + 1) : Nat) : Int)) (n := 1) (z := (k : Int)) rfl ek ek (by omega) (by omega)) ?_
        obtain ⟨x63, hx64⟩ := get_of (zs := ps) (k := k) (by have := hl; omega)
        obtain ⟨b65, o66, hA67, hb68, hc69, hc70, hc71, hc72⟩ := Rd.elPipe ha hx64
        refine Fq (.pointer (some ⟨b65, o66 + k * 4, none⟩)) (r_idx (n := n) (c := c) (k := k) rfl ek hA67 kk kk (by have := hl; omega)) ?_
        refine Fq (.pointer (some ⟨b65, o66 + k * 4, none⟩)) (r_field0 rfl ek kk) ?_
        refine Fl (.int .i64 x63.id) (sgS (later c42 hc69) (by simp)) ?_
        refine Fq (.pointer (some ⟨b30, 0, none⟩)) (r_field0 rfl ek kk) ?_
        refine Fl (.int .i64 x20.id) (sgS (blk_cell (j := 0) x40 kk) onn) ?_
        by_cases q73 : (x63.id : Int) ≥ (x20.id : Int)
        ·refine Fq (.bool true) (r_geq (m := x63.id) (n := x20.id) rfl ek ek (dt q73)) ?_
         refine Fq (.bool true) (r_pick (b := true) rfl ek ek) ?_
         refine Fq (.bool true) (r_pick (b := false) rfl ek ek) ?_
         apply F.es
         have x6 := Sk s55 x6 onn
         have c74 := (Sb c42 s55 nkk)
         apply h12
         refine wp_cond_true ek ?_
         refine wk fun K14 h14 => ?_
         refine Rq 1 ?_
         refine Fa (.bool false) ?_
         apply F.es
         apply h14
         refine wp_ret ?_
         try simp only [Exit.then, Exit.inBlock]
         refine ret1 (v := .bool false) rfl kk ?_
         exact ⟨ret_bool (goodN_bad (k := k + 1) (by omega) (by rw [okAt_next hx21 hx64]; have := q73; simp [pipeOk, q48, q52, q56, q57, q61]; omega)).symm, c74⟩
        refine Fq (.bool false) (r_geq (m := x63.id) (n := x20.id) rfl ek ek (df q73)) ?_
        refine Fq (.bool false) (r_pick (b := true) rfl ek ek) ?_
        refine Fq (.bool false) (r_pick (b := false) rfl ek ek) ?_
        apply F.es
        have x6 := Sk s55 x6 onn
        have c75 := (Sb c42 s55 nkk)
        apply h12
        refine wp_cond_false ek ?_
        apply wp_skip
        apply h10
        refine Rq 2 ?_
        refine Fq (.int .i64 (((k + 1) + 1 : Nat) : Int)) (r_add (m := (((k + 1) : Nat) : Int)) (n := 1) (z := (((k + 1) + 1 : Nat) : Int)) rfl ek ek (by omega) (by omega)) ?_
        refine Fv (.int .i64 (((k + 1) + 1 : Nat) : Int)) ?_
        apply F.es
        exact h7 _ _ _ (by omega : (n - (k + 1 + 1)) < _) ⟨k + 1 + 1, Kn.of, rfl, (by omega), (okTo_next hok (by rw [okAt_next hx21 hx64]; have := q73; simp [pipeOk, q48, q52, q56, q57, q61]; omega)), x6, c75⟩
       refine Fq (.bool false) (r_gtr (m := (K : Int)) (n := 0) rfl ek ek (df q62)) ?_
       refine Fv (.bool false) ?_
       refine Fs s55 ?_
       refine Fs s55 ?_
       refine Fs s55 ?_
       refine Fs s55 ?_
       refine Fs s55 ?_
       refine Fs s55 ?_
       refine Fs s55 ?_
       refine Fs s55 ?_
       refine Fs s55 ?_
       refine Fs s55 ?_
       refine Fq (.bool false) (r_pick (b := false) rfl ek ek) ?_
       refine Fq (.bool false) (r_pick (b := false) rfl ek ek) ?_
       apply F.es
       have x6 := Sk s55 x6 onn
       have c76 := (Sb c42 s55 nkk)
       apply h12
       refine wp_cond_false ek ?_
       apply wp_skip
       apply h10
       refine Rq 2 ?_
       refine Fq (.int .i64 ((K + 1 : Nat) : Int)) (r_add (m := (K : Int)) (n := 1) (z := ((K + 1 : Nat) : Int)) rfl ek ek (by omega) (by omega)) ?_
       refine Fv (.int .i64 ((K + 1 : Nat) : Int)) ?_
       apply F.es
       exact h7 _ _ _ (by omega : (n - (K + 1)) < _) ⟨K + 1, Kn.of, rfl, (by omega), (okTo_next hok (by have e0 : K = 0 := (by omega); subst e0; rw [okAt_zero hx21]; simp [pipeOk, q48, q52, q56, q57, q61])), x6, c76⟩
      rw [q61]
      refine Fq (.bool true) (r_not (b := false) rfl ek rfl) ?_
      refine Fq (.bool true) (r_pick (b := false) rfl ek ek) ?_
      refine Fv (.bool true) ?_
      refine Fs s55 ?_
      refine Fs s55 ?_
      refine Fs s55 ?_
      refine Fs s55 ?_
      refine Fs s55 ?_
      refine Fs s55 ?_
      refine Fs s55 ?_
      refine Fs s55 ?_
      refine Fs s55 ?_
      refine Fs s55 ?_
      refine Fs s55 ?_
      refine Fs s55 ?_
      refine Fs s55 ?_
      refine Fs s55 ?_
      refine Fq (.bool true) (r_pick (b := true) rfl ek ek) ?_
      apply F.es
      have c77 := (Sb c42 s55 nkk)
      apply h12
      refine wp_cond_true ek ?_
      refine wk fun K15 h15 => ?_
      refine Rq 1 ?_
      refine Fa (.bool false) ?_
      apply F.es
      apply h15
      refine wp_ret ?_
      try simp only [Exit.then, Exit.inBlock]
      refine ret1 (v := .bool false) rfl kk ?_
      exact ⟨ret_bool (goodN_bad (k := K) (by omega) (okAt_pipe hx21 (by simp [pipeOk, q61]))).symm, c77⟩
     rw [q56]
     refine Fq (.bool true) (r_not (b := false) rfl ek rfl) ?_
     refine Fq (.bool true) (r_pick (b := false) rfl ek ek) ?_
     refine Fv (.bool true) ?_
     refine Fs s55 ?_
     refine Fs s55 ?_
     refine Fs s55 ?_
     refine Fs s55 ?_
     refine Fs s55 ?_
     refine Fq (.bool true) (r_pick (b := true) rfl ek ek) ?_
     refine Fv (.bool true) ?_
     refine Fs s55 ?_
     refine Fs s55 ?_
     refine Fs s55 ?_
     refine Fs s55 ?_
     refine Fq (.bool true) (r_pick (b := true) rfl ek ek) ?_
     refine Fv (.bool true) ?_
     refine Fs s55 ?_
     refine Fs s55 ?_
     refine Fs s55 ?_
     refine Fs s55 ?_
     refine Fs s55 ?_
     refine Fs s55 ?_
     refine Fs s55 ?_
     refine Fs s55 ?_
     refine Fs s55 ?_
     refine Fs s55 ?_
     refine Fs s55 ?_
     refine Fs s55 ?_
     refine Fs s55 ?_
     refine Fs s55 ?_
     refine Fq (.bool true) (r_pick (b := true) rfl ek ek) ?_
     apply F.es
     have c78 := (Sb c42 s55 nkk)
     apply h12
     refine wp_cond_true ek ?_
     refine wk fun K16 h16 => ?_
     refine Rq 1 ?_
     refine Fa (.bool false) ?_
     apply F.es
     apply h16
     refine wp_ret ?_
     try simp only [Exit.then, Exit.inBlock]
     refine ret1 (v := .bool false) rfl kk ?_
     exact ⟨ret_bool (goodN_bad (k := K) (by omega) (okAt_pipe hx21 (by simp [pipeOk, q56]))).symm, c78⟩
    rw [q52]
    refine Fq (.bool true) (r_not (b := false) rfl ek rfl) ?_
    refine Fq (.bool true) (r_pick (b := false) rfl ek ek) ?_
    refine Fv (.bool true) ?_
    refine Fs s51 ?_
    refine Fs s51 ?_
    refine Fs s51 ?_
    refine Fs s51 ?_
    refine Fs s51 ?_
    refine Fq (.bool true) (r_pick (b := true) rfl ek ek) ?_
    refine Fv (.bool true) ?_
    refine Fs s51 ?_
    refine Fs s51 ?_
    refine Fs s51 ?_
    refine Fs s51 ?_
    refine Fs s51 ?_
    refine Fq (.bool true) (r_pick (b := true) rfl ek ek) ?_
    refine Fv (.bool true) ?_
    refine Fs s51 ?_
    refine Fs s51 ?_
    refine Fs s51 ?_
    refine Fs s51 ?_
    refine Fq (.bool true) (r_pick (b := true) rfl ek ek) ?_
    refine Fv (.bool true) ?_
    refine Fs s51 ?_
    refine Fs s51 ?_
    refine Fs s51 ?_
    refine Fs s51 ?_
    refine Fs s51 ?_
    refine Fs s51 ?_
    refine Fs s51 ?_
    refine Fs s51 ?_
    refine Fs s51 ?_
    refine Fs s51 ?_
    refine Fs s51 ?_
    refine Fs s51 ?_
    refine Fs s51 ?_
    refine Fs s51 ?_
    refine Fq (.bool true) (r_pick (b := true) rfl ek ek) ?_
    apply F.es
    have c79 := (Sb c42 s51 nkk)
    apply h12
    refine wp_cond_true ek ?_
    refine wk fun K17 h17 => ?_
    refine Rq 1 ?_
    refine Fa (.bool false) ?_
    apply F.es
    apply h17
    refine wp_ret ?_
    try simp only [Exit.then, Exit.inBlock]
    refine ret1 (v := .bool false) rfl kk ?_
    exact ⟨ret_bool (goodN_bad (k := K) (by omega) (okAt_pipe hx21 (by simp [pipeOk, q52]))).symm, c79⟩
   rw [q48]
   refine Fq (.bool true) (r_not (b := false) rfl ek rfl) ?_
   refine Fv (.bool true) ?_
   refine Fs s45 ?_
   refine Fs s45 ?_
   refine Fs s45 ?_
   refine Fs s45 ?_
   refine Fs s45 ?_
   refine Fq (.bool true) (r_pick (b := true) rfl ek ek) ?_
   refine Fv (.bool true) ?_
   refine Fs s45 ?_
   refine Fs s45 ?_
   refine Fs s45 ?_
   refine Fs s45 ?_
   refine Fs s45 ?_
   refine Fq (.bool true) (r_pick (b := true) rfl ek ek) ?_
   refine Fv (.bool true) ?_
   refine Fs s45 ?_
   refine Fs s45 ?_
   refine Fs s45 ?_
   refine Fs s45 ?_
   refine Fs s45 ?_
   refine Fq (.bool true) (r_pick (b := true) rfl ek ek) ?_
   refine Fv (.bool true) ?_
   refine Fs s45 ?_
   refine Fs s45 ?_
   refine Fs s45 ?_
   refine Fs s45 ?_
   refine Fq (.bool true) (r_pick (b := true) rfl ek ek) ?_
   refine Fv (.bool true) ?_
   refine Fs s45 ?_
   refine Fs s45 ?_
   refine Fs s45 ?_
   refine Fs s45 ?_
   refine Fs s45 ?_
   refine Fs s45 ?_
   refine Fs s45 ?_
   refine Fs s45 ?_
   refine Fs s45 ?_
   refine Fs s45 ?_
   refine Fs s45 ?_
   refine Fs s45 ?_
   refine Fs s45 ?_
   refine Fs s45 ?_
   refine Fq (.bool true) (r_pick (b := true) rfl ek ek) ?_
   apply F.es
   have c80 := (Sb c42 s45 nkk)
   apply h12
   refine wp_cond_true ek ?_
   refine wk fun K18 h18 => ?_
   refine Rq 1 ?_
   refine Fa (.bool false) ?_
   apply F.es
   apply h18
   refine wp_ret ?_
   try simp only [Exit.then, Exit.inBlock]
   refine ret1 (v := .bool false) rfl kk ?_
   exact ⟨ret_bool (goodN_bad (k := K) (by omega) (okAt_pipe hx21 (by simp [pipeOk, q48]))).symm, c80⟩
  refine Fq (.bool false) (r_lss (m := (K : Int)) (n := (n : Int)) rfl ek ek (df q18)) ?_
  apply F.es
  apply h8
  refine wk fun K19 h19 => ?_
  refine wp_cond_false ek ?_
  refine wp_exit ?_
  apply h5
  refine wk fun K20 h20 => ?_
  refine Rq 1 ?_
  refine Fa (.bool true) ?_
  apply F.es
  apply h20
  refine wp_ret ?_
  try simp only [Exit.then]
  refine ret1 (v := .bool true) rfl kk ?_
  exact ⟨ret_bool (by rw [goodN_fin hl hk hok (by omega)]; simp [q13]; omega), c17⟩
 rw [q13]
 refine Fq (.bool true) (r_not (b := false) rfl ek rfl) ?_
 refine Fv (.bool true) ?_
 refine Fs s10 ?_
 refine Fs s10 ?_
 refine Fs s10 ?_
 refine Fs s10 ?_
 refine Fq (.bool true) (r_pick (b := true) rfl ek ek) ?_
 apply F.es
 have c81 := (Sb c9 s10 nkk)
 apply h3
 refine wp_cond_true ek ?_
 refine wk fun K21 h21 => ?_
 refine Rq 1 ?_
 refine Fa (.bool false) ?_
 apply F.es
 apply h21
 refine wp_ret ?_
 try simp only [Exit.then]
 refine ret1 (v := .bool false) rfl kk ?_
 exact ⟨ret_bool (goodN_out hl (by simp [q13])).symm, c81⟩
end Go.Proofs.Ytdbgfejeleafgaa
namespace Go.Proofs.Ytdbgfejeleafgaa
open Go.RowKit
set_option linter.unusedVariables false
set_option maxRecDepth 100000 in
set_option maxHeartbeats 1000000 in
theorem l2Node_any (m : Int) (A : Option Addr) (n c : Nat) (ps : List Pp) (v : Int) (w : World) (ha : Rd w 4 A n (pipesV ps)) (hn : n ≤ 1048576) :
    Calls Try.prog 90 #[.agg #[.int .i64 m, .slice A n c], .int .i64 v] w fun e w' => e = .returned (.bool (goodN m ps && inB v 1 m)) ∧ Below w.heap.size w w' := by
  go_enter Try.func90, Try.ntmps90
  refine wp_seq_k (fun K1 h1 => ?_)
  refine region_plain (row := none) [(0, true), (1, false)] rfl ?_
  have s1 := SG.self w none
  refine sn (fun b => .pointer (some ⟨b, 0, none⟩)) #[.int .i64 m, .slice A n c] 26 s1 rfl rfl rfl (fun _ => by kernel_rfl) (fun b2 w3 hb4 k5 x6 s7 => ?_)
  have lo8 : w.heap.size ≤ b2 := by have := ((Sb (Below.refl _ _) s1 nkk)).size; omega
  refine sq (v := .bool false) rfl (r_assign rfl rfl) rfl rfl rfl ?_
  refine sch_end ?_
  simp only [List.set_cons_zero, List.set_cons_succ]
  have c9 := (Sb (Below.refl _ _) s7 nkk)
  apply h1
  refine wp_seq_k (fun K2 h2 => ?_)
  refine region_plain (row := none) [(0, false), (1, true), (2, false), (3, false), (4, false), (5, false), (6, true), (7, false), (8, false)] rfl ?_
  have s10 := SG.self w3 none
  refine sq (v := .agg #[.int .i64 m, .slice A n c]) rfl (r_load2 rfl rfl (by kernel_rfl) (by kernel_rfl) (sgS (blk_cell (j := 0) x6 rfl) (by simp)) (sgS (blk_cell (j := 1) x6 rfl) (by simp))) rfl rfl rfl ?_
  refine sc (vs := [.agg #[.int .i64 m, .slice A n c]]) rfl rfl rfl (by kernel_rfl) rfl rfl (l2Good_any m A n c ps _ (Rk ha (Sb c9 s10 nkk)) (by omega)) ?_
  rintro e w12 ⟨rfl, b11⟩
  have s13 := SG.of_below s10 b11
  refine ⟨_, rfl, s13, ?_⟩
  rcases Bool.eq_false_or_eq_true (goodN m ps) with q14 | q14
  · rw [q14]
    refine sq (v := .bool true) rfl (r_move rfl rfl) rfl rfl rfl ?_
    refine sq (v := .int .i64 v) rfl (r_move rfl rfl) rfl rfl rfl ?_
    refine sq (v := .pointer (some ⟨b2, 0, none⟩)) rfl (r_field0 rfl rfl (by kernel_rfl)) rfl rfl rfl ?_
    simp only [List.set_cons_zero, List.set_cons_succ]
    refine sq (v := .int .i64 m) rfl (r_load rfl rfl (by kernel_rfl) (sgS (blk_cell (j := 0) x6 rfl) (by simp))) rfl rfl rfl ?_
    refine sc (vs := [.int .i64 v, .int .i64 1, .int .i64 m]) rfl rfl rfl (by kernel_rfl) rfl rfl (l1In_any v 1 m _) ?_
    rintro e w' ⟨rfl, rfl⟩
    refine ⟨_, rfl, s13, ?_⟩
    rcases Bool.eq_false_or_eq_true (inB v 1 m) with q17 | q17
    · rw [q17]
      refine sq (v := .bool true) rfl (r_pick rfl rfl rfl) rfl rfl rfl ?_
      refine sq (v := .bool true) rfl (r_assign rfl rfl) rfl rfl rfl ?_
      refine sch_end ?_
      simp only [List.set_cons_zero, List.set_cons_succ]
      have x6 := Sk s13 x6 (by simp)
      have c18 := (Sb c9 s13 nkk)
      apply h2
      refine wp_ret ?_
      try simp only [Exit.then]
      refine ret1 rfl rfl ?_
      exact ⟨ret_bool (by simp [q14, q17]), c18⟩
    · rw [q17]
      refine sq (v := .bool false) rfl (r_pick rfl rfl rfl) rfl rfl rfl ?_
      refine sq (v := .bool false) rfl (r_assign rfl rfl) rfl rfl rfl ?_
      refine sch_end ?_
      simp only [List.set_cons_zero, List.set_cons_succ]
      have x6 := Sk s13 x6 (by simp)
      have c19 := (Sb c9 s13 nkk)
      apply h2
      refine wp_ret ?_
      try simp only [Exit.then]
      refine ret1 rfl rfl ?_
      exact ⟨ret_bool (by simp [q14, q17]), c19⟩
  · rw [q14]
    refine sq (v := .bool false) rfl (r_move rfl rfl) rfl rfl rfl ?_
    refine sk s13 rfl rfl rfl rfl ?_
    refine sk s13 rfl rfl rfl rfl ?_
    simp only [List.set_cons_zero, List.set_cons_succ]
    refine sk s13 rfl rfl rfl rfl ?_
    refine sk s13 rfl rfl rfl rfl ?_
    refine sq (v := .bool false) rfl (r_pick rfl rfl rfl) rfl rfl rfl ?_
    refine sq (v := .bool false) rfl (r_assign rfl rfl) rfl rfl rfl ?_
    refine sch_end ?_
    simp only [List.set_cons_zero, List.set_cons_succ]
    have x6 := Sk s13 x6 (by simp)
    have c20 := (Sb c9 s13 nkk)
    apply h2
    refine wp_ret ?_
    try simp only [Exit.then]
    refine ret1 rfl rfl ?_
    exact ⟨ret_bool (by simp [q14]), c20⟩
set_option maxRecDepth 100000 in
set_option maxHeartbeats 1000000 in
theorem l2Find_any (m : Int) (A : Option Addr) (n c : Nat) (ps : List Pp) (v : Int) (w : World) (ha : Rd w 4 A n (pipesV ps)) (hn : n ≤ 1048576) :
    Calls Try.prog 75 #[.agg #[.int .i64 m, .slice A n c], .int .i64 v] w fun e w' => e = .returned (.int .i64 (findL ps v)) ∧ Below w.heap.size w w' := by
  have hl := rd_pipes_len ha
  go_enter Try.func75, Try.ntmps75
  refine wp_seq_k (fun K1 h1 => ?_)
  refine region_plain (row := none) [(0, true), (1, false)] rfl ?_
  have s1 := SG.self w none
  refine sn (fun b => .pointer (some ⟨b, 0, none⟩)) #[.int .i64 m, .slice A n c] 26 s1 rfl rfl rfl (fun _ => by kernel_rfl) (fun b2 w3 hb4 k5 x6 s7 => ?_)
  have lo8 : w.heap.size ≤ b2 := by have := ((Sb (Below.refl _ _) s1 nkk)).size; omega
  refine sq (v := .int .i64 0) rfl (r_assign rfl rfl) rfl rfl rfl ?_
  refine sch_end ?_
  simp only [List.set_cons_zero, List.set_cons_succ]
  have c9 := (Sb (Below.refl _ _) s7 nkk)
  apply h1
  refine wp_seq_k (fun K2 h2 => ?_)
  refine wp_seq_k (fun K3 h3 => ?_)
  refine region_quiet [(0, false)] rfl ?_
  refine sq (v := .int .i64 0) rfl (r_assign rfl rfl) rfl rfl rfl ?_
  refine sch_end ?_
  simp only [List.set_cons_zero, List.set_cons_succ]
  apply h3
  refine wp_block ?_
  refine loopK (fun am0 aa0 wl0 => ∃ (k : Nat) (u0_6 u0_7 u0_8 u0_9 u0_10 u0_11 u0_12 u0_13 u0_14 u0_15 u0_16 u0_17 u0_18 u0_19 u0_20 u0_21 : Value), aa0 = ⟨[.agg #[.int .i64 m, .slice A n c], .int .i64 v, .pointer (some ⟨b2, 0, none⟩), undef, .int .i64 0, .int .i64 ((k : Nat) : Int), u0_6, u0_7, u0_8, u0_9, u0_10, u0_11, u0_12, u0_13, u0_14, u0_15, u0_16, u0_17, u0_18, u0_19, u0_20, u0_21].toArray, []⟩ ∧ (am0 = n - k) ∧ (k ≤ n) ∧ (∀ j z, j < k → ps[j]? = some z → z.id ≠ v) ∧ (wl0.heap[b2]? = some (.cells #[.int .i64 m, .slice A n c] 26 (0, 0))) ∧ (Below w.heap.size w wl0)) (n - 0) ?_ ?_
  · exact ⟨0, _, _, _, _, _, _, _, _, _, _, _, _, _, _, _, _, rfl, rfl, (Nat.zero_le _), upto_zero, x6, c9⟩
  rintro am0 aa0 wl0 K4 h4 ⟨k, u0_6, u0_7, u0_8, u0_9, u0_10, u0_11, u0_12, u0_13, u0_14, u0_15, u0_16, u0_17, u0_18, u0_19, u0_20, u0_21, rfl, rfl, hk, hok, x6, c10⟩
  refine wp_seq_k (fun K5 h5 => ?_)
  refine wp_seq_k (fun K6 h6 => ?_)
  refine region_quiet [(0, false), (1, false), (2, false), (3, false), (4, false)] rfl ?_
  refine sq (v := .int .i64 ((k : Nat) : Int)) rfl (r_move rfl rfl) rfl rfl rfl ?_
  refine sq (v := .pointer (some ⟨b2, 1, none⟩)) rfl (r_field (k := 1) rfl rfl (by kernel_rfl)) rfl rfl rfl ?_
  refine sq (v := .slice A n c) rfl (r_load rfl rfl (by kernel_rfl) (eqS (blk_cell (j := 1) x6 rfl))) rfl rfl rfl ?_
  refine sq (v := .int .i64 ((n : Nat) : Int)) rfl (r_len rfl rfl (by kernel_rfl)) rfl rfl rfl ?_
  by_cases q11 : (((k : Nat) : Int) : Int) < (((n : Nat) : Int) : Int)
  · refine sq (v := .bool true) rfl (r_lss rfl rfl rfl (dt q11)) rfl rfl rfl ?_
    simp only [List.set_cons_zero, List.set_cons_succ]
    refine sch_end ?_
    apply h6
    refine wp_cond_true rfl ?_
    apply wp_skip
    apply h5
    refine wp_seq_k (fun K7 h7 => ?_)
    refine wp_block ?_
    refine wp_seq_k (fun K8 h8 => ?_)
    refine region_quiet [(0, false), (1, false), (2, false), (3, false), (4, false), (5, false), (6, false), (7, false)] rfl ?_
    refine sq (v := .pointer (some ⟨b2, 1, none⟩)) rfl (r_field (k := 1) rfl rfl (by kernel_rfl)) rfl rfl rfl ?_
    refine sq (v := .slice A n c) rfl (r_load rfl rfl (by kernel_rfl) (eqS (blk_cell (j := 1) x6 rfl))) rfl rfl rfl ?_
    refine sq (v := .int .i64 ((k : Nat) : Int)) rfl (r_move rfl rfl) rfl rfl rfl ?_
    obtain ⟨x12, hx13⟩ := get_of (zs := ps) (k := k) (by have := hl; omega)
    obtain ⟨b14, o15, hA16, hb17, hc18, hc19, hc20, hc21⟩ := Rd.elPipe ha hx13
    refine sq (v := .pointer (some ⟨b14, o15 + k * 4, none⟩)) rfl (r_idx (k := k) rfl rfl hA16 rfl (by kernel_rfl) (by have := hl; omega)) rfl rfl rfl ?_
    refine sq (v := .pointer (some ⟨b14, o15 + k * 4, none⟩)) rfl (r_field0 rfl rfl (by kernel_rfl)) rfl rfl rfl ?_
    simp only [List.set_cons_zero, List.set_cons_succ]
    refine sq (v := .int .i64 x12.id) rfl (r_load rfl rfl (by kernel_rfl) (eqS (later c10 hc18))) rfl rfl rfl ?_
    refine sq (v := .int .i64 v) rfl (r_move rfl rfl) rfl rfl rfl ?_
    by_cases q22 : (x12.id : Int) = (v : Int)
    · refine sq (v := .bool true) rfl (r_eql rfl rfl rfl (dt q22)) rfl rfl rfl ?_
      refine sch_end ?_
      simp only [List.set_cons_zero, List.set_cons_succ]
      apply h8
      refine wp_cond_true rfl ?_
      refine wp_seq_k (fun K9 h9 => ?_)
      refine region_quiet [(0, false), (1, false)] rfl ?_
      refine sq (v := .int .i64 ((k : Nat) : Int)) rfl (r_move rfl rfl) rfl rfl rfl ?_
      refine sq (v := .int .i64 ((k : Nat) : Int)) rfl (r_assign rfl rfl) rfl rfl rfl ?_
      refine sch_end ?_
      simp only [List.set_cons_zero, List.set_cons_succ]
      apply h9
      refine wp_ret ?_
      try simp only [Exit.then, Exit.inBlock]
      refine ret1 rfl rfl ?_
      exact ⟨ret_int ((findL_at hok hx13 q22).symm), c10⟩
    · refine sq (v := .bool false) rfl (r_eql rfl rfl rfl (df q22)) rfl rfl rfl ?_
      refine sch_end ?_
      simp only [List.set_cons_zero, List.set_cons_succ]
      apply h8
      refine wp_cond_false rfl ?_
      apply wp_skip
      apply h7
      refine region_quiet [(0, false), (1, false), (2, false)] rfl ?_
      refine sq (v := .int .i64 ((k : Nat) : Int)) rfl (r_move rfl rfl) rfl rfl rfl ?_
      refine sq (v := .int .i64 ((k + 1 : Nat) : Int)) rfl (r_add (z := ((k + 1 : Nat) : Int)) rfl rfl rfl (by omega) (by omega)) rfl rfl rfl ?_
      refine sq (v := .int .i64 ((k + 1 : Nat) : Int)) rfl (r_assign rfl rfl) rfl rfl rfl ?_
      refine sch_end ?_
      simp only [List.set_cons_zero, List.set_cons_succ]
      exact h4 _ _ _ (by omega : (n - (k + 1)) < _) ⟨k + 1, _, _, _, _, _, _, _, _, _, _, _, _, _, _, _, _, rfl, rfl, (by omega), (upto_succ (Q := fun z => z.id ≠ v) hok hx13 q22), x6, c10⟩
  · refine sq (v := .bool false) rfl (r_lss rfl rfl rfl (df q11)) rfl rfl rfl ?_
    simp only [List.set_cons_zero, List.set_cons_succ]
    refine sch_end ?_
    apply h6
    refine wp_cond_false rfl ?_
    refine wp_exit ?_
    apply h2
    refine wp_seq_k (fun K10 h10 => ?_)
    refine region_quiet [(0, false)] rfl ?_
    refine sq (v := .int .i64 (-1)) rfl (r_assign rfl rfl) rfl rfl rfl ?_
    refine sch_end ?_
    simp only [List.set_cons_zero, List.set_cons_succ]
    apply h10
    refine wp_ret ?_
    try simp only [Exit.then]
    refine ret1 rfl rfl ?_
    exact ⟨ret_int ((findL_none hl hok (by omega)).symm), c10⟩
end Go.Proofs.Ytdbgfejeleafgaa
namespace Go.Proofs.Ytdbgfejeleafgaa
open Go.RowKit
set_option linter.unusedVariables false
theorem Rd.elValve {w : World} {A : Option Addr} {n : Nat} {ps : List Vv} (h : Rd w 4 A n (valvesV ps)) {k : Nat} {x : Vv} (hx : ps[k]? = some x) :
    ∃ b off, A = some ⟨b, off, none⟩ ∧ b < w.heap.size ∧ w.cell? ⟨b, off + k * 4, none⟩ = some (.int .i64 x.id) ∧ w.cell? ⟨b, off + k * 4 + 1, none⟩ = some (.int .i64 x.pipe) ∧ w.cell? ⟨b, off + k * 4 + 2, none⟩ = some (.int .i64 x.node) ∧ w.cell? ⟨b, off + k * 4 + 3, none⟩ = some (.bool x.shut) := by
  have hk : k < n := by have h1 := (List.getElem?_eq_some_iff.1 hx).1; have h2 := h.1; rw [valvesV_len] at h2; omega
  obtain ⟨b, off, y, e, hb, hy, r⟩ := h.atValve hk
  obtain rfl := Option.some.inj (hy.symm.trans hx)
  exact ⟨b, off, e, hb, r⟩
theorem rd_valves_len {w : World} {A : Option Addr} {n : Nat} {ps : List Vv} (h : Rd w 4 A n (valvesV ps)) : ps.length = n := by have := h.1; rw [valvesV_len] at this; omega
def endAt (ps : List Pp) (k : Int) (node : Int) : Bool := if 0 ≤ k then match ps[k.toNat]? with | some p => decide (p.fr = node) || decide (p.to = node) | none => false else false
def placed (vs : List Vv) (pipe node : Int) : Bool := vs.any (fun u => decide (u.pipe = pipe) && decide (u.node = node))
def above (vs : List Vv) (i : Nat) (v : Vv) : Bool := if i = 0 then true else match vs[i - 1]? with | some u => decide (u.id < v.id) | none => true
def okV (ps : List Pp) (vs : List Vv) (i : Nat) : Bool := match vs[i]? with
  | some v => inB v.id 1 99 && above vs i v && endAt ps (findL ps v.pipe) v.node && !placed (vs.take i) v.pipe v.node
  | none => true
def okVTo (ps : List Pp) (vs : List Vv) : Nat → Bool
  | 0 => true
  | k + 1 => okVTo ps vs k && okV ps vs k
def goodV (m : Int) (ps : List Pp) (vs : List Vv) : Bool := goodN m ps && (decide (vs.length ≤ 10) && okVTo ps vs vs.length)
theorem okVTo_bad {ps : List Pp} {vs : List Vv} {k : Nat} (h : okV ps vs k = false) : ∀ n, k < n → okVTo ps vs n = false
  | 0, hk => absurd hk (by omega)
  | n + 1, hk => by
    by_cases e : k = n
    · subst e; unfold okVTo; rw [h]; simp
    · unfold okVTo; rw [okVTo_bad h n (by omega)]; rfl
theorem goodV_bad {m : Int} {ps : List Pp} {vs : List Vv} {k : Nat} (hk : k < vs.length) (h : okV ps vs k = false) : goodV m ps vs = false := by
  unfold goodV; rw [okVTo_bad h _ hk]; simp
theorem okVTo_next {ps : List Pp} {vs : List Vv} {k : Nat} (h : okVTo ps vs k = true) (h' : okV ps vs k = true) : okVTo ps vs (k + 1) = true := by unfold okVTo; rw [h, h']; rfl
theorem okVTo_at {ps : List Pp} {vs : List Vv} : ∀ {n k : Nat}, okVTo ps vs n = true → k < n → okV ps vs k = true
  | 0, k, _, hk => absurd hk (by omega)
  | n + 1, k, h, hk => by
    unfold okVTo at h
    rw [Bool.and_eq_true] at h
    by_cases e : k = n
    · subst e; exact h.2
    · exact okVTo_at h.1 (by omega)
theorem goodV_fin {m : Int} {ps : List Pp} {vs : List Vv} (hg : goodN m ps = true) (hl : vs.length ≤ 10) (h : okVTo ps vs vs.length = true) : goodV m ps vs = true := by
  unfold goodV; rw [hg, h, decide_eq_true hl]; rfl
theorem goodV_out {m : Int} {ps : List Pp} {vs : List Vv} (h : goodN m ps = false ∨ 10 < vs.length) : goodV m ps vs = false := by
  unfold goodV
  rcases h with h | h
  · rw [h]; rfl
  · rw [decide_eq_false (by omega)]; simp
theorem okV_iff {ps : List Pp} {vs : List Vv} {i : Nat} {v : Vv} (hv : vs[i]? = some v) : okV ps vs i = true ↔ ((1 ≤ v.id ∧ v.id ≤ 99) ∧ above vs i v = true) ∧ endAt ps (findL ps v.pipe) v.node = true ∧ placed (vs.take i) v.pipe v.node = false := by
  unfold okV
  rw [hv]
  simp only [Bool.and_eq_true, inB_iff, Bool.not_eq_true', and_assoc]
def blocked (vs : List Vv) (pipe node : Int) (only : Bool) : Bool := vs.any (fun u => decide (u.pipe = pipe) && decide (u.node = node) && (!only || u.shut))
def linked (ps : List Pp) (q : Pp → Int → Bool) (a b : Int) : Prop := ∃ (i : Nat) (p : Pp) (v : Int), ps[i]? = some p ∧ (v = p.fr ∨ v = p.to) ∧ q p v = true ∧ ((a = v ∧ b = 9 + (i : Int)) ∨ (a = 9 + (i : Int) ∧ b = v))
theorem linked_symm (ps : List Pp) (q : Pp → Int → Bool) : Symm (linked ps q) := by
  rintro a b ⟨i, p, v, h1, h2, h3, h4⟩
  exact ⟨i, p, v, h1, h2, h3, h4.symm.imp (fun h => ⟨h.2, h.1⟩) (fun h => ⟨h.2, h.1⟩)⟩
end Go.Proofs.Ytdbgfejeleafgaa
namespace Go.Proofs.Ytdbgfejeleafgaa
open Go.RowKit
set_option linter.unusedVariables false
set_option linter.unusedSimpArgs false
set_option maxRecDepth 100000 in
set_option maxHeartbeats 8000000 in
theorem l1Put_any (A : Option Addr) (n c : Nat) (zs : List Int) (v : Int) (w : World) (ha : Rd w 1 A n (intsV zs)) (hf : Fm A n c) (hn : n ≤ 1000000) :
    Calls Try.prog 133 #[.slice A n c, .int .i64 v] w fun e w' => ∃ A' n' c', e = .returned (.slice A' n' c') ∧ Rd w' 1 A' n' (intsV (putL zs v)) ∧ Fm A' n' c' ∧ Below w.heap.size w w' := by
 have hl := rd_ints_len ha
 go_enter Try.func133, Try.ntmps133
 refine F.begin 45 [(0, .slice A n c), (1, .int .i64 v)] (fun U0 => ?_)
 refine wk fun K1 h1 => ?_
 refine Rq 1 ?_
 refine Fa (.slice none 0 0) ?_
 apply F.es
 apply h1
 refine wk fun K2 h2 => ?_
 refine Rq 1 ?_
 refine Fa (.int .i64 0) ?_
 apply F.es
 apply h2
 refine wk fun K3 h3 => ?_
 refine wp_block ?_
 refine loopK (fun am0 aa0 wl0 => ∃ (k : Nat) , Kn aa0 [(0, .slice A n c), (1, .int .i64 v), (4, .slice none 0 0), (5, .int .i64 (k : Int))] 45 ∧ (am0 = n - k) ∧ (k ≤ n) ∧ (∀ j z, j < k → zs[j]? = some z → z < v) ∧ (Below w.heap.size w wl0)) (n - 0) ?_ ?_
 ·exact ⟨0, Kn.of, rfl, (Nat.zero_le _), upto_zero, (Below.refl _ _)⟩
 rintro am0 aa0 wl0 K4 h4 ⟨k, ⟨U0, rfl⟩, rfl, hk, hok, c1⟩
 refine wk fun K5 h5 => ?_
 refine wk fun K6 h6 => ?_
 refine Rq 12 ?_
 refine Fv (.int .i64 (k : Int)) ?_
 refine Fv (.slice A n c) ?_
 refine Fq (.int .i64 (n : Int)) (r_len (A := A) (n := n) (c := c) rfl ek kk) ?_
 by_cases q2 : ((k : Int) : Int) < ((n : Int) : Int)
 ·refine Fq (.bool true) (r_lss (m := (k : Int)) (n := (n : Int)) rfl ek ek (dt q2)) ?_
  refine Fv (.bool true) ?_
  refine Fv (.slice A n c) ?_
  refine Fv (.int .i64 (k : Int)) ?_
  obtain ⟨x3, hx4⟩ := get_of (zs := zs) (k := k) (by have := hl; omega)
  obtain ⟨b5, o6, hA7, hb8, hc9⟩ := Rd.elInt ha hx4
  refine Fq (.pointer (some ⟨b5, o6 + k, none⟩)) (r_idx1 (n := n) (c := c) (k := k) rfl ek hA7 kk kk (by have := hl; omega)) ?_
  refine Fl (.int .i64 x3) (eqS (later c1 hc9)) ?_
  refine Fv (.int .i64 v) ?_
  by_cases q10 : (x3 : Int) < (v : Int)
  ·refine Fq (.bool true) (r_lss (m := x3) (n := v) rfl ek ek (dt q10)) ?_
   refine Fq (.bool true) (r_pick (b := true) rfl ek ek) ?_
   apply F.es
   apply h6
   refine wp_cond_true ek ?_
   apply wp_skip
   apply h5
   refine wp_block ?_
   refine Rq 3 ?_
   refine Fv (.int .i64 (k : Int)) ?_
   refine Fq (.int .i64 ((k + 1 : Nat) : Int)) (r_add (m := (k : Int)) (n := 1) (z := ((k + 1 : Nat) : Int)) rfl ek ek (by omega) (by omega)) ?_
   refine Fa (.int .i64 ((k + 1 : Nat) : Int)) ?_
   apply F.es
   exact h4 _ _ _ (by omega : (n - (k + 1)) < _) ⟨k + 1, Kn.of, rfl, (by omega), (upto_succ hok hx4 q10), c1⟩
  refine Fq (.bool false) (r_lss (m := x3) (n := v) rfl ek ek (df q10)) ?_
  refine Fq (.bool false) (r_pick (b := true) rfl ek ek) ?_
  apply F.es
  apply h6
  refine wp_cond_false ek ?_
  refine wp_exit ?_
  apply h3
  refine wk fun K7 h7 => ?_
  refine wk fun K8 h8 => ?_
  refine Rq 12 ?_
  refine Fv (.int .i64 (k : Int)) ?_
  refine Fv (.slice A n c) ?_
  refine Fq (.int .i64 (n : Int)) (r_len (A := A) (n := n) (c := c) rfl ek kk) ?_
  refine Fq (.bool true) (r_lss (m := (k : Int)) (n := (n : Int)) rfl ek ek (dt q2)) ?_
  refine Fv (.bool true) ?_
  refine Fv (.slice A n c) ?_
  refine Fv (.int .i64 (k : Int)) ?_
  refine Fq (.pointer (some ⟨b5, o6 + k, none⟩)) (r_idx1 (n := n) (c := c) (k := k) rfl ek hA7 kk kk (by have := hl; omega)) ?_
  refine Fl (.int .i64 x3) (eqS (later c1 hc9)) ?_
  refine Fv (.int .i64 v) ?_
  by_cases q11 : (x3 : Int) = (v : Int)
  ·refine Fq (.bool true) (r_eql (m := x3) (n := v) rfl ek ek (dt q11)) ?_
   refine Fq (.bool true) (r_pick (b := true) rfl ek ek) ?_
   apply F.es
   apply h8
   refine wp_cond_true ek ?_
   refine wk fun K9 h9 => ?_
   refine Rq 2 ?_
   refine Fv (.slice A n c) ?_
   refine Fa (.slice A n c) ?_
   apply F.es
   apply h9
   refine wp_ret ?_
   try simp only [Exit.then]
   refine ret1 (v := .slice A n c) rfl kk ?_
   have e9 : putL zs v = zs := by
     rw [putL_at v zs k hok (by omega) (fun z hz => by first | (have h9 := (List.getElem?_eq_some_iff.1 hz).1; omega) | (rw [hx4] at hz; cases hz; omega)), if_pos (by rw [hx4, q11])]
   exact ⟨_, _, _, rfl, (by rw [e9]; exact (Rk ha c1)), hf, c1⟩
  refine Fq (.bool false) (r_eql (m := x3) (n := v) rfl ek ek (df q11)) ?_
  refine Fq (.bool false) (r_pick (b := true) rfl ek ek) ?_
  apply F.es
  apply h8
  refine wp_cond_false ek ?_
  apply wp_skip
  apply h7
  refine wk fun K10 h10 => ?_
  refine W.region_sch (row := none) (Sch.app [(1, false), (2, false), (3, false), (5, false), (8, false), (9, false), (10, false)] (.br 0 6 (Sch.app [] (.br 4 6 (Sch.of [(6, true), (7, true), (11, true), (12, false)]) (Sch.of [(4, true), (7, true), (11, true), (12, false)]))) (Sch.of [(0, true), (4, true), (7, true), (11, true), (12, false)]))) kk kk (fun _ d _ _ _ h => by cases d <;> exact h) kk (fun w12 e13 s14 => ?_)
  refine Fv (.slice A n c) ?_
  refine Fv (.int .i64 (k : Int)) ?_
  refine Fq (.slice A k c) (r_sliceTo (A := A) (n := n) (c := c) (k := k) (size := 1) rfl ek ek kk (by have := (hf).le; omega)) ?_
  refine Fv (.int .i64 v) ?_
  refine Fv (.slice A n c) ?_
  refine Fv (.int .i64 (k : Int)) ?_
  refine Fq (.slice (sFrom A c k 1) (n - k) (c - k)) (r_sliceFrom (A := A) (n := n) (c := c) (k := k) (size := 1) rfl ek ek kk (by omega)) ?_
  refine W.sbr ?_ ?_
  ·refine W.sn (fun b => .slice (some ⟨b, 0, none⟩) 0 0) #[] 3 s14 rfl kk rfl (fun _ => by kernel_rfl) (fun b15 w16 hb17 k18 x19 s20 => ?_)
   apply F.nx
   have lo21 : w.heap.size ≤ b15 := Nl ((Sb c1 s14 nkk)).size (Nat.le_of_eq hb17)
   refine W.sbr ?_ ?_
   ·have ho22 := own_empty (base := w.heap.size) (size := 1) x19 lo21
    replace ho22 : World.ownsRow _ _ _ _ _ _ (intsV []) := ho22
    replace ho22 : World.ownsRow _ _ _ _ _ _ (intsV []) := ho22
    refine W.sapR (e := 3) (size := 1) (base := w.heap.size) (v := .slice (some ⟨b15, 0, none⟩) 0 0) (A := A) (m := k) (c := c) s20 rfl rfl rfl rfl kk kk kk ho22 (Rd.toI (Rk ha (Sb c1 s20 nkk)) (by omega)) (Fm.to hf (by have := (hf).le; omega)) (ints_one _) (by omega) (by have := ((Sb c1 s20 nkk)).size; omega) (.inr (fun kq e => by have := (s14).size; have := hb17; have e' := Option.some.inj e; simp at e'; omega)) (fun A23 cap24 w25 ho26 hg27 hat28 s29 => ?_)
    apply F.nx
    have ho26 := own_joinI ho26
    have fr30 : ∀ kq, (.slice A23 (0 + k) cap24 : Value).ownBlock = some kq → wl0.heap.size ≤ kq := fun kq e => by
      have hs := (s20).size
      rcases hat28 with h | h
      · exact (show ∀ kq, Value.ownBlock _ = some kq → wl0.heap.size ≤ kq from (fun kq e => by have := (s14).size; have := hb17; have e' := Option.some.inj e; simp at e'; omega)) kq (h.symm.trans e)
      · have := Option.some.inj (h.symm.trans e); omega
    refine W.sn (fun b => .slice (some ⟨b, 0, none⟩) 1 1) #[.int .i64 v] 3 s29 rfl kk rfl (fun _ => by kernel_rfl) (fun b31 w32 hb33 k34 x35 s36 => ?_)
    apply F.nx
    have lo37 : w.heap.size ≤ b31 := Nl ((Sb c1 s29 nkk)).size (Nat.le_of_eq hb33)
    have ho39 := own_kept ho26 k34
    refine W.sap (e := 3) (size := 1) (base := w.heap.size) (m := 1) (v := .slice A23 (0 + k) cap24) (c := 1) s36 rfl rfl rfl rfl kk kk kk ho39 x35 kk kk (by omega) (by omega) (by have := ((Sb c1 s36 nkk)).size; omega) (.inr fr30) (fun g40 cap41 w42 ho43 hg44 hat45 hlt46 s47 => ?_)
    apply F.nx
    have ho43 := own_snoc ho43
    have fr49 : ∀ kq, (.slice (some ⟨g40, 0, none⟩) ((0 + k) + 1) cap41 : Value).ownBlock = some kq → wl0.heap.size ≤ kq := fun kq e => by
      have hs := (s36).size
      have e' : g40 = kq := by simpa [Value.ownBlock] using e
      rcases hat45 with h | h
      · exact (show ∀ kq, Value.ownBlock _ = some kq → wl0.heap.size ≤ kq from fr30) kq (by rw [← e']; exact h)
      · omega
    refine W.sapR (e := 3) (size := 1) (base := w.heap.size) (v := .slice (some ⟨g40, 0, none⟩) ((0 + k) + 1) cap41) (A := (sFrom A c k 1)) (m := (n - k)) (c := (c - k)) s47 rfl rfl rfl rfl kk kk kk ho43 (Rd.fromI (Rk ha (Sb c1 s47 nkk)) (by omega) (hf).le) (Fm.from (size := 1) hf (by omega)) (ints_one _) (by omega) (by have := ((Sb c1 s47 nkk)).size; omega) (.inr fr49) (fun A50 cap51 w52 ho53 hg54 hat55 s56 => ?_)
    apply F.nx
    have ho53 := own_joinI ho53
    have fr58 : ∀ kq, (.slice A50 (((0 + k) + 1) + (n - k)) cap51 : Value).ownBlock = some kq → wl0.heap.size ≤ kq := fun kq e => by
      have hs := (s47).size
      rcases hat55 with h | h
      · exact (show ∀ kq, Value.ownBlock _ = some kq → wl0.heap.size ≤ kq from fr49) kq (h.symm.trans e)
      · have := Option.some.inj (h.symm.trans e); omega
    refine Fa (.slice A50 (((0 + k) + 1) + (n - k)) cap51) ?_
    apply F.es
    have c59 := (Sb c1 s56 nkk)
    apply h10
    refine wp_ret ?_
    try simp only [Exit.then]
    refine ret1 (v := .slice A50 (((0 + k) + 1) + (n - k)) cap51) rfl kk ?_
    have e9 : putL zs v = ((([] ++ (zs.take k)) ++ [v]) ++ (zs.drop k)) := by
      rw [putL_at v zs k hok (by omega) (fun z hz => by first | (have h9 := (List.getElem?_eq_some_iff.1 hz).1; omega) | (rw [hx4] at hz; cases hz; omega)), if_neg (by rw [hx4]; intro e; cases e; omega)]; simp
    exact ⟨_, _, _, rfl, (by rw [e9]; exact own_rd ho53), own_fm ho53, c59⟩
   refine W.sn (fun b => .slice (some ⟨b, 0, none⟩) 1 1) #[.int .i64 v] 3 s20 rfl kk rfl (fun _ => by kernel_rfl) (fun b60 w61 hb62 k63 x64 s65 => ?_)
   apply F.nx
   have lo66 : w.heap.size ≤ b60 := Nl ((Sb c1 s20 nkk)).size (Nat.le_of_eq hb62)
   have ne67 : b15 ≠ b60 := Nat.ne_of_lt (Nat.lt_of_lt_of_eq (blk_lt x19) hb62)
   have x19 := (k63.block _ (blk_lt x19)).trans x19
   have ho68 := own_empty (base := w.heap.size) (size := 1) x19 lo21
   replace ho68 : World.ownsRow _ _ _ _ _ _ (intsV []) := ho68
   have nb69 : Nb b60 (.slice (some ⟨b15, 0, none⟩) 0 0) := nb_new (Ne.symm ne67)
   replace ho68 : World.ownsRow _ _ _ _ _ _ (intsV []) := ho68
   refine W.sapR (e := 3) (size := 1) (base := w.heap.size) (v := .slice (some ⟨b15, 0, none⟩) 0 0) (A := A) (m := k) (c := c) s65 rfl rfl rfl rfl kk kk kk ho68 (Rd.toI (Rk ha (Sb c1 s65 nkk)) (by omega)) (Fm.to hf (by have := (hf).le; omega)) (ints_one _) (by omega) (by have := ((Sb c1 s65 nkk)).size; omega) (.inr (fun kq e => by have := (s14).size; have := hb17; have e' := Option.some.inj e; simp at e'; omega)) (fun A70 cap71 w72 ho73 hg74 hat75 s76 => ?_)
   apply F.nx
   have x64 := (hg74.block _ (blk_lt x64) nb69).trans x64
   have ho73 := own_joinI ho73
   have fr78 : ∀ kq, (.slice A70 (0 + k) cap71 : Value).ownBlock = some kq → wl0.heap.size ≤ kq := fun kq e => by
     have hs := (s65).size
     rcases hat75 with h | h
     · exact (show ∀ kq, Value.ownBlock _ = some kq → wl0.heap.size ≤ kq from (fun kq e => by have := (s14).size; have := hb17; have e' := Option.some.inj e; simp at e'; omega)) kq (h.symm.trans e)
     · have := Option.some.inj (h.symm.trans e); omega
   refine W.sap (e := 3) (size := 1) (base := w.heap.size) (m := 1) (v := .slice A70 (0 + k) cap71) (c := 1) s76 rfl rfl rfl rfl kk kk kk ho73 x64 kk kk (by omega) (by omega) (by have := ((Sb c1 s76 nkk)).size; omega) (.inr fr78) (fun g79 cap80 w81 ho82 hg83 hat84 hlt85 s86 => ?_)
   apply F.nx
   have ho82 := own_snoc ho82
   have fr88 : ∀ kq, (.slice (some ⟨g79, 0, none⟩) ((0 + k) + 1) cap80 : Value).ownBlock = some kq → wl0.heap.size ≤ kq := fun kq e => by
     have hs := (s76).size
     have e' : g79 = kq := by simpa [Value.ownBlock] using e
     rcases hat84 with h | h
     · exact (show ∀ kq, Value.ownBlock _ = some kq → wl0.heap.size ≤ kq from fr78) kq (by rw [← e']; exact h)
     · omega
   refine W.sapR (e := 3) (size := 1) (base := w.heap.size) (v := .slice (some ⟨g79, 0, none⟩) ((0 + k) + 1) cap80) (A := (sFrom A c k 1)) (m := (n - k)) (c := (c - k)) s86 rfl rfl rfl rfl kk kk kk ho82 (Rd.fromI (Rk ha (Sb c1 s86 nkk)) (by omega) (hf).le) (Fm.from (size := 1) hf (by omega)) (ints_one _) (by omega) (by have := ((Sb c1 s86 nkk)).size; omega) (.inr fr88) (fun A89 cap90 w91 ho92 hg93 hat94 s95 => ?_)
   apply F.nx
   have ho92 := own_joinI ho92
   have fr97 : ∀ kq, (.slice A89 (((0 + k) + 1) + (n - k)) cap90 : Value).ownBlock = some kq → wl0.heap.size ≤ kq := fun kq e => by
     have hs := (s86).size
     rcases hat94 with h | h
     · exact (show ∀ kq, Value.ownBlock _ = some kq → wl0.heap.size ≤ kq from fr88) kq (h.symm.trans e)
     · have := Option.some.inj (h.symm.trans e); omega
   refine Fa (.slice A89 (((0 + k) + 1) + (n - k)) cap90) ?_
   apply F.es
   have c98 := (Sb c1 s95 nkk)
   apply h10
   refine wp_ret ?_
   try simp only [Exit.then]
   refine ret1 (v := .slice A89 (((0 + k) + 1) + (n - k)) cap90) rfl kk ?_
   have e9 : putL zs v = ((([] ++ (zs.take k)) ++ [v]) ++ (zs.drop k)) := by
     rw [putL_at v zs k hok (by omega) (fun z hz => by first | (have h9 := (List.getElem?_eq_some_iff.1 hz).1; omega) | (rw [hx4] at hz; cases hz; omega)), if_neg (by rw [hx4]; intro e; cases e; omega)]; simp
   exact ⟨_, _, _, rfl, (by rw [e9]; exact own_rd ho92), own_fm ho92, c98⟩
  refine W.sn (fun b => .slice (some ⟨b, 0, none⟩) 1 1) #[.int .i64 v] 3 s14 rfl kk rfl (fun _ => by kernel_rfl) (fun b99 w100 hb101 k102 x103 s104 => ?_)
  apply F.nx
  have lo105 : w.heap.size ≤ b99 := Nl ((Sb c1 s14 nkk)).size (Nat.le_of_eq hb101)
  refine W.sn (fun b => .slice (some ⟨b, 0, none⟩) 0 0) #[] 3 s104 rfl kk rfl (fun _ => by kernel_rfl) (fun b106 w107 hb108 k109 x110 s111 => ?_)
  apply F.nx
  have lo112 : w.heap.size ≤ b106 := Nl ((Sb c1 s104 nkk)).size (Nat.le_of_eq hb108)
  have ne113 : b99 ≠ b106 := Nat.ne_of_lt (Nat.lt_of_lt_of_eq (blk_lt x103) hb108)
  have x103 := (k109.block _ (blk_lt x103)).trans x103
  have ho114 := own_empty (base := w.heap.size) (size := 1) x110 lo112
  replace ho114 : World.ownsRow _ _ _ _ _ _ (intsV []) := ho114
  have nb115 : Nb b99 (.slice (some ⟨b106, 0, none⟩) 0 0) := nb_new ne113
  replace ho114 : World.ownsRow _ _ _ _ _ _ (intsV []) := ho114
  refine W.sapR (e := 3) (size := 1) (base := w.heap.size) (v := .slice (some ⟨b106, 0, none⟩) 0 0) (A := A) (m := k) (c := c) s111 rfl rfl rfl rfl kk kk kk ho114 (Rd.toI (Rk ha (Sb c1 s111 nkk)) (by omega)) (Fm.to hf (by have := (hf).le; omega)) (ints_one _) (by omega) (by have := ((Sb c1 s111 nkk)).size; omega) (.inr (fun kq e => by have := (s104).size; have := hb108; have e' := Option.some.inj e; simp at e'; omega)) (fun A116 cap117 w118 ho119 hg120 hat121 s122 => ?_)
  apply F.nx
  have x103 := (hg120.block _ (blk_lt x103) nb115).trans x103
  have ho119 := own_joinI ho119
  have fr124 : ∀ kq, (.slice A116 (0 + k) cap117 : Value).ownBlock = some kq → wl0.heap.size ≤ kq := fun kq e => by
    have hs := (s111).size
    rcases hat121 with h | h
    · exact (show ∀ kq, Value.ownBlock _ = some kq → wl0.heap.size ≤ kq from (fun kq e => by have := (s104).size; have := hb108; have e' := Option.some.inj e; simp at e'; omega)) kq (h.symm.trans e)
    · have := Option.some.inj (h.symm.trans e); omega
  refine W.sap (e := 3) (size := 1) (base := w.heap.size) (m := 1) (v := .slice A116 (0 + k) cap117) (c := 1) s122 rfl rfl rfl rfl kk kk kk ho119 x103 kk kk (by omega) (by omega) (by have := ((Sb c1 s122 nkk)).size; omega) (.inr fr124) (fun g125 cap126 w127 ho128 hg129 hat130 hlt131 s132 => ?_)
  apply F.nx
  have ho128 := own_snoc ho128
  have fr134 : ∀ kq, (.slice (some ⟨g125, 0, none⟩) ((0 + k) + 1) cap126 : Value).ownBlock = some kq → wl0.heap.size ≤ kq := fun kq e => by
    have hs := (s122).size
    have e' : g125 = kq := by simpa [Value.ownBlock] using e
    rcases hat130 with h | h
    · exact (show ∀ kq, Value.ownBlock _ = some kq → wl0.heap.size ≤ kq from fr124) kq (by rw [← e']; exact h)
    · omega
  refine W.sapR (e := 3) (size := 1) (base := w.heap.size) (v := .slice (some ⟨g125, 0, none⟩) ((0 + k) + 1) cap126) (A := (sFrom A c k 1)) (m := (n - k)) (c := (c - k)) s132 rfl rfl rfl rfl kk kk kk ho128 (Rd.fromI (Rk ha (Sb c1 s132 nkk)) (by omega) (hf).le) (Fm.from (size := 1) hf (by omega)) (ints_one _) (by omega) (by have := ((Sb c1 s132 nkk)).size; omega) (.inr fr134) (fun A135 cap136 w137 ho138 hg139 hat140 s141 => ?_)
  apply F.nx
  have ho138 := own_joinI ho138
  have fr143 : ∀ kq, (.slice A135 (((0 + k) + 1) + (n - k)) cap136 : Value).ownBlock = some kq → wl0.heap.size ≤ kq := fun kq e => by
    have hs := (s132).size
    rcases hat140 with h | h
    · exact (show ∀ kq, Value.ownBlock _ = some kq → wl0.heap.size ≤ kq from fr134) kq (h.symm.trans e)
    · have := Option.some.inj (h.symm.trans e); omega
  refine Fa (.slice A135 (((0 + k) + 1) + (n - k)) cap136) ?_
  apply F.es
  have c144 := (Sb c1 s141 nkk)
  apply h10
  refine wp_ret ?_
  try simp only [Exit.then]
  refine ret1 (v := .slice A135 (((0 + k) + 1) + (n - k)) cap136) rfl kk ?_
  have e9 : putL zs v = ((([] ++ (zs.take k)) ++ [v]) ++ (zs.drop k)) := by
    rw [putL_at v zs k hok (by omega) (fun z hz => by first | (have h9 := (List.getElem?_eq_some_iff.1 hz).1; omega) | (rw [hx4] at hz; cases hz; omega)), if_neg (by rw [hx4]; intro e; cases e; omega)]; simp
  exact ⟨_, _, _, rfl, (by rw [e9]; exact own_rd ho138), own_fm ho138, c144⟩
 refine Fq (.bool false) (r_lss (m := (k : Int)) (n := (n : Int)) rfl ek ek (df q2)) ?_
 refine Fv (.bool false) ?_
 refine Fs rfl ?_
 refine Fs rfl ?_
 refine Fs rfl ?_
 refine Fs rfl ?_
 refine Fs rfl ?_
 refine Fs rfl ?_
 refine Fq (.bool false) (r_pick (b := false) rfl ek ek) ?_
 apply F.es
 apply h6
 refine wp_cond_false ek ?_
 refine wp_exit ?_
 apply h3
 refine wk fun K11 h11 => ?_
 refine wk fun K12 h12 => ?_
 refine Rq 12 ?_
 refine Fv (.int .i64 (k : Int)) ?_
 refine Fv (.slice A n c) ?_
 refine Fq (.int .i64 (n : Int)) (r_len (A := A) (n := n) (c := c) rfl ek kk) ?_
 refine Fq (.bool false) (r_lss (m := (k : Int)) (n := (n : Int)) rfl ek ek (df q2)) ?_
 refine Fv (.bool false) ?_
 refine Fs rfl ?_
 refine Fs rfl ?_
 refine Fs rfl ?_
 refine Fs rfl ?_
 refine Fs rfl ?_
 refine Fs rfl ?_
 refine Fq (.bool false) (r_pick (b := false) rfl ek ek) ?_
 apply F.es
 apply h12
 refine wp_cond_false ek ?_
 apply wp_skip
 apply h11
 refine wk fun K13 h13 => ?_
 refine W.region_sch (row := none) (Sch.app [(1, false), (2, false), (3, false), (5, false), (8, false), (9, false), (10, false)] (.br 0 6 (Sch.app [] (.br 4 6 (Sch.of [(6, true), (7, true), (11, true), (12, false)]) (Sch.of [(4, true), (7, true), (11, true), (12, false)]))) (Sch.of [(0, true), (4, true), (7, true), (11, true), (12, false)]))) kk kk (fun _ d _ _ _ h => by cases d <;> exact h) kk (fun w145 e146 s147 => ?_)
 refine Fv (.slice A n c) ?_
 refine Fv (.int .i64 (k : Int)) ?_
 refine Fq (.slice A k c) (r_sliceTo (A := A) (n := n) (c := c) (k := k) (size := 1) rfl ek ek kk (by have := (hf).le; omega)) ?_
 refine Fv (.int .i64 v) ?_
 refine Fv (.slice A n c) ?_
 refine Fv (.int .i64 (k : Int)) ?_
 refine Fq (.slice (sFrom A c k 1) (n - k) (c - k)) (r_sliceFrom (A := A) (n := n) (c := c) (k := k) (size := 1) rfl ek ek kk (by omega)) ?_
 refine W.sbr ?_ ?_
 ·refine W.sn (fun b => .slice (some ⟨b, 0, none⟩) 0 0) #[] 3 s147 rfl kk rfl (fun _ => by kernel_rfl) (fun b148 w149 hb150 k151 x152 s153 => ?_)
  apply F.nx
  have lo154 : w.heap.size ≤ b148 := Nl ((Sb c1 s147 nkk)).size (Nat.le_of_eq hb150)
  refine W.sbr ?_ ?_
  ·have ho155 := own_empty (base := w.heap.size) (size := 1) x152 lo154
   replace ho155 : World.ownsRow _ _ _ _ _ _ (intsV []) := ho155
   replace ho155 : World.ownsRow _ _ _ _ _ _ (intsV []) := ho155
   refine W.sapR (e := 3) (size := 1) (base := w.heap.size) (v := .slice (some ⟨b148, 0, none⟩) 0 0) (A := A) (m := k) (c := c) s153 rfl rfl rfl rfl kk kk kk ho155 (Rd.toI (Rk ha (Sb c1 s153 nkk)) (by omega)) (Fm.to hf (by have := (hf).le; omega)) (ints_one _) (by omega) (by have := ((Sb c1 s153 nkk)).size; omega) (.inr (fun kq e => by have := (s147).size; have := hb150; have e' := Option.some.inj e; simp at e'; omega)) (fun A156 cap157 w158 ho159 hg160 hat161 s162 => ?_)
   apply F.nx
   have ho159 := own_joinI ho159
   have fr163 : ∀ kq, (.slice A156 (0 + k) cap157 : Value).ownBlock = some kq → wl0.heap.size ≤ kq := fun kq e => by
     have hs := (s153).size
     rcases hat161 with h | h
     · exact (show ∀ kq, Value.ownBlock _ = some kq → wl0.heap.size ≤ kq from (fun kq e => by have := (s147).size; have := hb150; have e' := Option.some.inj e; simp at e'; omega)) kq (h.symm.trans e)
     · have := Option.some.inj (h.symm.trans e); omega
   refine W.sn (fun b => .slice (some ⟨b, 0, none⟩) 1 1) #[.int .i64 v] 3 s162 rfl kk rfl (fun _ => by kernel_rfl) (fun b164 w165 hb166 k167 x168 s169 => ?_)
   apply F.nx
   have lo170 : w.heap.size ≤ b164 := Nl ((Sb c1 s162 nkk)).size (Nat.le_of_eq hb166)
   have ho172 := own_kept ho159 k167
   refine W.sap (e := 3) (size := 1) (base := w.heap.size) (m := 1) (v := .slice A156 (0 + k) cap157) (c := 1) s169 rfl rfl rfl rfl kk kk kk ho172 x168 kk kk (by omega) (by omega) (by have := ((Sb c1 s169 nkk)).size; omega) (.inr fr163) (fun g173 cap174 w175 ho176 hg177 hat178 hlt179 s180 => ?_)
   apply F.nx
   have ho176 := own_snoc ho176
   have fr182 : ∀ kq, (.slice (some ⟨g173, 0, none⟩) ((0 + k) + 1) cap174 : Value).ownBlock = some kq → wl0.heap.size ≤ kq := fun kq e => by
     have hs := (s169).size
     have e' : g173 = kq := by simpa [Value.ownBlock] using e
     rcases hat178 with h | h
     · exact (show ∀ kq, Value.ownBlock _ = some kq → wl0.heap.size ≤ kq from fr163) kq (by rw [← e']; exact h)
     · omega
   refine W.sapR (e := 3) (size := 1) (base := w.heap.size) (v := .slice (some ⟨g173, 0, none⟩) ((0 + k) + 1) cap174) (A := (sFrom A c k 1)) (m := (n - k)) (c := (c - k)) s180 rfl rfl rfl rfl kk kk kk ho176 (Rd.fromI (Rk ha (Sb c1 s180 nkk)) (by omega) (hf).le) (Fm.from (size := 1) hf (by omega)) (ints_one _) (by omega) (by have := ((Sb c1 s180 nkk)).size; omega) (.inr fr182) (fun A183 cap184 w185 ho186 hg187 hat188 s189 => ?_)
   apply F.nx
   have ho186 := own_joinI ho186
   have fr191 : ∀ kq, (.slice A183 (((0 + k) + 1) + (n - k)) cap184 : Value).ownBlock = some kq → wl0.heap.size ≤ kq := fun kq e => by
     have hs := (s180).size
     rcases hat188 with h | h
     · exact (show ∀ kq, Value.ownBlock _ = some kq → wl0.heap.size ≤ kq from fr182) kq (h.symm.trans e)
     · have := Option.some.inj (h.symm.trans e); omega
   refine Fa (.slice A183 (((0 + k) + 1) + (n - k)) cap184) ?_
   apply F.es
   have c192 := (Sb c1 s189 nkk)
   apply h13
   refine wp_ret ?_
   try simp only [Exit.then]
   refine ret1 (v := .slice A183 (((0 + k) + 1) + (n - k)) cap184) rfl kk ?_
   have e9 : putL zs v = ((([] ++ (zs.take k)) ++ [v]) ++ (zs.drop k)) := by
     rw [putL_at v zs k hok (by omega) (fun z hz => by first | (have h9 := (List.getElem?_eq_some_iff.1 hz).1; omega)), if_neg (by intro e; have h9 := (List.getElem?_eq_some_iff.1 e).1; omega)]; simp
   exact ⟨_, _, _, rfl, (by rw [e9]; exact own_rd ho186), own_fm ho186, c192⟩
  refine W.sn (fun b => .slice (some ⟨b, 0, none⟩) 1 1) #[.int .i64 v] 3 s153 rfl kk rfl (fun _ => by kernel_rfl) (fun b193 w194 hb195 k196 x197 s198 => ?_)
  apply F.nx
  have lo199 : w.heap.size ≤ b193 := Nl ((Sb c1 s153 nkk)).size (Nat.le_of_eq hb195)
  have ne200 : b148 ≠ b193 := Nat.ne_of_lt (Nat.lt_of_lt_of_eq (blk_lt x152) hb195)
  have x152 := (k196.block _ (blk_lt x152)).trans x152
  have ho201 := own_empty (base := w.heap.size) (size := 1) x152 lo154
  replace ho201 : World.ownsRow _ _ _ _ _ _ (intsV []) := ho201
  have nb202 : Nb b193 (.slice (some ⟨b148, 0, none⟩) 0 0) := nb_new (Ne.symm ne200)
  replace ho201 : World.ownsRow _ _ _ _ _ _ (intsV []) := ho201
  refine W.sapR (e := 3) (size := 1) (base := w.heap.size) (v := .slice (some ⟨b148, 0, none⟩) 0 0) (A := A) (m := k) (c := c) s198 rfl rfl rfl rfl kk kk kk ho201 (Rd.toI (Rk ha (Sb c1 s198 nkk)) (by omega)) (Fm.to hf (by have := (hf).le; omega)) (ints_one _) (by omega) (by have := ((Sb c1 s198 nkk)).size; omega) (.inr (fun kq e => by have := (s147).size; have := hb150; have e' := Option.some.inj e; simp at e'; omega)) (fun A203 cap204 w205 ho206 hg207 hat208 s209 => ?_)
  apply F.nx
  have x197 := (hg207.block _ (blk_lt x197) nb202).trans x197
  have ho206 := own_joinI ho206
  have fr211 : ∀ kq, (.slice A203 (0 + k) cap204 : Value).ownBlock = some kq → wl0.heap.size ≤ kq := fun kq e => by
    have hs := (s198).size
    rcases hat208 with h | h
    · exact (show ∀ kq, Value.ownBlock _ = some kq → wl0.heap.size ≤ kq from (fun kq e => by have := (s147).size; have := hb150; have e' := Option.some.inj e; simp at e'; omega)) kq (h.symm.trans e)
    · have := Option.some.inj (h.symm.trans e); omega
  refine W.sap (e := 3) (size := 1) (base := w.heap.size) (m := 1) (v := .slice A203 (0 + k) cap204) (c := 1) s209 rfl rfl rfl rfl kk kk kk ho206 x197 kk kk (by omega) (by omega) (by have := ((Sb c1 s209 nkk)).size; omega) (.inr fr211) (fun g212 cap213 w214 ho215 hg216 hat217 hlt218 s219 => ?_)
  apply F.nx
  have ho215 := own_snoc ho215
  have fr221 : ∀ kq, (.slice (some ⟨g212, 0, none⟩) ((0 + k) + 1) cap213 : Value).ownBlock = some kq → wl0.heap.size ≤ kq := fun kq e => by
    have hs := (s209).size
    have e' : g212 = kq := by simpa [Value.ownBlock] using e
    rcases hat217 with h | h
    · exact (show ∀ kq, Value.ownBlock _ = some kq → wl0.heap.size ≤ kq from fr211) kq (by rw [← e']; exact h)
    · omega
  refine W.sapR (e := 3) (size := 1) (base := w.heap.size) (v := .slice (some ⟨g212, 0, none⟩) ((0 + k) + 1) cap213) (A := (sFrom A c k 1)) (m := (n - k)) (c := (c - k)) s219 rfl rfl rfl rfl kk kk kk ho215 (Rd.fromI (Rk ha (Sb c1 s219 nkk)) (by omega) (hf).le) (Fm.from (size := 1) hf (by omega)) (ints_one _) (by omega) (by have := ((Sb c1 s219 nkk)).size; omega) (.inr fr221) (fun A222 cap223 w224 ho225 hg226 hat227 s228 => ?_)
  apply F.nx
  have ho225 := own_joinI ho225
  have fr230 : ∀ kq, (.slice A222 (((0 + k) + 1) + (n - k)) cap223 : Value).ownBlock = some kq → wl0.heap.size ≤ kq := fun kq e => by
    have hs := (s219).size
    rcases hat227 with h | h
    · exact (show ∀ kq, Value.ownBlock _ = some kq → wl0.heap.size ≤ kq from fr221) kq (h.symm.trans e)
    · have := Option.some.inj (h.symm.trans e); omega
  refine Fa (.slice A222 (((0 + k) + 1) + (n - k)) cap223) ?_
  apply F.es
  have c231 := (Sb c1 s228 nkk)
  apply h13
  refine wp_ret ?_
  try simp only [Exit.then]
  refine ret1 (v := .slice A222 (((0 + k) + 1) + (n - k)) cap223) rfl kk ?_
  have e9 : putL zs v = ((([] ++ (zs.take k)) ++ [v]) ++ (zs.drop k)) := by
    rw [putL_at v zs k hok (by omega) (fun z hz => by first | (have h9 := (List.getElem?_eq_some_iff.1 hz).1; omega)), if_neg (by intro e; have h9 := (List.getElem?_eq_some_iff.1 e).1; omega)]; simp
  exact ⟨_, _, _, rfl, (by rw [e9]; exact own_rd ho225), own_fm ho225, c231⟩
 refine W.sn (fun b => .slice (some ⟨b, 0, none⟩) 1 1) #[.int .i64 v] 3 s147 rfl kk rfl (fun _ => by kernel_rfl) (fun b232 w233 hb234 k235 x236 s237 => ?_)
 apply F.nx
 have lo238 : w.heap.size ≤ b232 := Nl ((Sb c1 s147 nkk)).size (Nat.le_of_eq hb234)
 refine W.sn (fun b => .slice (some ⟨b, 0, none⟩) 0 0) #[] 3 s237 rfl kk rfl (fun _ => by kernel_rfl) (fun b239 w240 hb241 k242 x243 s244 => ?_)
 apply F.nx
 have lo245 : w.heap.size ≤ b239 := Nl ((Sb c1 s237 nkk)).size (Nat.le_of_eq hb241)
 have ne246 : b232 ≠ b239 := Nat.ne_of_lt (Nat.lt_of_lt_of_eq (blk_lt x236) hb241)
 have x236 := (k242.block _ (blk_lt x236)).trans x236
 have ho247 := own_empty (base := w.heap.size) (size := 1) x243 lo245
 replace ho247 : World.ownsRow _ _ _ _ _ _ (intsV []) := ho247
 have nb248 : Nb b232 (.slice (some ⟨b239, 0, none⟩) 0 0) := nb_new ne246
 replace ho247 : World.ownsRow _ _ _ _ _ _ (intsV []) := ho247
 refine W.sapR (e := 3) (size := 1) (base := w.heap.size) (v := .slice (some ⟨b239, 0, none⟩) 0 0) (A := A) (m := k) (c := c) s244 rfl rfl rfl rfl kk kk kk ho247 (Rd.toI (Rk ha (Sb c1 s244 nkk)) (by omega)) (Fm.to hf (by have := (hf).le; omega)) (ints_one _) (by omega) (by have := ((Sb c1 s244 nkk)).size; omega) (.inr (fun kq e => by have := (s237).size; have := hb241; have e' := Option.some.inj e; simp at e'; omega)) (fun A249 cap250 w251 ho252 hg253 hat254 s255 => ?_)
 apply F.nx
 have x236 := (hg253.block _ (blk_lt x236) nb248).trans x236
 have ho252 := own_joinI ho252
 have fr257 : ∀ kq, (.slice A249 (0 + k) cap250 : Value).ownBlock = some kq → wl0.heap.size ≤ kq := fun kq e => by
   have hs := (s244).size
   rcases hat254 with h | h
   · exact (show ∀ kq, Value.ownBlock _ = some kq → wl0.heap.size ≤ kq from (fun kq e => by have := (s237).size; have := hb241; have e' := Option.some.inj e; simp at e'; omega)) kq (h.symm.trans e)
   · have := Option.some.inj (h.symm.trans e); omega
 refine W.sap (e := 3) (size := 1) (base := w.heap.size) (m := 1) (v := .slice A249 (0 + k) cap250) (c := 1) s255 rfl rfl rfl rfl kk kk kk ho252 x236 kk kk (by omega) (by omega) (by have := ((Sb c1 s255 nkk)).size; omega) (.inr fr257) (fun g258 cap259 w260 ho261 hg262 hat263 hlt264 s265 => ?_)
 apply F.nx
 have ho261 := own_snoc ho261
 have fr267 : ∀ kq, (.slice (some ⟨g258, 0, none⟩) ((0 + k) + 1) cap259 : Value).ownBlock = some kq → wl0.heap.size ≤ kq := fun kq e => by
   have hs := (s255).size
   have e' : g258 = kq := by simpa [Value.ownBlock] using e
   rcases hat263 with h | h
   · exact (show ∀ kq, Value.ownBlock _ = some kq → wl0.heap.size ≤ kq from fr257) kq (by rw [← e']; exact h)
   · omega
 refine W.sapR (e := 3) (size := 1) (base := w.heap.size) (v := .slice (some ⟨g258, 0, none⟩) ((0 + k) + 1) cap259) (A := (sFrom A c k 1)) (m := (n - k)) (c := (c - k)) s265 rfl rfl rfl rfl kk kk kk ho261 (Rd.fromI (Rk ha (Sb c1 s265 nkk)) (by omega) (hf).le) (Fm.from (size := 1) hf (by omega)) (ints_one _) (by omega) (by have := ((Sb c1 s265 nkk)).size; omega) (.inr fr267) (fun A268 cap269 w270 ho271 hg272 hat273 s274 => ?_)
 apply F.nx
 have ho271 := own_joinI ho271
 have fr276 : ∀ kq, (.slice A268 (((0 + k) + 1) + (n - k)) cap269 : Value).ownBlock = some kq → wl0.heap.size ≤ kq := fun kq e => by
   have hs := (s265).size
   rcases hat273 with h | h
   · exact (show ∀ kq, Value.ownBlock _ = some kq → wl0.heap.size ≤ kq from fr267) kq (h.symm.trans e)
   · have := Option.some.inj (h.symm.trans e); omega
 refine Fa (.slice A268 (((0 + k) + 1) + (n - k)) cap269) ?_
 apply F.es
 have c277 := (Sb c1 s274 nkk)
 apply h13
 refine wp_ret ?_
 try simp only [Exit.then]
 refine ret1 (v := .slice A268 (((0 + k) + 1) + (n - k)) cap269) rfl kk ?_
 have e9 : putL zs v = ((([] ++ (zs.take k)) ++ [v]) ++ (zs.drop k)) := by
   rw [putL_at v zs k hok (by omega) (fun z hz => by first | (have h9 := (List.getElem?_eq_some_iff.1 hz).1; omega)), if_neg (by intro e; have h9 := (List.getElem?_eq_some_iff.1 e).1; omega)]; simp
 exact ⟨_, _, _, rfl, (by rw [e9]; exact own_rd ho271), own_fm ho271, c277⟩
end Go.Proofs.Ytdbgfejeleafgaa
namespace Go.Proofs.Ytdbgfejeleafgaa
open Go.RowKit
set_option linter.unusedVariables false
set_option linter.unusedSimpArgs false
theorem putL_len_ge (zs : List Int) (n : Int) : zs.length ≤ (putL zs n).length := by
  induction zs with
  | nil => simp [putL]
  | cons z zs ih => unfold putL; split
                    · simp; omega
                    · split <;> simp
structure Fnd (ps : List Pp) (m : Nat) (v : Int) (ys : List Int) : Prop where
  s : sorted ys
  h0 : v ∈ ys
  r : ∀ b, b ∈ ys → Reach (joined ps) v b
theorem Fnd.len {ps : List Pp} {m : Nat} {v : Int} {ys : List Int} (h : Fnd ps m v ys) (hp : pipesIn ps m) (hv : 1 ≤ v ∧ v ≤ m) : ys.length ≤ m :=
  sorted_len h.s (fun b hb => reach_in (joined_in hp) hv (h.r b hb))
theorem Fnd.put {ps : List Pp} {m : Nat} {v : Int} {ys : List Int} (h : Fnd ps m v ys) {k : Nat} {x : Pp} (hx : ps[k]? = some x) (hne : ys.contains x.fr ≠ ys.contains x.to) : Fnd ps m v (putL (putL ys x.fr) x.to) := by
  refine ⟨sorted_putL _ _ (sorted_putL _ _ h.s), (mem_putL _ _ _).2 (.inr ((mem_putL _ _ _).2 (.inr h.h0))), fun b hb => ?_⟩
  have hj : joined ps x.fr x.to := ⟨x, List.mem_of_getElem? hx, .inl ⟨rfl, rfl⟩⟩
  have hone : x.fr ∈ ys ∨ x.to ∈ ys := by
    by_cases h1 : x.fr ∈ ys
    · exact .inl h1
    · by_cases h2 : x.to ∈ ys
      · exact .inr h2
      · exact absurd (by rw [show ys.contains x.fr = false by simpa using h1, show ys.contains x.to = false by simpa using h2]) hne
  have hr : Reach (joined ps) v x.fr ∧ Reach (joined ps) v x.to := by
    rcases hone with h1 | h1
    · exact ⟨h.r _ h1, reach_step (h.r _ h1) hj⟩
    · exact ⟨reach_step (h.r _ h1) (joined_symm ps _ _ hj), h.r _ h1⟩
  rcases (mem_putL _ _ _).1 hb with e | e
  · rw [e]; exact hr.2
  · rcases (mem_putL _ _ _).1 e with e | e
    · rw [e]; exact hr.1
    · exact h.r b e
def shutTo (ps : List Pp) (ys : List Int) (i : Nat) : Prop := ∀ j p, j < i → ps[j]? = some p → (p.fr ∈ ys ↔ p.to ∈ ys)
theorem shutTo.next {ps : List Pp} {ys : List Int} {i : Nat} {x : Pp} (h : shutTo ps ys i) (hx : ps[i]? = some x) (he : ys.contains x.fr = ys.contains x.to) : shutTo ps ys (i + 1) := by
  unfold shutTo at h ⊢
  exact upto_succ (Q := fun p => p.fr ∈ ys ↔ p.to ∈ ys) h hx (by rw [← List.contains_iff_mem, ← List.contains_iff_mem, he])
theorem Fnd.fin {ps : List Pp} {m : Nat} {v : Int} {ys : List Int} (h : Fnd ps m v ys) (hp : pipesIn ps m) (hv : 1 ≤ v ∧ v ≤ m) (hc : shutTo ps ys ps.length) : ys = reachList (joined ps) m v := by
  refine reachList_of (joined_in hp) hv h.s h.h0 h.r (fun b c hb hj => ?_)
  obtain ⟨p, hm, he⟩ := hj
  obtain ⟨i, hi, hg⟩ := List.getElem_of_mem hm
  have := hc i p hi (by rw [List.getElem?_eq_getElem hi, hg])
  rcases he with ⟨rfl, rfl⟩ | ⟨rfl, rfl⟩
  · exact this.1 hb
  · exact this.2 hb
end Go.Proofs.Ytdbgfejeleafgaa
namespace Go.Proofs.Ytdbgfejeleafgaa
open Go.RowKit
set_option linter.unusedVariables false
noncomputable def rb (E : Int → Int → Prop) (a b : Int) : Bool := decide (0 ≤ distOf E a b)
theorem rb_iff {E : Int → Int → Prop} {a b : Int} : rb E a b = true ↔ Reach E a b := by unfold rb; rw [decide_eq_true_iff, dist_pos]
noncomputable def wetL (E : Int → Int → Prop) (a : Int) : List Bool := (List.range 19).map (fun i => rb E a ((i : Nat) : Int))
theorem wetL_len (E : Int → Int → Prop) (a : Int) : (wetL E a).length = 19 := by simp [wetL]
theorem wetL_at (E : Int → Int → Prop) (a : Int) {i : Nat} (h : i < 19) : (wetL E a)[i]? = some (rb E a (i : Int)) := by simp [wetL, h]
structure FndE (E : Int → Int → Prop) (a : Int) (S : Int → Prop) : Prop where
  h0 : S a
  r : ∀ b, S b → Reach E a b
def okP (q : Pp → Int → Bool) (S : Int → Prop) (j : Nat) (p : Pp) (v : Int) : Prop := q p v = true → (S v ↔ S (9 + (j : Int)))
def shutE (ps : List Pp) (q : Pp → Int → Bool) (S : Int → Prop) (i : Nat) : Prop := ∀ j p, j < i → ps[j]? = some p → okP q S j p p.fr ∧ okP q S j p p.to
theorem shutE_zero (ps : List Pp) (q : Pp → Int → Bool) (S : Int → Prop) : shutE ps q S 0 := fun _ _ h => absurd h (by omega)
theorem shutE.next {ps : List Pp} {q : Pp → Int → Bool} {S : Int → Prop} {i : Nat} {x : Pp} (h : shutE ps q S i) (hx : ps[i]? = some x) (h1 : okP q S i x x.fr) (h2 : okP q S i x x.to) : shutE ps q S (i + 1) := by
  intro j p hj hp
  by_cases e : j = i
  · subst e; rw [hx] at hp; cases hp; exact ⟨h1, h2⟩
  · exact h j p (by omega) hp
theorem FndE.fin {ps : List Pp} {q : Pp → Int → Bool} {a : Int} {S : Int → Prop} (h : FndE (linked ps q) a S) (hc : shutE ps q S ps.length) (b : Int) : S b ↔ Reach (linked ps q) a b := by
  refine ⟨h.r b, fun hr => reach_closed h.h0 (fun b c hb he => ?_) hr⟩
  obtain ⟨i, p, v, hp, hv, hq, he⟩ := he
  have hi : i < ps.length := (List.getElem?_eq_some_iff.1 hp).1
  have hk := hc i p hi hp
  have hk' : S v ↔ S (9 + (i : Int)) := by
    rcases hv with e | e
    · subst e; exact hk.1 hq
    · subst e; exact hk.2 hq
  rcases he with ⟨rfl, rfl⟩ | ⟨rfl, rfl⟩
  · exact hk'.1 hb
  · exact hk'.2 hb
theorem FndE.add {ps : List Pp} {q : Pp → Int → Bool} {a : Int} {S S' : Int → Prop} (h : FndE (linked ps q) a S) {i : Nat} {x : Pp} {v : Int} (hx : ps[i]? = some x) (hv : v = x.fr ∨ v = x.to) (hq : q x v = true) (hone : S v ∨ S (9 + (i : Int)))
    (hS : ∀ b, S' b ↔ S b ∨ b = v ∨ b = 9 + (i : Int)) : FndE (linked ps q) a S' := by
  have l1 : linked ps q v (9 + (i : Int)) := ⟨i, x, v, hx, hv, hq, .inl ⟨rfl, rfl⟩⟩
  have hr : Reach (linked ps q) a v ∧ Reach (linked ps q) a (9 + (i : Int)) := by
    rcases hone with h1 | h1
    · exact ⟨h.r _ h1, reach_step (h.r _ h1) l1⟩
    · exact ⟨reach_step (h.r _ h1) (linked_symm ps q _ _ l1), h.r _ h1⟩
  refine ⟨(hS a).2 (.inl h.h0), fun b hb => ?_⟩
  rcases (hS b).1 hb with h1 | rfl | rfl
  · exact h.r b h1
  · exact hr.1
  · exact hr.2
def inL (bs : List Bool) (b : Int) : Prop := 0 ≤ b ∧ bs[b.toNat]? = some true
theorem inL_nat {bs : List Bool} {k : Nat} {b : Int} (e : b = (k : Int)) : inL bs b ↔ bs[k]? = some true := by subst e; unfold inL; rw [Int.toNat_natCast]; exact ⟨fun h => h.2, fun h => ⟨by omega, h⟩⟩
theorem inL_set {bs : List Bool} {k : Nat} (hk : k < bs.length) (b : Int) : inL (bs.set k true) b ↔ inL bs b ∨ b = (k : Int) := by
  unfold inL
  by_cases h0 : 0 ≤ b
  · by_cases e : b.toNat = k
    · rw [e, List.getElem?_set_self hk]; exact ⟨fun _ => .inr (by omega), fun _ => ⟨h0, rfl⟩⟩
    · rw [List.getElem?_set_ne (by omega)]; exact ⟨fun h => .inl h, fun h => h.elim id (fun h' => absurd h' (by omega))⟩
  · exact ⟨fun h => absurd h.1 h0, fun h => h.elim (fun h' => absurd h'.1 h0) (fun h' => absurd h' (by omega))⟩
def offs (bs : List Bool) : Nat := bs.countP (fun b => !b)
theorem offs_set : ∀ {bs : List Bool} {i : Nat}, bs[i]? = some false → offs (bs.set i true) + 1 = offs bs
  | [], i, h => by simp at h
  | y :: bs, 0, h => by simp at h; subst h; simp [offs]
  | y :: bs, i + 1, h => by
    have ih := offs_set (bs := bs) (i := i) (by simpa using h)
    unfold offs at ih ⊢
    rw [List.set_cons_succ, List.countP_cons, List.countP_cons, ← ih]
    omega
theorem offs_set_le : ∀ (bs : List Bool) (i : Nat), offs (bs.set i true) ≤ offs bs
  | [], i => by simp
  | y :: bs, 0 => by cases y <;> simp [offs]
  | y :: bs, i + 1 => by
    have ih := offs_set_le bs i
    unfold offs at ih ⊢
    rw [List.set_cons_succ, List.countP_cons, List.countP_cons]
    omega
theorem offs_two {bs : List Bool} {v u : Nat} {x y : Bool} (hx : bs[v]? = some x) (hy : bs[u]? = some y) (hne : x ≠ y) : offs ((bs.set v true).set u true) < offs bs := by
  have h1 := offs_set_le (bs.set v true) u
  cases x with
  | false => have := offs_set hx; omega
  | true =>
    cases y with
    | true => exact absurd rfl hne
    | false =>
      have hvu : v ≠ u := fun e => by subst e; rw [hx] at hy; cases hy
      have := offs_set (bs := bs.set v true) (i := u) (by rw [List.getElem?_set_ne hvu]; exact hy)
      have := offs_set_le bs v
      omega
theorem wetL_of {E : Int → Int → Prop} {a : Int} {bs : List Bool} (hl : bs.length = 19) (h : ∀ b, inL bs b ↔ Reach E a b) : bs = wetL E a := by
  apply List.ext_getElem?
  intro i
  by_cases hi : i < 19
  · rw [wetL_at E a hi]
    have hx : bs[i]? = some bs[i] := List.getElem?_eq_getElem (by omega)
    rw [hx]
    refine congrArg some ?_
    rw [Bool.eq_iff_iff, rb_iff, ← h, inL_nat (k := i) rfl, hx, Option.some.injEq]
  · rw [List.getElem?_eq_none (by omega), List.getElem?_eq_none (by rw [wetL_len]; omega)]
theorem inL_start {k : Nat} (hk : k < 19) (b : Int) : inL ((List.replicate 19 false).set k true) b ↔ b = (k : Int) := by
  rw [inL_set (by simpa using hk)]
  constructor
  · rintro (h | h)
    · have := h.2; rw [List.getElem?_replicate] at this; split at this <;> cases this
    · exact h
  · exact .inr
theorem FndE_start {E : Int → Int → Prop} {k : Nat} {a : Int} (hk : k < 19) (e : a = (k : Int)) : FndE E a (inL ((List.replicate 19 false).set k true)) :=
  ⟨(inL_start hk _).2 e, fun b hb => by rw [(inL_start hk b).1 hb, e]; exact reach_refl _ _⟩
theorem FndE.mark {ps : List Pp} {q : Pp → Int → Bool} {a : Int} {bs : List Bool} (h : FndE (linked ps q) a (inL bs)) {i k : Nat} {x : Pp} {v : Int} {b c : Bool} (hx : ps[i]? = some x) (hv : v = x.fr ∨ v = x.to) (hq : q x v = true) (e : v = (k : Int)) (hl : 9 + i < bs.length) (hb : bs[k]? = some b) (hc : bs[9 + i]? = some c) (hne : b ≠ c) :
    FndE (linked ps q) a (inL ((bs.set k true).set (9 + i) true)) := by
  have hk : k < bs.length := (List.getElem?_eq_some_iff.1 hb).1
  refine h.add (v := v) (i := i) hx hv hq ?_ (fun b => ?_)
  · cases b with
    | true => exact .inl ((inL_nat e).2 hb)
    | false =>
      cases c with
      | true => exact .inr ((inL_nat (k := 9 + i) (by omega)).2 hc)
      | false => exact absurd rfl hne
  · rw [inL_set (by rw [List.length_set]; exact hl), inL_set hk, e, or_assoc]
    have : ((9 + i : Nat) : Int) = 9 + (i : Int) := by omega
    rw [this]
theorem okP_same {q : Pp → Int → Bool} {bs : List Bool} {i k : Nat} {x : Pp} {v : Int} {b c : Bool} (e : v = (k : Int)) (hb : bs[k]? = some b) (hc : bs[9 + i]? = some c) (he : b = c) : okP q (inL bs) i x v := fun _ => by
  rw [inL_nat e, inL_nat (k := 9 + i) (by omega), hb, hc, he]
theorem okP_shut {q : Pp → Int → Bool} {S : Int → Prop} {i : Nat} {x : Pp} {v : Int} (h : q x v = false) : okP q S i x v := fun h' => by rw [h] at h'; cases h'
def upTo (n : Nat) : List Int := (List.range n).map (fun i => ((i : Nat) : Int))
theorem upTo_succ (n : Nat) : upTo (n + 1) = upTo n ++ [(n : Int)] := by unfold upTo; rw [List.range_succ, List.map_append]; rfl
theorem mem_upTo {n : Nat} {b : Int} : b ∈ upTo n ↔ 0 ≤ b ∧ b < n := by
  unfold upTo
  rw [List.mem_map]
  constructor
  · rintro ⟨i, hi, rfl⟩; have := List.mem_range.1 hi; omega
  · rintro ⟨h1, h2⟩; exact ⟨b.toNat, List.mem_range.2 (by omega), by omega⟩
theorem sorted_upTo (n : Nat) : sorted (upTo n) := sorted_map_range _ (fun i j h => by omega) n
theorem upTo_len (n : Nat) : (upTo n).length = n := by simp [upTo]
noncomputable def nodesL (E : Int → Int → Prop) (m : Nat) (a : Int) (told : Bool) : List Int := (nodesTo m).filter (fun b => rb E a b == told)
noncomputable def idxL (E : Int → Int → Prop) (n : Nat) (a : Int) (told : Bool) : List Int := (upTo n).filter (fun b => rb E a (9 + b) == told)
theorem mem_nodesL {E : Int → Int → Prop} {m : Nat} {a b : Int} {told : Bool} : b ∈ nodesL E m a told ↔ (1 ≤ b ∧ b ≤ m) ∧ rb E a b = told := by unfold nodesL; rw [List.mem_filter, mem_nodesTo, beq_iff_eq]
theorem mem_idxL {E : Int → Int → Prop} {n : Nat} {a b : Int} {told : Bool} : b ∈ idxL E n a told ↔ (0 ≤ b ∧ b < n) ∧ rb E a (9 + b) = told := by unfold idxL; rw [List.mem_filter, mem_upTo, beq_iff_eq]
theorem nodesL_len (E : Int → Int → Prop) (m : Nat) (a : Int) (told : Bool) : (nodesL E m a told).length ≤ m := by
  have := List.length_filter_le (fun b => rb E a b == told) (nodesTo m); rw [nodesTo_len] at this; exact this
theorem idxL_len (E : Int → Int → Prop) (n : Nat) (a : Int) (told : Bool) : (idxL E n a told).length ≤ n := by
  have := List.length_filter_le (fun b => rb E a (9 + b) == told) (upTo n); rw [upTo_len] at this; exact this
def inQ (ys xs : List Int) (b : Int) : Prop := b ∈ ys ∨ (9 ≤ b ∧ b - 9 ∈ xs)
structure FndQ (E : Int → Int → Prop) (m n : Nat) (a : Int) (ys xs : List Int) : Prop where
  s1 : sorted ys
  s2 : sorted xs
  b1 : ∀ b, b ∈ ys → 1 ≤ b ∧ b ≤ m
  b2 : ∀ b, b ∈ xs → 0 ≤ b ∧ b < n
  f : FndE E a (inQ ys xs)
theorem sorted_len0 {zs : List Int} {n : Nat} (h : sorted zs) (hi : ∀ b, b ∈ zs → 0 ≤ b ∧ b < n) : zs.length ≤ n := by
  have := sorted_len (zs := zs.map (· + 1)) (m := n) (by unfold sorted; rw [List.pairwise_map]; exact h.imp (fun h => by omega)) (fun b hb => by
    obtain ⟨c, hc, rfl⟩ := List.mem_map.1 hb
    have := hi c hc; omega)
  rwa [List.length_map] at this
theorem FndQ.len {E : Int → Int → Prop} {m n : Nat} {a : Int} {ys xs : List Int} (h : FndQ E m n a ys xs) : ys.length ≤ m ∧ xs.length ≤ n := ⟨sorted_len h.s1 h.b1, sorted_len0 h.s2 h.b2⟩
theorem FndQ.startN (E : Int → Int → Prop) {m n : Nat} {a : Int} (ha : 1 ≤ a ∧ a ≤ m) : FndQ E m n a [a] [] :=
  ⟨by simp [sorted], by simp [sorted], fun b hb => by simp at hb; omega, fun b hb => by simp at hb, ⟨.inl (by simp), fun b hb => by rcases hb with hb | hb <;> simp at hb; subst hb; exact reach_refl _ _⟩⟩
theorem inQ_node {ys xs : List Int} {m : Nat} {v : Int} (hm : m ≤ 8) (hv : v ≤ m) : inQ ys xs v ↔ v ∈ ys := ⟨fun h => h.elim id (fun h' => absurd h'.1 (by omega)), .inl⟩
theorem inQ_pipe {ys xs : List Int} {m i : Nat} (hm : m ≤ 8) (hb : ∀ b, b ∈ ys → 1 ≤ b ∧ b ≤ m) : inQ ys xs (9 + (i : Int)) ↔ (i : Int) ∈ xs := by
  have e : 9 + (i : Int) - 9 = i := by omega
  constructor
  · rintro (h | ⟨_, h⟩)
    · have := hb _ h; omega
    · rwa [e] at h
  · intro h; exact .inr ⟨by omega, by rwa [e]⟩
theorem FndQ.put {ps : List Pp} {q : Pp → Int → Bool} {m : Nat} {a : Int} {ys xs : List Int} (h : FndQ (linked ps q) m ps.length a ys xs) (hm : m ≤ 8) {i : Nat} {x : Pp} {v : Int} (hx : ps[i]? = some x) (hv : v = x.fr ∨ v = x.to) (hin : 1 ≤ v ∧ v ≤ m) (hq : q x v = true) (hne : ys.contains v ≠ xs.contains (i : Int)) :
    FndQ (linked ps q) m ps.length a (putL ys v) (putL xs (i : Int)) := by
  have hi : i < ps.length := (List.getElem?_eq_some_iff.1 hx).1
  refine ⟨sorted_putL _ _ h.s1, sorted_putL _ _ h.s2, fun b hb => ?_, fun b hb => ?_, h.f.add hx hv hq ?_ (fun b => ?_)⟩
  · rcases (mem_putL _ _ _).1 hb with rfl | hb
    · exact hin
    · exact h.b1 b hb
  · rcases (mem_putL _ _ _).1 hb with rfl | hb
    · omega
    · exact h.b2 b hb
  · rw [inQ_node hm hin.2, inQ_pipe hm h.b1]
    by_cases h1 : v ∈ ys
    · exact .inl h1
    · by_cases h2 : (i : Int) ∈ xs
      · exact .inr h2
      · exact absurd (by rw [show ys.contains v = false by simpa using h1, show xs.contains (i : Int) = false by simpa using h2]) hne
  · unfold inQ
    rw [mem_putL, mem_putL]
    constructor
    · rintro ((h | h) | ⟨h1, h2 | h2⟩)
      · exact .inr (.inl h)
      · exact .inl (.inl h)
      · exact .inr (.inr (by omega))
      · exact .inl (.inr ⟨h1, h2⟩)
    · rintro ((h | h) | h | h)
      · exact .inl (.inr h)
      · exact .inr ⟨h.1, .inr h.2⟩
      · exact .inl (.inl h)
      · exact .inr ⟨by omega, .inl (by omega)⟩
theorem put2_len2 {ys xs : List Int} {v i : Int} (h : ys.contains v ≠ xs.contains i) : ys.length + xs.length < (putL ys v).length + (putL xs i).length := by
  have h1 := putL_len_ge ys v
  have h2 := putL_len_ge xs i
  by_cases ha : v ∈ ys
  · have hc : i ∉ xs := fun hc => h (by rw [List.contains_iff_mem.2 ha, List.contains_iff_mem.2 hc])
    have := putL_len hc; omega
  · have := putL_len ha; omega
theorem okQ_same {q : Pp → Int → Bool} {m : Nat} {ys xs : List Int} {i : Nat} {x : Pp} {v : Int} (hm : m ≤ 8) (hb : ∀ b, b ∈ ys → 1 ≤ b ∧ b ≤ m) (hin : 1 ≤ v ∧ v ≤ m) (he : ys.contains v = xs.contains (i : Int)) : okP q (inQ ys xs) i x v := fun _ => by
  rw [inQ_node hm hin.2, inQ_pipe hm hb, ← List.contains_iff_mem, ← List.contains_iff_mem, he]
theorem FndQ.fin {ps : List Pp} {q : Pp → Int → Bool} {m : Nat} {a : Int} {ys xs : List Int} (h : FndQ (linked ps q) m ps.length a ys xs) (hm : m ≤ 8) (hc : shutE ps q (inQ ys xs) ps.length) :
    ys = nodesL (linked ps q) m a true ∧ xs = idxL (linked ps q) ps.length a true := by
  have hf := h.f.fin hc
  refine ⟨sorted_ext _ _ h.s1 (sorted_filter _ (sorted_nodesTo m)) (fun b => ?_), sorted_ext _ _ h.s2 (sorted_filter _ (sorted_upTo _)) (fun b => ?_)⟩
  · show b ∈ ys ↔ b ∈ nodesL _ m a true
    rw [mem_nodesL, rb_iff, ← hf]
    constructor
    · intro hb; exact ⟨h.b1 b hb, .inl hb⟩
    · rintro ⟨h1, h2⟩; exact (inQ_node hm h1.2).1 h2
  · show b ∈ xs ↔ b ∈ idxL _ ps.length a true
    rw [mem_idxL, rb_iff, ← hf]
    constructor
    · intro hb
      have := h.b2 b hb
      exact ⟨this, .inr ⟨by omega, by rwa [show 9 + b - 9 = b by omega]⟩⟩
    · rintro ⟨h1, h2⟩
      obtain ⟨i, rfl⟩ : ∃ i : Nat, b = (i : Int) := ⟨b.toNat, by omega⟩
      exact (inQ_pipe hm h.b1).1 h2
theorem nodesL_succ (E : Int → Int → Prop) (m : Nat) (a : Int) (told : Bool) : nodesL E (m + 1) a told = nodesL E m a told ++ (if rb E a ((m : Int) + 1) = told then [(m : Int) + 1] else []) := by
  unfold nodesL; rw [nodesTo_succ, List.filter_append]; congr 1
  by_cases h : rb E a ((m : Int) + 1) = told
  · rw [if_pos h, List.filter_cons_of_pos (by simpa using h)]; rfl
  · rw [if_neg h, List.filter_cons_of_neg (by simpa using h)]; rfl
theorem idxL_succ (E : Int → Int → Prop) (n : Nat) (a : Int) (told : Bool) : idxL E (n + 1) a told = idxL E n a told ++ (if rb E a (9 + (n : Int)) = told then [(n : Int)] else []) := by
  unfold idxL; rw [upTo_succ, List.filter_append]; congr 1
  by_cases h : rb E a (9 + (n : Int)) = told
  · rw [if_pos h, List.filter_cons_of_pos (by simpa using h)]; rfl
  · rw [if_neg h, List.filter_cons_of_neg (by simpa using h)]; rfl
end Go.Proofs.Ytdbgfejeleafgaa
namespace Go.Proofs.Ytdbgfejeleafgaa
open Go.RowKit
set_option linter.unusedVariables false
def Sp (A : Option Addr) (n : Nat) (g : Option Nat) : Prop := 0 < n → ∀ b off, A = some ⟨b, off, none⟩ → some b ≠ g
theorem sp_new {W : World} {size n b : Nat} {A : Option Addr} {xs : List Value} (h : Rd W size A n xs) (hb : W.heap.size ≤ b) : Sp A n (some b) := fun hn b' off e e2 => by
  obtain ⟨b1, o1, e1, hlt, _⟩ := h.2 hn
  rw [e] at e1; cases e1; cases e2; omega
theorem sp_own {A : Option Addr} {n b n' c : Nat} (h : Sp A n (some b)) : Sp A n (Value.ownBlock (.slice (some ⟨b, 0, none⟩) n' c)) := by
  have e : Value.ownBlock (.slice (some ⟨b, 0, none⟩) n' c) = some b := by simp [Value.ownBlock]
  rw [e]; exact h
theorem sp_app {W : World} {size n H : Nat} {A : Option Addr} {xs : List Value} {v v' : Value} (h : Sp A n v.ownBlock) (hr : Rd W size A n xs) (hs : W.heap.size ≤ H) (hat : v'.ownBlock = v.ownBlock ∨ ∀ k, v'.ownBlock = some k → H ≤ k) : Sp A n v'.ownBlock := fun hn b off e e2 => by
  rcases hat with h1 | h1
  · exact h hn b off e (e2.trans h1)
  · obtain ⟨b1, o1, e1, hlt, _⟩ := hr.2 hn
    rw [e] at e1; cases e1
    have := h1 b e2.symm; omega
theorem rd_sep {w w' : World} {size n : Nat} {A : Option Addr} {xs : List Value} {g : Option Nat} (h : Rd w size A n xs) (hg : SG w g w') (hs : Sp A n g) : Rd w' size A n xs :=
  ⟨h.1, fun hn => by
    obtain ⟨b, off, e, hb, hc⟩ := h.2 hn
    exact ⟨b, off, e, Nat.lt_of_lt_of_le hb hg.size, fun j u hu => hg.cell (hc j u hu) (hs hn b off e)⟩⟩
theorem evk {a : Act} {i : Operand} {z : Int} {k : Nat} (h : a.eval i = .int .i64 z) (e : z = (k : Int)) : a.eval i = .int .i64 ((k : Nat) : Int) := by rw [h, e]
end Go.Proofs.Ytdbgfejeleafgaa
namespace Go.Proofs.Ytdbgfejeleafgaa
open Go.RowKit
set_option linter.unusedVariables false
set_option linter.unusedSimpArgs false
set_option maxRecDepth 100000 in
set_option maxHeartbeats 8000000 in
theorem pipeIndexF_any (p : Pp) (id : Int) (B : Nat) (w : World) (hB : w.heap[B]? = some (.cells #[.int .i64 id] 3 (0, 0))) :
    Calls Try.prog 126 #[.agg #[.int .i64 p.id, .int .i64 p.fr, .int .i64 p.to, .int .i64 p.sz], .pointer (some ⟨B, 0, none⟩)] w fun e w' => e = .returned (.bool (decide (p.id = id))) ∧ Below w.heap.size w w' := by
 go_enter Try.func126, Try.ntmps126
 refine F.begin 8 [(0, .agg #[.int .i64 p.id, .int .i64 p.fr, .int .i64 p.to, .int .i64 p.sz]), (1, .pointer (some ⟨B, 0, none⟩))] (fun U0 => ?_)
 refine wk fun K1 h1 => ?_
 refine W.region_plain (row := none) [(0, true), (1, false)] kk ?_
 have s1 := SG.self w none
 refine W.sn (fun b => .pointer (some ⟨b, 0, none⟩)) #[.int .i64 p.id, .int .i64 p.fr, .int .i64 p.to, .int .i64 p.sz] 51 s1 rfl kk rfl (fun _ => by kernel_rfl) (fun b2 w3 hb4 k5 x6 s7 => ?_)
 apply F.nx
 have lo8 : w.heap.size ≤ b2 := Nl ((Sb (Below.refl _ _) s1 nkk)).size (Nat.le_of_eq hb4)
 refine Fa (.bool false) ?_
 apply F.es
 have hB := Sk s7 hB onn
 have c10 := (Sb (Below.refl _ _) s7 nkk)
 apply h1
 refine wk fun K2 h2 => ?_
 refine Rq 5 ?_
 refine Fq (.pointer (some ⟨b2, 0, none⟩)) (r_field0 rfl ek kk) ?_
 refine Fl (.int .i64 p.id) (eqS (blk_cell (j := 0) x6 kk)) ?_
 refine Fl (.int .i64 id) (eqS (blk_cell (j := 0) hB kk)) ?_
 by_cases q11 : (p.id : Int) = (id : Int)
 ·refine Fq (.bool true) (r_eql (m := p.id) (n := id) rfl ek ek (dt q11)) ?_
  refine Fa (.bool true) ?_
  apply F.es
  apply h2
  refine wp_ret ?_
  try simp only [Exit.then]
  refine ret1 (v := .bool true) rfl kk ?_
  exact ⟨by simp_all, c10⟩
 refine Fq (.bool false) (r_eql (m := p.id) (n := id) rfl ek ek (df q11)) ?_
 refine Fa (.bool false) ?_
 apply F.es
 apply h2
 refine wp_ret ?_
 try simp only [Exit.then]
 refine ret1 (v := .bool false) rfl kk ?_
 exact ⟨by simp_all, c10⟩
def idxP (q : Pp → Bool) : List Pp → Int
  | [] => -1
  | p :: ps => if q p = true then 0 else if idxP q ps < 0 then -1 else idxP q ps + 1
theorem idxP_at {q : Pp → Bool} : ∀ {ps : List Pp} {k : Nat} {x : Pp}, (∀ j z, j < k → ps[j]? = some z → q z = false) → ps[k]? = some x → q x = true → idxP q ps = (k : Int)
  | [], k, x, _, hx, _ => by simp at hx
  | p :: ps, 0, x, _, hx, e => by simp at hx; subst hx; unfold idxP; rw [if_pos e]; rfl
  | p :: ps, k + 1, x, h, hx, e => by
    have h0 := h 0 p (by omega) rfl
    have ih := idxP_at (q := q) (ps := ps) (k := k) (fun j z hj hz => h (j + 1) z (by omega) (by simpa using hz)) (by simpa using hx) e
    unfold idxP; rw [if_neg (by rw [h0]; simp), ih, if_neg (by omega)]; omega
theorem idxP_none {q : Pp → Bool} : ∀ {ps : List Pp}, (∀ (j : Nat) z, j < ps.length → ps[j]? = some z → q z = false) → idxP q ps = -1
  | [], _ => rfl
  | p :: ps, h => by
    have h0 := h 0 p (by simp) rfl
    have ih := idxP_none (q := q) (ps := ps) (fun j z hj hz => h (j + 1) z (by simp; omega) (by simpa using hz))
    unfold idxP; rw [if_neg (by rw [h0]; simp), ih]; rfl
theorem idxP_find (ps : List Pp) (v : Int) : idxP (fun p => decide (p.id = v)) ps = findL ps v := by
  induction ps with
  | nil => rfl
  | cons p ps ih => unfold idxP findL; rw [ih]; simp
set_option maxRecDepth 100000 in
set_option maxHeartbeats 8000000 in
theorem idxP_any (A : Option Addr) (n c : Nat) (ps : List Pp) (g : FuncId) (lb : Array Value) (q : Pp → Bool) (w : World) (ha : Rd w 4 A n (pipesV ps)) (hn : n ≤ 1048576) (he : enters Try.prog g = true) (HG : ∀ W p, Below w.heap.size w W → Calls Try.prog g (#[.agg #[.int .i64 p.id, .int .i64 p.fr, .int .i64 p.to, .int .i64 p.sz]] ++ lb) W fun e w' => e = .returned (.bool (q p)) ∧ Below W.heap.size W w') :
    Calls Try.prog 125 #[.slice A n c, .func (.func g) #[] lb] w fun e w' => e = .returned (.int .i64 (idxP q ps)) ∧ Below w.heap.size w w' := by
 have hl := rd_pipes_len ha
 go_enter Try.func125, Try.ntmps125
 refine F.begin 19 [(0, .slice A n c), (1, .func (.func g) #[] lb)] (fun U0 => ?_)
 refine wk fun K1 h1 => ?_
 refine Rq 1 ?_
 refine Fa (.int .i64 0) ?_
 apply F.es
 apply h1
 refine wk fun K2 h2 => ?_
 refine wk fun K3 h3 => ?_
 refine Rq 3 ?_
 refine Fv (.slice A n c) ?_
 refine Fq (.int .i64 (n : Int)) (r_len (A := A) (n := n) (c := c) rfl ek kk) ?_
 refine Fv (.int .i64 0) ?_
 apply F.es
 apply h3
 refine wp_block ?_
 refine loopK (fun am0 aa0 wl0 => ∃ (k : Nat) , Kn aa0 [(0, .slice A n c), (1, .func (.func g) #[] lb), (4, .int .i64 0), (7, .int .i64 (n : Int)), (8, .int .i64 (k : Int))] 19 ∧ (am0 = n - k) ∧ (k ≤ n) ∧ (∀ j z, j < k → ps[j]? = some z → q z = false) ∧ (Below w.heap.size w wl0)) (n - 0) ?_ ?_
 ·exact ⟨0, Kn.of, rfl, (Nat.zero_le _), (fun j z hj => absurd hj (by omega)), (Below.refl _ _)⟩
 rintro am0 aa0 wl0 K4 h4 ⟨k, ⟨U0, rfl⟩, rfl, hk, hno, c1⟩
 refine wk fun K5 h5 => ?_
 refine Rq 1 ?_
 by_cases q2 : ((k : Int) : Int) < ((n : Int) : Int)
 ·refine Fq (.bool true) (r_lss (m := (k : Int)) (n := (n : Int)) rfl ek ek (dt q2)) ?_
  apply F.es
  apply h5
  refine wk fun K6 h6 => ?_
  refine wp_cond_true ek ?_
  apply wp_skip
  apply h6
  refine wk fun K7 h7 => ?_
  refine wp_block ?_
  refine wk fun K8 h8 => ?_
  refine Rq 2 ?_
  refine Fv (.int .i64 (k : Int)) ?_
  refine Fa (.int .i64 (k : Int)) ?_
  apply F.es
  apply h8
  refine wk fun K9 h9 => ?_
  refine W.region_plain (row := none) [(0, false), (1, false), (2, false), (3, false), (4, false), (5, true)] kk ?_
  have s3 := SG.self wl0 none
  refine Fv (.func (.func g) #[] lb) ?_
  refine Fv (.slice A n c) ?_
  refine Fv (.int .i64 (k : Int)) ?_
  obtain ⟨x4, hx5⟩ := get_of (zs := ps) (k := k) (by have := hl; omega)
  obtain ⟨b6, o7, hA8, hb9, hc10, hc11, hc12, hc13⟩ := Rd.elPipe ha hx5
  refine Fq (.pointer (some ⟨b6, o7 + k * 4, none⟩)) (r_idx (n := n) (c := c) (k := k) rfl ek hA8 kk kk (by have := hl; omega)) ?_
  refine Fq (.agg #[.int .i64 x4.id, .int .i64 x4.fr, .int .i64 x4.to, .int .i64 x4.sz]) (r_load4 rfl ek kk kk (sgS (later c1 hc10) (by simp)) (sgS (later c1 hc11) (by simp)) (sgS (later c1 hc12) (by simp)) (sgS (later c1 hc13) (by simp))) ?_
  refine W.scv (vs := [.agg #[.int .i64 x4.id, .int .i64 x4.fr, .int .i64 x4.to, .int .i64 x4.sz]]) (g := g) (lb := lb) rfl rfl kk kk he kk rfl (HG _ x4 ((Sb c1 s3 nkk))) ?_
  rintro e w15 ⟨rfl, b14⟩
  have s16 := SG.of_below s3 b14
  refine ⟨_, rfl, s16, ?_⟩
  apply F.nx
  rcases Bool.eq_false_or_eq_true (q x4) with q17 | q17
  ·rw [q17]
   apply F.es
   have c18 := (Sb c1 s16 nkk)
   apply h9
   refine wp_cond_true ek ?_
   refine wk fun K10 h10 => ?_
   refine Rq 2 ?_
   refine Fv (.int .i64 (k : Int)) ?_
   refine Fa (.int .i64 (k : Int)) ?_
   apply F.es
   apply h10
   refine wp_ret ?_
   try simp only [Exit.then, Exit.inBlock]
   refine ret1 (v := .int .i64 (k : Int)) rfl kk ?_
   exact ⟨by rw [idxP_at hno hx5 q17]; try rfl, c18⟩
  rw [q17]
  apply F.es
  have c19 := (Sb c1 s16 nkk)
  apply h9
  refine wp_cond_false ek ?_
  apply wp_skip
  apply h7
  refine Rq 2 ?_
  refine Fq (.int .i64 ((k + 1 : Nat) : Int)) (r_add (m := (k : Int)) (n := 1) (z := ((k + 1 : Nat) : Int)) rfl ek ek (by omega) (by omega)) ?_
  refine Fv (.int .i64 ((k + 1 : Nat) : Int)) ?_
  apply F.es
  exact h4 _ _ _ (by omega : (n - (k + 1)) < _) ⟨k + 1, Kn.of, rfl, (by omega), (upto_succ (Q := fun z => q z = false) hno hx5 q17), c19⟩
 refine Fq (.bool false) (r_lss (m := (k : Int)) (n := (n : Int)) rfl ek ek (df q2)) ?_
 apply F.es
 apply h5
 refine wk fun K11 h11 => ?_
 refine wp_cond_false ek ?_
 refine wp_exit ?_
 apply h2
 refine wk fun K12 h12 => ?_
 refine Rq 1 ?_
 refine Fa (.int .i64 (-1)) ?_
 apply F.es
 apply h12
 refine wp_ret ?_
 try simp only [Exit.then]
 refine ret1 (v := .int .i64 (-1)) rfl kk ?_
 exact ⟨by rw [idxP_none (fun j z hj => hno j z (by omega))]; try rfl, c1⟩
set_option maxRecDepth 100000 in
set_option maxHeartbeats 8000000 in
theorem pipeIndex_any (m : Int) (A : Option Addr) (n c : Nat) (ps : List Pp) (v : Int) (w : World) (ha : Rd w 4 A n (pipesV ps)) (hn : n ≤ 1048576) :
    Calls Try.prog 71 #[.agg #[.int .i64 m, .slice A n c], .int .i64 v] w fun e w' => e = .returned (.int .i64 (findL ps v)) ∧ Below w.heap.size w w' := by
 have hl := rd_pipes_len ha
 go_enter Try.func71, Try.ntmps71
 refine F.begin 9 [(0, .agg #[.int .i64 m, .slice A n c]), (1, .int .i64 v)] (fun U0 => ?_)
 refine wk fun K1 h1 => ?_
 refine W.region_plain (row := none) [(0, true), (1, true), (2, false)] kk ?_
 have s1 := SG.self w none
 refine W.sn (fun b => .pointer (some ⟨b, 0, none⟩)) #[.int .i64 m, .slice A n c] 26 s1 rfl kk rfl (fun _ => by kernel_rfl) (fun b2 w3 hb4 k5 x6 s7 => ?_)
 apply F.nx
 have lo8 : w.heap.size ≤ b2 := Nl ((Sb (Below.refl _ _) s1 nkk)).size (Nat.le_of_eq hb4)
 refine W.sn (fun b => .pointer (some ⟨b, 0, none⟩)) #[.int .i64 v] 3 s7 rfl kk rfl (fun _ => by kernel_rfl) (fun b9 w10 hb11 k12 x13 s14 => ?_)
 apply F.nx
 have lo15 : w.heap.size ≤ b9 := Nl ((Sb (Below.refl _ _) s7 nkk)).size (Nat.le_of_eq hb11)
 have x6 := (k12.block _ (blk_lt x6)).trans x6
 refine Fa (.int .i64 0) ?_
 apply F.es
 have c17 := (Sb (Below.refl _ _) s14 nkk)
 apply h1
 refine wk fun K2 h2 => ?_
 refine W.region_plain (row := none) [(0, false), (1, false), (2, false), (3, true), (4, false)] kk ?_
 have s18 := SG.self w10 none
 refine Fq (.pointer (some ⟨b2, 1, none⟩)) (r_field (k := 1) rfl ek kk) ?_
 refine Fl (.slice A n c) (sgS (blk_cell (j := 1) x6 kk) onn) ?_
 refine Fq (.func (.func 126) #[] #[.pointer (some ⟨b9, 0, none⟩)]) (r_makeFunc (vs := [.pointer (some ⟨b9, 0, none⟩)]) rfl kk) ?_
 refine Fc [.slice A n c, .func (.func 126) #[] #[.pointer (some ⟨b9, 0, none⟩)]] (idxP_any A n c ps 126 #[.pointer (some ⟨b9, 0, none⟩)] (fun p => decide (p.id = v)) _ (Rk ha (Sb c17 s18 nkk)) (by omega) kk (fun W p hW => pipeIndexF_any p v b9 W ((hW.block _ (blk_lt x13)).trans x13))) ?_
 rintro e w20 ⟨rfl, b19⟩
 have s21 := SG.of_below s18 b19
 refine ⟨_, rfl, s21, ?_⟩
 apply F.nx
 refine Fa (.int .i64 (idxP (fun p => decide (p.id = v)) ps)) ?_
 apply F.es
 have c22 := (Sb c17 s21 nkk)
 apply h2
 refine wp_ret ?_
 try simp only [Exit.then]
 refine ret1 (v := .int .i64 (idxP (fun p => decide (p.id = v)) ps)) rfl kk ?_
 exact ⟨by rw [idxP_find]; try rfl, c22⟩
end Go.Proofs.Ytdbgfejeleafgaa
namespace Go.Proofs.Ytdbgfejeleafgaa
open Go.RowKit
set_option linter.unusedVariables false
set_option linter.unusedSimpArgs false
set_option maxRecDepth 100000 in
set_option maxHeartbeats 8000000 in
theorem valveIndexF_any (v : Vv) (id : Int) (B : Nat) (w : World) (hB : w.heap[B]? = some (.cells #[.int .i64 id] 3 (0, 0))) :
    Calls Try.prog 135 #[.agg #[.int .i64 v.id, .int .i64 v.pipe, .int .i64 v.node, .bool v.shut], .pointer (some ⟨B, 0, none⟩)] w fun e w' => e = .returned (.bool (decide (v.id = id))) ∧ Below w.heap.size w w' := by
 go_enter Try.func135, Try.ntmps135
 refine F.begin 8 [(0, .agg #[.int .i64 v.id, .int .i64 v.pipe, .int .i64 v.node, .bool v.shut]), (1, .pointer (some ⟨B, 0, none⟩))] (fun U0 => ?_)
 refine wk fun K1 h1 => ?_
 refine W.region_plain (row := none) [(0, true), (1, false)] kk ?_
 have s1 := SG.self w none
 refine W.sn (fun b => .pointer (some ⟨b, 0, none⟩)) #[.int .i64 v.id, .int .i64 v.pipe, .int .i64 v.node, .bool v.shut] 40 s1 rfl kk rfl (fun _ => by kernel_rfl) (fun b2 w3 hb4 k5 x6 s7 => ?_)
 apply F.nx
 have lo8 : w.heap.size ≤ b2 := Nl ((Sb (Below.refl _ _) s1 nkk)).size (Nat.le_of_eq hb4)
 refine Fa (.bool false) ?_
 apply F.es
 have hB := Sk s7 hB onn
 have c10 := (Sb (Below.refl _ _) s7 nkk)
 apply h1
 refine wk fun K2 h2 => ?_
 refine Rq 5 ?_
 refine Fq (.pointer (some ⟨b2, 0, none⟩)) (r_field0 rfl ek kk) ?_
 refine Fl (.int .i64 v.id) (eqS (blk_cell (j := 0) x6 kk)) ?_
 refine Fl (.int .i64 id) (eqS (blk_cell (j := 0) hB kk)) ?_
 by_cases q11 : (v.id : Int) = (id : Int)
 ·refine Fq (.bool true) (r_eql (m := v.id) (n := id) rfl ek ek (dt q11)) ?_
  refine Fa (.bool true) ?_
  apply F.es
  apply h2
  refine wp_ret ?_
  try simp only [Exit.then]
  refine ret1 (v := .bool true) rfl kk ?_
  exact ⟨by simp_all, c10⟩
 refine Fq (.bool false) (r_eql (m := v.id) (n := id) rfl ek ek (df q11)) ?_
 refine Fa (.bool false) ?_
 apply F.es
 apply h2
 refine wp_ret ?_
 try simp only [Exit.then]
 refine ret1 (v := .bool false) rfl kk ?_
 exact ⟨by simp_all, c10⟩
set_option maxRecDepth 100000 in
set_option maxHeartbeats 8000000 in
theorem valveAtF_any (v : Vv) (p : Pp) (node : Int) (B C : Nat) (w : World) (hB : w.heap[B]? = some (.cells #[.int .i64 p.id, .int .i64 p.fr, .int .i64 p.to, .int .i64 p.sz] 51 (0, 0))) (hC : w.heap[C]? = some (.cells #[.int .i64 node] 3 (0, 0))) (hNE : B ≠ C) :
    Calls Try.prog 150 #[.agg #[.int .i64 v.id, .int .i64 v.pipe, .int .i64 v.node, .bool v.shut], .pointer (some ⟨B, 0, none⟩), .pointer (some ⟨C, 0, none⟩)] w fun e w' => e = .returned (.bool (decide (v.pipe = p.id) && decide (v.node = node))) ∧ Below w.heap.size w w' := by
 go_enter Try.func150, Try.ntmps150
 refine F.begin 16 [(0, .agg #[.int .i64 v.id, .int .i64 v.pipe, .int .i64 v.node, .bool v.shut]), (1, .pointer (some ⟨B, 0, none⟩)), (2, .pointer (some ⟨C, 0, none⟩))] (fun U0 => ?_)
 refine wk fun K1 h1 => ?_
 refine W.region_plain (row := none) [(0, true), (1, false)] kk ?_
 have s1 := SG.self w none
 refine W.sn (fun b => .pointer (some ⟨b, 0, none⟩)) #[.int .i64 v.id, .int .i64 v.pipe, .int .i64 v.node, .bool v.shut] 40 s1 rfl kk rfl (fun _ => by kernel_rfl) (fun b2 w3 hb4 k5 x6 s7 => ?_)
 apply F.nx
 have lo8 : w.heap.size ≤ b2 := Nl ((Sb (Below.refl _ _) s1 nkk)).size (Nat.le_of_eq hb4)
 refine Fa (.bool false) ?_
 apply F.es
 have hB := Sk s7 hB onn
 have hC := Sk s7 hC onn
 have c11 := (Sb (Below.refl _ _) s7 nkk)
 apply h1
 refine wk fun K2 h2 => ?_
 refine Rq 12 ?_
 refine Fq (.pointer (some ⟨b2, 1, none⟩)) (r_field (k := 1) rfl ek kk) ?_
 refine Fl (.int .i64 v.pipe) (eqS (blk_cell (j := 1) x6 kk)) ?_
 refine Fq (.pointer (some ⟨B, 0, none⟩)) (r_field0 rfl ek kk) ?_
 refine Fl (.int .i64 p.id) (eqS (blk_cell (j := 0) hB kk)) ?_
 by_cases q12 : (v.pipe : Int) = (p.id : Int)
 ·refine Fq (.bool true) (r_eql (m := v.pipe) (n := p.id) rfl ek ek (dt q12)) ?_
  refine Fv (.bool true) ?_
  refine Fq (.pointer (some ⟨b2, 2, none⟩)) (r_field (k := 2) rfl ek kk) ?_
  refine Fl (.int .i64 v.node) (eqS (blk_cell (j := 2) x6 kk)) ?_
  refine Fl (.int .i64 node) (eqS (blk_cell (j := 0) hC kk)) ?_
  by_cases q13 : (v.node : Int) = (node : Int)
  ·refine Fq (.bool true) (r_eql (m := v.node) (n := node) rfl ek ek (dt q13)) ?_
   refine Fq (.bool true) (r_pick (b := true) rfl ek ek) ?_
   refine Fa (.bool true) ?_
   apply F.es
   apply h2
   refine wp_ret ?_
   try simp only [Exit.then]
   refine ret1 (v := .bool true) rfl kk ?_
   exact ⟨by simp_all, c11⟩
  refine Fq (.bool false) (r_eql (m := v.node) (n := node) rfl ek ek (df q13)) ?_
  refine Fq (.bool false) (r_pick (b := true) rfl ek ek) ?_
  refine Fa (.bool false) ?_
  apply F.es
  apply h2
  refine wp_ret ?_
  try simp only [Exit.then]
  refine ret1 (v := .bool false) rfl kk ?_
  exact ⟨by simp_all, c11⟩
 refine Fq (.bool false) (r_eql (m := v.pipe) (n := p.id) rfl ek ek (df q12)) ?_
 refine Fv (.bool false) ?_
 refine Fs rfl ?_
 refine Fs rfl ?_
 refine Fs rfl ?_
 refine Fs rfl ?_
 refine Fq (.bool false) (r_pick (b := false) rfl ek ek) ?_
 refine Fa (.bool false) ?_
 apply F.es
 apply h2
 refine wp_ret ?_
 try simp only [Exit.then]
 refine ret1 (v := .bool false) rfl kk ?_
 exact ⟨by simp_all, c11⟩
set_option maxRecDepth 100000 in
set_option maxHeartbeats 8000000 in
theorem validF_any (v u : Vv) (B : Nat) (w : World) (hB : w.heap[B]? = some (.cells #[.int .i64 u.id, .int .i64 u.pipe, .int .i64 u.node, .bool u.shut] 40 (0, 0))) :
    Calls Try.prog 83 #[.agg #[.int .i64 v.id, .int .i64 v.pipe, .int .i64 v.node, .bool v.shut], .pointer (some ⟨B, 0, none⟩)] w fun e w' => e = .returned (.bool (decide (v.pipe = u.pipe) && decide (v.node = u.node))) ∧ Below w.heap.size w w' := by
 go_enter Try.func83, Try.ntmps83
 refine F.begin 16 [(0, .agg #[.int .i64 v.id, .int .i64 v.pipe, .int .i64 v.node, .bool v.shut]), (1, .pointer (some ⟨B, 0, none⟩))] (fun U0 => ?_)
 refine wk fun K1 h1 => ?_
 refine W.region_plain (row := none) [(0, true), (1, false)] kk ?_
 have s1 := SG.self w none
 refine W.sn (fun b => .pointer (some ⟨b, 0, none⟩)) #[.int .i64 v.id, .int .i64 v.pipe, .int .i64 v.node, .bool v.shut] 40 s1 rfl kk rfl (fun _ => by kernel_rfl) (fun b2 w3 hb4 k5 x6 s7 => ?_)
 apply F.nx
 have lo8 : w.heap.size ≤ b2 := Nl ((Sb (Below.refl _ _) s1 nkk)).size (Nat.le_of_eq hb4)
 refine Fa (.bool false) ?_
 apply F.es
 have hB := Sk s7 hB onn
 have c10 := (Sb (Below.refl _ _) s7 nkk)
 apply h1
 refine wk fun K2 h2 => ?_
 refine Rq 13 ?_
 refine Fq (.pointer (some ⟨b2, 1, none⟩)) (r_field (k := 1) rfl ek kk) ?_
 refine Fl (.int .i64 v.pipe) (eqS (blk_cell (j := 1) x6 kk)) ?_
 refine Fq (.pointer (some ⟨B, 1, none⟩)) (r_field (k := 1) rfl ek kk) ?_
 refine Fl (.int .i64 u.pipe) (eqS (blk_cell (j := 1) hB kk)) ?_
 by_cases q11 : (v.pipe : Int) = (u.pipe : Int)
 ·refine Fq (.bool true) (r_eql (m := v.pipe) (n := u.pipe) rfl ek ek (dt q11)) ?_
  refine Fv (.bool true) ?_
  refine Fq (.pointer (some ⟨b2, 2, none⟩)) (r_field (k := 2) rfl ek kk) ?_
  refine Fl (.int .i64 v.node) (eqS (blk_cell (j := 2) x6 kk)) ?_
  refine Fq (.pointer (some ⟨B, 2, none⟩)) (r_field (k := 2) rfl ek kk) ?_
  refine Fl (.int .i64 u.node) (eqS (blk_cell (j := 2) hB kk)) ?_
  by_cases q12 : (v.node : Int) = (u.node : Int)
  ·refine Fq (.bool true) (r_eql (m := v.node) (n := u.node) rfl ek ek (dt q12)) ?_
   refine Fq (.bool true) (r_pick (b := true) rfl ek ek) ?_
   refine Fa (.bool true) ?_
   apply F.es
   apply h2
   refine wp_ret ?_
   try simp only [Exit.then]
   refine ret1 (v := .bool true) rfl kk ?_
   exact ⟨by simp_all, c10⟩
  refine Fq (.bool false) (r_eql (m := v.node) (n := u.node) rfl ek ek (df q12)) ?_
  refine Fq (.bool false) (r_pick (b := true) rfl ek ek) ?_
  refine Fa (.bool false) ?_
  apply F.es
  apply h2
  refine wp_ret ?_
  try simp only [Exit.then]
  refine ret1 (v := .bool false) rfl kk ?_
  exact ⟨by simp_all, c10⟩
 refine Fq (.bool false) (r_eql (m := v.pipe) (n := u.pipe) rfl ek ek (df q11)) ?_
 refine Fv (.bool false) ?_
 refine Fs rfl ?_
 refine Fs rfl ?_
 refine Fs rfl ?_
 refine Fs rfl ?_
 refine Fs rfl ?_
 refine Fq (.bool false) (r_pick (b := false) rfl ek ek) ?_
 refine Fa (.bool false) ?_
 apply F.es
 apply h2
 refine wp_ret ?_
 try simp only [Exit.then]
 refine ret1 (v := .bool false) rfl kk ?_
 exact ⟨by simp_all, c10⟩
def idxV (q : Vv → Bool) : List Vv → Int
  | [] => -1
  | p :: ps => if q p = true then 0 else if idxV q ps < 0 then -1 else idxV q ps + 1
theorem idxV_at {q : Vv → Bool} : ∀ {ps : List Vv} {k : Nat} {x : Vv}, (∀ j z, j < k → ps[j]? = some z → q z = false) → ps[k]? = some x → q x = true → idxV q ps = (k : Int)
  | [], k, x, _, hx, _ => by simp at hx
  | p :: ps, 0, x, _, hx, e => by simp at hx; subst hx; unfold idxV; rw [if_pos e]; rfl
  | p :: ps, k + 1, x, h, hx, e => by
    have h0 := h 0 p (by omega) rfl
    have ih := idxV_at (q := q) (ps := ps) (k := k) (fun j z hj hz => h (j + 1) z (by omega) (by simpa using hz)) (by simpa using hx) e
    unfold idxV; rw [if_neg (by rw [h0]; simp), ih, if_neg (by omega)]; omega
theorem idxV_none {q : Vv → Bool} : ∀ {ps : List Vv}, (∀ (j : Nat) z, j < ps.length → ps[j]? = some z → q z = false) → idxV q ps = -1
  | [], _ => rfl
  | p :: ps, h => by
    have h0 := h 0 p (by simp) rfl
    have ih := idxV_none (q := q) (ps := ps) (fun j z hj hz => h (j + 1) z (by simp; omega) (by simpa using hz))
    unfold idxV; rw [if_neg (by rw [h0]; simp), ih]; rfl
theorem idxV_cases (q : Vv → Bool) (ps : List Vv) : (idxV q ps = -1 ∧ ps.any q = false) ∨ ∃ (k : Nat) (x : Vv), idxV q ps = (k : Int) ∧ ps[k]? = some x ∧ q x = true ∧ ps.any q = true ∧ ∀ j z, j < k → ps[j]? = some z → q z = false := by
  induction ps with
  | nil => exact .inl ⟨rfl, rfl⟩
  | cons p ps ih =>
    by_cases hp : q p = true
    · exact .inr ⟨0, p, by unfold idxV; rw [if_pos hp]; rfl, rfl, hp, by simp [hp], fun j z hj => absurd hj (by omega)⟩
    · have hp' : q p = false := by simpa using hp
      rcases ih with ⟨h1, h2⟩ | ⟨k, x, h1, h2, h3, h4, h5⟩
      · exact .inl ⟨by unfold idxV; rw [if_neg hp, h1]; rfl, by simp [hp', h2]⟩
      · refine .inr ⟨k + 1, x, by unfold idxV; rw [if_neg hp, h1, if_neg (by omega)]; omega, by simpa using h2, h3, by rw [List.any_cons, h4, Bool.or_true], fun j z hj hz => ?_⟩
        rcases j with _ | j
        · simp at hz; subst hz; exact hp'
        · exact h5 j z (by omega) (by simpa using hz)
theorem idxV_pos (q : Vv → Bool) (ps : List Vv) : decide (0 ≤ idxV q ps) = ps.any q := by
  rcases idxV_cases q ps with ⟨h1, h2⟩ | ⟨k, x, h1, _, _, h4, _⟩
  · rw [h1, h2]; rfl
  · rw [h1, h4]; exact decide_eq_true (by omega)
set_option maxRecDepth 100000 in
set_option maxHeartbeats 8000000 in
theorem idxV_any (A : Option Addr) (n c : Nat) (vs : List Vv) (g : FuncId) (lb : Array Value) (q : Vv → Bool) (w : World) (ha : Rd w 4 A n (valvesV vs)) (hn : n ≤ 1048576) (he : enters Try.prog g = true) (HG : ∀ W v, Below w.heap.size w W → Calls Try.prog g (#[.agg #[.int .i64 v.id, .int .i64 v.pipe, .int .i64 v.node, .bool v.shut]] ++ lb) W fun e w' => e = .returned (.bool (q v)) ∧ Below W.heap.size W w') :
    Calls Try.prog 134 #[.slice A n c, .func (.func g) #[] lb] w fun e w' => e = .returned (.int .i64 (idxV q vs)) ∧ Below w.heap.size w w' := by
 have hl := rd_valves_len ha
 go_enter Try.func134, Try.ntmps134
 refine F.begin 19 [(0, .slice A n c), (1, .func (.func g) #[] lb)] (fun U0 => ?_)
 refine wk fun K1 h1 => ?_
 refine Rq 1 ?_
 refine Fa (.int .i64 0) ?_
 apply F.es
 apply h1
 refine wk fun K2 h2 => ?_
 refine wk fun K3 h3 => ?_
 refine Rq 3 ?_
 refine Fv (.slice A n c) ?_
 refine Fq (.int .i64 (n : Int)) (r_len (A := A) (n := n) (c := c) rfl ek kk) ?_
 refine Fv (.int .i64 0) ?_
 apply F.es
 apply h3
 refine wp_block ?_
 refine loopK (fun am0 aa0 wl0 => ∃ (k : Nat) , Kn aa0 [(0, .slice A n c), (1, .func (.func g) #[] lb), (4, .int .i64 0), (7, .int .i64 (n : Int)), (8, .int .i64 (k : Int))] 19 ∧ (am0 = n - k) ∧ (k ≤ n) ∧ (∀ j z, j < k → vs[j]? = some z → q z = false) ∧ (Below w.heap.size w wl0)) (n - 0) ?_ ?_
 ·exact ⟨0, Kn.of, rfl, (Nat.zero_le _), (fun j z hj => absurd hj (by omega)), (Below.refl _ _)⟩
 rintro am0 aa0 wl0 K4 h4 ⟨k, ⟨U0, rfl⟩, rfl, hk, hno, c1⟩
 refine wk fun K5 h5 => ?_
 refine Rq 1 ?_
 by_cases q2 : ((k : Int) : Int) < ((n : Int) : Int)
 ·refine Fq (.bool true) (r_lss (m := (k : Int)) (n := (n : Int)) rfl ek ek (dt q2)) ?_
  apply F.es
  apply h5
  refine wk fun K6 h6 => ?_
  refine wp_cond_true ek ?_
  apply wp_skip
  apply h6
  refine wk fun K7 h7 => ?_
  refine wp_block ?_
  refine wk fun K8 h8 => ?_
  refine Rq 2 ?_
  refine Fv (.int .i64 (k : Int)) ?_
  refine Fa (.int .i64 (k : Int)) ?_
  apply F.es
  apply h8
  refine wk fun K9 h9 => ?_
  refine W.region_plain (row := none) [(0, false), (1, false), (2, false), (3, false), (4, false), (5, true)] kk ?_
  have s3 := SG.self wl0 none
  refine Fv (.func (.func g) #[] lb) ?_
  refine Fv (.slice A n c) ?_
  refine Fv (.int .i64 (k : Int)) ?_
  obtain ⟨x4, hx5⟩ := get_of (zs := vs) (k := k) (by have := hl; omega)
  obtain ⟨b6, o7, hA8, hb9, hc10, hc11, hc12, hc13⟩ := Rd.elValve ha hx5
  refine Fq (.pointer (some ⟨b6, o7 + k * 4, none⟩)) (r_idx (n := n) (c := c) (k := k) rfl ek hA8 kk kk (by have := hl; omega)) ?_
  refine Fq (.agg #[.int .i64 x4.id, .int .i64 x4.pipe, .int .i64 x4.node, .bool x4.shut]) (r_load4 rfl ek kk kk (sgS (later c1 hc10) (by simp)) (sgS (later c1 hc11) (by simp)) (sgS (later c1 hc12) (by simp)) (sgS (later c1 hc13) (by simp))) ?_
  refine W.scv (vs := [.agg #[.int .i64 x4.id, .int .i64 x4.pipe, .int .i64 x4.node, .bool x4.shut]]) (g := g) (lb := lb) rfl rfl kk kk he kk rfl (HG _ x4 ((Sb c1 s3 nkk))) ?_
  rintro e w15 ⟨rfl, b14⟩
  have s16 := SG.of_below s3 b14
  refine ⟨_, rfl, s16, ?_⟩
  apply F.nx
  rcases Bool.eq_false_or_eq_true (q x4) with q17 | q17
  ·rw [q17]
   apply F.es
   have c18 := (Sb c1 s16 nkk)
   apply h9
   refine wp_cond_true ek ?_
   refine wk fun K10 h10 => ?_
   refine Rq 2 ?_
   refine Fv (.int .i64 (k : Int)) ?_
   refine Fa (.int .i64 (k : Int)) ?_
   apply F.es
   apply h10
   refine wp_ret ?_
   try simp only [Exit.then, Exit.inBlock]
   refine ret1 (v := .int .i64 (k : Int)) rfl kk ?_
   exact ⟨by rw [idxV_at hno hx5 q17]; try rfl, c18⟩
  rw [q17]
  apply F.es
  have c19 := (Sb c1 s16 nkk)
  apply h9
  refine wp_cond_false ek ?_
  apply wp_skip
  apply h7
  refine Rq 2 ?_
  refine Fq (.int .i64 ((k + 1 : Nat) : Int)) (r_add (m := (k : Int)) (n := 1) (z := ((k + 1 : Nat) : Int)) rfl ek ek (by omega) (by omega)) ?_
  refine Fv (.int .i64 ((k + 1 : Nat) : Int)) ?_
  apply F.es
  exact h4 _ _ _ (by omega : (n - (k + 1)) < _) ⟨k + 1, Kn.of, rfl, (by omega), (upto_succ (Q := fun z => q z = false) hno hx5 q17), c19⟩
 refine Fq (.bool false) (r_lss (m := (k : Int)) (n := (n : Int)) rfl ek ek (df q2)) ?_
 apply F.es
 apply h5
 refine wk fun K11 h11 => ?_
 refine wp_cond_false ek ?_
 refine wp_exit ?_
 apply h2
 refine wk fun K12 h12 => ?_
 refine Rq 1 ?_
 refine Fa (.int .i64 (-1)) ?_
 apply F.es
 apply h12
 refine wp_ret ?_
 try simp only [Exit.then]
 refine ret1 (v := .int .i64 (-1)) rfl kk ?_
 exact ⟨by rw [idxV_none (fun j z hj => hno j z (by omega))]; try rfl, c1⟩
set_option maxRecDepth 100000 in
set_option maxHeartbeats 8000000 in
theorem anyV_any (A : Option Addr) (n c : Nat) (vs : List Vv) (g : FuncId) (lb : Array Value) (q : Vv → Bool) (w : World) (ha : Rd w 4 A n (valvesV vs)) (hn : n ≤ 1048576) (he : enters Try.prog g = true) (HG : ∀ W v, Below w.heap.size w W → Calls Try.prog g (#[.agg #[.int .i64 v.id, .int .i64 v.pipe, .int .i64 v.node, .bool v.shut]] ++ lb) W fun e w' => e = .returned (.bool (q v)) ∧ Below W.heap.size W w') :
    Calls Try.prog 82 #[.slice A n c, .func (.func g) #[] lb] w fun e w' => e = .returned (.bool (vs.any q)) ∧ Below w.heap.size w w' := by
 have hl := rd_valves_len ha
 go_enter Try.func82, Try.ntmps82
 refine F.begin 9 [(0, .slice A n c), (1, .func (.func g) #[] lb)] (fun U0 => ?_)
 refine wk fun K1 h1 => ?_
 refine Rq 1 ?_
 refine Fa (.bool false) ?_
 apply F.es
 apply h1
 refine wk fun K2 h2 => ?_
 refine W.region_plain (row := none) [(0, false), (1, false), (2, true), (3, false), (4, false)] kk ?_
 have s1 := SG.self w none
 refine Fv (.slice A n c) ?_
 refine Fv (.func (.func g) #[] lb) ?_
 refine Fc [.slice A n c, .func (.func g) #[] lb] (idxV_any A n c vs g lb q _ (Rk ha (Sb (Below.refl _ _) s1 nkk)) (by omega) he (fun W v hW => HG W v (((Sb (Below.refl _ _) s1 nkk)).trans (hW.mono ((Sb (Below.refl _ _) s1 nkk)).size)))) ?_
 rintro e w3 ⟨rfl, b2⟩
 have s4 := SG.of_below s1 b2
 refine ⟨_, rfl, s4, ?_⟩
 apply F.nx
 by_cases q5 : (idxV q vs : Int) ≥ (0 : Int)
 ·refine Fq (.bool true) (r_geq (m := idxV q vs) (n := 0) rfl ek ek (dt q5)) ?_
  refine Fa (.bool true) ?_
  apply F.es
  have c6 := (Sb (Below.refl _ _) s4 nkk)
  apply h2
  refine wp_ret ?_
  try simp only [Exit.then]
  refine ret1 (v := .bool true) rfl kk ?_
  exact ⟨by rw [← idxV_pos]; simp_all, c6⟩
 refine Fq (.bool false) (r_geq (m := idxV q vs) (n := 0) rfl ek ek (df q5)) ?_
 refine Fa (.bool false) ?_
 apply F.es
 have c7 := (Sb (Below.refl _ _) s4 nkk)
 apply h2
 refine wp_ret ?_
 try simp only [Exit.then]
 refine ret1 (v := .bool false) rfl kk ?_
 exact ⟨by rw [← idxV_pos]; simp_all, c7⟩
set_option maxRecDepth 100000 in
set_option maxHeartbeats 8000000 in
theorem valveAt_any (A : Option Addr) (n c : Nat) (vs : List Vv) (p : Pp) (node : Int) (w : World) (ha : Rd w 4 A n (valvesV vs)) (hn : n ≤ 1048576) :
    Calls Try.prog 129 #[.slice A n c, .agg #[.int .i64 p.id, .int .i64 p.fr, .int .i64 p.to, .int .i64 p.sz], .int .i64 node] w fun e w' => e = .returned (.int .i64 (idxV (fun v => decide (v.pipe = p.id) && decide (v.node = node)) vs)) ∧ Below w.heap.size w w' := by
 have hl := rd_valves_len ha
 go_enter Try.func129, Try.ntmps129
 refine F.begin 10 [(0, .slice A n c), (1, .agg #[.int .i64 p.id, .int .i64 p.fr, .int .i64 p.to, .int .i64 p.sz]), (2, .int .i64 node)] (fun U0 => ?_)
 refine wk fun K1 h1 => ?_
 refine W.region_plain (row := none) [(0, true), (1, true), (2, false)] kk ?_
 have s1 := SG.self w none
 refine W.sn (fun b => .pointer (some ⟨b, 0, none⟩)) #[.int .i64 p.id, .int .i64 p.fr, .int .i64 p.to, .int .i64 p.sz] 51 s1 rfl kk rfl (fun _ => by kernel_rfl) (fun b2 w3 hb4 k5 x6 s7 => ?_)
 apply F.nx
 have lo8 : w.heap.size ≤ b2 := Nl ((Sb (Below.refl _ _) s1 nkk)).size (Nat.le_of_eq hb4)
 refine W.sn (fun b => .pointer (some ⟨b, 0, none⟩)) #[.int .i64 node] 3 s7 rfl kk rfl (fun _ => by kernel_rfl) (fun b9 w10 hb11 k12 x13 s14 => ?_)
 apply F.nx
 have lo15 : w.heap.size ≤ b9 := Nl ((Sb (Below.refl _ _) s7 nkk)).size (Nat.le_of_eq hb11)
 have ne16 : b2 ≠ b9 := Nat.ne_of_lt (Nat.lt_of_lt_of_eq (blk_lt x6) hb11)
 have x6 := (k12.block _ (blk_lt x6)).trans x6
 refine Fa (.int .i64 0) ?_
 apply F.es
 have c17 := (Sb (Below.refl _ _) s14 nkk)
 apply h1
 refine wk fun K2 h2 => ?_
 refine W.region_plain (row := none) [(0, false), (1, false), (2, true), (3, false)] kk ?_
 have s18 := SG.self w10 none
 refine Fv (.slice A n c) ?_
 refine Fq (.func (.func 150) #[] #[.pointer (some ⟨b2, 0, none⟩), .pointer (some ⟨b9, 0, none⟩)]) (r_makeFunc (vs := [.pointer (some ⟨b2, 0, none⟩), .pointer (some ⟨b9, 0, none⟩)]) rfl kk) ?_
 refine Fc [.slice A n c, .func (.func 150) #[] #[.pointer (some ⟨b2, 0, none⟩), .pointer (some ⟨b9, 0, none⟩)]] (idxV_any A n c vs 150 #[.pointer (some ⟨b2, 0, none⟩), .pointer (some ⟨b9, 0, none⟩)] (fun v => decide (v.pipe = p.id) && decide (v.node = node)) _ (Rk ha (Sb c17 s18 nkk)) (by omega) kk (fun W v hW => valveAtF_any v p node b2 b9 W ((hW.block _ (blk_lt x6)).trans x6) ((hW.block _ (blk_lt x13)).trans x13) (by have := ne16; omega))) ?_
 rintro e w20 ⟨rfl, b19⟩
 have s21 := SG.of_below s18 b19
 refine ⟨_, rfl, s21, ?_⟩
 apply F.nx
 refine Fa (.int .i64 (idxV (fun v => decide (v.pipe = p.id) && decide (v.node = node)) vs)) ?_
 apply F.es
 have c22 := (Sb c17 s21 nkk)
 apply h2
 refine wp_ret ?_
 try simp only [Exit.then]
 refine ret1 (v := .int .i64 (idxV (fun v => decide (v.pipe = p.id) && decide (v.node = node)) vs)) rfl kk ?_
 exact ⟨rfl, c22⟩
set_option maxRecDepth 100000 in
set_option maxHeartbeats 8000000 in
theorem valveIndex_any (A : Option Addr) (n c : Nat) (vs : List Vv) (id : Int) (w : World) (ha : Rd w 4 A n (valvesV vs)) (hn : n ≤ 1048576) :
    Calls Try.prog 87 #[.slice A n c, .int .i64 id] w fun e w' => e = .returned (.int .i64 (idxV (fun v => decide (v.id = id)) vs)) ∧ Below w.heap.size w w' := by
 have hl := rd_valves_len ha
 go_enter Try.func87, Try.ntmps87
 refine F.begin 8 [(0, .slice A n c), (1, .int .i64 id)] (fun U0 => ?_)
 refine wk fun K1 h1 => ?_
 refine W.region_plain (row := none) [(0, true), (1, false)] kk ?_
 have s1 := SG.self w none
 refine W.sn (fun b => .pointer (some ⟨b, 0, none⟩)) #[.int .i64 id] 3 s1 rfl kk rfl (fun _ => by kernel_rfl) (fun b2 w3 hb4 k5 x6 s7 => ?_)
 apply F.nx
 have lo8 : w.heap.size ≤ b2 := Nl ((Sb (Below.refl _ _) s1 nkk)).size (Nat.le_of_eq hb4)
 refine Fa (.int .i64 0) ?_
 apply F.es
 have c9 := (Sb (Below.refl _ _) s7 nkk)
 apply h1
 refine wk fun K2 h2 => ?_
 refine W.region_plain (row := none) [(0, false), (1, false), (2, true), (3, false)] kk ?_
 have s10 := SG.self w3 none
 refine Fv (.slice A n c) ?_
 refine Fq (.func (.func 135) #[] #[.pointer (some ⟨b2, 0, none⟩)]) (r_makeFunc (vs := [.pointer (some ⟨b2, 0, none⟩)]) rfl kk) ?_
 refine Fc [.slice A n c, .func (.func 135) #[] #[.pointer (some ⟨b2, 0, none⟩)]] (idxV_any A n c vs 135 #[.pointer (some ⟨b2, 0, none⟩)] (fun v => decide (v.id = id)) _ (Rk ha (Sb c9 s10 nkk)) (by omega) kk (fun W v hW => valveIndexF_any v id b2 W ((hW.block _ (blk_lt x6)).trans x6))) ?_
 rintro e w12 ⟨rfl, b11⟩
 have s13 := SG.of_below s10 b11
 refine ⟨_, rfl, s13, ?_⟩
 apply F.nx
 refine Fa (.int .i64 (idxV (fun v => decide (v.id = id)) vs)) ?_
 apply F.es
 have c14 := (Sb c9 s13 nkk)
 apply h2
 refine wp_ret ?_
 try simp only [Exit.then]
 refine ret1 (v := .int .i64 (idxV (fun v => decide (v.id = id)) vs)) rfl kk ?_
 exact ⟨rfl, c14⟩
end Go.Proofs.Ytdbgfejeleafgaa
