/- What the texts behind it build on; conditions: none. -/
import Derived.Test.YtdbgfejeleafgaaPh7
namespace Go.Proofs.Ytdbgfejeleafgaa
open Go.RowKit
set_option linter.unusedVariables false
set_option linter.unusedSimpArgs false
noncomputable def leastOf (r : Option (List Int × Int)) : Int := match r with | some b => b.2 | none => -1
def bpOf' (r : Option (List Int × Int)) : List Int := match r with | some b => b.1 | none => []
theorem sfd_some {fd : Bool} {b : List Int × Int} (h : fd = true) : (bif fd then some b else none) = some b := by rw [h]; rfl
theorem sfd_none {fd : Bool} {b : List Int × Int} (h : fd = false) : (bif fd then some b else none) = none := by rw [h]; rfl
theorem sbest_fin {r : Option (List Int × Int)} {fd : Bool} {bp : List Int} {lt : Int} (h : r = bif fd then some (bp, lt) else none) (hn : fd = false → bp = [] ∧ lt = -1) : bp = bpOf' r ∧ lt = leastOf r := by
  subst h
  cases fd with
  | true => exact ⟨rfl, rfl⟩
  | false => obtain ⟨rfl, rfl⟩ := hn rfl; exact ⟨rfl, rfl⟩
theorem fd_pos {fd : Bool} {bp : List Int} {lt : Int} (hn : fd = false → bp = [] ∧ lt = -1) (h : 0 ≤ lt) : fd = true := by
  cases fd with
  | true => rfl
  | false => have := (hn rfl).2; omega
theorem fd_neg {fd : Bool} {lt : Int} (hn : fd = true → 0 ≤ lt) (h : lt < 0) : fd = false := by
  cases fd with
  | false => rfl
  | true => have := hn rfl; omega
theorem better_lt {h : List Int → Int} {plan bp : List Int} {lt : Int} (e : h plan < lt) : better h plan (bp, lt) = true := by unfold better; rw [decide_eq_true e]; rfl
theorem better_less {h : List Int → Int} {plan bp : List Int} {lt : Int} (e : h plan = lt) (hl : lessL plan bp = true) : better h plan (bp, lt) = true := by unfold better; rw [decide_eq_true e, hl, Bool.true_and, Bool.or_true]
theorem better_gt {h : List Int → Int} {plan bp : List Int} {lt : Int} (e : ¬ h plan < lt) (e2 : ¬ h plan = lt) : better h plan (bp, lt) = false := by unfold better; rw [decide_eq_false e, decide_eq_false e2]; rfl
theorem better_ge {h : List Int → Int} {plan bp : List Int} {lt : Int} (e : ¬ h plan < lt) (hl : lessL plan bp = false) : better h plan (bp, lt) = false := by unfold better; rw [decide_eq_false e, hl, Bool.and_false]; rfl
theorem harmL_nil {ps : List Pp} {vs : List Vv} {s : Int} {cs plan : List Int} (h : cs.length = 0) : harmL ps vs s cs plan = 0 := by unfold harmL; rw [h]; rfl
theorem harmL_nn {ps : List Pp} {vs : List Vv} {s : Int} {cs plan : List Int} (h : ∀ c, c ∈ cs → 0 ≤ c ∧ c ≤ 1000) : 0 ≤ harmL ps vs s cs plan := (harmTo_bd h _ (Nat.le_refl _)).1
theorem bestOf_cutno {ps : List Pp} {vs : List Vv} {s id : Int} {h : List Int → Int} (e : cutB ps vs s id (openIds vs) = false) : bestOf (cutB ps vs s id) h (openIds vs) = none :=
  bestTo_none (fun t => by
    cases hc : cutB ps vs s id (choice (openIds vs) t) with
    | false => rfl
    | true => rw [cut_open hc] at e; cases e) _
theorem lessL_short {us ws : List Int} (h : us.length < ws.length) : lessL us ws = true := by unfold lessL; rw [if_neg (by omega), decide_eq_true h]
theorem lessL_long {us ws : List Int} (h : us.length ≠ ws.length) (h2 : ¬ us.length < ws.length) : lessL us ws = false := by unfold lessL; rw [if_neg h, decide_eq_false h2]
theorem lessL_lex {us ws : List Int} (h : us.length = ws.length) : lessL us ws = lexL us ws := by unfold lessL; rw [if_pos h]
theorem lexL_step {us ws : List Int} {i : Nat} {x y : Int} (hi : lexL (us.drop i) (ws.drop i) = lexL us ws) (hx : us[i]? = some x) (hy : ws[i]? = some y) (e : x = y) : lexL (us.drop (i + 1)) (ws.drop (i + 1)) = lexL us ws := by
  obtain ⟨h1, rfl⟩ := List.getElem?_eq_some_iff.1 hx
  obtain ⟨h2, rfl⟩ := List.getElem?_eq_some_iff.1 hy
  rw [List.drop_eq_getElem_cons h1, List.drop_eq_getElem_cons h2, lexL, if_pos e] at hi
  exact hi
theorem lexL_ne {us ws : List Int} {i : Nat} {x y : Int} (hi : lexL (us.drop i) (ws.drop i) = lexL us ws) (hx : us[i]? = some x) (hy : ws[i]? = some y) (e : x ≠ y) : lexL us ws = decide (x < y) := by
  obtain ⟨h1, rfl⟩ := List.getElem?_eq_some_iff.1 hx
  obtain ⟨h2, rfl⟩ := List.getElem?_eq_some_iff.1 hy
  rw [List.drop_eq_getElem_cons h1, List.drop_eq_getElem_cons h2, lexL, if_neg e] at hi
  exact hi.symm
theorem lexL_end {us ws : List Int} {i : Nat} (hi : lexL (us.drop i) (ws.drop i) = lexL us ws) (h : us.length ≤ i) : lexL us ws = false := by
  rw [List.drop_eq_nil_of_le h] at hi
  rw [← hi]; rfl
set_option maxRecDepth 100000 in
set_option maxHeartbeats 8000000 in
theorem l5Choice_any (A2 : Option Addr) (n2 c2 : Nat) (ol : List Int) (t : Nat) (w : World) (hb : Rd w 1 A2 n2 (intsV ol)) (hn2 : n2 ≤ 20) (ht : t ≤ 1024) :
    Calls Try.prog 114 #[.slice A2 n2 c2, .int .i64 ((t : Nat) : Int)] w fun e w' => ∃ A' n' c', e = .returned (.slice A' n' c') ∧ w'.ownsRow w.heap.size 3 1 (.slice A' n' c') n' (intsV (choice ol t)) ∧ Below w.heap.size w w' := by
 have hl2 := rd_ints_len hb
 go_enter Try.func114, Try.ntmps114
 refine F.begin 28 [(0, .slice A2 n2 c2), (1, .int .i64 (t : Int))] (fun U0 => ?_)
 refine wk fun K1 h1 => ?_
 refine Rq 1 ?_
 refine Fa (.slice none 0 0) ?_
 apply F.es
 apply h1
 refine wk fun K2 h2 => ?_
 refine W.region_plain (row := none) [(0, true), (1, false)] kk ?_
 have s10 := SG.self w none
 refine W.sn (fun b => .slice (some ⟨b, 0, none⟩) 0 0) #[] 3 s10 rfl kk rfl (fun _ => by kernel_rfl) (fun b11 w12 hb13 k14 x15 s16 => ?_)
 apply F.nx
 have lo17 : w.heap.size ≤ b11 := Nl ((Sb (Below.refl _ _) s10 nkk)).size (Nat.le_of_eq hb13)
 refine Fa (.slice (some ⟨b11, 0, none⟩) 0 0) ?_
 apply F.es
 have c18 := (Sb (Below.refl _ _) s16 nkk)
 apply h2
 refine wk fun K3 h3 => ?_
 refine wk fun K4 h4 => ?_
 refine Rq 1 ?_
 refine Fa (.int .i64 0) ?_
 apply F.es
 apply h4
 refine wp_block ?_
 have ho19 := own_empty (base := w.heap.size) (size := 1) x15 lo17
 replace ho19 : World.ownsRow _ _ _ _ _ _ (intsV []) := ho19
 refine loopK (fun am0 aa0 wl0 => ∃ (i : Nat) (A0_5 : Option Addr) (n0_5 : Nat) (c0_5 : Nat) , Kn aa0 [(0, .slice A2 n2 c2), (1, .int .i64 (t : Int)), (4, .slice none 0 0), (5, .slice A0_5 n0_5 c0_5), (6, .int .i64 (i : Int))] 28 ∧ (am0 = n2 - i) ∧ (i ≤ n2) ∧ (n0_5 ≤ i) ∧ (wl0.ownsRow w.heap.size 3 1 (.slice A0_5 n0_5 c0_5) n0_5 (intsV (choiceTo ol t i))) ∧ (Below w.heap.size w wl0)) (n2 - 0) ?_ ?_
 ·exact ⟨0, (some ⟨b11, 0, none⟩), 0, 0, Kn.of, rfl, (Nat.zero_le _), (Nat.zero_le _), ho19, c18⟩
 rintro am0 aa0 wl0 K5 h5 ⟨i, A0_5, n0_5, c0_5, ⟨U0, rfl⟩, rfl, hi, hb5, ho0_5, c20⟩
 refine wk fun K6 h6 => ?_
 refine wk fun K7 h7 => ?_
 refine Rq 4 ?_
 refine Fv (.int .i64 (i : Int)) ?_
 refine Fv (.slice A2 n2 c2) ?_
 refine Fq (.int .i64 (n2 : Int)) (r_len (A := A2) (n := n2) (c := c2) rfl ek kk) ?_
 by_cases q21 : ((i : Int) : Int) < ((n2 : Int) : Int)
 ·refine Fq (.bool true) (r_lss (m := (i : Int)) (n := (n2 : Int)) rfl ek ek (dt q21)) ?_
  apply F.es
  apply h7
  refine wp_cond_true ek ?_
  apply wp_skip
  apply h6
  refine wk fun K8 h8 => ?_
  refine wp_block ?_
  refine wk fun K9 h9 => ?_
  refine Rq 6 ?_
  refine Fv (.int .i64 (t : Int)) ?_
  refine Fv (.int .i64 (i : Int)) ?_
  refine Fq (.int .u64 (i : Int)) (r_convU (k := i) rfl ek kk kk (by omega)) ?_
  refine Fq (.int .i64 ((t / 2 ^ i : Nat) : Int)) (r_shr (q := t) (k := i) (yk := .u64) rfl ek ek (by omega)) ?_
  refine Fq (.int .i64 (((t / 2 ^ i) % 2 : Nat) : Int)) (r_and1 (q := t / 2 ^ i) rfl ek kk (by have h9 := Nat.div_le_self t (2 ^ i); have h8 : (2 : Nat) ^ 10 = 1024 := rfl; omega)) ?_
  by_cases q22 : ((((t / 2 ^ i) % 2 : Nat) : Int) : Int) = (1 : Int)
  ·refine Fq (.bool true) (r_eql (m := (((t / 2 ^ i) % 2 : Nat) : Int)) (n := 1) rfl ek ek (dt q22)) ?_
   apply F.es
   apply h9
   refine wp_cond_true ek ?_
   refine W.region_plain (row := (Value.ownBlock (.slice A0_5 n0_5 c0_5))) [(0, false), (1, false), (2, false), (3, false), (4, false), (5, true), (6, true), (7, false)] kk ?_
   have s23 := SG.self wl0 (Value.ownBlock (.slice A0_5 n0_5 c0_5))
   refine Fv (.slice A0_5 n0_5 c0_5) ?_
   refine Fv (.slice A2 n2 c2) ?_
   refine Fv (.int .i64 (i : Int)) ?_
   obtain ⟨x24, hx25⟩ := get_of (zs := ol) (k := i) (by have := hl2; omega)
   obtain ⟨b26, o27, hA28, hb29, hc30⟩ := Rd.elInt hb hx25
   refine Fq (.pointer (some ⟨b26, o27 + i, none⟩)) (r_idx1 (n := n2) (c := c2) (k := i) rfl ek hA28 kk kk (by have := hl2; omega)) ?_
   refine Fl (.int .i64 x24) (sgS (later c20 hc30) (nb_lo ho0_5 hb29)) ?_
   refine W.sn (fun b => .slice (some ⟨b, 0, none⟩) 1 1) #[.int .i64 x24] 3 s23 rfl kk rfl (fun _ => by kernel_rfl) (fun b31 w32 hb33 k34 x35 s36 => ?_)
   apply F.nx
   have lo37 : w.heap.size ≤ b31 := Nl ((Sb c20 s23 (fun kq e => (World.ownsRow.lt ho0_5 kq e).1))).size (Nat.le_of_eq hb33)
   have ho39 := own_kept ho0_5 k34
   refine W.sap (e := 3) (size := 1) (base := w.heap.size) (m := 1) (v := .slice A0_5 n0_5 c0_5) (c := 1) s36 rfl rfl rfl rfl kk kk kk ho39 x35 kk kk (by omega) (by omega) (by have := ((Sb c20 s36 (fun kq e => (World.ownsRow.lt ho0_5 kq e).1))).size; omega) (.inl rfl) (fun g40 cap41 w42 ho43 hg44 hat45 hlt46 s47 => ?_)
   apply F.nx
   have ho43 := own_snoc ho43
   refine Fa (.slice (some ⟨g40, 0, none⟩) (n0_5 + 1) cap41) ?_
   apply F.es
   have c49 := (Sb c20 s47 (fun kq e => (World.ownsRow.lt ho0_5 kq e).1))
   apply h8
   refine Rq 3 ?_
   refine Fv (.int .i64 (i : Int)) ?_
   refine Fq (.int .i64 ((i + 1 : Nat) : Int)) (r_add (m := (i : Int)) (n := 1) (z := ((i + 1 : Nat) : Int)) rfl ek ek (by omega) (by omega)) ?_
   refine Fa (.int .i64 ((i + 1 : Nat) : Int)) ?_
   apply F.es
   exact h5 _ _ _ (by omega : (n2 - (i + 1)) < _) ⟨i + 1, (some ⟨g40, 0, none⟩), (n0_5 + 1), cap41, Kn.of, rfl, (by omega), (by omega), (by rw [choiceTo_yes hx25 (by omega)]; exact ho43), c49⟩
  refine Fq (.bool false) (r_eql (m := (((t / 2 ^ i) % 2 : Nat) : Int)) (n := 1) rfl ek ek (df q22)) ?_
  apply F.es
  apply h9
  refine wp_cond_false ek ?_
  apply wp_skip
  apply h8
  refine Rq 3 ?_
  refine Fv (.int .i64 (i : Int)) ?_
  refine Fq (.int .i64 ((i + 1 : Nat) : Int)) (r_add (m := (i : Int)) (n := 1) (z := ((i + 1 : Nat) : Int)) rfl ek ek (by omega) (by omega)) ?_
  refine Fa (.int .i64 ((i + 1 : Nat) : Int)) ?_
  apply F.es
  exact h5 _ _ _ (by omega : (n2 - (i + 1)) < _) ⟨i + 1, A0_5, n0_5, c0_5, Kn.of, rfl, (by omega), (by omega), (by rw [choiceTo_no (by omega)]; exact ho0_5), c20⟩
 refine Fq (.bool false) (r_lss (m := (i : Int)) (n := (n2 : Int)) rfl ek ek (df q21)) ?_
 apply F.es
 apply h7
 refine wp_cond_false ek ?_
 refine wp_exit ?_
 apply h3
 refine wk fun K10 h10 => ?_
 refine Rq 2 ?_
 refine Fv (.slice A0_5 n0_5 c0_5) ?_
 refine Fa (.slice A0_5 n0_5 c0_5) ?_
 apply F.es
 apply h10
 refine wp_ret ?_
 try simp only [Exit.then]
 refine ret1 (v := .slice A0_5 n0_5 c0_5) rfl kk ?_
 have e9 : choiceTo ol t i = choice ol t := by unfold choice; rw [show ol.length = i by omega]
 have h9 := ho0_5
 rw [e9] at h9
 exact ⟨_, _, _, rfl, h9, c20⟩
set_option maxRecDepth 100000 in
set_option maxHeartbeats 8000000 in
theorem l5Less_any (A2 : Option Addr) (n2 c2 : Nat) (us : List Int) (A3 : Option Addr) (n3 c3 : Nat) (ws : List Int) (w : World) (hb : Rd w 1 A2 n2 (intsV us)) (hp3 : Rd w 1 A3 n3 (intsV ws)) (hn2 : n2 ≤ 1000000) (hn3 : n3 ≤ 1000000) :
    Calls Try.prog 137 #[.slice A2 n2 c2, .slice A3 n3 c3] w fun e w' => e = .returned (.bool (lessL us ws)) ∧ Below w.heap.size w w' := by
 have hl2 := rd_ints_len hb
 have hl3 := rd_ints_len hp3
 go_enter Try.func137, Try.ntmps137
 refine F.begin 40 [(0, .slice A2 n2 c2), (1, .slice A3 n3 c3)] (fun U0 => ?_)
 refine wk fun K1 h1 => ?_
 refine Rq 1 ?_
 refine Fa (.bool false) ?_
 apply F.es
 apply h1
 refine wk fun K2 h2 => ?_
 refine wk fun K3 h3 => ?_
 refine Rq 5 ?_
 refine Fv (.slice A2 n2 c2) ?_
 refine Fq (.int .i64 (n2 : Int)) (r_len (A := A2) (n := n2) (c := c2) rfl ek kk) ?_
 refine Fv (.slice A3 n3 c3) ?_
 refine Fq (.int .i64 (n3 : Int)) (r_len (A := A3) (n := n3) (c := c3) rfl ek kk) ?_
 by_cases q10 : ((n2 : Int) : Int) ≠ ((n3 : Int) : Int)
 ·refine Fq (.bool true) (r_neq (m := (n2 : Int)) (n := (n3 : Int)) rfl ek ek (dt q10)) ?_
  apply F.es
  apply h3
  refine wp_cond_true ek ?_
  refine wk fun K4 h4 => ?_
  refine Rq 6 ?_
  refine Fv (.slice A2 n2 c2) ?_
  refine Fq (.int .i64 (n2 : Int)) (r_len (A := A2) (n := n2) (c := c2) rfl ek kk) ?_
  refine Fv (.slice A3 n3 c3) ?_
  refine Fq (.int .i64 (n3 : Int)) (r_len (A := A3) (n := n3) (c := c3) rfl ek kk) ?_
  by_cases q11 : ((n2 : Int) : Int) < ((n3 : Int) : Int)
  ·refine Fq (.bool true) (r_lss (m := (n2 : Int)) (n := (n3 : Int)) rfl ek ek (dt q11)) ?_
   refine Fa (.bool true) ?_
   apply F.es
   apply h4
   refine wp_ret ?_
   try simp only [Exit.then]
   refine ret1 (v := .bool true) rfl kk ?_
   exact ⟨ret_bool (show true = lessL us ws from (show lessL us ws = true from lessL_short (by omega)).symm), (Below.refl _ _)⟩
  refine Fq (.bool false) (r_lss (m := (n2 : Int)) (n := (n3 : Int)) rfl ek ek (df q11)) ?_
  refine Fa (.bool false) ?_
  apply F.es
  apply h4
  refine wp_ret ?_
  try simp only [Exit.then]
  refine ret1 (v := .bool false) rfl kk ?_
  exact ⟨ret_bool (show false = lessL us ws from (show lessL us ws = false from lessL_long (by omega) (by omega)).symm), (Below.refl _ _)⟩
 refine Fq (.bool false) (r_neq (m := (n2 : Int)) (n := (n3 : Int)) rfl ek ek (df q10)) ?_
 apply F.es
 apply h3
 refine wp_cond_false ek ?_
 apply wp_skip
 apply h2
 refine wk fun K5 h5 => ?_
 refine wk fun K6 h6 => ?_
 refine Rq 1 ?_
 refine Fa (.int .i64 0) ?_
 apply F.es
 apply h6
 refine wp_block ?_
 refine loopK (fun am0 aa0 wl0 => ∃ (i : Nat) , Kn aa0 [(0, .slice A2 n2 c2), (1, .slice A3 n3 c3), (4, .bool false), (5, .int .i64 (i : Int)), (10, .bool false)] 40 ∧ (am0 = n2 - i) ∧ (i ≤ n2) ∧ (lexL (us.drop i) (ws.drop i) = lexL us ws) ∧ (Below w.heap.size w wl0)) (n2 - 0) ?_ ?_
 ·exact ⟨0, Kn.of, rfl, (Nat.zero_le _), rfl, (Below.refl _ _)⟩
 rintro am0 aa0 wl0 K7 h7 ⟨i, ⟨U0, rfl⟩, rfl, hi, hinv, c12⟩
 refine wk fun K8 h8 => ?_
 refine wk fun K9 h9 => ?_
 refine Rq 4 ?_
 refine Fv (.int .i64 (i : Int)) ?_
 refine Fv (.slice A2 n2 c2) ?_
 refine Fq (.int .i64 (n2 : Int)) (r_len (A := A2) (n := n2) (c := c2) rfl ek kk) ?_
 by_cases q13 : ((i : Int) : Int) < ((n2 : Int) : Int)
 ·refine Fq (.bool true) (r_lss (m := (i : Int)) (n := (n2 : Int)) rfl ek ek (dt q13)) ?_
  apply F.es
  apply h9
  refine wp_cond_true ek ?_
  apply wp_skip
  apply h8
  refine wk fun K10 h10 => ?_
  refine wp_block ?_
  refine wk fun K11 h11 => ?_
  refine W.region_sch (row := none) (Sch.of [(0, false), (1, false), (2, false), (3, false), (4, false), (5, false), (6, false), (7, false), (8, false)]) kk kk (fun _ d _ _ _ h => by cases d <;> exact h) kk (fun w14 e15 s16 => ?_)
  refine Fv (.slice A2 n2 c2) ?_
  refine Fv (.int .i64 (i : Int)) ?_
  obtain ⟨x17, hx18⟩ := get_of (zs := us) (k := i) (by have := hl2; omega)
  obtain ⟨b19, o20, hA21, hb22, hc23⟩ := Rd.elInt hb hx18
  refine Fq (.pointer (some ⟨b19, o20 + i, none⟩)) (r_idx1 (n := n2) (c := c2) (k := i) rfl ek hA21 kk kk (by have := hl2; omega)) ?_
  refine Fl (.int .i64 x17) (sgS (later c12 hc23) (by simp)) ?_
  refine Fv (.slice A3 n3 c3) ?_
  refine Fv (.int .i64 (i : Int)) ?_
  obtain ⟨x24, hx25⟩ := get_of (zs := ws) (k := i) (by have := hl3; omega)
  obtain ⟨b26, o27, hA28, hb29, hc30⟩ := Rd.elInt hp3 hx25
  refine Fq (.pointer (some ⟨b26, o27 + i, none⟩)) (r_idx1 (n := n3) (c := c3) (k := i) rfl ek hA28 kk kk (by have := hl3; omega)) ?_
  refine Fl (.int .i64 x24) (sgS (later c12 hc30) (by simp)) ?_
  by_cases q31 : (x17 : Int) ≠ (x24 : Int)
  ·refine Fq (.bool true) (r_neq (m := x17) (n := x24) rfl ek ek (dt q31)) ?_
   apply F.es
   have c32 := (Sb c12 s16 nkk)
   apply h11
   refine wp_cond_true ek ?_
   refine wk fun K12 h12 => ?_
   refine W.region_sch (row := none) (Sch.of [(0, false), (1, false), (2, false), (3, false), (4, false), (5, false), (6, false), (7, false), (8, false), (9, false)]) kk kk (fun _ d _ _ _ h => by cases d <;> exact h) kk (fun w33 e34 s35 => ?_)
   refine Fv (.slice A2 n2 c2) ?_
   refine Fv (.int .i64 (i : Int)) ?_
   refine Fq (.pointer (some ⟨b19, o20 + i, none⟩)) (r_idx1 (n := n2) (c := c2) (k := i) rfl ek hA21 kk kk (by have := hl2; omega)) ?_
   refine Fl (.int .i64 x17) (sgS (later c32 hc23) (by simp)) ?_
   refine Fv (.slice A3 n3 c3) ?_
   refine Fv (.int .i64 (i : Int)) ?_
   refine Fq (.pointer (some ⟨b26, o27 + i, none⟩)) (r_idx1 (n := n3) (c := c3) (k := i) rfl ek hA28 kk kk (by have := hl3; omega)) ?_
   refine Fl (.int .i64 x24) (sgS (later c32 hc30) (by simp)) ?_
   by_cases q36 : (x17 : Int) < (x24 : Int)
   ·refine Fq (.bool true) (r_lss (m := x17) (n := x24) rfl ek ek (dt q36)) ?_
    refine Fa (.bool true) ?_
    apply F.es
    have c37 := (Sb c32 s35 nkk)
    apply h12
    refine wp_ret ?_
    try simp only [Exit.then, Exit.inBlock]
    refine ret1 (v := .bool true) rfl kk ?_
    exact ⟨ret_bool (show true = lessL us ws from (show lessL us ws = true from by rw [lessL_lex (by omega), lexL_ne hinv hx18 hx25 (by omega), decide_eq_true (by omega)]).symm), c37⟩
   refine Fq (.bool false) (r_lss (m := x17) (n := x24) rfl ek ek (df q36)) ?_
   refine Fa (.bool false) ?_
   apply F.es
   have c38 := (Sb c32 s35 nkk)
   apply h12
   refine wp_ret ?_
   try simp only [Exit.then, Exit.inBlock]
   refine ret1 (v := .bool false) rfl kk ?_
   exact ⟨ret_bool (show false = lessL us ws from (show lessL us ws = false from by rw [lessL_lex (by omega), lexL_ne hinv hx18 hx25 (by omega), decide_eq_false (by omega)]).symm), c38⟩
  refine Fq (.bool false) (r_neq (m := x17) (n := x24) rfl ek ek (df q31)) ?_
  apply F.es
  have c39 := (Sb c12 s16 nkk)
  apply h11
  refine wp_cond_false ek ?_
  apply wp_skip
  apply h10
  refine Rq 3 ?_
  refine Fv (.int .i64 (i : Int)) ?_
  refine Fq (.int .i64 ((i + 1 : Nat) : Int)) (r_add (m := (i : Int)) (n := 1) (z := ((i + 1 : Nat) : Int)) rfl ek ek (by omega) (by omega)) ?_
  refine Fa (.int .i64 ((i + 1 : Nat) : Int)) ?_
  apply F.es
  exact h7 _ _ _ (by omega : (n2 - (i + 1)) < _) ⟨i + 1, Kn.of, rfl, (by omega), (lexL_step hinv hx18 hx25 (by omega)), c39⟩
 refine Fq (.bool false) (r_lss (m := (i : Int)) (n := (n2 : Int)) rfl ek ek (df q13)) ?_
 apply F.es
 apply h9
 refine wp_cond_false ek ?_
 refine wp_exit ?_
 apply h5
 refine wk fun K13 h13 => ?_
 refine Rq 1 ?_
 refine Fa (.bool false) ?_
 apply F.es
 apply h13
 refine wp_ret ?_
 try simp only [Exit.then]
 refine ret1 (v := .bool false) rfl kk ?_
 exact ⟨ret_bool (show false = lessL us ws from (show lessL us ws = false from by rw [lessL_lex (by omega), lexL_end hinv (by omega)]).symm), c12⟩
set_option maxRecDepth 100000 in
set_option maxHeartbeats 8000000 in
theorem l5Best_any (m : Int) (A : Option Addr) (n c : Nat) (ps : List Pp) (A2 : Option Addr) (n2 c2 : Nat) (vs : List Vv) (s id : Int) (A4 : Option Addr) (n4 c4 : Nat) (cs : List Int) (w : World) (ha : Rd w 4 A n (pipesV ps)) (hb : Rd w 4 A2 n2 (valvesV vs)) (hn : n ≤ 1048576) (hn2 : n2 ≤ 1048576) (hfm2 : Fm A2 n2 c2) (hv9 : GoodVal m ps vs) (hs : 1 ≤ s ∧ s ≤ m) (hfa : 0 ≤ findL ps id) (hc4 : Rd w 1 A4 n4 (intsV cs)) (hn4 : n4 ≤ 1048576) (hcob : ∀ c, c ∈ cs → 0 ≤ c ∧ c ≤ 1000) (hcoo : cs.length = 0 ∨ custOk m cs = true) :
    Calls Try.prog 101 #[.agg #[.int .i64 m, .slice A n c], .slice A2 n2 c2, .int .i64 s, .int .i64 id, .slice A4 n4 c4] w fun e w' => ∃ A' n' d, e = .returned (.tuple #[.slice A' n' d, .int .i64 (leastOf (bestOf (cutB ps vs s id) (harmL ps vs s cs) (openIds vs)))]) ∧ w'.ownsRow w.heap.size 3 1 (.slice A' n' d) n' (intsV (bpOf' (bestOf (cutB ps vs s id) (harmL ps vs s cs) (openIds vs)))) ∧ Below w.heap.size w w' := by
 have hl := rd_pipes_len ha
 have hl2 := rd_valves_len hb
 have hg := hv9.net
 have hgl := hg.lo
 have hgh := hg.hi
 have hp := hg.pipesIn
 have hlen10 := hg.len
 have hu := hv9.uniq
 have hvl := hv9.len
 have hfl := findL_lt ps id
 have hl4 := rd_ints_len hc4
 go_enter Try.func101, Try.ntmps101
 refine F.begin 93 [(0, .agg #[.int .i64 m, .slice A n c]), (1, .slice A2 n2 c2), (2, .int .i64 s), (3, .int .i64 id), (4, .slice A4 n4 c4)] (fun U0 => ?_)
 refine wk fun K1 h1 => ?_
 refine W.region_plain (row := none) [(0, true), (1, false), (2, false)] kk ?_
 have s10 := SG.self w none
 refine W.sn (fun b => .pointer (some ⟨b, 0, none⟩)) #[.int .i64 m, .slice A n c] 26 s10 rfl kk rfl (fun _ => by kernel_rfl) (fun b11 w12 hb13 k14 x15 s16 => ?_)
 apply F.nx
 have lo17 : w.heap.size ≤ b11 := Nl ((Sb (Below.refl _ _) s10 nkk)).size (Nat.le_of_eq hb13)
 refine Fa (.slice none 0 0) ?_
 refine Fa (.int .i64 0) ?_
 apply F.es
 have c18 := (Sb (Below.refl _ _) s16 nkk)
 apply h1
 refine wk fun K2 h2 => ?_
 refine W.region_plain (row := none) [(0, false), (1, true), (2, false)] kk ?_
 have s19 := SG.self w12 none
 refine Fv (.slice A2 n2 c2) ?_
 refine Fc [.slice A2 n2 c2] (l5Open_any A2 n2 c2 vs _ (Rk hb (Sb c18 s19 nkk)) (by omega)) ?_
 rintro e w29 ⟨A20, n21, c22, rfl, ho23, b28⟩
 have s30 := SG.of_below s19 b28
 refine ⟨_, rfl, s30, ?_⟩
 apply F.nx
 have rd24 := own_rd ho23
 have hl25 := rd_ints_len rd24
 have := openIds_len vs
 refine Fa (.slice A20 n21 c22) ?_
 apply F.es
 have x15 := Sk s30 x15 onn
 have c32 := (Sb c18 s30 nkk)
 apply h2
 refine wk fun K3 h3 => ?_
 refine W.region_plain (row := none) [(0, true), (1, false), (2, false)] kk ?_
 have s33 := SG.self w29 none
 refine W.sn (fun b => .slice (some ⟨b, 0, none⟩) 0 0) #[] 3 s33 rfl kk rfl (fun _ => by kernel_rfl) (fun b34 w35 hb36 k37 x38 s39 => ?_)
 apply F.nx
 have lo40 : w.heap.size ≤ b34 := Nl ((Sb c32 s33 nkk)).size (Nat.le_of_eq hb36)
 have ne42 : b11 ≠ b34 := Nat.ne_of_lt (Nat.lt_of_lt_of_eq (Nat.lt_of_lt_of_le (blk_lt x15) (s33).size) hb36)
 refine Fa (.slice (some ⟨b34, 0, none⟩) 0 0) ?_
 refine Fa (.int .i64 (-1)) ?_
 apply F.es
 have x15 := Sk s39 x15 onn
 have c43 := (Sb c32 s39 nkk)
 have rd44 := Rk rd24 (SG.below s39)
 apply h3
 refine wk fun K4 h4 => ?_
 refine wk fun K5 h5 => ?_
 refine W.region_plain (row := none) [(0, false), (1, false), (2, false), (3, false), (4, false), (5, true), (6, false)] kk ?_
 have s45 := SG.self w35 none
 refine Fq (.agg #[.int .i64 m, .slice A n c]) (r_load2 rfl ek kk kk (sgS (blk_cell (j := 0) x15 kk) onn) (sgS (blk_cell (j := 1) x15 kk) onn)) ?_
 refine Fv (.slice A2 n2 c2) ?_
 refine Fv (.int .i64 s) ?_
 refine Fv (.int .i64 id) ?_
 refine Fv (.slice A20 n21 c22) ?_
 refine Fc [.agg #[.int .i64 m, .slice A n c], .slice A2 n2 c2, .int .i64 s, .int .i64 id, .slice A20 n21 c22] (l5Cut_any m A n c ps A2 n2 c2 vs s id A20 n21 c22 (openIds vs) _ (Rk ha (Sb c43 s45 nkk)) (Rk hb (Sb c43 s45 nkk)) (by omega) (by omega) hfm2 hv9 hs hfa (Rk rd44 (SG.below s45)) (by omega)) ?_
 rintro e w47 ⟨rfl, b46⟩
 have s48 := SG.of_below s45 b46
 refine ⟨_, rfl, s48, ?_⟩
 apply F.nx
 rcases Bool.eq_false_or_eq_true (cutB ps vs s id (openIds vs)) with q49 | q49
 ·rw [q49]
  refine Fq (.bool false) (r_not (b := true) rfl ek rfl) ?_
  apply F.es
  have x15 := Sk s48 x15 onn
  have x38 := Sk s48 x38 onn
  have c50 := (Sb c43 s48 nkk)
  have rd51 := Rk rd44 (SG.below s48)
  apply h5
  refine wp_cond_false ek ?_
  apply wp_skip
  apply h4
  refine wk fun K6 h6 => ?_
  refine wk fun K7 h7 => ?_
  refine Rq 1 ?_
  refine Fa (.int .i64 0) ?_
  apply F.es
  apply h7
  refine wp_block ?_
  have ho52 := own_empty (base := w.heap.size) (size := 1) x38 lo40
  replace ho52 : World.ownsRow _ _ _ _ _ _ (intsV []) := ho52
  have nb54 : Nb b11 (.slice (some ⟨b34, 0, none⟩) 0 0) := nb_new ne42
  have hpw : 2 ^ n21 ≤ 2 ^ 10 := Nat.pow_le_pow_right (by omega) (by omega)
  refine loopK (fun am0 aa0 wl0 => ∃ (t : Nat) (bp : List Int) (lt : Int) (fd : Bool) (A0_13 : Option Addr) (n0_13 : Nat) (c0_13 : Nat) , Kn aa0 [(0, .agg #[.int .i64 m, .slice A n c]), (1, .slice A2 n2 c2), (2, .int .i64 s), (3, .int .i64 id), (4, .slice A4 n4 c4), (5, .pointer (some ⟨b11, 0, none⟩)), (10, .slice none 0 0), (11, .int .i64 0), (12, .slice A20 n21 c22), (13, .slice A0_13 n0_13 c0_13), (14, .int .i64 lt), (15, .int .i64 (t : Int)), (27, .bool false)] 93 ∧ (am0 = 2 ^ n21 - t) ∧ (t ≤ 2 ^ n21) ∧ (bestTo (cutB ps vs s id) (harmL ps vs s cs) (openIds vs) t = bif fd then some (bp, lt) else none) ∧ (fd = false → bp = [] ∧ lt = -1) ∧ (fd = true → 0 ≤ lt) ∧ (n0_13 ≤ 10) ∧ (wl0.heap[b11]? = some (.cells #[.int .i64 m, .slice A n c] 26 (0, 0))) ∧ (wl0.ownsRow w.heap.size 3 1 (.slice A0_13 n0_13 c0_13) n0_13 (intsV bp)) ∧ (Nb b11 (.slice A0_13 n0_13 c0_13)) ∧ (Rd wl0 1 A20 n21 (intsV (openIds vs))) ∧ (Below w.heap.size w wl0)) (2 ^ n21 - 0) ?_ ?_
  ·exact ⟨0, [], -1, false, (some ⟨b34, 0, none⟩), 0, 0, Kn.of, rfl, (Nat.zero_le _), rfl, (fun _ => ⟨rfl, rfl⟩), (fun e => by cases e), (by omega), x15, ho52, nb54, rd51, c50⟩
  rintro am0 aa0 wl0 K8 h8 ⟨t, bp, lt, fd, A0_13, n0_13, c0_13, ⟨U0, rfl⟩, rfl, ht, hst, hnf, hft, hb13, x15, ho0_13, nb0_13_b11, rd0_12, c55⟩
  refine wk fun K9 h9 => ?_
  refine wk fun K10 h10 => ?_
  refine Rq 6 ?_
  refine Fv (.int .i64 (t : Int)) ?_
  refine Fv (.slice A20 n21 c22) ?_
  refine Fq (.int .i64 (n21 : Int)) (r_len (A := A20) (n := n21) (c := c22) rfl ek kk) ?_
  refine Fq (.int .u64 (n21 : Int)) (r_convU (k := n21) rfl ek kk kk (by omega)) ?_
  refine Fq (.int .i64 ((2 ^ n21 : Nat) : Int)) (r_shl (k := n21) (yk := .u64) rfl ek ek (by omega)) ?_
  by_cases q56 : ((t : Int) : Int) < (((2 ^ n21 : Nat) : Int) : Int)
  ·refine Fq (.bool true) (r_lss (m := (t : Int)) (n := ((2 ^ n21 : Nat) : Int)) rfl ek ek (dt q56)) ?_
   apply F.es
   apply h10
   refine wp_cond_true ek ?_
   apply wp_skip
   apply h9
   refine wk fun K11 h11 => ?_
   refine wp_block ?_
   refine wk fun K12 h12 => ?_
   refine W.region_plain (row := none) [(0, false), (1, false), (2, true), (3, false)] kk ?_
   have s57 := SG.self wl0 none
   refine Fv (.slice A20 n21 c22) ?_
   refine Fv (.int .i64 (t : Int)) ?_
   have lr66 := World.ownsRow.lt ho0_13
   have z63 := ((Sb c55 s57 nkk)).size
   refine Fc [.slice A20 n21 c22, .int .i64 (t : Int)] (l5Choice_any A20 n21 c22 (openIds vs) t _ (Rk rd0_12 (SG.below s57)) (by omega) (by omega)) ?_
   rintro e w68 ⟨A58, n59, c60, rfl, ho61, b67⟩
   have s69 := SG.of_below s57 b67
   refine ⟨_, rfl, s69, ?_⟩
   apply F.nx
   have ho70 := own_kept ho0_13 b67
   have nb71 : Nb b11 (.slice A58 n59 c60) := nb_lo ho61 (Nat.lt_of_lt_of_le (blk_lt x15) (World.grownBy.size s57))
   have ho62 := own_base (base' := w.heap.size) ho61 z63
   have hl65 := rd_ints_len (own_rd ho61)
   have := choice_len (openIds vs) t
   refine Fa (.slice A58 n59 c60) ?_
   apply F.es
   have x15 := Sk s69 x15 onn
   have c73 := (Sb c55 s69 nkk)
   have rd74 := Rk rd0_12 (SG.below s69)
   apply h12
   refine wk fun K13 h13 => ?_
   refine wk fun K14 h14 => ?_
   refine W.region_plain (row := none) [(0, false), (1, false), (2, false), (3, false), (4, false), (5, false), (6, false), (7, false), (8, false), (9, false), (10, true), (11, false), (12, false), (13, false), (14, false), (15, false), (16, false), (17, false), (18, false), (19, true), (20, false), (21, false)] kk ?_
   have s75 := SG.self w68 none
   refine Fv (.int .i64 lt) ?_
   by_cases q76 : (lt : Int) ≥ (0 : Int)
   ·refine Fq (.bool true) (r_geq (m := lt) (n := 0) rfl ek ek (dt q76)) ?_
    refine Fv (.bool true) ?_
    refine Fv (.slice A4 n4 c4) ?_
    refine Fq (.int .i64 (n4 : Int)) (r_len (A := A4) (n := n4) (c := c4) rfl ek kk) ?_
    by_cases q77 : ((n4 : Int) : Int) = (0 : Int)
    ·refine Fq (.bool true) (r_eql (m := (n4 : Int)) (n := 0) rfl ek ek (dt q77)) ?_
     refine Fq (.bool true) (r_pick (b := true) rfl ek ek) ?_
     refine Fv (.bool true) ?_
     refine Fv (.slice A58 n59 c60) ?_
     refine Fv (.slice A0_13 n0_13 c0_13) ?_
     refine Fc [.slice A58 n59 c60, .slice A0_13 n0_13 c0_13] (l5Less_any A58 n59 c60 (choice (openIds vs) t) A0_13 n0_13 c0_13 bp _ (own_rd ho62) (own_rd ho70) (by omega) (by omega)) ?_
     rintro e w79 ⟨rfl, b78⟩
     have s80 := SG.of_below s75 b78
     refine ⟨_, rfl, s80, ?_⟩
     apply F.nx
     have ho81 := own_kept ho70 b78
     have ho82 := own_kept ho62 b78
     rcases Bool.eq_false_or_eq_true (lessL (choice (openIds vs) t) bp) with q83 | q83
     ·rw [q83]
      refine Fq (.bool false) (r_not (b := true) rfl ek rfl) ?_
      refine Fq (.bool false) (r_pick (b := true) rfl ek ek) ?_
      refine Fv (.bool false) ?_
      refine Fq (.agg #[.int .i64 m, .slice A n c]) (r_load2 rfl ek kk kk (sgS (blk_cell (j := 0) x15 kk) onn) (sgS (blk_cell (j := 1) x15 kk) onn)) ?_
      refine Fv (.slice A2 n2 c2) ?_
      refine Fv (.int .i64 s) ?_
      refine Fv (.int .i64 id) ?_
      refine Fv (.slice A58 n59 c60) ?_
      refine Fc [.agg #[.int .i64 m, .slice A n c], .slice A2 n2 c2, .int .i64 s, .int .i64 id, .slice A58 n59 c60] (l5Cut_any m A n c ps A2 n2 c2 vs s id A58 n59 c60 (choice (openIds vs) t) _ (Rk ha (Sb c73 s80 nkk)) (Rk hb (Sb c73 s80 nkk)) (by omega) (by omega) hfm2 hv9 hs hfa (own_rd ho82) (by omega)) ?_
      rintro e w85 ⟨rfl, b84⟩
      have s86 := SG.of_below s80 b84
      refine ⟨_, rfl, s86, ?_⟩
      apply F.nx
      have ho87 := own_kept ho81 b84
      have ho88 := own_kept ho82 b84
      rcases Bool.eq_false_or_eq_true (cutB ps vs s id (choice (openIds vs) t)) with q89 | q89
      ·rw [q89]
       refine Fq (.bool false) (r_not (b := true) rfl ek rfl) ?_
       refine Fq (.bool false) (r_pick (b := false) rfl ek ek) ?_
       apply F.es
       have x15 := Sk s86 x15 onn
       have c90 := (Sb c73 s86 nkk)
       have rd91 := Rk rd74 (SG.below s86)
       apply h14
       refine wp_cond_false ek ?_
       apply wp_skip
       apply h13
       refine wk fun K15 h15 => ?_
       refine Rq 1 ?_
       refine Fa (.int .i64 0) ?_
       apply F.es
       apply h15
       refine wk fun K16 h16 => ?_
       refine wk fun K17 h17 => ?_
       refine Rq 3 ?_
       refine Fv (.slice A4 n4 c4) ?_
       refine Fq (.int .i64 (n4 : Int)) (r_len (A := A4) (n := n4) (c := c4) rfl ek kk) ?_
       refine Fq (.bool false) (r_gtr (m := (n4 : Int)) (n := 0) rfl ek ek (df (by omega))) ?_
       apply F.es
       apply h17
       refine wp_cond_false ek ?_
       apply wp_skip
       apply h16
       refine wk fun K18 h18 => ?_
       refine W.region_plain (row := none) [(0, false), (1, false), (2, false), (3, false), (4, false), (5, false), (6, false), (7, false), (8, false), (9, false), (10, false), (11, false), (12, false), (13, false), (14, true), (15, false), (16, false)] kk ?_
       have s92 := SG.self w85 none
       refine Fv (.int .i64 lt) ?_
       refine Fq (.bool false) (r_lss (m := lt) (n := 0) rfl ek ek (df (by omega))) ?_
       refine Fv (.bool false) ?_
       refine Fv (.int .i64 0) ?_
       refine Fv (.int .i64 lt) ?_
       by_cases q93 : (0 : Int) < (lt : Int)
       ·refine Fq (.bool true) (r_lss (m := 0) (n := lt) rfl ek ek (dt q93)) ?_
        refine Fq (.bool true) (r_pick (b := false) rfl ek ek) ?_
        refine Fv (.bool true) ?_
        refine Fs s92 ?_
        refine Fs s92 ?_
        refine Fs s92 ?_
        refine Fs s92 ?_
        refine Fs s92 ?_
        refine Fs s92 ?_
        refine Fs s92 ?_
        refine Fs s92 ?_
        refine Fq (.bool true) (r_pick (b := true) rfl ek ek) ?_
        apply F.es
        have x15 := Sk s92 x15 onn
        have c94 := (Sb c90 s92 nkk)
        have rd95 := Rk rd91 (SG.below s92)
        apply h18
        refine wp_cond_true ek ?_
        refine wk fun K19 h19 => ?_
        refine Rq 2 ?_
        refine Fv (.slice A58 n59 c60) ?_
        refine Fa (.slice A58 n59 c60) ?_
        apply F.es
        apply h19
        refine Rq 2 ?_
        refine Fv (.int .i64 0) ?_
        refine Fa (.int .i64 0) ?_
        apply F.es
        apply h11
        refine Rq 3 ?_
        refine Fv (.int .i64 (t : Int)) ?_
        refine Fq (.int .i64 ((t + 1 : Nat) : Int)) (r_add (m := (t : Int)) (n := 1) (z := ((t + 1 : Nat) : Int)) rfl ek ek (by omega) (by omega)) ?_
        refine Fa (.int .i64 ((t + 1 : Nat) : Int)) ?_
        apply F.es
        have hz := harmL_nil (ps := ps) (vs := vs) (s := s) (cs := cs) (plan := (choice (openIds vs) t)) (by omega)
        have hfd := fd_pos hnf (by omega)
        exact h8 _ _ _ (by omega : (2 ^ n21 - (t + 1)) < _) ⟨t + 1, (choice (openIds vs) t), 0, true, A58, n59, c60, Kn.of, rfl, (by omega), (((bestTo_next (hst.trans (sfd_some hfd))).trans (bestStep_yes q89 (better_lt (h := (harmL ps vs s cs)) (plan := (choice (openIds vs) t)) (bp := bp) (lt := lt) (by omega)))).trans (by rw [show (harmL ps vs s cs) (choice (openIds vs) t) = 0 from by omega]; try rfl)), (fun e => by cases e), (fun _ => by omega), (by omega), x15, ho88, nb71, rd95, c94⟩
       refine Fq (.bool false) (r_lss (m := 0) (n := lt) rfl ek ek (df q93)) ?_
       refine Fq (.bool false) (r_pick (b := false) rfl ek ek) ?_
       refine Fv (.bool false) ?_
       refine Fv (.int .i64 0) ?_
       refine Fv (.int .i64 lt) ?_
       by_cases q96 : (0 : Int) = (lt : Int)
       ·refine Fq (.bool true) (r_eql (m := 0) (n := lt) rfl ek ek (dt q96)) ?_
        refine Fv (.bool true) ?_
        refine Fv (.slice A58 n59 c60) ?_
        refine Fv (.slice A0_13 n0_13 c0_13) ?_
        refine Fc [.slice A58 n59 c60, .slice A0_13 n0_13 c0_13] (l5Less_any A58 n59 c60 (choice (openIds vs) t) A0_13 n0_13 c0_13 bp _ (own_rd ho88) (own_rd ho87) (by omega) (by omega)) ?_
        rintro e w98 ⟨rfl, b97⟩
        have s99 := SG.of_below s92 b97
        refine ⟨_, rfl, s99, ?_⟩
        apply F.nx
        have ho101 := own_kept ho88 b97
        rw [q83]
        refine Fq (.bool true) (r_pick (b := true) rfl ek ek) ?_
        refine Fq (.bool true) (r_pick (b := false) rfl ek ek) ?_
        apply F.es
        have x15 := Sk s99 x15 onn
        have c103 := (Sb c90 s99 nkk)
        have rd104 := Rk rd91 (SG.below s99)
        apply h18
        refine wp_cond_true ek ?_
        refine wk fun K20 h20 => ?_
        refine Rq 2 ?_
        refine Fv (.slice A58 n59 c60) ?_
        refine Fa (.slice A58 n59 c60) ?_
        apply F.es
        apply h20
        refine Rq 2 ?_
        refine Fv (.int .i64 0) ?_
        refine Fa (.int .i64 0) ?_
        apply F.es
        apply h11
        refine Rq 3 ?_
        refine Fv (.int .i64 (t : Int)) ?_
        refine Fq (.int .i64 ((t + 1 : Nat) : Int)) (r_add (m := (t : Int)) (n := 1) (z := ((t + 1 : Nat) : Int)) rfl ek ek (by omega) (by omega)) ?_
        refine Fa (.int .i64 ((t + 1 : Nat) : Int)) ?_
        apply F.es
        have hz := harmL_nil (ps := ps) (vs := vs) (s := s) (cs := cs) (plan := (choice (openIds vs) t)) (by omega)
        have hfd := fd_pos hnf (by omega)
        exact h8 _ _ _ (by omega : (2 ^ n21 - (t + 1)) < _) ⟨t + 1, (choice (openIds vs) t), 0, true, A58, n59, c60, Kn.of, rfl, (by omega), (((bestTo_next (hst.trans (sfd_some hfd))).trans (bestStep_yes q89 (better_less (h := (harmL ps vs s cs)) (plan := (choice (openIds vs) t)) (bp := bp) (lt := lt) (by omega) q83))).trans (by rw [show (harmL ps vs s cs) (choice (openIds vs) t) = 0 from by omega]; try rfl)), (fun e => by cases e), (fun _ => by omega), (by omega), x15, ho101, nb71, rd104, c103⟩
       refine Fq (.bool false) (r_eql (m := 0) (n := lt) rfl ek ek (df q96)) ?_
       refine Fv (.bool false) ?_
       refine Fs s92 ?_
       refine Fs s92 ?_
       refine Fs s92 ?_
       refine Fq (.bool false) (r_pick (b := false) rfl ek ek) ?_
       refine Fq (.bool false) (r_pick (b := false) rfl ek ek) ?_
       apply F.es
       have x15 := Sk s92 x15 onn
       have c105 := (Sb c90 s92 nkk)
       have rd106 := Rk rd91 (SG.below s92)
       apply h18
       refine wp_cond_false ek ?_
       apply wp_skip
       apply h11
       refine Rq 3 ?_
       refine Fv (.int .i64 (t : Int)) ?_
       refine Fq (.int .i64 ((t + 1 : Nat) : Int)) (r_add (m := (t : Int)) (n := 1) (z := ((t + 1 : Nat) : Int)) rfl ek ek (by omega) (by omega)) ?_
       refine Fa (.int .i64 ((t + 1 : Nat) : Int)) ?_
       apply F.es
       have hz := harmL_nil (ps := ps) (vs := vs) (s := s) (cs := cs) (plan := (choice (openIds vs) t)) (by omega)
       have hfd := fd_pos hnf (by omega)
       exact h8 _ _ _ (by omega : (2 ^ n21 - (t + 1)) < _) ⟨t + 1, bp, lt, fd, A0_13, n0_13, c0_13, Kn.of, rfl, (by omega), ((bestTo_next (hst.trans (sfd_some hfd))).trans (by rw [bestStep_keep (better_gt (h := (harmL ps vs s cs)) (plan := (choice (openIds vs) t)) (bp := bp) (lt := lt) (by omega) (by omega)), hfd]; try rfl)), hnf, hft, (by omega), x15, ho87, nb0_13_b11, rd106, c105⟩
      rw [q89]
      refine Fq (.bool true) (r_not (b := false) rfl ek rfl) ?_
      refine Fq (.bool true) (r_pick (b := false) rfl ek ek) ?_
      apply F.es
      have x15 := Sk s86 x15 onn
      have c107 := (Sb c73 s86 nkk)
      have rd108 := Rk rd74 (SG.below s86)
      apply h14
      refine wp_cond_true ek ?_
      refine wp_exit ?_
      apply h11
      refine Rq 3 ?_
      refine Fv (.int .i64 (t : Int)) ?_
      refine Fq (.int .i64 ((t + 1 : Nat) : Int)) (r_add (m := (t : Int)) (n := 1) (z := ((t + 1 : Nat) : Int)) rfl ek ek (by omega) (by omega)) ?_
      refine Fa (.int .i64 ((t + 1 : Nat) : Int)) ?_
      apply F.es
      exact h8 _ _ _ (by omega : (2 ^ n21 - (t + 1)) < _) ⟨t + 1, bp, lt, fd, A0_13, n0_13, c0_13, Kn.of, rfl, (by omega), ((bestTo_next hst).trans (bestStep_no q89)), hnf, hft, (by omega), x15, ho87, nb0_13_b11, rd108, c107⟩
     rw [q83]
     refine Fq (.bool true) (r_not (b := false) rfl ek rfl) ?_
     refine Fq (.bool true) (r_pick (b := true) rfl ek ek) ?_
     refine Fv (.bool true) ?_
     refine Fs s80 ?_
     refine Fs s80 ?_
     refine Fs s80 ?_
     refine Fs s80 ?_
     refine Fs s80 ?_
     refine Fs s80 ?_
     refine Fs s80 ?_
     refine Fq (.bool true) (r_pick (b := true) rfl ek ek) ?_
     apply F.es
     have x15 := Sk s80 x15 onn
     have c109 := (Sb c73 s80 nkk)
     have rd110 := Rk rd74 (SG.below s80)
     apply h14
     refine wp_cond_true ek ?_
     refine wp_exit ?_
     apply h11
     refine Rq 3 ?_
     refine Fv (.int .i64 (t : Int)) ?_
     refine Fq (.int .i64 ((t + 1 : Nat) : Int)) (r_add (m := (t : Int)) (n := 1) (z := ((t + 1 : Nat) : Int)) rfl ek ek (by omega) (by omega)) ?_
     refine Fa (.int .i64 ((t + 1 : Nat) : Int)) ?_
     apply F.es
     have hz := harmL_nil (ps := ps) (vs := vs) (s := s) (cs := cs) (plan := (choice (openIds vs) t)) (by omega)
     have hfd := fd_pos hnf (by omega)
     obtain ⟨_, _, _, _, hlt0⟩ := bestTo_in (hst.trans (sfd_some hfd))
     have hlt1 : lt = (harmL ps vs s cs) bp := hlt0
     have hlt2 := harmL_nil (ps := ps) (vs := vs) (s := s) (cs := cs) (plan := bp) (by omega)
     exact h8 _ _ _ (by omega : (2 ^ n21 - (t + 1)) < _) ⟨t + 1, bp, lt, fd, A0_13, n0_13, c0_13, Kn.of, rfl, (by omega), ((bestTo_next (hst.trans (sfd_some hfd))).trans (by rw [bestStep_keep (better_ge (h := (harmL ps vs s cs)) (plan := (choice (openIds vs) t)) (bp := bp) (lt := lt) (by omega) q83), hfd]; try rfl)), hnf, hft, (by omega), x15, ho81, nb0_13_b11, rd110, c109⟩
    refine Fq (.bool false) (r_eql (m := (n4 : Int)) (n := 0) rfl ek ek (df q77)) ?_
    refine Fq (.bool false) (r_pick (b := true) rfl ek ek) ?_
    refine Fv (.bool false) ?_
    refine Fs s75 ?_
    refine Fs s75 ?_
    refine Fs s75 ?_
    refine Fs s75 ?_
    refine Fq (.bool false) (r_pick (b := false) rfl ek ek) ?_
    refine Fv (.bool false) ?_
    refine Fq (.agg #[.int .i64 m, .slice A n c]) (r_load2 rfl ek kk kk (sgS (blk_cell (j := 0) x15 kk) onn) (sgS (blk_cell (j := 1) x15 kk) onn)) ?_
    refine Fv (.slice A2 n2 c2) ?_
    refine Fv (.int .i64 s) ?_
    refine Fv (.int .i64 id) ?_
    refine Fv (.slice A58 n59 c60) ?_
    refine Fc [.agg #[.int .i64 m, .slice A n c], .slice A2 n2 c2, .int .i64 s, .int .i64 id, .slice A58 n59 c60] (l5Cut_any m A n c ps A2 n2 c2 vs s id A58 n59 c60 (choice (openIds vs) t) _ (Rk ha (Sb c73 s75 nkk)) (Rk hb (Sb c73 s75 nkk)) (by omega) (by omega) hfm2 hv9 hs hfa (own_rd ho62) (by omega)) ?_
    rintro e w112 ⟨rfl, b111⟩
    have s113 := SG.of_below s75 b111
    refine ⟨_, rfl, s113, ?_⟩
    apply F.nx
    have ho114 := own_kept ho70 b111
    have ho115 := own_kept ho62 b111
    rcases Bool.eq_false_or_eq_true (cutB ps vs s id (choice (openIds vs) t)) with q116 | q116
    ·rw [q116]
     refine Fq (.bool false) (r_not (b := true) rfl ek rfl) ?_
     refine Fq (.bool false) (r_pick (b := false) rfl ek ek) ?_
     apply F.es
     have x15 := Sk s113 x15 onn
     have c117 := (Sb c73 s113 nkk)
     have rd118 := Rk rd74 (SG.below s113)
     apply h14
     refine wp_cond_false ek ?_
     apply wp_skip
     apply h13
     refine wk fun K21 h21 => ?_
     refine Rq 1 ?_
     refine Fa (.int .i64 0) ?_
     apply F.es
     apply h21
     refine wk fun K22 h22 => ?_
     refine wk fun K23 h23 => ?_
     refine Rq 3 ?_
     refine Fv (.slice A4 n4 c4) ?_
     refine Fq (.int .i64 (n4 : Int)) (r_len (A := A4) (n := n4) (c := c4) rfl ek kk) ?_
     refine Fq (.bool true) (r_gtr (m := (n4 : Int)) (n := 0) rfl ek ek (dt (by omega))) ?_
     apply F.es
     apply h23
     refine wp_cond_true ek ?_
     refine W.region_plain (row := none) [(0, false), (1, false), (2, false), (3, false), (4, false), (5, true), (6, false)] kk ?_
     have s119 := SG.self w112 none
     refine Fq (.agg #[.int .i64 m, .slice A n c]) (r_load2 rfl ek kk kk (sgS (blk_cell (j := 0) x15 kk) onn) (sgS (blk_cell (j := 1) x15 kk) onn)) ?_
     refine Fv (.slice A2 n2 c2) ?_
     refine Fv (.int .i64 s) ?_
     refine Fv (.slice A58 n59 c60) ?_
     refine Fv (.slice A4 n4 c4) ?_
     have hco : custOk m cs = true := hcoo.resolve_left (by omega)
     refine Fc [.agg #[.int .i64 m, .slice A n c], .slice A2 n2 c2, .int .i64 s, .slice A58 n59 c60, .slice A4 n4 c4] (l5Harm_any m A n c ps A2 n2 c2 vs s A58 n59 c60 (choice (openIds vs) t) A4 n4 c4 cs _ (Rk ha (Sb c117 s119 nkk)) (Rk hb (Sb c117 s119 nkk)) (by omega) (by omega) hfm2 hv9 hs (own_rd ho115) (by omega) (Rk hc4 (Sb c117 s119 nkk)) (by omega) hco) ?_
     rintro e w121 ⟨rfl, b120⟩
     have s122 := SG.of_below s119 b120
     refine ⟨_, rfl, s122, ?_⟩
     apply F.nx
     have ho123 := own_kept ho114 b120
     have ho124 := own_kept ho115 b120
     refine Fa (.int .i64 (harmL ps vs s cs (choice (openIds vs) t))) ?_
     apply F.es
     have x15 := Sk s122 x15 onn
     have c125 := (Sb c117 s122 nkk)
     have rd126 := Rk rd118 (SG.below s122)
     apply h22
     refine wk fun K24 h24 => ?_
     refine W.region_plain (row := none) [(0, false), (1, false), (2, false), (3, false), (4, false), (5, false), (6, false), (7, false), (8, false), (9, false), (10, false), (11, false), (12, false), (13, false), (14, true), (15, false), (16, false)] kk ?_
     have s127 := SG.self w121 none
     refine Fv (.int .i64 lt) ?_
     refine Fq (.bool false) (r_lss (m := lt) (n := 0) rfl ek ek (df (by omega))) ?_
     refine Fv (.bool false) ?_
     refine Fv (.int .i64 (harmL ps vs s cs (choice (openIds vs) t))) ?_
     refine Fv (.int .i64 lt) ?_
     by_cases q128 : ((harmL ps vs s cs (choice (openIds vs) t)) : Int) < (lt : Int)
     ·refine Fq (.bool true) (r_lss (m := (harmL ps vs s cs (choice (openIds vs) t))) (n := lt) rfl ek ek (dt q128)) ?_
      refine Fq (.bool true) (r_pick (b := false) rfl ek ek) ?_
      refine Fv (.bool true) ?_
      refine Fs s127 ?_
      refine Fs s127 ?_
      refine Fs s127 ?_
      refine Fs s127 ?_
      refine Fs s127 ?_
      refine Fs s127 ?_
      refine Fs s127 ?_
      refine Fs s127 ?_
      refine Fq (.bool true) (r_pick (b := true) rfl ek ek) ?_
      apply F.es
      have x15 := Sk s127 x15 onn
      have c129 := (Sb c125 s127 nkk)
      have rd130 := Rk rd126 (SG.below s127)
      apply h24
      refine wp_cond_true ek ?_
      refine wk fun K25 h25 => ?_
      refine Rq 2 ?_
      refine Fv (.slice A58 n59 c60) ?_
      refine Fa (.slice A58 n59 c60) ?_
      apply F.es
      apply h25
      refine Rq 2 ?_
      refine Fv (.int .i64 (harmL ps vs s cs (choice (openIds vs) t))) ?_
      refine Fa (.int .i64 (harmL ps vs s cs (choice (openIds vs) t))) ?_
      apply F.es
      apply h11
      refine Rq 3 ?_
      refine Fv (.int .i64 (t : Int)) ?_
      refine Fq (.int .i64 ((t + 1 : Nat) : Int)) (r_add (m := (t : Int)) (n := 1) (z := ((t + 1 : Nat) : Int)) rfl ek ek (by omega) (by omega)) ?_
      refine Fa (.int .i64 ((t + 1 : Nat) : Int)) ?_
      apply F.es
      have hz := harmL_nn (ps := ps) (vs := vs) (s := s) (cs := cs) (plan := (choice (openIds vs) t)) hcob
      have hfd := fd_pos hnf (by omega)
      exact h8 _ _ _ (by omega : (2 ^ n21 - (t + 1)) < _) ⟨t + 1, (choice (openIds vs) t), (harmL ps vs s cs (choice (openIds vs) t)), true, A58, n59, c60, Kn.of, rfl, (by omega), (((bestTo_next (hst.trans (sfd_some hfd))).trans (bestStep_yes q116 (better_lt (h := (harmL ps vs s cs)) (plan := (choice (openIds vs) t)) (bp := bp) (lt := lt) (by omega)))).trans (by rw [show (harmL ps vs s cs) (choice (openIds vs) t) = (harmL ps vs s cs (choice (openIds vs) t)) from by omega]; try rfl)), (fun e => by cases e), (fun _ => by omega), (by omega), x15, ho124, nb71, rd130, c129⟩
     refine Fq (.bool false) (r_lss (m := (harmL ps vs s cs (choice (openIds vs) t))) (n := lt) rfl ek ek (df q128)) ?_
     refine Fq (.bool false) (r_pick (b := false) rfl ek ek) ?_
     refine Fv (.bool false) ?_
     refine Fv (.int .i64 (harmL ps vs s cs (choice (openIds vs) t))) ?_
     refine Fv (.int .i64 lt) ?_
     by_cases q131 : ((harmL ps vs s cs (choice (openIds vs) t)) : Int) = (lt : Int)
     ·refine Fq (.bool true) (r_eql (m := (harmL ps vs s cs (choice (openIds vs) t))) (n := lt) rfl ek ek (dt q131)) ?_
      refine Fv (.bool true) ?_
      refine Fv (.slice A58 n59 c60) ?_
      refine Fv (.slice A0_13 n0_13 c0_13) ?_
      refine Fc [.slice A58 n59 c60, .slice A0_13 n0_13 c0_13] (l5Less_any A58 n59 c60 (choice (openIds vs) t) A0_13 n0_13 c0_13 bp _ (own_rd ho124) (own_rd ho123) (by omega) (by omega)) ?_
      rintro e w133 ⟨rfl, b132⟩
      have s134 := SG.of_below s127 b132
      refine ⟨_, rfl, s134, ?_⟩
      apply F.nx
      have ho135 := own_kept ho123 b132
      have ho136 := own_kept ho124 b132
      rcases Bool.eq_false_or_eq_true (lessL (choice (openIds vs) t) bp) with q137 | q137
      ·rw [q137]
       refine Fq (.bool true) (r_pick (b := true) rfl ek ek) ?_
       refine Fq (.bool true) (r_pick (b := false) rfl ek ek) ?_
       apply F.es
       have x15 := Sk s134 x15 onn
       have c138 := (Sb c125 s134 nkk)
       have rd139 := Rk rd126 (SG.below s134)
       apply h24
       refine wp_cond_true ek ?_
       refine wk fun K26 h26 => ?_
       refine Rq 2 ?_
       refine Fv (.slice A58 n59 c60) ?_
       refine Fa (.slice A58 n59 c60) ?_
       apply F.es
       apply h26
       refine Rq 2 ?_
       refine Fv (.int .i64 (harmL ps vs s cs (choice (openIds vs) t))) ?_
       refine Fa (.int .i64 (harmL ps vs s cs (choice (openIds vs) t))) ?_
       apply F.es
       apply h11
       refine Rq 3 ?_
       refine Fv (.int .i64 (t : Int)) ?_
       refine Fq (.int .i64 ((t + 1 : Nat) : Int)) (r_add (m := (t : Int)) (n := 1) (z := ((t + 1 : Nat) : Int)) rfl ek ek (by omega) (by omega)) ?_
       refine Fa (.int .i64 ((t + 1 : Nat) : Int)) ?_
       apply F.es
       have hz := harmL_nn (ps := ps) (vs := vs) (s := s) (cs := cs) (plan := (choice (openIds vs) t)) hcob
       have hfd := fd_pos hnf (by omega)
       exact h8 _ _ _ (by omega : (2 ^ n21 - (t + 1)) < _) ⟨t + 1, (choice (openIds vs) t), (harmL ps vs s cs (choice (openIds vs) t)), true, A58, n59, c60, Kn.of, rfl, (by omega), (((bestTo_next (hst.trans (sfd_some hfd))).trans (bestStep_yes q116 (better_less (h := (harmL ps vs s cs)) (plan := (choice (openIds vs) t)) (bp := bp) (lt := lt) (by omega) q137))).trans (by rw [show (harmL ps vs s cs) (choice (openIds vs) t) = (harmL ps vs s cs (choice (openIds vs) t)) from by omega]; try rfl)), (fun e => by cases e), (fun _ => by omega), (by omega), x15, ho136, nb71, rd139, c138⟩
      rw [q137]
      refine Fq (.bool false) (r_pick (b := true) rfl ek ek) ?_
      refine Fq (.bool false) (r_pick (b := false) rfl ek ek) ?_
      apply F.es
      have x15 := Sk s134 x15 onn
      have c140 := (Sb c125 s134 nkk)
      have rd141 := Rk rd126 (SG.below s134)
      apply h24
      refine wp_cond_false ek ?_
      apply wp_skip
      apply h11
      refine Rq 3 ?_
      refine Fv (.int .i64 (t : Int)) ?_
      refine Fq (.int .i64 ((t + 1 : Nat) : Int)) (r_add (m := (t : Int)) (n := 1) (z := ((t + 1 : Nat) : Int)) rfl ek ek (by omega) (by omega)) ?_
      refine Fa (.int .i64 ((t + 1 : Nat) : Int)) ?_
      apply F.es
      have hz := harmL_nn (ps := ps) (vs := vs) (s := s) (cs := cs) (plan := (choice (openIds vs) t)) hcob
      have hfd := fd_pos hnf (by omega)
      exact h8 _ _ _ (by omega : (2 ^ n21 - (t + 1)) < _) ⟨t + 1, bp, lt, fd, A0_13, n0_13, c0_13, Kn.of, rfl, (by omega), ((bestTo_next (hst.trans (sfd_some hfd))).trans (by rw [bestStep_keep (better_ge (h := (harmL ps vs s cs)) (plan := (choice (openIds vs) t)) (bp := bp) (lt := lt) (by omega) q137), hfd]; try rfl)), hnf, hft, (by omega), x15, ho135, nb0_13_b11, rd141, c140⟩
     refine Fq (.bool false) (r_eql (m := (harmL ps vs s cs (choice (openIds vs) t))) (n := lt) rfl ek ek (df q131)) ?_
     refine Fv (.bool false) ?_
     refine Fs s127 ?_
     refine Fs s127 ?_
     refine Fs s127 ?_
     refine Fq (.bool false) (r_pick (b := false) rfl ek ek) ?_
     refine Fq (.bool false) (r_pick (b := false) rfl ek ek) ?_
     apply F.es
     have x15 := Sk s127 x15 onn
     have c142 := (Sb c125 s127 nkk)
     have rd143 := Rk rd126 (SG.below s127)
     apply h24
     refine wp_cond_false ek ?_
     apply wp_skip
     apply h11
     refine Rq 3 ?_
     refine Fv (.int .i64 (t : Int)) ?_
     refine Fq (.int .i64 ((t + 1 : Nat) : Int)) (r_add (m := (t : Int)) (n := 1) (z := ((t + 1 : Nat) : Int)) rfl ek ek (by omega) (by omega)) ?_
     refine Fa (.int .i64 ((t + 1 : Nat) : Int)) ?_
     apply F.es
     have hz := harmL_nn (ps := ps) (vs := vs) (s := s) (cs := cs) (plan := (choice (openIds vs) t)) hcob
     have hfd := fd_pos hnf (by omega)
     exact h8 _ _ _ (by omega : (2 ^ n21 - (t + 1)) < _) ⟨t + 1, bp, lt, fd, A0_13, n0_13, c0_13, Kn.of, rfl, (by omega), ((bestTo_next (hst.trans (sfd_some hfd))).trans (by rw [bestStep_keep (better_gt (h := (harmL ps vs s cs)) (plan := (choice (openIds vs) t)) (bp := bp) (lt := lt) (by omega) (by omega)), hfd]; try rfl)), hnf, hft, (by omega), x15, ho123, nb0_13_b11, rd143, c142⟩
    rw [q116]
    refine Fq (.bool true) (r_not (b := false) rfl ek rfl) ?_
    refine Fq (.bool true) (r_pick (b := false) rfl ek ek) ?_
    apply F.es
    have x15 := Sk s113 x15 onn
    have c144 := (Sb c73 s113 nkk)
    have rd145 := Rk rd74 (SG.below s113)
    apply h14
    refine wp_cond_true ek ?_
    refine wp_exit ?_
    apply h11
    refine Rq 3 ?_
    refine Fv (.int .i64 (t : Int)) ?_
    refine Fq (.int .i64 ((t + 1 : Nat) : Int)) (r_add (m := (t : Int)) (n := 1) (z := ((t + 1 : Nat) : Int)) rfl ek ek (by omega) (by omega)) ?_
    refine Fa (.int .i64 ((t + 1 : Nat) : Int)) ?_
    apply F.es
    exact h8 _ _ _ (by omega : (2 ^ n21 - (t + 1)) < _) ⟨t + 1, bp, lt, fd, A0_13, n0_13, c0_13, Kn.of, rfl, (by omega), ((bestTo_next hst).trans (bestStep_no q116)), hnf, hft, (by omega), x15, ho114, nb0_13_b11, rd145, c144⟩
   refine Fq (.bool false) (r_geq (m := lt) (n := 0) rfl ek ek (df q76)) ?_
   refine Fv (.bool false) ?_
   refine Fs s75 ?_
   refine Fs s75 ?_
   refine Fs s75 ?_
   refine Fq (.bool false) (r_pick (b := false) rfl ek ek) ?_
   refine Fv (.bool false) ?_
   refine Fs s75 ?_
   refine Fs s75 ?_
   refine Fs s75 ?_
   refine Fs s75 ?_
   refine Fq (.bool false) (r_pick (b := false) rfl ek ek) ?_
   refine Fv (.bool false) ?_
   refine Fq (.agg #[.int .i64 m, .slice A n c]) (r_load2 rfl ek kk kk (sgS (blk_cell (j := 0) x15 kk) onn) (sgS (blk_cell (j := 1) x15 kk) onn)) ?_
   refine Fv (.slice A2 n2 c2) ?_
   refine Fv (.int .i64 s) ?_
   refine Fv (.int .i64 id) ?_
   refine Fv (.slice A58 n59 c60) ?_
   refine Fc [.agg #[.int .i64 m, .slice A n c], .slice A2 n2 c2, .int .i64 s, .int .i64 id, .slice A58 n59 c60] (l5Cut_any m A n c ps A2 n2 c2 vs s id A58 n59 c60 (choice (openIds vs) t) _ (Rk ha (Sb c73 s75 nkk)) (Rk hb (Sb c73 s75 nkk)) (by omega) (by omega) hfm2 hv9 hs hfa (own_rd ho62) (by omega)) ?_
   rintro e w147 ⟨rfl, b146⟩
   have s148 := SG.of_below s75 b146
   refine ⟨_, rfl, s148, ?_⟩
   apply F.nx
   have ho149 := own_kept ho70 b146
   have ho150 := own_kept ho62 b146
   rcases Bool.eq_false_or_eq_true (cutB ps vs s id (choice (openIds vs) t)) with q151 | q151
   ·rw [q151]
    refine Fq (.bool false) (r_not (b := true) rfl ek rfl) ?_
    refine Fq (.bool false) (r_pick (b := false) rfl ek ek) ?_
    apply F.es
    have x15 := Sk s148 x15 onn
    have c152 := (Sb c73 s148 nkk)
    have rd153 := Rk rd74 (SG.below s148)
    apply h14
    refine wp_cond_false ek ?_
    apply wp_skip
    apply h13
    refine wk fun K27 h27 => ?_
    refine Rq 1 ?_
    refine Fa (.int .i64 0) ?_
    apply F.es
    apply h27
    refine wk fun K28 h28 => ?_
    refine wk fun K29 h29 => ?_
    refine Rq 3 ?_
    refine Fv (.slice A4 n4 c4) ?_
    refine Fq (.int .i64 (n4 : Int)) (r_len (A := A4) (n := n4) (c := c4) rfl ek kk) ?_
    by_cases q154 : ((n4 : Int) : Int) > (0 : Int)
    ·refine Fq (.bool true) (r_gtr (m := (n4 : Int)) (n := 0) rfl ek ek (dt q154)) ?_
     apply F.es
     apply h29
     refine wp_cond_true ek ?_
     refine W.region_plain (row := none) [(0, false), (1, false), (2, false), (3, false), (4, false), (5, true), (6, false)] kk ?_
     have s155 := SG.self w147 none
     refine Fq (.agg #[.int .i64 m, .slice A n c]) (r_load2 rfl ek kk kk (sgS (blk_cell (j := 0) x15 kk) onn) (sgS (blk_cell (j := 1) x15 kk) onn)) ?_
     refine Fv (.slice A2 n2 c2) ?_
     refine Fv (.int .i64 s) ?_
     refine Fv (.slice A58 n59 c60) ?_
     refine Fv (.slice A4 n4 c4) ?_
     have hco : custOk m cs = true := hcoo.resolve_left (by omega)
     refine Fc [.agg #[.int .i64 m, .slice A n c], .slice A2 n2 c2, .int .i64 s, .slice A58 n59 c60, .slice A4 n4 c4] (l5Harm_any m A n c ps A2 n2 c2 vs s A58 n59 c60 (choice (openIds vs) t) A4 n4 c4 cs _ (Rk ha (Sb c152 s155 nkk)) (Rk hb (Sb c152 s155 nkk)) (by omega) (by omega) hfm2 hv9 hs (own_rd ho150) (by omega) (Rk hc4 (Sb c152 s155 nkk)) (by omega) hco) ?_
     rintro e w157 ⟨rfl, b156⟩
     have s158 := SG.of_below s155 b156
     refine ⟨_, rfl, s158, ?_⟩
     apply F.nx
     have ho160 := own_kept ho150 b156
     refine Fa (.int .i64 (harmL ps vs s cs (choice (openIds vs) t))) ?_
     apply F.es
     have x15 := Sk s158 x15 onn
     have c161 := (Sb c152 s158 nkk)
     have rd162 := Rk rd153 (SG.below s158)
     apply h28
     refine wk fun K30 h30 => ?_
     refine W.region_plain (row := none) [(0, false), (1, false), (2, false), (3, false), (4, false), (5, false), (6, false), (7, false), (8, false), (9, false), (10, false), (11, false), (12, false), (13, false), (14, true), (15, false), (16, false)] kk ?_
     have s163 := SG.self w157 none
     refine Fv (.int .i64 lt) ?_
     refine Fq (.bool true) (r_lss (m := lt) (n := 0) rfl ek ek (dt (by omega))) ?_
     refine Fv (.bool true) ?_
     refine Fs s163 ?_
     refine Fs s163 ?_
     refine Fs s163 ?_
     refine Fq (.bool true) (r_pick (b := true) rfl ek ek) ?_
     refine Fv (.bool true) ?_
     refine Fs s163 ?_
     refine Fs s163 ?_
     refine Fs s163 ?_
     refine Fs s163 ?_
     refine Fs s163 ?_
     refine Fs s163 ?_
     refine Fs s163 ?_
     refine Fs s163 ?_
     refine Fq (.bool true) (r_pick (b := true) rfl ek ek) ?_
     apply F.es
     have x15 := Sk s163 x15 onn
     have c164 := (Sb c161 s163 nkk)
     have rd165 := Rk rd162 (SG.below s163)
     apply h30
     refine wp_cond_true ek ?_
     refine wk fun K31 h31 => ?_
     refine Rq 2 ?_
     refine Fv (.slice A58 n59 c60) ?_
     refine Fa (.slice A58 n59 c60) ?_
     apply F.es
     apply h31
     refine Rq 2 ?_
     refine Fv (.int .i64 (harmL ps vs s cs (choice (openIds vs) t))) ?_
     refine Fa (.int .i64 (harmL ps vs s cs (choice (openIds vs) t))) ?_
     apply F.es
     apply h11
     refine Rq 3 ?_
     refine Fv (.int .i64 (t : Int)) ?_
     refine Fq (.int .i64 ((t + 1 : Nat) : Int)) (r_add (m := (t : Int)) (n := 1) (z := ((t + 1 : Nat) : Int)) rfl ek ek (by omega) (by omega)) ?_
     refine Fa (.int .i64 ((t + 1 : Nat) : Int)) ?_
     apply F.es
     have hz := harmL_nn (ps := ps) (vs := vs) (s := s) (cs := cs) (plan := (choice (openIds vs) t)) hcob
     have hfd := fd_neg hft (by omega)
     exact h8 _ _ _ (by omega : (2 ^ n21 - (t + 1)) < _) ⟨t + 1, (choice (openIds vs) t), (harmL ps vs s cs (choice (openIds vs) t)), true, A58, n59, c60, Kn.of, rfl, (by omega), (((bestTo_next (hst.trans (sfd_none hfd))).trans (bestStep_first q151)).trans (by rw [show (harmL ps vs s cs) (choice (openIds vs) t) = (harmL ps vs s cs (choice (openIds vs) t)) from by omega]; try rfl)), (fun e => by cases e), (fun _ => by omega), (by omega), x15, ho160, nb71, rd165, c164⟩
    refine Fq (.bool false) (r_gtr (m := (n4 : Int)) (n := 0) rfl ek ek (df q154)) ?_
    apply F.es
    apply h29
    refine wp_cond_false ek ?_
    apply wp_skip
    apply h28
    refine wk fun K32 h32 => ?_
    refine W.region_plain (row := none) [(0, false), (1, false), (2, false), (3, false), (4, false), (5, false), (6, false), (7, false), (8, false), (9, false), (10, false), (11, false), (12, false), (13, false), (14, true), (15, false), (16, false)] kk ?_
    have s166 := SG.self w147 none
    refine Fv (.int .i64 lt) ?_
    refine Fq (.bool true) (r_lss (m := lt) (n := 0) rfl ek ek (dt (by omega))) ?_
    refine Fv (.bool true) ?_
    refine Fs s166 ?_
    refine Fs s166 ?_
    refine Fs s166 ?_
    refine Fq (.bool true) (r_pick (b := true) rfl ek ek) ?_
    refine Fv (.bool true) ?_
    refine Fs s166 ?_
    refine Fs s166 ?_
    refine Fs s166 ?_
    refine Fs s166 ?_
    refine Fs s166 ?_
    refine Fs s166 ?_
    refine Fs s166 ?_
    refine Fs s166 ?_
    refine Fq (.bool true) (r_pick (b := true) rfl ek ek) ?_
    apply F.es
    have x15 := Sk s166 x15 onn
    have c167 := (Sb c152 s166 nkk)
    have rd168 := Rk rd153 (SG.below s166)
    apply h32
    refine wp_cond_true ek ?_
    refine wk fun K33 h33 => ?_
    refine Rq 2 ?_
    refine Fv (.slice A58 n59 c60) ?_
    refine Fa (.slice A58 n59 c60) ?_
    apply F.es
    apply h33
    refine Rq 2 ?_
    refine Fv (.int .i64 0) ?_
    refine Fa (.int .i64 0) ?_
    apply F.es
    apply h11
    refine Rq 3 ?_
    refine Fv (.int .i64 (t : Int)) ?_
    refine Fq (.int .i64 ((t + 1 : Nat) : Int)) (r_add (m := (t : Int)) (n := 1) (z := ((t + 1 : Nat) : Int)) rfl ek ek (by omega) (by omega)) ?_
    refine Fa (.int .i64 ((t + 1 : Nat) : Int)) ?_
    apply F.es
    have hz := harmL_nil (ps := ps) (vs := vs) (s := s) (cs := cs) (plan := (choice (openIds vs) t)) (by omega)
    have hfd := fd_neg hft (by omega)
    exact h8 _ _ _ (by omega : (2 ^ n21 - (t + 1)) < _) ⟨t + 1, (choice (openIds vs) t), 0, true, A58, n59, c60, Kn.of, rfl, (by omega), (((bestTo_next (hst.trans (sfd_none hfd))).trans (bestStep_first q151)).trans (by rw [show (harmL ps vs s cs) (choice (openIds vs) t) = 0 from by omega]; try rfl)), (fun e => by cases e), (fun _ => by omega), (by omega), x15, ho150, nb71, rd168, c167⟩
   rw [q151]
   refine Fq (.bool true) (r_not (b := false) rfl ek rfl) ?_
   refine Fq (.bool true) (r_pick (b := false) rfl ek ek) ?_
   apply F.es
   have x15 := Sk s148 x15 onn
   have c169 := (Sb c73 s148 nkk)
   have rd170 := Rk rd74 (SG.below s148)
   apply h14
   refine wp_cond_true ek ?_
   refine wp_exit ?_
   apply h11
   refine Rq 3 ?_
   refine Fv (.int .i64 (t : Int)) ?_
   refine Fq (.int .i64 ((t + 1 : Nat) : Int)) (r_add (m := (t : Int)) (n := 1) (z := ((t + 1 : Nat) : Int)) rfl ek ek (by omega) (by omega)) ?_
   refine Fa (.int .i64 ((t + 1 : Nat) : Int)) ?_
   apply F.es
   exact h8 _ _ _ (by omega : (2 ^ n21 - (t + 1)) < _) ⟨t + 1, bp, lt, fd, A0_13, n0_13, c0_13, Kn.of, rfl, (by omega), ((bestTo_next hst).trans (bestStep_no q151)), hnf, hft, (by omega), x15, ho149, nb0_13_b11, rd170, c169⟩
  refine Fq (.bool false) (r_lss (m := (t : Int)) (n := ((2 ^ n21 : Nat) : Int)) rfl ek ek (df q56)) ?_
  apply F.es
  apply h10
  refine wp_cond_false ek ?_
  refine wp_exit ?_
  apply h6
  refine wk fun K34 h34 => ?_
  refine Rq 4 ?_
  refine Fv (.slice A0_13 n0_13 c0_13) ?_
  refine Fv (.int .i64 lt) ?_
  refine Fa (.slice A0_13 n0_13 c0_13) ?_
  refine Fa (.int .i64 lt) ?_
  apply F.es
  apply h34
  refine wp_ret ?_
  try simp only [Exit.then]
  refine ret2 (v := .slice A0_13 n0_13 c0_13) (x := .int .i64 lt) rfl kk kk ?_
  obtain ⟨e1, e2⟩ := sbest_fin (r := bestOf (cutB ps vs s id) (harmL ps vs s cs) (openIds vs)) (by unfold bestOf; rw [show 2 ^ (openIds vs).length = t by rw [show (openIds vs).length = n21 by omega]; omega]; exact hst) hnf
  exact ⟨_, _, _, by rw [← e2], (by rw [← e1]; exact ho0_13), c55⟩
 rw [q49]
 refine Fq (.bool true) (r_not (b := false) rfl ek rfl) ?_
 apply F.es
 have x38 := Sk s48 x38 onn
 have c171 := (Sb c43 s48 nkk)
 apply h5
 refine wp_cond_true ek ?_
 refine wk fun K35 h35 => ?_
 refine Rq 4 ?_
 refine Fv (.slice (some ⟨b34, 0, none⟩) 0 0) ?_
 refine Fv (.int .i64 (-1)) ?_
 refine Fa (.slice (some ⟨b34, 0, none⟩) 0 0) ?_
 refine Fa (.int .i64 (-1)) ?_
 apply F.es
 apply h35
 refine wp_ret ?_
 try simp only [Exit.then]
 refine ret2 (v := .slice (some ⟨b34, 0, none⟩) 0 0) (x := .int .i64 (-1)) rfl kk kk ?_
 have ho173 := own_empty (base := w.heap.size) (size := 1) x38 lo40
 replace ho173 : World.ownsRow _ _ _ _ _ _ (intsV []) := ho173
 have e1 : bestOf (cutB ps vs s id) (harmL ps vs s cs) (openIds vs) = none := bestOf_cutno q49
 exact ⟨_, _, _, by rw [e1]; try rfl, (by rw [e1]; exact ho173), c171⟩
end Go.Proofs.Ytdbgfejeleafgaa
