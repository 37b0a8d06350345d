/- What the texts behind it build on; conditions: none. -/
import Derived.Test.YtdbgfejeleafgaaPp7
namespace Go.Proofs.Ytdbgfejeleafgaa
open Go.RowKit
set_option linter.unusedVariables false
set_option linter.unusedSimpArgs false
noncomputable def leastOf (r : Option (List Int × Int)) : Int := match r with | some b => b.2 | none => -1
def bpOf' (r : Option (List Int × Int)) : List Int := match r with | some b => b.1 | none => []
theorem sfd_some {fd : Bool} {b : List Int × Int} (h : fd = true) : (bif fd then some b else none) = some b := by rw [h]; rfl
theorem sfd_none {fd : Bool} {b : List Int × Int} (h : fd = false) : (bif fd then some b else none) = none := by rw [h]; rfl
theorem sbest_fin {r : Option (List Int × Int)} {fd : Bool} {bp : List Int} {lt : Int} (h : r = bif fd then some (bp, lt) else none) (hn : fd = false → bp = [] ∧ lt = -1) : bp = bpOf' r ∧ lt = leastOf r := by
  subst h
  cases fd with
  | true => exact ⟨rfl, rfl⟩
  | false => obtain ⟨rfl, rfl⟩ := hn rfl; exact ⟨rfl, rfl⟩
theorem fd_pos {fd : Bool} {bp : List Int} {lt : Int} (hn : fd = false → bp = [] ∧ lt = -1) (h : 0 ≤ lt) : fd = true := by
  cases fd with
  | true => rfl
  | false => have := (hn rfl).2; omega
theorem fd_neg {fd : Bool} {lt : Int} (hn : fd = true → 0 ≤ lt) (h : lt < 0) : fd = false := by
  cases fd with
  | false => rfl
  | true => have := hn rfl; omega
theorem better_lt {h : List Int → Int} {plan bp : List Int} {lt : Int} (e : h plan < lt) : better h plan (bp, lt) = true := by unfold better; rw [decide_eq_true e]; rfl
theorem better_less {h : List Int → Int} {plan bp : List Int} {lt : Int} (e : h plan = lt) (hl : lessL plan bp = true) : better h plan (bp, lt) = true := by unfold better; rw [decide_eq_true e, hl, Bool.true_and, Bool.or_true]
theorem better_gt {h : List Int → Int} {plan bp : List Int} {lt : Int} (e : ¬ h plan < lt) (e2 : ¬ h plan = lt) : better h plan (bp, lt) = false := by unfold better; rw [decide_eq_false e, decide_eq_false e2]; rfl
theorem better_ge {h : List Int → Int} {plan bp : List Int} {lt : Int} (e : ¬ h plan < lt) (hl : lessL plan bp = false) : better h plan (bp, lt) = false := by unfold better; rw [decide_eq_false e, hl, Bool.and_false]; rfl
theorem harmL_nil {ps : List Pp} {vs : List Vv} {s : Int} {cs plan : List Int} (h : cs.length = 0) : harmL ps vs s cs plan = 0 := by unfold harmL; rw [h]; rfl
theorem harmL_nn {ps : List Pp} {vs : List Vv} {s : Int} {cs plan : List Int} (h : ∀ c, c ∈ cs → 0 ≤ c ∧ c ≤ 1000) : 0 ≤ harmL ps vs s cs plan := (harmTo_bd h _ (Nat.le_refl _)).1
theorem bestOf_cutno {ps : List Pp} {vs : List Vv} {s id : Int} {h : List Int → Int} (e : cutB ps vs s id (openIds vs) = false) : bestOf (cutB ps vs s id) h (openIds vs) = none :=
  bestTo_none (fun t => by
    cases hc : cutB ps vs s id (choice (openIds vs) t) with
    | false => rfl
    | true => rw [cut_open hc] at e; cases e) _
theorem lessL_short {us ws : List Int} (h : us.length < ws.length) : lessL us ws = true := by unfold lessL; rw [if_neg (by omega), decide_eq_true h]
theorem lessL_long {us ws : List Int} (h : us.length ≠ ws.length) (h2 : ¬ us.length < ws.length) : lessL us ws = false := by unfold lessL; rw [if_neg h, decide_eq_false h2]
theorem lessL_lex {us ws : List Int} (h : us.length = ws.length) : lessL us ws = lexL us ws := by unfold lessL; rw [if_pos h]
theorem lexL_step {us ws : List Int} {i : Nat} {x y : Int} (hi : lexL (us.drop i) (ws.drop i) = lexL us ws) (hx : us[i]? = some x) (hy : ws[i]? = some y) (e : x = y) : lexL (us.drop (i + 1)) (ws.drop (i + 1)) = lexL us ws := by
  obtain ⟨h1, rfl⟩ := List.getElem?_eq_some_iff.1 hx
  obtain ⟨h2, rfl⟩ := List.getElem?_eq_some_iff.1 hy
  rw [List.drop_eq_getElem_cons h1, List.drop_eq_getElem_cons h2, lexL, if_pos e] at hi
  exact hi
theorem lexL_ne {us ws : List Int} {i : Nat} {x y : Int} (hi : lexL (us.drop i) (ws.drop i) = lexL us ws) (hx : us[i]? = some x) (hy : ws[i]? = some y) (e : x ≠ y) : lexL us ws = decide (x < y) := by
  obtain ⟨h1, rfl⟩ := List.getElem?_eq_some_iff.1 hx
  obtain ⟨h2, rfl⟩ := List.getElem?_eq_some_iff.1 hy
  rw [List.drop_eq_getElem_cons h1, List.drop_eq_getElem_cons h2, lexL, if_neg e] at hi
  exact hi.symm
theorem lexL_end {us ws : List Int} {i : Nat} (hi : lexL (us.drop i) (ws.drop i) = lexL us ws) (h : us.length ≤ i) : lexL us ws = false := by
  rw [List.drop_eq_nil_of_le h] at hi
  rw [← hi]; rfl
set_option maxRecDepth 100000 in
set_option maxHeartbeats 8000000 in
theorem l5Choice_any (A2 : Option Addr) (n2 c2 : Nat) (ol : List Int) (t : Nat) (w : World) (hb : Rd w 1 A2 n2 (intsV ol)) (hn2 : n2 ≤ 20) (ht : t ≤ 1024) :
    Calls Try.prog 114 #[.slice A2 n2 c2, .int .i64 ((t : Nat) : Int)] w fun e w' => ∃ A' n' c', e = .returned (.slice A' n' c') ∧ w'.ownsRow w.heap.size 3 1 (.slice A' n' c') n' (intsV (choice ol t)) ∧ Below w.heap.size w w' := by
 have hl2 := rd_ints_len hb
 go_enter Try.func114, Try.ntmps114
 refine F.begin 28 [(0, .slice A2 n2 c2), (1, .int .i64 (t : Int))] (fun U0 => ?_)
 refine wk fun K1 h1 => ?_
 refine Rq 1 ?_
 refine Fa (.slice none 0 0) ?_
 apply F.es
 apply h1
 refine wk fun K2 h2 => ?_
 refine W.region_plain (row := none) [(0, true), (1, false)] kk ?_
 have s10 := SG.self w none
 refine W.sn (fun b => .slice (some ⟨b, 0, none⟩) 0 0) #[] 3 s10 rfl kk rfl (fun _ => by kernel_rfl) (fun b11 w12 hb13 k14 x15 s16 => ?_)
 apply F.nx
 have lo17 : w.heap.size ≤ b11 := Nl ((Sb (Below.refl _ _) s10 nkk)).size (Nat.le_of_eq hb13)
 refine Fa (.slice (some ⟨b11, 0, none⟩) 0 0) ?_
 apply F.es
 have c18 := (Sb (Below.refl _ _) s16 nkk)
 apply h2
 refine wk fun K3 h3 => ?_
 refine wk fun K4 h4 => ?_
 refine Rq 1 ?_
 refine Fa (.int .i64 0) ?_
 apply F.es
 apply h4
 refine wp_block ?_
 have ho19 := own_empty (base := w.heap.size) (size := 1) x15 lo17
 replace ho19 : World.ownsRow _ _ _ _ _ _ (intsV []) := ho19
 refine loopK (fun am0 aa0 wl0 => ∃ (i : Nat) (A0_5 : Option Addr) (n0_5 : Nat) (c0_5 : Nat) , Kn aa0 [(0, .slice A2 n2 c2), (1, .int .i64 (t : Int)), (4, .slice none 0 0), (5, .slice A0_5 n0_5 c0_5), (6, .int .i64 (i : Int))] 28 ∧ (am0 = n2 - i) ∧ (i ≤ n2) ∧ (n0_5 ≤ i) ∧ (wl0.ownsRow w.heap.size 3 1 (.slice A0_5 n0_5 c0_5) n0_5 (intsV (choiceTo ol t i))) ∧ (Below w.heap.size w wl0)) (n2 - 0) ?_ ?_
 ·exact ⟨0, (some ⟨b11, 0, none⟩), 0, 0, Kn.of, rfl, (Nat.zero_le _), (Nat.zero_le _), ho19, c18⟩
 rintro am0 aa0 wl0 K5 h5 ⟨i, A0_5, n0_5, c0_5, ⟨U0, rfl⟩, rfl, hi, hb5, ho0_5, c20⟩
 refine wk fun K6 h6 => ?_
 refine wk fun K7 h7 => ?_
 refine Rq 4 ?_
 refine Fv (.int .i64 (i : Int)) ?_
 refine Fv (.slice A2 n2 c2) ?_
 refine Fq (.int .i64 (n2 : Int)) (r_len (A := A2) (n := n2) (c := c2) rfl ek kk) ?_
 by_cases q21 : ((i : Int) : Int) < ((n2 : Int) : Int)
 ·refine Fq (.bool true) (r_lss (m := (i : Int)) (n := (n2 : Int)) rfl ek ek (dt q21)) ?_
  apply F.es
  apply h7
  refine wp_cond_true ek ?_
  apply wp_skip
  apply h6
  refine wk fun K8 h8 => ?_
  refine wp_block ?_
  refine wk fun K9 h9 => ?_
  refine Rq 6 ?_
  refine Fv (.int .i64 (t : Int)) ?_
  refine Fv (.int .i64 (i : Int)) ?_
  refine Fq (.int .u64 (i : Int)) (r_convU (k := i) rfl ek kk kk (by omega)) ?_
  refine Fq (.int .i64 ((t / 2 ^ i : Nat) : Int)) (r_shr (q := t) (k := i) (yk := .u64) rfl ek ek (by omega)) ?_
  refine Fq (.int .i64 (((t / 2 ^ i) % 2 : Nat) : Int)) (r_and1 (q := t / 2 ^ i) rfl ek kk (by have h9 := Nat.div_le_self t (2 ^ i); have h8 : (2 : Nat) ^ 10 = 1024 := rfl; omega)) ?_
  by_cases q22 : ((((t / 2 ^ i) % 2 : Nat) : Int) : Int) = (1 : Int)
  ·refine Fq (.bool true) (r_eql (m := (((t / 2 ^ i) % 2 : Nat) : Int)) (n := 1) rfl ek ek (dt q22)) ?_
   apply F.es
   apply h9
   refine wp_cond_true ek ?_
   refine W.region_plain (row := (Value.ownBlock (.slice A0_5 n0_5 c0_5))) [(0, false), (1, false), (2, false), (3, false), (4, false), (5, true), (6, true), (7, false)] kk ?_
   have s23 := SG.self wl0 (Value.ownBlock (.slice A0_5 n0_5 c0_5))
   refine Fv (.slice A0_5 n0_5 c0_5) ?_
   refine Fv (.slice A2 n2 c2) ?_
   refine Fv (.int .i64 (i : Int)) ?_
   obtain ⟨x24, hx25⟩ := get_of (zs := ol) (k := i) (by have := hl2; omega)
   obtain ⟨b26, o27, hA28, hb29, hc30⟩ := Rd.elInt hb hx25
   refine Fq (.pointer (some ⟨b26, o27 + i, none⟩)) (r_idx1 (n := n2) (c := c2) (k := i) rfl ek hA28 kk kk (by have := hl2; omega)) ?_
   refine Fl (.int .i64 x24) (sgS (later c20 hc30) (nb_lo ho0_5 hb29)) ?_
   refine W.sn (fun b => .slice (some ⟨b, 0, none⟩) 1 1) #[.int .i64 x24] 3 s23 rfl kk rfl (fun _ => by kernel_rfl) (fun b31 w32 hb33 k34 x35 s36 => ?_)
   apply F.nx
   have lo37 : w.heap.size ≤ b31 := Nl ((Sb c20 s23 (fun kq e => (World.ownsRow.lt ho0_5 kq e).1))).size (Nat.le_of_eq hb33)
   have ho39 := own_kept ho0_5 k34
   refine W.sap (e := 3) (size := 1) (base := w.heap.size) (m := 1) (v := .slice A0_5 n0_5 c0_5) (c := 1) s36 rfl rfl rfl rfl kk kk kk ho39 x35 kk kk (by omega) (by omega) (by have := ((Sb c20 s36 (fun kq e => (World.ownsRow.lt ho0_5 kq e).1))).size; omega) (.inl rfl) (fun g40 cap41 w42 ho43 hg44 hat45 hlt46 s47 => ?_)
   apply F.nx
   have ho43 := own_snoc ho43
   refine Fa (.slice (some ⟨g40, 0, none⟩) (n0_5 + 1) cap41) ?_
   apply F.es
   have c49 := (Sb c20 s47 (fun kq e => (World.ownsRow.lt ho0_5 kq e).1))
   apply h8
   refine Rq 3 ?_
   refine Fv (.int .i64 (i : Int)) ?_
   refine Fq (.int .i64 ((i + 1 : Nat) : Int)) (r_add (m := (i : Int)) (n := 1) (z := ((i + 1 : Nat) : Int)) rfl ek ek (by omega) (by omega)) ?_
   refine Fa (.int .i64 ((i + 1 : Nat) : Int)) ?_
   apply F.es
   exact h5 _ _ _ (by omega : (n2 - (i + 1)) < _) ⟨i + 1, (some ⟨g40, 0, none⟩), (n0_5 + 1), cap41, Kn.of, rfl, (by omega), (by omega), (by rw [choiceTo_yes hx25 (by omega)]; exact ho43), c49⟩
  refine Fq (.bool false) (r_eql (m := (((t / 2 ^ i) % 2 : Nat) : Int)) (n := 1) rfl ek ek (df q22)) ?_
  apply F.es
  apply h9
  refine wp_cond_false ek ?_
  apply wp_skip
  apply h8
  refine Rq 3 ?_
  refine Fv (.int .i64 (i : Int)) ?_
  refine Fq (.int .i64 ((i + 1 : Nat) : Int)) (r_add (m := (i : Int)) (n := 1) (z := ((i + 1 : Nat) : Int)) rfl ek ek (by omega) (by omega)) ?_
  refine Fa (.int .i64 ((i + 1 : Nat) : Int)) ?_
  apply F.es
  exact h5 _ _ _ (by omega : (n2 - (i + 1)) < _) ⟨i + 1, A0_5, n0_5, c0_5, Kn.of, rfl, (by omega), (by omega), (by rw [choiceTo_no (by omega)]; exact ho0_5), c20⟩
 refine Fq (.bool false) (r_lss (m := (i : Int)) (n := (n2 : Int)) rfl ek ek (df q21)) ?_
 apply F.es
 apply h7
 refine wp_cond_false ek ?_
 refine wp_exit ?_
 apply h3
 refine wk fun K10 h10 => ?_
 refine Rq 2 ?_
 refine Fv (.slice A0_5 n0_5 c0_5) ?_
 refine Fa (.slice A0_5 n0_5 c0_5) ?_
 apply F.es
 apply h10
 refine wp_ret ?_
 try simp only [Exit.then]
 refine ret1 (v := .slice A0_5 n0_5 c0_5) rfl kk ?_
 have e9 : choiceTo ol t i = choice ol t := by unfold choice; rw [show ol.length = i by omega]
 have h9 := ho0_5
 rw [e9] at h9
 exact ⟨_, _, _, rfl, h9, c20⟩
set_option maxRecDepth 100000 in
set_option maxHeartbeats 8000000 in
theorem l5Less_any (A2 : Option Addr) (n2 c2 : Nat) (us : List Int) (A3 : Option Addr) (n3 c3 : Nat) (ws : List Int) (w : World) (hb : Rd w 1 A2 n2 (intsV us)) (hp3 : Rd w 1 A3 n3 (intsV ws)) (hn2 : n2 ≤ 1000000) (hn3 : n3 ≤ 1000000) :
    Calls Try.prog 137 #[.slice A2 n2 c2, .slice A3 n3 c3] w fun e w' => e = .returned (.bool (lessL us ws)) ∧ Below w.heap.size w w' := by
 have hl2 := rd_ints_len hb
 have hl3 := rd_ints_len hp3
 go_enter Try.func137, Try.ntmps137
 refine F.begin 40 [(0, .slice A2 n2 c2), (1, .slice A3 n3 c3)] (fun U0 => ?_)
 refine wk fun K1 h1 => ?_
 refine Rq 1 ?_
 refine Fa (.bool false) ?_
 apply F.es
 apply h1
 refine wk fun K2 h2 => ?_
 refine wk fun K3 h3 => ?_
 refine Rq 5 ?_
 refine Fv (.slice A2 n2 c2) ?_
 refine Fq (.int .i64 (n2 : Int)) (r_len (A := A2) (n := n2) (c := c2) rfl ek kk) ?_
 refine Fv (.slice A3 n3 c3) ?_
 refine Fq (.int .i64 (n3 : Int)) (r_len (A := A3) (n := n3) (c := c3) rfl ek kk) ?_
 by_cases q10 : ((n2 : Int) : Int) ≠ ((n3 : Int) : Int)
 ·refine Fq (.bool true) (r_neq (m := (n2 : Int)) (n := (n3 : Int)) rfl ek ek (dt q10)) ?_
  apply F.es
  apply h3
  refine wp_cond_true ek ?_
  refine wk fun K4 h4 => ?_
  refine Rq 6 ?_
  refine Fv (.slice A2 n2 c2) ?_
  refine Fq (.int .i64 (n2 : Int)) (r_len (A := A2) (n := n2) (c := c2) rfl ek kk) ?_
  refine Fv (.slice A3 n3 c3) ?_
  refine Fq (.int .i64 (n3 : Int)) (r_len (A := A3) (n := n3) (c := c3) rfl ek kk) ?_
  by_cases q11 : ((n2 : Int) : Int) < ((n3 : Int) : Int)
  ·refine Fq (.bool true) (r_lss (m := (n2 : Int)) (n := (n3 : Int)) rfl ek ek (dt q11)) ?_
   refine Fa (.bool true) ?_
   apply F.es
   apply h4
   refine wp_ret ?_
   try simp only [Exit.then]
   refine ret1 (v := .bool true) rfl kk ?_
   exact ⟨ret_bool (show true = lessL us ws from (show lessL us ws = true from lessL_short (by omega)).symm), (Below.refl _ _)⟩
  refine Fq (.bool false) (r_lss (m := (n2 : Int)) (n := (n3 : Int)) rfl ek ek (df q11)) ?_
  refine Fa (.bool false) ?_
  apply F.es
  apply h4
  refine wp_ret ?_
  try simp only [Exit.then]
  refine ret1 (v := .bool false) rfl kk ?_
  exact ⟨ret_bool (show false = lessL us ws from (show lessL us ws = false from lessL_long (by omega) (by omega)).symm), (Below.refl _ _)⟩
 refine Fq (.bool false) (r_neq (m := (n2 : Int)) (n := (n3 : Int)) rfl ek ek (df q10)) ?_
 apply F.es
 apply h3
 refine wp_cond_false ek ?_
 apply wp_skip
 apply h2
 refine wk fun K5 h5 => ?_
 refine wk fun K6 h6 => ?_
 refine Rq 1 ?_
 refine Fa (.int .i64 0) ?_
 apply F.es
 apply h6
 refine wp_block ?_
 refine loopK (fun am0 aa0 wl0 => ∃ (i : Nat) , Kn aa0 [(0, .slice A2 n2 c2), (1, .slice A3 n3 c3), (4, .bool false), (5, .int .i64 (i : Int)), (10, .bool false)] 40 ∧ (am0 = n2 - i) ∧ (i ≤ n2) ∧ (lexL (us.drop i) (ws.drop i) = lexL us ws) ∧ (Below w.heap.size w wl0)) (n2 - 0) ?_ ?_
 ·exact ⟨0, Kn.of, rfl, (Nat.zero_le _), rfl, (Below.refl _ _)⟩
 rintro am0 aa0 wl0 K7 h7 ⟨i, ⟨U0, rfl⟩, rfl, hi, hinv, c12⟩
 refine wk fun K8 h8 => ?_
 refine wk fun K9 h9 => ?_
 refine Rq 4 ?_
 refine Fv (.int .i64 (i : Int)) ?_
 refine Fv (.slice A2 n2 c2) ?_
 refine Fq (.int .i64 (n2 : Int)) (r_len (A := A2) (n := n2) (c := c2) rfl ek kk) ?_
 by_cases q13 : ((i : Int) : Int) < ((n2 : Int) : Int)
 ·refine Fq (.bool true) (r_lss (m := (i : Int)) (n := (n2 : Int)) rfl ek ek (dt q13)) ?_
  apply F.es
  apply h9
  refine wp_cond_true ek ?_
  apply wp_skip
  apply h8
  refine wk fun K10 h10 => ?_
  refine wp_block ?_
  refine wk fun K11 h11 => ?_
  refine W.region_sch (row := none) (Sch.of [(0, false), (1, false), (2, false), (3, false), (4, false), (5, false), (6, false), (7, false), (8, false)]) kk kk (fun _ d _ _ _ h => by cases d <;> exact h) kk (fun w14 e15 s16 => ?_)
  refine Fv (.slice A2 n2 c2) ?_
  refine Fv (.int .i64 (i : Int)) ?_
  obtain ⟨x17, hx18⟩ := get_of (zs := us) (k := i) (by have := hl2; omega)
  obtain ⟨b19, o20, hA21, hb22, hc23⟩ := Rd.elInt hb hx18
  refine Fq (.pointer (some ⟨b19, o20 + i, none⟩)) (r_idx1 (n := n2) (c := c2) (k := i) rfl ek hA21 kk kk (by have := hl2; omega)) ?_
  refine Fl (.int .i64 x17) (sgS (later c12 hc23) (by simp)) ?_
  refine Fv (.slice A3 n3 c3) ?_
  refine Fv (.int .i64 (i : Int)) ?_
  obtain ⟨x24, hx25⟩ := get_of (zs := ws) (k := i) (by have := hl3; omega)
  obtain ⟨b26, o27, hA28, hb29, hc30⟩ := Rd.elInt hp3 hx25
  refine Fq (.pointer (some ⟨b26, o27 + i, none⟩)) (r_idx1 (n := n3) (c := c3) (k := i) rfl ek hA28 kk kk (by have := hl3; omega)) ?_
  refine Fl (.int .i64 x24) (sgS (later c12 hc30) (by simp)) ?_
  by_cases q31 : (x17 : Int) ≠ (x24 : Int)
  ·refine Fq (.bool true) (r_neq (m := x17) (n := x24) rfl ek ek (dt q31)) ?_
   apply F.es
   have c32 := (Sb c12 s16 nkk)
   apply h11
   refine wp_cond_true ek ?_
   refine wk fun K12 h12 => ?_
   refine W.region_sch (row := none) (Sch.of [(0, false), (1, false), (2, false), (3, false), (4, false), (5, false), (6, false), (7, false), (8, false), (9, false)]) kk kk (fun _ d _ _ _ h => by cases d <;> exact h) kk (fun w33 e34 s35 => ?_)
   refine Fv (.slice A2 n2 c2) ?_
   refine Fv (.int .i64 (i : Int)) ?_
   refine Fq (.pointer (some ⟨b19, o20 + i, none⟩)) (r_idx1 (n := n2) (c := c2) (k := i) rfl ek hA21 kk kk (by have := hl2; omega)) ?_
   refine Fl (.int .i64 x17) (sgS (later c32 hc23) (by simp)) ?_
   refine Fv (.slice A3 n3 c3) ?_
   refine Fv (.int .i64 (i : Int)) ?_
   refine Fq (.pointer (some ⟨b26, o27 + i, none⟩)) (r_idx1 (n := n3) (c := c3) (k := i) rfl ek hA28 kk kk (by have := hl3; omega)) ?_
   refine Fl (.int .i64 x24) (sgS (later c32 hc30) (by simp)) ?_
   by_cases q36 : (x17 : Int) < (x24 : Int)
   ·refine Fq (.bool true) (r_lss (m := x17) (n := x24) rfl ek ek (dt q36)) ?_
    refine Fa (.bool true) ?_
    apply F.es
    have c37 := (Sb c32 s35 nkk)
    apply h12
    refine wp_ret ?_
    try simp only [Exit.then, Exit.inBlock]
    refine ret1 (v := .bool true) rfl kk ?_
    exact ⟨ret_bool (show true = lessL us ws from (show lessL us ws = true from by rw [lessL_lex (by omega), lexL_ne hinv hx18 hx25 (by omega), decide_eq_true (by omega)]).symm), c37⟩
   refine Fq (.bool false) (r_lss (m := x17) (n := x24) rfl ek ek (df q36)) ?_
   refine Fa (.bool false) ?_
   apply F.es
   have c38 := (Sb c32 s35 nkk)
   apply h12
   refine wp_ret ?_
   try simp only [Exit.then, Exit.inBlock]
   refine ret1 (v := .bool false) rfl kk ?_
   exact ⟨ret_bool (show false = lessL us ws from (show lessL us ws = false from by rw [lessL_lex (by omega), lexL_ne hinv hx18 hx25 (by omega), decide_eq_false (by omega)]).symm), c38⟩
  refine Fq (.bool false) (r_neq (m := x17) (n := x24) rfl ek ek (df q31)) ?_
  apply F.es
  have c39 := (Sb c12 s16 nkk)
  apply h11
  refine wp_cond_false ek ?_
  apply wp_skip
  apply h10
  refine Rq 3 ?_
  refine Fv (.int .i64 (i : Int)) ?_
  refine Fq (.int .i64 ((i + 1 : Nat) : Int)) (r_add (m := (i : Int)) (n := 1) (z := ((i + 1 : Nat) : Int)) rfl ek ek (by omega) (by omega)) ?_
  refine Fa (.int .i64 ((i + 1 : Nat) : Int)) ?_
  apply F.es
  exact h7 _ _ _ (by omega : (n2 - (i + 1)) < _) ⟨i + 1, Kn.of, rfl, (by omega), (lexL_step hinv hx18 hx25 (by omega)), c39⟩
 refine Fq (.bool false) (r_lss (m := (i : Int)) (n := (n2 : Int)) rfl ek ek (df q13)) ?_
 apply F.es
 apply h9
 refine wp_cond_false ek ?_
 refine wp_exit ?_
 apply h5
 refine wk fun K13 h13 => ?_
 refine Rq 1 ?_
 refine Fa (.bool false) ?_
 apply F.es
 apply h13
 refine wp_ret ?_
 try simp only [Exit.then]
 refine ret1 (v := .bool false) rfl kk ?_
 exact ⟨ret_bool (show false = lessL us ws from (show lessL us ws = false from by rw [lessL_lex (by omega), lexL_end hinv (by omega)]).symm), c12⟩
set_option maxRecDepth 100000 in
set_option maxHeartbeats 8000000 in
theorem l5Best_any (m : Int) (A : Option Addr) (n c : Nat) (ps : List Pp) (A2 : Option Addr) (n2 c2 : Nat) (vs : List Vv) (s id : Int) (A4 : Option Addr) (n4 c4 : Nat) (cs : List Int) (w : World) (ha : Rd w 4 A n (pipesV ps)) (hb : Rd w 4 A2 n2 (valvesV vs)) (hn : n ≤ 1048576) (hn2 : n2 ≤ 1048576) (hfm2 : Fm A2 n2 c2) (hv9 : GoodVal m ps vs) (hs : 1 ≤ s ∧ s ≤ m) (hfa : 0 ≤ findL ps id) (hc4 : Rd w 1 A4 n4 (intsV cs)) (hn4 : n4 ≤ 1048576) (hcob : ∀ c, c ∈ cs → 0 ≤ c ∧ c ≤ 1000) (hcoo : cs.length = 0 ∨ custOk m cs = true) :
    Calls Try.prog 101 #[.agg #[.int .i64 m, .slice A n c], .slice A2 n2 c2, .int .i64 s, .int .i64 id, .slice A4 n4 c4] w fun e w' => ∃ A' n' d, e = .returned (.tuple #[.slice A' n' d, .int .i64 (leastOf (bestOf (cutB ps vs s id) (harmL ps vs s cs) (openIds vs)))]) ∧ w'.ownsRow w.heap.size 3 1 (.slice A' n' d) n' (intsV (bpOf' (bestOf (cutB ps vs s id) (harmL ps vs s cs) (openIds vs)))) ∧ Below w.heap.size w w' := by
 have hl := rd_pipes_len ha
 have hl2 := rd_valves_len hb
 have hg := hv9.net
 have hgl := hg.lo
 have hgh := hg.hi
 have hp := hg.pipesIn
 have hlen10 := hg.len
 have hu := hv9.uniq
 have hvl := hv9.len
 have hfl := findL_lt ps id
 have hl4 := rd_ints_len hc4
 go_enter Try.func101, Try.ntmps101
 refine F.begin 93 [(0, .agg #[.int .i64 m, .slice A n c]), (1, .slice A2 n2 c2), (2, .int .i64 s), (3, .int .i64 id), (4, .slice A4 n4 c4)] (fun U0 => ?_)
 refine wk fun K1 h1 => ?_
 refine W.region_plain (row := none) [(0, true), (1, false), (2, false)] kk ?_
 have s10 := SG.self w none
 refine W.sn (fun b => .pointer (some ⟨b, 0, none⟩)) #[.int .i64 m, .slice A n c] 26 s10 rfl kk rfl (fun _ => by kernel_rfl) (fun b11 w12 hb13 k14 x15 s16 => ?_)
 apply F.nx
 have lo17 : w.heap.size ≤ b11 := Nl ((Sb (Below.refl _ _) s10 nkk)).size (Nat.le_of_eq hb13)
 refine Fa (.slice none 0 0) ?_
 refine Fa (.int .i64 0) ?_
 apply F.es
 have c18 := (Sb (Below.refl _ _) s16 nkk)
 apply h1
 refine wk fun K2 h2 => ?_
 refine W.region_plain (row := none) [(0, false), (1, true), (2, false)] kk ?_
 have s19 := SG.self w12 none
 refine Fv (.slice A2 n2 c2) ?_
 refine Fc [.slice A2 n2 c2] (l5Open_any A2 n2 c2 vs _ (Rk hb (Sb c18 s19 nkk)) (by omega)) ?_
 rintro e w29 ⟨A20, n21, c22, rfl, ho23, b28⟩
 have s30 := SG.of_below s19 b28
 refine ⟨_, rfl, s30, ?_⟩
 apply F.nx
 have rd24 := own_rd ho23
 have hl25 := rd_ints_len rd24
 have := openIds_len vs
 refine Fa (.slice A20 n21 c22) ?_
 apply F.es
 have x15 := Sk s30 x15 onn
 have c32 := (Sb c18 s30 nkk)
 apply h2
 refine wk fun K3 h3 => ?_
 refine W.region_plain (row := none) [(0, true), (1, false), (2, false)] kk ?_
 have s33 := SG.self w29 none
 refine W.sn (fun b => .slice (some ⟨b, 0, none⟩) 0 0) #[] 3 s33 rfl kk rfl (fun _ => by kernel_rfl) (fun b34 w35 hb36 k37 x38 s39 => ?_)
 apply F.nx
 have lo40 : w.heap.size ≤ b34 := Nl ((Sb c32 s33 nkk)).size (Nat.le_of_eq hb36)
 have ne42 : b11 ≠ b34 := Nat.ne_of_lt (Nat.lt_of_lt_of_eq (Nat.lt_of_lt_of_le (blk_lt x15) (s33).size) hb36)
 refine Fa (.slice (some ⟨b34, 0, none⟩) 0 0) ?_
 refine Fa (.int .i64 (-1)) ?_
 apply F.es
 have x15 := Sk s39 x15 onn
 have c43 := (Sb c32 s39 nkk)
 have rd44 := Rk rd24 (SG.below s39)
 apply h3
 refine wk fun K4 h4 => ?_
 refine wk fun K5 h5 => ?_
 refine W.region_plain (row := none) [(0, false), (1, false), (2, false), (3, false), (4, false), (5, true), (6, false)] kk ?_
 have s45 := SG.self w35 none
 refine Fq (.agg #[.int .i64 m, .slice A n c]) (r_load2 rfl ek kk kk (sgS (blk_cell (j := 0) x15 kk) onn) (sgS (blk_cell (j := 1) x15 kk) onn)) ?_
 refine Fv (.slice A2 n2 c2) ?_
 refine Fv (.int .i64 s) ?_
 refine Fv (.int .i64 id) ?_
 refine Fv (.slice A20 n21 c22) ?_
 refine Fc [.agg #[.int .i64 m, .slice A n c], .slice A2 n2 c2, .int .i64 s, .int .i64 id, .slice A20 n21 c22] (l5Cut_any m A n c ps A2 n2 c2 vs s id A20 n21 c22 (openIds vs) _ (Rk ha (Sb c43 s45 nkk)) (Rk hb (Sb c43 s45 nkk)) (by omega) (by omega) hfm2 hv9 hs hfa (Rk rd44 (SG.below s45)) (by omega)) ?_
 rintro e w47 ⟨rfl, b46⟩
 have s48 := SG.of_below s45 b46
 refine ⟨_, rfl, s48, ?_⟩
 apply F.nx
 rcases Bool.eq_false_or_eq_true (cutB ps vs s id (openIds vs)) with q49 | q49
 ·rw [q49]
  refine Fq (.bool false) (r_not (b := true) rfl ek rfl) ?_
  apply F.es
  have x15 := Sk s48 x15 onn
  have x38 := Sk s48 x38 onn
  have c50 := (Sb c43 s48 nkk)
  have rd51 := Rk rd44 (SG.below s48)
  apply h5
  refine wp_cond_false ek ?_
  apply wp_skip
  apply h4
  refine wk fun K6 h6 => ?_
  refine wk fun K7 h7 => ?_
  refine Rq 1 ?_
  refine Fa (.int .i64 0) ?_
  apply F.es
  apply h7
  refine wp_block ?_
  have ho52 := own_empty (base := w.heap.size) (size := 1) x38 lo40
  replace ho52 : World.ownsRow _ _ _ _ _ _ (intsV []) := ho52
  have nb54 : Nb b11 (.slice (some ⟨b34, 0, none⟩) 0 0) := nb_new ne42
  have hpw : 2 ^ n21 ≤ 2 ^ 10 := Nat.pow_le_pow_right (by omega) (by omega)
  refine loopK (fun am0 aa0 wl0 => ∃ (t : Nat) (bp : List Int) (lt : Int) (fd : Bool) (A0_13 : Option Addr) (n0_13 : Nat) (c0_13 : Nat) , Kn aa0 [(0, .agg #[.int .i64 m, .slice A n c]), (1, .slice A2 n2 c2), (2, .int .i64 s), (3, .int .i64 id), (4, .slice A4 n4 c4), (5, .pointer (some ⟨b11, 0, none⟩)), (10, .slice none 0 0), (11, .int .i64 0), (12, .slice A20 n21 c22), (13, .slice A0_13 n0_13 c0_13), (14, .int .i64 lt), (15, .int .i64 (t : Int)), (27, .bool false)] 93 ∧ (am0 = 2 ^ n21 - t) ∧ (t ≤ 2 ^ n21) ∧ (bestTo (cutB ps vs s id) (harmL ps vs s cs) (openIds vs) t = bif fd then some (bp, lt) else none) ∧ (fd = false → bp = [] ∧ lt = -1) ∧ (fd = true → 0 ≤ lt) ∧ (n0_13 ≤ 10) ∧ (wl0.heap[b11]? = some (.cells #[.int .i64 m, .slice A n c] 26 (0, 0))) ∧ (wl0.ownsRow w.heap.size 3 1 (.slice A0_13 n0_13 c0_13) n0_13 (intsV bp)) ∧ (Nb b11 (.slice A0_13 n0_13 c0_13)) ∧ (Rd wl0 1 A20 n21 (intsV (openIds vs))) ∧ (Below w.heap.size w wl0)) (2 ^ n21 - 0) ?_ ?_
  ·exact ⟨0, [], -1, false, (some ⟨b34, 0, none⟩), 0, 0, Kn.of, rfl, (Nat.zero_le _), rfl, (fun _ => ⟨rfl, rfl⟩), (fun e => by cases e), (by omega), x15, ho52, nb54, rd51, c50⟩
  rintro am0 aa0 wl0 K8 h8 ⟨t, bp, lt, fd, A0_13, n0_13, c0_13, ⟨U0, rfl⟩, rfl, ht, hst, hnf, hft, hb13, x15, ho0_13, nb0_13_b11, rd0_12, c55⟩
  refine wk fun K9 h9 => ?_
  refine wk fun K10 h10 => ?_
  refine Rq 6 ?_
  refine Fv (.int .i64 (t : Int)) ?_
  refine Fv (.slice A20 n21 c22) ?_
  refine Fq (.int .i64 (n21 : Int)) (r_len (A := A20) (n := n21) (c := c22) rfl ek kk) ?_
  refine Fq (.int .u64 (n21 : Int)) (r_convU (k := n21) rfl ek kk kk (by omega)) ?_
  refine Fq (.int .i64 ((2 ^ n21 : Nat) : Int)) (r_shl (k := n21) (yk := .u64) rfl ek ek (by omega)) ?_
  by_cases q56 : ((t : Int) : Int) < (((2 ^ n21 : Nat) : Int) : Int)
  ·refine Fq (.bool true) (r_lss (m := (t : Int)) (n := ((2 ^ n21 : Nat) : Int)) rfl ek ek (dt q56)) ?_
   apply F.es
   apply h10
   refine wp_cond_true ek ?_
   apply wp_skip
   apply h9
   refine wk fun K11 h11 => ?_
   refine wp_block ?_
   refine wk fun K12 h12 => ?_
   refine W.region_plain (row := none) [(0, false), (1, false), (2, true), (3, false)] kk ?_
   have s57 := SG.self wl0 none
   refine Fv (.slice A20 n21 c22) ?_
   refine Fv (.int .i64 (t : Int)) ?_
   have lr66 := World.ownsRow.lt ho0_13
   have z63 := ((Sb c55 s57 nkk)).size
   refine Fc [.slice A20 n21 c22, .int .i64 (t : Int)] (l5Choice_any A20 n21 c22 (openIds vs) t _ (Rk rd0_12 (SG.below s57)) (by omega) (by omega)) ?_
   rintro e w68 ⟨A58, n59, c60, rfl, ho61, b67⟩
   have s69 := SG.of_below s57 b67
   refine ⟨_, rfl, s69, ?_⟩
   apply F.nx
   have ho70 := own_kept ho0_13 b67
   have nb71 : Nb b11 (.slice A58 n59 c60) := nb_lo ho61 (Nat.lt_of_lt_of_le (blk_lt x15) (World.grownBy.size s57))
   have ho62 := own_base (base' := w.heap.size) ho61 z63
   have hl65 := rd_ints_len (own_rd ho61)
   have := choice_len (openIds vs) t
   refine Fa (.slice A58 n59 c60) ?_
   apply F.es
   have x15 := Sk s69 x15 onn
   have c73 := (Sb c55 s69 nkk)
   have rd74 := Rk rd0_12 (SG.below s69)
   apply h12
   refine wk fun K13 h13 => ?_
   refine wk fun K14 h14 => ?_
   refine W.region_plain (row := none) [(0, false), (1, false), (2, false), (3, false), (4, false), (5, false), (6, false), (7, false), (8, false), (9, false), (10, true), (11, false), (12, false), (13, false), (14, false), (15, false), (16, false), (17, false), (18, false), (19, true), (20, false), (21, false)] kk ?_
   have s75 := SG.self w68 none
   refine Fv (.int .i64 lt) ?_
   by_cases q76 : (lt : Int) ≥ (0 : Int)
   ·refine Fq (.bool true) (r_geq (m := lt) (n := 0) rfl ek ek (dt q76)) ?_
    refine Fv (.bool true) ?_
    refine Fv (.slice A4 n4 c4) ?_
    refine Fq (.int .i64 (n4 : Int)) (r_len (A := A4) (n := n4) (c := c4) rfl ek kk) ?_
    by_cases q77 : ((n4 : Int) : Int) = (0 : Int)
    ·refine Fq (.bool true) (r_eql (m := (n4 : Int)) (n := 0) rfl ek ek (dt q77)) ?_
     refine Fq (.bool true) (r_pick (b := true) rfl ek ek) ?_
     refine Fv (.bool true) ?_
     refine Fv (.slice A58 n59 c60) ?_
     refine Fv (.slice A0_13 n0_13 c0_13) ?_
     refine Fc [.slice A58 n59 c60, .slice A0_13 n0_13 c0_13] (l5Less_any A58 n59 c60 (choice (openIds vs) t) A0_13 n0_13 c0_13 bp _ (own_rd ho62) (own_rd ho70) (by omega) (by omega)) ?_
     rintro e w79 ⟨rfl, b78⟩
     have s80 := SG.of_below s75 b78
     refine ⟨_, rfl, s80, ?_⟩
     apply F.nx
     have ho81 := own_kept ho70 b78
     have ho82 := own_kept ho62 b78
     rcases Bool.eq_false_or_eq_true (lessL (choice (openIds vs) t) bp) with q83 | q83
     ·rw [q83]
      refine Fq (.bool false) (r_not (b := true) rfl ek rfl) ?_
      refine Fq (.bool false) (r_pick (b := true) rfl ek ek) ?_
      refine Fv (.bool false) ?_
      refine Fq (.agg #[.int .i64 m, .slice A n c]) (r_load2 rfl ek kk kk (sgS (blk_cell (j := 0) x15 kk) onn) (sgS (blk_cell (j := 1) x15 kk) onn)) ?_
      refine Fv (.slice A2 n2 c2) ?_
      refine Fv (.int .i64 s) ?_
      refine Fv (.int .i64 id) ?_
      refine Fv (.slice A58 n59 c60) ?_
      refine Fc [.agg #[.int .i64 m, .slice A n c], .slice A2 n2 c2, .int .i64 s, .int .i64 id, .slice A58 n59 c60] (l5Cut_any m A n c ps A2 n2 c2 vs s id A58 n59 c60 (choice (openIds vs) t) _ (Rk ha (Sb c73 s80 nkk)) (Rk hb (Sb c73 s80 nkk)) (by omega) (by omega) hfm2 hv9 hs hfa (own_rd ho82) (by omega)) ?_
      rintro e w85 ⟨rfl, b84⟩
      have s86 := SG.of_below s80 b84
      refine ⟨_, rfl, s86, ?_⟩
      apply F.nx
      have ho87 := own_kept ho81 b84
      have ho88 := own_kept ho82 b84
      rcases Bool.eq_false_or_eq_true (cutB ps vs s id (choice (openIds vs) t)) with q89 | q89
      ·rw [q89]
       refine Fq (.bool false) (r_not (b := true) rfl ek rfl) ?_
       refine Fq (.bool false) (r_pick (b := false) rfl ek ek) ?_
       apply F.es
       have x15 := Sk s86 x15 onn
       have c90 := (Sb c73 s86 nkk)
       have rd91 := Rk rd74 (SG.below s86)
       apply h14
       refine wp_cond_false ek ?_
       apply wp_skip
       apply h13
       refine wk fun K15 h15 => ?_
       refine Rq 1 ?_
       refine Fa (.int .i64 0) ?_
       apply F.es
       apply h15
       refine wk fun K16 h16 => ?_
       refine wk fun K17 h17 => ?_
       refine Rq 3 ?_
       refine Fv (.slice A4 n4 c4) ?_
       refine Fq (.int .i64 (n4 : Int)) (r_len (A := A4) (n := n4) (c := c4) rfl ek kk) ?_
       refine Fq (.bool false) (r_gtr (m := (n4 : Int)) (n := 0) rfl ek ek (df (by omega))) ?_
       apply F.es
       apply h17
       refine wp_cond_false ek ?_
       apply wp_skip
       apply h16
       refine wk fun K18 h18 => ?_
       refine W.region_plain (row := none) [(0, false), (1, false), (2, false), (3, false), (4, false), (5, false), (6, false), (7, false), (8, false), (9, false), (10, false), (11, false), (12, false), (13, false), (14, true), (15, false), (16, false)] kk ?_
       have s92 := SG.self w85 none
       refine Fv (.int .i64 lt) ?_
       refine Fq (.bool false) (r_lss (m := lt) (n := 0) rfl ek ek (df (by omega))) ?_
       refine Fv (.bool false) ?_
       refine Fv (.int .i64 0) ?_
       refine Fv (.int .i64 lt) ?_
       by_cases q93 : (0 : Int) < (lt : Int)
       ·refine Fq (.bool true) (r_lss (m := 0) (n := lt) rfl ek ek (dt q93)) ?_
        refine Fq (.bool true) (r_pick (b := false) rfl ek ek) ?_
        refine Fv (.bool true) ?_
        refine Fs s92 ?_
        refine Fs s92 ?_
        refine Fs s92 ?_
        refine Fs s92 ?_
        refine Fs s92 ?_
        refine Fs s92 ?_
        refine Fs s92 ?_
        refine Fs s92 ?_
        refine Fq (.bool true) (r_pick (b := true) rfl ek ek) ?_
        apply F.es
        have x15 := Sk s92 x15 onn
        have c94 := (Sb c90 s92 nkk)
        have rd95 := Rk rd91 (SG.below s92)
        apply h18
        refine wp_cond_true ek ?_
        refine wk fun K19 h19 => ?_
        refine Rq 2 ?_
        refine Fv (.slice A58 n59 c60) ?_
        refine Fa (.slice A58 n59 c60) ?_
        apply F.es
        apply h19
        refine Rq 2 ?_
        refine Fv (.int .i64 0) ?_
        refine Fa (.int .i64 0) ?_
        apply F.es
        apply h11
        refine Rq 3 ?_
        refine Fv (.int .i64 (t : Int)) ?_
        refine Fq (.int .i64 ((t + 1 : Nat) : Int)) (r_add (m := (t : Int)) (n := 1) (z := ((t + 1 : Nat) : Int)) rfl ek ek (by omega) (by omega)) ?_
        refine Fa (.int .i64 ((t + 1 : Nat) : Int)) ?_
        apply F.es
        have hz := harmL_nil (ps := ps) (vs := vs) (s := s) (cs := cs) (plan := (choice (openIds vs) t)) (by omega)
        have hfd := fd_pos hnf (by omega)
        exact h8 _ _ _ (by omega : (2 ^ n21 - (t + 1)) < _) ⟨t + 1, (choice (openIds vs) t), 0, true, A58, n59, c60, Kn.of, rfl, (by omega), (((bestTo_next (hst.trans (sfd_some hfd))).trans (bestStep_yes q89 (better_lt (h := (harmL ps vs s cs)) (plan := (choice (openIds vs) t)) (bp := bp) (lt := lt) (by omega)))).trans (by rw [show (harmL ps vs s cs) (choice (openIds vs) t) = 0 from by omega]; try rfl)), (fun e => by cases e), (fun _ => by omega), (by omega), x15, ho88, nb71, rd95, c94⟩
       refine Fq (.bool false) (r_lss (m := 0) (n := lt) rfl ek ek (df q93)) ?_
       refine Fq (.bool false) (r_pick (b := false) rfl ek ek) ?_
       refine Fv (.bool false) ?_
       refine Fv (.int .i64 0) ?_
       refine Fv (.int .i64 lt) ?_
       by_cases q96 : (0 : Int) = (lt : Int)
       ·refine Fq (.bool true) (r_eql (m := 0) (n := lt) rfl ek ek (dt q96)) ?_
        refine Fv (.bool true) ?_
        refine Fv (.slice A58 n59 c60) ?_
        refine Fv (.slice A0_13 n0_13 c0_13) ?_
        refine Fc [.slice A58 n59 c60, .slice A0_13 n0_13 c0_13] (l5Less_any A58 n59 c60 (choice (openIds vs) t) A0_13 n0_13 c0_13 bp _ (own_rd ho88) (own_rd ho87) (by omega) (by omega)) ?_
        rintro e w98 ⟨rfl, b97⟩
        have s99 := SG.of_below s92 b97
        refine ⟨_, rfl, s99, ?_⟩
        apply F.nx
        have ho101 := own_kept ho88 b97
        rw [q83]
        refine Fq (.bool true) (r_pick (b := true) rfl ek ek) ?_
        refine Fq (.bool true) (r_pick (b := false) rfl ek ek) ?_
        apply F.es
        have x15 := Sk s99 x15 onn
        have c103 := (Sb c90 s99 nkk)
        have rd104 := Rk rd91 (SG.below s99)
        apply h18
        refine wp_cond_true ek ?_
        refine wk fun K20 h20 => ?_
        refine Rq 2 ?_
        refine Fv (.slice A58 n59 c60) ?_
        refine Fa (.slice A58 n59 c60) ?_
        apply F.es
        apply h20
        refine Rq 2 ?_
        refine Fv (.int .i64 0) ?_
        refine Fa (.int .i64 0) ?_
        apply F.es
        apply h11
        refine Rq 3 ?_
        refine Fv (.int .i64 (t : Int)) ?_
        refine Fq (.int .i64 ((t + 1 : Nat) : Int)) (r_add (m := (t : Int)) (n := 1) (z := ((t + 1 : Nat) : Int)) rfl ek ek (by omega) (by omega)) ?_
        refine Fa (.int .i64 ((t + 1 : Nat) : Int)) ?_
        apply F.es
        have hz := harmL_nil (ps := ps) (vs := vs) (s := s) (cs := cs) (plan := (choice (openIds vs) t)) (by omega)
        have hfd := fd_pos hnf (by omega)
        exact h8 _ _ _ (by omega : (2 ^ n21 - (t + 1)) < _) ⟨t + 1, (choice (openIds vs) t), 0, true, A58, n59, c60, Kn.of, rfl, (by omega), (((bestTo_next (hst.trans (sfd_some hfd))).trans (bestStep_yes q89 (better_less (h := (harmL ps vs s cs)) (plan := (choice (openIds vs) t)) (bp := bp) (lt := lt) (by omega) q83))).trans (by rw [show (harmL ps vs s cs) (choice (openIds vs) t) = 0 from by omega]; try rfl)), (fun e => by cases e), (fun _ => by omega), (by omega), x15, ho101, nb71, rd104, c103⟩
       refine Fq (.bool false) (r_eql (m := 0) (n := lt) rfl ek ek (df q96)) ?_
       refine Fv (.bool false) ?_
       refine Fs s92 ?_
       refine Fs s92 ?_
       refine Fs s92 ?_
       refine Fq (.bool false) (r_pick (b := false) rfl ek ek) ?_
       refine Fq (.bool false) (r_pick (b := false) rfl ek ek) ?_
       apply F.es
       have x15 := Sk s92 x15 onn
       have c105 := (Sb c90 s92 nkk)
       have rd106 := Rk rd91 (SG.below s92)
       apply h18
       refine wp_cond_false ek ?_
       apply wp_skip
       apply h11
       refine Rq 3 ?_
       refine Fv (.int .i64 (t : Int)) ?_
       refine Fq (.int .i64 ((t + 1 : Nat) : Int)) (r_add (m := (t : Int)) (n := 1) (z := ((t + 1 : Nat) : Int)) rfl ek ek (by omega) (by omega)) ?_
       refine Fa (.int .i64 ((t + 1 : Nat) : Int)) ?_
       apply F.es
       have hz := harmL_nil (ps := ps) (vs := vs) (s := s) (cs := cs) (plan := (choice (openIds vs) t)) (by omega)
       have hfd := fd_pos hnf (by omega)
       exact h8 _ _ _ (by omega : (2 ^ n21 - (t + 1)) < _) ⟨t + 1, bp, lt, fd, A0_13, n0_13, c0_13, Kn.of, rfl, (by omega), ((bestTo_next (hst.trans (sfd_some hfd))).trans (by rw [bestStep_keep (better_gt (h := (harmL ps vs s cs)) (plan := (choice (openIds vs) t)) (bp := bp) (lt := lt) (by omega) (by omega)), hfd]; try rfl)), hnf, hft, (by omega), x15, ho87, nb0_13_b11, rd106, c105⟩
      rw [q89]
      refine Fq (.bool true) (r_not (b := false) rfl ek rfl) ?_
      refine Fq (.bool true) (r_pick (b := false) rfl ek ek) ?_
      apply F.es
      have x15 := Sk s86 x15 onn
      have c107 := (Sb c73 s86 nkk)
      have rd108 := Rk rd74 (SG.below s86)
      apply h14
      refine wp_cond_true ek ?_
      refine wp_exit ?_
      apply h11
      refine Rq 3 ?_
      refine Fv (.int .i64 (t : Int)) ?_
      refine Fq (.int .i64 ((t + 1 : Nat) : Int)) (r_add (m := (t : Int)) (n := 1) (z := ((t + 1 : Nat) : Int)) rfl ek ek (by omega) (by omega)) ?_
      refine Fa (.int .i64 ((t + 1 : Nat) : Int)) ?_
      apply F.es
      exact h8 _ _ _ (by omega : (2 ^ n21 - (t + 1)) < _) ⟨t + 1, bp, lt, fd, A0_13, n0_13, c0_13, Kn.of, rfl, (by omega), ((bestTo_next hst).trans (bestStep_no q89)), hnf, hft, (by omega), x15, ho87, nb0_13_b11, rd108, c107⟩
     rw [q83]
     refine Fq (.bool true) (r_not (b := false) rfl ek rfl) ?_
     refine Fq (.bool true) (r_pick (b := true) rfl ek ek) ?_
     refine Fv (.bool true) ?_
     refine Fs s80 ?_
     refine Fs s80 ?_
     refine Fs s80 ?_
     refine Fs s80 ?_
     refine Fs s80 ?_
     refine Fs s80 ?_
     refine Fs s80 ?_
     refine Fq (.bool true) (r_pick (b := true) rfl ek ek) ?_
     apply F.es
     have x15 := Sk s80 x15 onn
     have c109 := (Sb c73 s80 nkk)
     have rd110 := Rk rd74 (SG.below s80)
     apply h14
     refine wp_cond_true ek ?_
     refine wp_exit ?_
     apply h11
     refine Rq 3 ?_
     refine Fv (.int .i64 (t : Int)) ?_
     refine Fq (.int .i64 ((t + 1 : Nat) : Int)) (r_add (m := (t : Int)) (n := 1) (z := ((t + 1 : Nat) : Int)) rfl ek ek (by omega) (by omega)) ?_
     refine Fa (.int .i64 ((t + 1 : Nat) : Int)) ?_
     apply F.es
     have hz := harmL_nil (ps := ps) (vs := vs) (s := s) (cs := cs) (plan := (choice (openIds vs) t)) (by omega)
     have hfd := fd_pos hnf (by omega)
     obtain ⟨_, _, _, _, hlt0⟩ := bestTo_in (hst.trans (sfd_some hfd))
     have hlt1 : lt = (harmL ps vs s cs) bp := hlt0
     have hlt2 := harmL_nil (ps := ps) (vs := vs) (s := s) (cs := cs) (plan := bp) (by omega)
     exact h8 _ _ _ (by omega : (2 ^ n21 - (t + 1)) < _) ⟨t + 1, bp, lt, fd, A0_13, n0_13, c0_13, Kn.of, rfl, (by omega), ((bestTo_next (hst.trans (sfd_some hfd))).trans (by rw [bestStep_keep (better_ge (h := (harmL ps vs s cs)) (plan := (choice (openIds vs) t)) (bp := bp) (lt := lt) (by omega) q83), hfd]; try rfl)), hnf, hft, (by omega), x15, ho81, nb0_13_b11, rd110, c109⟩
    refine Fq (.bool false) (r_eql (m := (n4 : Int)) (n := 0) rfl ek ek (df q77)) ?_
    refine Fq (.bool false) (r_pick (b := true) rfl ek ek) ?_
    refine Fv (.bool false) ?_
    refine Fs s75 ?_
    refine Fs s75 ?_
    refine Fs s75 ?_
    refine Fs s75 ?_
    refine Fq (.bool false) (r_pick (b := false) rfl ek ek) ?_
    refine Fv (.bool false) ?_
    refine Fq (.agg #[.int .i64 m, .slice A n c]) (r_load2 rfl ek kk kk (sgS (blk_cell (j := 0) x15 kk) onn) (sgS (blk_cell (j := 1) x15 kk) onn)) ?_
    refine Fv (.slice A2 n2 c2) ?_
    refine Fv (.int .i64 s) ?_
    refine Fv (.int .i64 id) ?_
    refine Fv (.slice A58 n59 c60) ?_
    refine Fc [.agg #[.int .i64 m, .slice A n c], .slice A2 n2 c2, .int .i64 s, .int .i64 id, .slice A58 n59 c60] (l5Cut_any m A n c ps A2 n2 c2 vs s id A58 n59 c60 (choice (openIds vs) t) _ (Rk ha (Sb c73 s75 nkk)) (Rk hb (Sb c73 s75 nkk)) (by omega) (by omega) hfm2 hv9 hs hfa (own_rd ho62) (by omega)) ?_
    rintro e w112 ⟨rfl, b111⟩
    have s113 := SG.of_below s75 b111
    refine ⟨_, rfl, s113, ?_⟩
    apply F.nx
    have ho114 := own_kept ho70 b111
    have ho115 := own_kept ho62 b111
    rcases Bool.eq_false_or_eq_true (cutB ps vs s id (choice (openIds vs) t)) with q116 | q116
    ·rw [q116]
     refine Fq (.bool false) (r_not (b := true) rfl ek rfl) ?_
     refine Fq (.bool false) (r_pick (b := false) rfl ek ek) ?_
     apply F.es
     have x15 := Sk s113 x15 onn
     have c117 := (Sb c73 s113 nkk)
     have rd118 := Rk rd74 (SG.below s113)
     apply h14
     refine wp_cond_false ek ?_
     apply wp_skip
     apply h13
     refine wk fun K21 h21 => ?_
     refine Rq 1 ?_
     refine Fa (.int .i64 0) ?_
     apply F.es
     apply h21
     refine wk fun K22 h22 => ?_
     refine wk fun K23 h23 => ?_
     refine Rq 3 ?_
     refine Fv (.slice A4 n4 c4) ?_
     refine Fq (.int .i64 (n4 : Int)) (r_len (A := A4) (n := n4) (c := c4) rfl ek kk) ?_
     refine Fq (.bool true) (r_gtr (m := (n4 : Int)) (n := 0) rfl ek ek (dt (by omega))) ?_
     apply F.es
     apply h23
     refine wp_cond_true ek ?_
     refine W.region_plain (row := none) [(0, false), (1, false), (2, false), (3, false), (4, false), (5, true), (6, false)] kk ?_
     have s119 := SG.self w112 none
     refine Fq (.agg #[.int .i64 m, .slice A n c]) (r_load2 rfl ek kk kk (sgS (blk_cell (j := 0) x15 kk) onn) (sgS (blk_cell (j := 1) x15 kk) onn)) ?_
     refine Fv (.slice A2 n2 c2) ?_
     refine Fv (.int .i64 s) ?_
     refine Fv (.slice A58 n59 c60) ?_
     refine Fv (.slice A4 n4 c4) ?_
     have hco : custOk m cs = true := hcoo.resolve_left (by omega)
     refine Fc [.agg #[.int .i64 m, .slice A n c], .slice A2 n2 c2, .int .i64 s, .slice A58 n59 c60, .slice A4 n4 c4] (l5Harm_any m A n c ps A2 n2 c2 vs s A58 n59 c60 (choice (openIds vs) t) A4 n4 c4 cs _ (Rk ha (Sb c117 s119 nkk)) (Rk hb (Sb c117 s119 nkk)) (by omega) (by omega) hfm2 hv9 hs (own_rd ho115) (by omega) (Rk hc4 (Sb c117 s119 nkk)) (by omega) hco) ?_
     rintro e w121 ⟨rfl, b120⟩
     have s122 := SG.of_below s119 b120
     refine ⟨_, rfl, s122, ?_⟩
     apply F.nx
     have ho123 := own_kept ho114 b120
     have ho124 := own_kept ho115 b120
     refine Fa (.int .i64 (harmL ps vs s cs (choice (openIds vs) t))) ?_
     apply F.es
     have x15 := Sk s122 x15 onn
     have c125 := (Sb c117 s122 nkk)
     have rd126 := Rk rd118 (SG.below s122)
     apply h22
     refine wk fun K24 h24 => ?_
     refine W.region_plain (row := none) [(0, false), (1, false), (2, false), (3, false), (4, false), (5, false), (6, false), (7, false), (8, false), (9, false), (10, false), (11, false), (12, false), (13, false), (14, true), (15, false), (16, false)] kk ?_
     have s127 := SG.self w121 none
     refine Fv (.int .i64 lt) ?_
     refine Fq (.bool false) (r_lss (m := lt) (n := 0) rfl ek ek (df (by omega))) ?_
     refine Fv (.bool false) ?_
     refine Fv (.int .i64 (harmL ps vs s cs (choice (openIds vs) t))) ?_
     refine Fv (.int .i64 lt) ?_
     by_cases q128 : ((harmL ps vs s cs (choice (openIds vs) t)) : Int) < (lt : Int)
     ·refine Fq (.bool true) (r_lss (m := (harmL ps vs s cs (choice (openIds vs) t))) (n := lt) rfl ek ek (dt q128)) ?_
      refine Fq (.bool true) (r_pick (b := false) rfl ek ek) ?_
      refine Fv (.bool true) ?_
      refine Fs s127 ?_
      refine Fs s127 ?_
      refine Fs s127 ?_
      refine Fs s127 ?_
      refine Fs s127 ?_
      refine Fs s127 ?_
      refine Fs s127 ?_
      refine Fs s127 ?_
      refine Fq (.bool true) (r_pick (b := true) rfl ek ek) ?_
      apply F.es
      have x15 := Sk s127 x15 onn
      have c129 := (Sb c125 s127 nkk)
      have rd130 := Rk rd126 (SG.below s127)
      apply h24
      refine wp_cond_true ek ?_
      refine wk fun K25 h25 => ?_
      refine Rq 2 ?_
      refine Fv (.slice A58 n59 c60) ?_
      refine Fa (.slice A58 n59 c60) ?_
      apply F.es
      apply h25
      refine Rq 2 ?_
      refine Fv (.int .i64 (harmL ps vs s cs (choice (openIds vs) t))) ?_
      refine Fa (.int .i64 (harmL ps vs s cs (choice (openIds vs) t))) ?_
      apply F.es
      apply h11
      refine Rq 3 ?_
      refine Fv (.int .i64 (t : Int)) ?_
      refine Fq (.int .i64 ((t + 1 : Nat) : Int)) (r_add (m := (t : Int)) (n := 1) (z := ((t + 1 : Nat) : Int)) rfl ek ek (by omega) (by omega)) ?_
      refine Fa (.int .i64 ((t + 1 : Nat) : Int)) ?_
      apply F.es
      have hz := harmL_nn (ps := ps) (vs := vs) (s := s) (cs := cs) (plan := (choice (openIds vs) t)) hcob
      have hfd := fd_pos hnf (by omega)
      exact h8 _ _ _ (by omega : (2 ^ n21 - (t + 1)) < _) ⟨t + 1, (choice (openIds vs) t), (harmL ps vs s cs (choice (openIds vs) t)), true, A58, n59, c60, Kn.of, rfl, (by omega), (((bestTo_next (hst.trans (sfd_some hfd))).trans (bestStep_yes q116 (better_lt (h := (harmL ps vs s cs)) (plan := (choice (openIds vs) t)) (bp := bp) (lt := lt) (by omega)))).trans (by rw [show (harmL ps vs s cs) (choice (openIds vs) t) = (harmL ps vs s cs (choice (openIds vs) t)) from by omega]; try rfl)), (fun e => by cases e), (fun _ => by omega), (by omega), x15, ho124, nb71, rd130, c129⟩
     refine Fq (.bool false) (r_lss (m := (harmL ps vs s cs (choice (openIds vs) t))) (n := lt) rfl ek ek (df q128)) ?_
     refine Fq (.bool false) (r_pick (b := false) rfl ek ek) ?_
     refine Fv (.bool false) ?_
     refine Fv (.int .i64 (harmL ps vs s cs (choice (openIds vs) t))) ?_
     refine Fv (.int .i64 lt) ?_
     by_cases q131 : ((harmL ps vs s cs (choice (openIds vs) t)) : Int) = (lt : Int)
     ·refine Fq (.bool true) (r_eql (m := (harmL ps vs s cs (choice (openIds vs) t))) (n := lt) rfl ek ek (dt q131)) ?_
      refine Fv (.bool true) ?_
      refine Fv (.slice A58 n59 c60) ?_
      refine Fv (.slice A0_13 n0_13 c0_13) ?_
      refine Fc [.slice A58 n59 c60, .slice A0_13 n0_13 c0_13] (l5Less_any A58 n59 c60 (choice (openIds vs) t) A0_13 n0_13 c0_13 bp _ (own_rd ho124) (own_rd ho123) (by omega) (by omega)) ?_
      rintro e w133 ⟨rfl, b132⟩
      have s134 := SG.of_below s127 b132
      refine ⟨_, rfl, s134, ?_⟩
      apply F.nx
      have ho135 := own_kept ho123 b132
      have ho136 := own_kept ho124 b132
      rcases Bool.eq_false_or_eq_true (lessL (choice (openIds vs) t) bp) with q137 | q137
      ·rw [q137]
       refine Fq (.bool true) (r_pick (b := true) rfl ek ek) ?_
       refine Fq (.bool true) (r_pick (b := false) rfl ek ek) ?_
       apply F.es
       have x15 := Sk s134 x15 onn
       have c138 := (Sb c125 s134 nkk)
       have rd139 := Rk rd126 (SG.below s134)
       apply h24
       refine wp_cond_true ek ?_
       refine wk fun K26 h26 => ?_
       refine Rq 2 ?_
       refine Fv (.slice A58 n59 c60) ?_
       refine Fa (.slice A58 n59 c60) ?_
       apply F.es
       apply h26
       refine Rq 2 ?_
       refine Fv (.int .i64 (harmL ps vs s cs (choice (openIds vs) t))) ?_
       refine Fa (.int .i64 (harmL ps vs s cs (choice (openIds vs) t))) ?_
       apply F.es
       apply h11
       refine Rq 3 ?_
       refine Fv (.int .i64 (t : Int)) ?_
       refine Fq (.int .i64 ((t + 1 : Nat) : Int)) (r_add (m := (t : Int)) (n := 1) (z := ((t + 1 : Nat) : Int)) rfl ek ek (by omega) (by omega)) ?_
       refine Fa (.int .i64 ((t + 1 : Nat) : Int)) ?_
       apply F.es
       have hz := harmL_nn (ps := ps) (vs := vs) (s := s) (cs := cs) (plan := (choice (openIds vs) t)) hcob
       have hfd := fd_pos hnf (by omega)
       exact h8 _ _ _ (by omega : (2 ^ n21 - (t + 1)) < _) ⟨t + 1, (choice (openIds vs) t), (harmL ps vs s cs (choice (openIds vs) t)), true, A58, n59, c60, Kn.of, rfl, (by omega), (((bestTo_next (hst.trans (sfd_some hfd))).trans (bestStep_yes q116 (better_less (h := (harmL ps vs s cs)) (plan := (choice (openIds vs) t)) (bp := bp) (lt := lt) (by omega) q137))).trans (by rw [show (harmL ps vs s cs) (choice (openIds vs) t) = (harmL ps vs s cs (choice (openIds vs) t)) from by omega]; try rfl)), (fun e => by cases e), (fun _ => by omega), (by omega), x15, ho136, nb71, rd139, c138⟩
      rw [q137]
      refine Fq (.bool false) (r_pick (b := true) rfl ek ek) ?_
      refine Fq (.bool false) (r_pick (b := false) rfl ek ek) ?_
      apply F.es
      have x15 := Sk s134 x15 onn
      have c140 := (Sb c125 s134 nkk)
      have rd141 := Rk rd126 (SG.below s134)
      apply h24
      refine wp_cond_false ek ?_
      apply wp_skip
      apply h11
      refine Rq 3 ?_
      refine Fv (.int .i64 (t : Int)) ?_
      refine Fq (.int .i64 ((t + 1 : Nat) : Int)) (r_add (m := (t : Int)) (n := 1) (z := ((t + 1 : Nat) : Int)) rfl ek ek (by omega) (by omega)) ?_
      refine Fa (.int .i64 ((t + 1 : Nat) : Int)) ?_
      apply F.es
      have hz := harmL_nn (ps := ps) (vs := vs) (s := s) (cs := cs) (plan := (choice (openIds vs) t)) hcob
      have hfd := fd_pos hnf (by omega)
      exact h8 _ _ _ (by omega : (2 ^ n21 - (t + 1)) < _) ⟨t + 1, bp, lt, fd, A0_13, n0_13, c0_13, Kn.of, rfl, (by omega), ((bestTo_next (hst.trans (sfd_some hfd))).trans (by rw [bestStep_keep (better_ge (h := (harmL ps vs s cs)) (plan := (choice (openIds vs) t)) (bp := bp) (lt := lt) (by omega) q137), hfd]; try rfl)), hnf, hft, (by omega), x15, ho135, nb0_13_b11, rd141, c140⟩
     refine Fq (.bool false) (r_eql (m := (harmL ps vs s cs (choice (openIds vs) t))) (n := lt) rfl ek ek (df q131)) ?_
     refine Fv (.bool false) ?_
     refine Fs s127 ?_
     refine Fs s127 ?_
     refine Fs s127 ?_
     refine Fq (.bool false) (r_pick (b := false) rfl ek ek) ?_
     refine Fq (.bool false) (r_pick (b := false) rfl ek ek) ?_
     apply F.es
     have x15 := Sk s127 x15 onn
     have c142 := (Sb c125 s127 nkk)
     have rd143 := Rk rd126 (SG.below s127)
     apply h24
     refine wp_cond_false ek ?_
     apply wp_skip
     apply h11
     refine Rq 3 ?_
     refine Fv (.int .i64 (t : Int)) ?_
     refine Fq (.int .i64 ((t + 1 : Nat) : Int)) (r_add (m := (t : Int)) (n := 1) (z := ((t + 1 : Nat) : Int)) rfl ek ek (by omega) (by omega)) ?_
     refine Fa (.int .i64 ((t + 1 : Nat) : Int)) ?_
     apply F.es
     have hz := harmL_nn (ps := ps) (vs := vs) (s := s) (cs := cs) (plan := (choice (openIds vs) t)) hcob
     have hfd := fd_pos hnf (by omega)
     exact h8 _ _ _ (by omega : (2 ^ n21 - (t + 1)) < _) ⟨t + 1, bp, lt, fd, A0_13, n0_13, c0_13, Kn.of, rfl, (by omega), ((bestTo_next (hst.trans (sfd_some hfd))).trans (by rw [bestStep_keep (better_gt (h := (harmL ps vs s cs)) (plan := (choice (openIds vs) t)) (bp := bp) (lt := lt) (by omega) (by omega)), hfd]; try rfl)), hnf, hft, (by omega), x15, ho123, nb0_13_b11, rd143, c142⟩
    rw [q116]
    refine Fq (.bool true) (r_not (b := false) rfl ek rfl) ?_
    refine Fq (.bool true) (r_pick (b := false) rfl ek ek) ?_
    apply F.es
    have x15 := Sk s113 x15 onn
    have c144 := (Sb c73 s113 nkk)
    have rd145 := Rk rd74 (SG.below s113)
    apply h14
    refine wp_cond_true ek ?_
    refine wp_exit ?_
    apply h11
    refine Rq 3 ?_
    refine Fv (.int .i64 (t : Int)) ?_
    refine Fq (.int .i64 ((t + 1 : Nat) : Int)) (r_add (m := (t : Int)) (n := 1) (z := ((t + 1 : Nat) : Int)) rfl ek ek (by omega) (by omega)) ?_
    refine Fa (.int .i64 ((t + 1 : Nat) : Int)) ?_
    apply F.es
    exact h8 _ _ _ (by omega : (2 ^ n21 - (t + 1)) < _) ⟨t + 1, bp, lt, fd, A0_13, n0_13, c0_13, Kn.of, rfl, (by omega), ((bestTo_next hst).trans (bestStep_no q116)), hnf, hft, (by omega), x15, ho114, nb0_13_b11, rd145, c144⟩
   refine Fq (.bool false) (r_geq (m := lt) (n := 0) rfl ek ek (df q76)) ?_
   refine Fv (.bool false) ?_
   refine Fs s75 ?_
   refine Fs s75 ?_
   refine Fs s75 ?_
   refine Fq (.bool false) (r_pick (b := false) rfl ek ek) ?_
   refine Fv (.bool false) ?_
   refine Fs s75 ?_
   refine Fs s75 ?_
   refine Fs s75 ?_
   refine Fs s75 ?_
   refine Fq (.bool false) (r_pick (b := false) rfl ek ek) ?_
   refine Fv (.bool false) ?_
   refine Fq (.agg #[.int .i64 m, .slice A n c]) (r_load2 rfl ek kk kk (sgS (blk_cell (j := 0) x15 kk) onn) (sgS (blk_cell (j := 1) x15 kk) onn)) ?_
   refine Fv (.slice A2 n2 c2) ?_
   refine Fv (.int .i64 s) ?_
   refine Fv (.int .i64 id) ?_
   refine Fv (.slice A58 n59 c60) ?_
   refine Fc [.agg #[.int .i64 m, .slice A n c], .slice A2 n2 c2, .int .i64 s, .int .i64 id, .slice A58 n59 c60] (l5Cut_any m A n c ps A2 n2 c2 vs s id A58 n59 c60 (choice (openIds vs) t) _ (Rk ha (Sb c73 s75 nkk)) (Rk hb (Sb c73 s75 nkk)) (by omega) (by omega) hfm2 hv9 hs hfa (own_rd ho62) (by omega)) ?_
   rintro e w147 ⟨rfl, b146⟩
   have s148 := SG.of_below s75 b146
   refine ⟨_, rfl, s148, ?_⟩
   apply F.nx
   have ho149 := own_kept ho70 b146
   have ho150 := own_kept ho62 b146
   rcases Bool.eq_false_or_eq_true (cutB ps vs s id (choice (openIds vs) t)) with q151 | q151
   ·rw [q151]
    refine Fq (.bool false) (r_not (b := true) rfl ek rfl) ?_
    refine Fq (.bool false) (r_pick (b := false) rfl ek ek) ?_
    apply F.es
    have x15 := Sk s148 x15 onn
    have c152 := (Sb c73 s148 nkk)
    have rd153 := Rk rd74 (SG.below s148)
    apply h14
    refine wp_cond_false ek ?_
    apply wp_skip
    apply h13
    refine wk fun K27 h27 => ?_
    refine Rq 1 ?_
    refine Fa (.int .i64 0) ?_
    apply F.es
    apply h27
    refine wk fun K28 h28 => ?_
    refine wk fun K29 h29 => ?_
    refine Rq 3 ?_
    refine Fv (.slice A4 n4 c4) ?_
    refine Fq (.int .i64 (n4 : Int)) (r_len (A := A4) (n := n4) (c := c4) rfl ek kk) ?_
    by_cases q154 : ((n4 : Int) : Int) > (0 : Int)
    ·refine Fq (.bool true) (r_gtr (m := (n4 : Int)) (n := 0) rfl ek ek (dt q154)) ?_
     apply F.es
     apply h29
     refine wp_cond_true ek ?_
     refine W.region_plain (row := none) [(0, false), (1, false), (2, false), (3, false), (4, false), (5, true), (6, false)] kk ?_
     have s155 := SG.self w147 none
     refine Fq (.agg #[.int .i64 m, .slice A n c]) (r_load2 rfl ek kk kk (sgS (blk_cell (j := 0) x15 kk) onn) (sgS (blk_cell (j := 1) x15 kk) onn)) ?_
     refine Fv (.slice A2 n2 c2) ?_
     refine Fv (.int .i64 s) ?_
     refine Fv (.slice A58 n59 c60) ?_
     refine Fv (.slice A4 n4 c4) ?_
     have hco : custOk m cs = true := hcoo.resolve_left (by omega)
     refine Fc [.agg #[.int .i64 m, .slice A n c], .slice A2 n2 c2, .int .i64 s, .slice A58 n59 c60, .slice A4 n4 c4] (l5Harm_any m A n c ps A2 n2 c2 vs s A58 n59 c60 (choice (openIds vs) t) A4 n4 c4 cs _ (Rk ha (Sb c152 s155 nkk)) (Rk hb (Sb c152 s155 nkk)) (by omega) (by omega) hfm2 hv9 hs (own_rd ho150) (by omega) (Rk hc4 (Sb c152 s155 nkk)) (by omega) hco) ?_
     rintro e w157 ⟨rfl, b156⟩
     have s158 := SG.of_below s155 b156
     refine ⟨_, rfl, s158, ?_⟩
     apply F.nx
     have ho160 := own_kept ho150 b156
     refine Fa (.int .i64 (harmL ps vs s cs (choice (openIds vs) t))) ?_
     apply F.es
     have x15 := Sk s158 x15 onn
     have c161 := (Sb c152 s158 nkk)
     have rd162 := Rk rd153 (SG.below s158)
     apply h28
     refine wk fun K30 h30 => ?_
     refine W.region_plain (row := none) [(0, false), (1, false), (2, false), (3, false), (4, false), (5, false), (6, false), (7, false), (8, false), (9, false), (10, false), (11, false), (12, false), (13, false), (14, true), (15, false), (16, false)] kk ?_
     have s163 := SG.self w157 none
     refine Fv (.int .i64 lt) ?_
     refine Fq (.bool true) (r_lss (m := lt) (n := 0) rfl ek ek (dt (by omega))) ?_
     refine Fv (.bool true) ?_
     refine Fs s163 ?_
     refine Fs s163 ?_
     refine Fs s163 ?_
     refine Fq (.bool true) (r_pick (b := true) rfl ek ek) ?_
     refine Fv (.bool true) ?_
     refine Fs s163 ?_
     refine Fs s163 ?_
     refine Fs s163 ?_
     refine Fs s163 ?_
     refine Fs s163 ?_
     refine Fs s163 ?_
     refine Fs s163 ?_
     refine Fs s163 ?_
     refine Fq (.bool true) (r_pick (b := true) rfl ek ek) ?_
     apply F.es
     have x15 := Sk s163 x15 onn
     have c164 := (Sb c161 s163 nkk)
     have rd165 := Rk rd162 (SG.below s163)
     apply h30
     refine wp_cond_true ek ?_
     refine wk fun K31 h31 => ?_
     refine Rq 2 ?_
     refine Fv (.slice A58 n59 c60) ?_
     refine Fa (.slice A58 n59 c60) ?_
     apply F.es
     apply h31
     refine Rq 2 ?_
     refine Fv (.int .i64 (harmL ps vs s cs (choice (openIds vs) t))) ?_
     refine Fa (.int .i64 (harmL ps vs s cs (choice (openIds vs) t))) ?_
     apply F.es
     apply h11
     refine Rq 3 ?_
     refine Fv (.int .i64 (t : Int)) ?_
     refine Fq (.int .i64 ((t + 1 : Nat) : Int)) (r_add (m := (t : Int)) (n := 1) (z := ((t + 1 : Nat) : Int)) rfl ek ek (by omega) (by omega)) ?_
     refine Fa (.int .i64 ((t + 1 : Nat) : Int)) ?_
     apply F.es
     have hz := harmL_nn (ps := ps) (vs := vs) (s := s) (cs := cs) (plan := (choice (openIds vs) t)) hcob
     have hfd := fd_neg hft (by omega)
     exact h8 _ _ _ (by omega : (2 ^ n21 - (t + 1)) < _) ⟨t + 1, (choice (openIds vs) t), (harmL ps vs s cs (choice (openIds vs) t)), true, A58, n59, c60, Kn.of, rfl, (by omega), (((bestTo_next (hst.trans (sfd_none hfd))).trans (bestStep_first q151)).trans (by rw [show (harmL ps vs s cs) (choice (openIds vs) t) = (harmL ps vs s cs (choice (openIds vs) t)) from by omega]; try rfl)), (fun e => by cases e), (fun _ => by omega), (by omega), x15, ho160, nb71, rd165, c164⟩
    refine Fq (.bool false) (r_gtr (m := (n4 : Int)) (n := 0) rfl ek ek (df q154)) ?_
    apply F.es
    apply h29
    refine wp_cond_false ek ?_
    apply wp_skip
    apply h28
    refine wk fun K32 h32 => ?_
    refine W.region_plain (row := none) [(0, false), (1, false), (2, false), (3, false), (4, false), (5, false), (6, false), (7, false), (8, false), (9, false), (10, false), (11, false), (12, false), (13, false), (14, true), (15, false), (16, false)] kk ?_
    have s166 := SG.self w147 none
    refine Fv (.int .i64 lt) ?_
    refine Fq (.bool true) (r_lss (m := lt) (n := 0) rfl ek ek (dt (by omega))) ?_
    refine Fv (.bool true) ?_
    refine Fs s166 ?_
    refine Fs s166 ?_
    refine Fs s166 ?_
    refine Fq (.bool true) (r_pick (b := true) rfl ek ek) ?_
    refine Fv (.bool true) ?_
    refine Fs s166 ?_
    refine Fs s166 ?_
    refine Fs s166 ?_
    refine Fs s166 ?_
    refine Fs s166 ?_
    refine Fs s166 ?_
    refine Fs s166 ?_
    refine Fs s166 ?_
    refine Fq (.bool true) (r_pick (b := true) rfl ek ek) ?_
    apply F.es
    have x15 := Sk s166 x15 onn
    have c167 := (Sb c152 s166 nkk)
    have rd168 := Rk rd153 (SG.below s166)
    apply h32
    refine wp_cond_true ek ?_
    refine wk fun K33 h33 => ?_
    refine Rq 2 ?_
    refine Fv (.slice A58 n59 c60) ?_
    refine Fa (.slice A58 n59 c60) ?_
    apply F.es
    apply h33
    refine Rq 2 ?_
    refine Fv (.int .i64 0) ?_
    refine Fa (.int .i64 0) ?_
    apply F.es
    apply h11
    refine Rq 3 ?_
    refine Fv (.int .i64 (t : Int)) ?_
    refine Fq (.int .i64 ((t + 1 : Nat) : Int)) (r_add (m := (t : Int)) (n := 1) (z := ((t + 1 : Nat) : Int)) rfl ek ek (by omega) (by omega)) ?_
    refine Fa (.int .i64 ((t + 1 : Nat) : Int)) ?_
    apply F.es
    have hz := harmL_nil (ps := ps) (vs := vs) (s := s) (cs := cs) (plan := (choice (openIds vs) t)) (by omega)
    have hfd := fd_neg hft (by omega)
    exact h8 _ _ _ (by omega : (2 ^ n21 - (t + 1)) < _) ⟨t + 1, (choice (openIds vs) t), 0, true, A58, n59, c60, Kn.of, rfl, (by omega), (((bestTo_next (hst.trans (sfd_none hfd))).trans (bestStep_first q151)).trans (by rw [show (harmL ps vs s cs) (choice (openIds vs) t) = 0 from by omega]; try rfl)), (fun e => by cases e), (fun _ => by omega), (by omega), x15, ho150, nb71, rd168, c167⟩
   rw [q151]
   refine Fq (.bool true) (r_not (b := false) rfl ek rfl) ?_
   refine Fq (.bool true) (r_pick (b := false) rfl ek ek) ?_
   apply F.es
   have x15 := Sk s148 x15 onn
   have c169 := (Sb c73 s148 nkk)
   have rd170 := Rk rd74 (SG.below s148)
   apply h14
   refine wp_cond_true ek ?_
   refine wp_exit ?_
   apply h11
   refine Rq 3 ?_
   refine Fv (.int .i64 (t : Int)) ?_
   refine Fq (.int .i64 ((t + 1 : Nat) : Int)) (r_add (m := (t : Int)) (n := 1) (z := ((t + 1 : Nat) : Int)) rfl ek ek (by omega) (by omega)) ?_
   refine Fa (.int .i64 ((t + 1 : Nat) : Int)) ?_
   apply F.es
   exact h8 _ _ _ (by omega : (2 ^ n21 - (t + 1)) < _) ⟨t + 1, bp, lt, fd, A0_13, n0_13, c0_13, Kn.of, rfl, (by omega), ((bestTo_next hst).trans (bestStep_no q151)), hnf, hft, (by omega), x15, ho149, nb0_13_b11, rd170, c169⟩
  refine Fq (.bool false) (r_lss (m := (t : Int)) (n := ((2 ^ n21 : Nat) : Int)) rfl ek ek (df q56)) ?_
  apply F.es
  apply h10
  refine wp_cond_false ek ?_
  refine wp_exit ?_
  apply h6
  refine wk fun K34 h34 => ?_
  refine Rq 4 ?_
  refine Fv (.slice A0_13 n0_13 c0_13) ?_
  refine Fv (.int .i64 lt) ?_
  refine Fa (.slice A0_13 n0_13 c0_13) ?_
  refine Fa (.int .i64 lt) ?_
  apply F.es
  apply h34
  refine wp_ret ?_
  try simp only [Exit.then]
  refine ret2 (v := .slice A0_13 n0_13 c0_13) (x := .int .i64 lt) rfl kk kk ?_
  obtain ⟨e1, e2⟩ := sbest_fin (r := bestOf (cutB ps vs s id) (harmL ps vs s cs) (openIds vs)) (by unfold bestOf; rw [show 2 ^ (openIds vs).length = t by rw [show (openIds vs).length = n21 by omega]; omega]; exact hst) hnf
  exact ⟨_, _, _, by rw [← e2], (by rw [← e1]; exact ho0_13), c55⟩
 rw [q49]
 refine Fq (.bool true) (r_not (b := false) rfl ek rfl) ?_
 apply F.es
 have x38 := Sk s48 x38 onn
 have c171 := (Sb c43 s48 nkk)
 apply h5
 refine wp_cond_true ek ?_
 refine wk fun K35 h35 => ?_
 refine Rq 4 ?_
 refine Fv (.slice (some ⟨b34, 0, none⟩) 0 0) ?_
 refine Fv (.int .i64 (-1)) ?_
 refine Fa (.slice (some ⟨b34, 0, none⟩) 0 0) ?_
 refine Fa (.int .i64 (-1)) ?_
 apply F.es
 apply h35
 refine wp_ret ?_
 try simp only [Exit.then]
 refine ret2 (v := .slice (some ⟨b34, 0, none⟩) 0 0) (x := .int .i64 (-1)) rfl kk kk ?_
 have ho173 := own_empty (base := w.heap.size) (size := 1) x38 lo40
 replace ho173 : World.ownsRow _ _ _ _ _ _ (intsV []) := ho173
 have e1 : bestOf (cutB ps vs s id) (harmL ps vs s cs) (openIds vs) = none := bestOf_cutno q49
 exact ⟨_, _, _, by rw [e1]; try rfl, (by rw [e1]; exact ho173), c171⟩
end Go.Proofs.Ytdbgfejeleafgaa
namespace Go.Proofs.Ytdbgfejeleafgaa
open Go.RowKit
set_option linter.unusedVariables false
set_option linter.unusedSimpArgs false
set_option maxRecDepth 100000 in
set_option maxHeartbeats 8000000 in
theorem few_any (B N k : Nat) (m : Int) (A : Option Addr) (n c : Nat) (ps : List Pp) (w : World) (hc : Cur w B N k) (hk : k ≤ 700000000000) (ha : Rd w 4 A n (pipesV ps)) (hsp : Sp A n (some B)) (hn : n ≤ 30) (hm : m ≤ 1000) :
    Calls Try.prog 109 #[.pointer (some ⟨B, 0, none⟩), .agg #[.int .i64 m, .slice A n c]] w fun e w' => ∃ (A' : Option Addr) (n' c' : Nat) (vs : List Vv), e = .returned (.slice A' n' c') ∧ ((Rd w' 4 A' n' (valvesV vs) ∧ Fm A' n' c' ∧ freshA w.heap.size A' n') ∧ vs.length ≤ 11) ∧ Cur w' B N (k + 402) ∧ w.grownBy w' (some B) := by
 have hN := Cur.hN hc
 have hlpl := rd_pipes_len ha
 go_enter Try.func109, Try.ntmps109
 refine F.begin 20 [(0, .pointer (some ⟨B, 0, none⟩)), (1, .agg #[.int .i64 m, .slice A n c])] (fun U0 => ?_)
 refine wk fun K1 h1 => ?_
 refine W.region_plain (row := none) [(0, true), (1, false)] kk ?_
 have s1 := SG.self w none
 refine W.sn (fun b => .pointer (some ⟨b, 0, none⟩)) #[.int .i64 m, .slice A n c] 26 s1 rfl kk rfl (fun _ => by kernel_rfl) (fun b2 w3 hb4 k5 x6 s7 => ?_)
 apply F.nx
 have lo8 : w.heap.size ≤ b2 := Nl ((SG.fr (B := B) (World.grownBy.refl _ _) s1 nkk)).size (Nat.le_of_eq hb4)
 have ne10 : B ≠ b2 := Nat.ne_of_lt (Nat.lt_of_lt_of_eq (Nat.lt_of_lt_of_le (Cur.lt hc) (s1).size) hb4)
 refine Fa (.slice none 0 0) ?_
 apply F.es
 have hc := Cur.below hc (SG.below s7)
 have c11 := (SG.fr (B := B) (World.grownBy.refl _ _) s7 nkk)
 have rd12 := Rk ha (SG.below s7)
 apply h1
 refine wk fun K2 h2 => ?_
 refine W.region_plain (row := (some B)) [(0, false), (1, false), (2, true), (3, false)] kk ?_
 have s13 := SG.self w3 (some B)
 refine Fv (.pointer (some ⟨B, 0, none⟩)) ?_
 refine Fq (.agg #[.int .i64 m, .slice A n c]) (r_load2 rfl ek kk kk (sgS (blk_cell (j := 0) x6 kk) (fun e9 => ne10 (Option.some.inj e9).symm)) (sgS (blk_cell (j := 1) x6 kk) (fun e9 => ne10 (Option.some.inj e9).symm))) ?_
 have z20 := ((SG.fr (B := B) c11 s13 (fun kq e => .inl (by cases e; rfl)))).size
 have lb27 := (Cur.lt hc)
 have lb28 := (Nat.lt_of_lt_of_le (blk_lt x6) (s13).size)
 refine Fc [.pointer (some ⟨B, 0, none⟩), .agg #[.int .i64 m, .slice A n c]] (valves_any B N k m A n c ps _ hc (by omega) (rd_sep rd12 s13 hsp) hsp (by omega) (by omega)) ?_
 rintro e w30 ⟨A14, n15, c16, vs17, rfl, ⟨ho18, hsm19⟩, x32, g31⟩
 have s33 := SG.of_grown s13 g31 (.inl rfl)
 refine ⟨_, rfl, s33, ?_⟩
 apply F.nx
 have rd25 := own_rd ho18
 have fm24 := own_fm ho18
 have hl22 := rd_valves_len rd25
 have fr26 := freshA_of ho18 (Nat.le_refl _)
 have sp34 : Sp A14 n15 (some B) := sp_fresh fr26 lb27
 refine Fa (.slice A14 n15 c16) ?_
 apply F.es
 have c36 := (SG.fr (B := B) c11 s33 (fun kq e => .inl (by cases e; rfl)))
 apply h2
 refine wk fun K3 h3 => ?_
 refine wk fun K4 h4 => ?_
 refine W.region_plain (row := (some B)) [(0, false), (1, false), (2, false), (3, false), (4, false), (5, true), (6, false), (7, false)] kk ?_
 have s38 := SG.self w30 (some B)
 refine Fv (.slice A14 n15 c16) ?_
 refine Fq (.int .i64 (n15 : Int)) (r_len (A := A14) (n := n15) (c := c16) rfl ek kk) ?_
 by_cases q39 : ((n15 : Int) : Int) > (6 : Int)
 ·refine Fq (.bool true) (r_gtr (m := (n15 : Int)) (n := 6) rfl ek ek (dt q39)) ?_
  refine Fv (.bool true) ?_
  refine Fv (.pointer (some ⟨B, 0, none⟩)) ?_
  refine Fc [.pointer (some ⟨B, 0, none⟩), .int .i64 8] (one_any B N (k + 400) 8 _ x32 (by omega) (by omega)) ?_
  rintro e w43 ⟨b40, rfl, _, x45, g44⟩
  have s46 := SG.of_grown s38 g44 (.inl rfl)
  refine ⟨_, rfl, s46, ?_⟩
  apply F.nx
  rcases Bool.eq_false_or_eq_true b40 with q47 | q47
  ·rw [q47]
   refine Fq (.bool false) (r_not (b := true) rfl ek rfl) ?_
   refine Fq (.bool false) (r_pick (b := true) rfl ek ek) ?_
   apply F.es
   have c48 := (SG.fr (B := B) c36 s46 (fun kq e => .inl (by cases e; rfl)))
   have rd50 := rd_sep rd25 s46 sp34
   apply h4
   refine wp_cond_false ek ?_
   apply wp_skip
   apply h3
   refine wk fun K5 h5 => ?_
   refine Rq 2 ?_
   refine Fv (.slice A14 n15 c16) ?_
   refine Fa (.slice A14 n15 c16) ?_
   apply F.es
   apply h5
   refine wp_ret ?_
   try simp only [Exit.then]
   refine ret1 (v := .slice A14 n15 c16) rfl kk ?_
   have hrd9 : Rd w43 4 A14 n15 (valvesV vs17) := rd50
   have hl9 := rd_valves_len hrd9
   exact ⟨_, _, _, vs17, rfl, ⟨⟨hrd9, fm24, freshA_mono (fun hp => fr26 (by omega)) z20⟩, by first | omega | (rw [List.length_take]; omega)⟩, Cur.mono x45 (by omega), c48⟩
  rw [q47]
  refine Fq (.bool true) (r_not (b := false) rfl ek rfl) ?_
  refine Fq (.bool true) (r_pick (b := true) rfl ek ek) ?_
  apply F.es
  have c51 := (SG.fr (B := B) c36 s46 (fun kq e => .inl (by cases e; rfl)))
  have rd53 := rd_sep rd25 s46 sp34
  apply h4
  refine wp_cond_true ek ?_
  refine Rq 3 ?_
  refine Fv (.slice A14 n15 c16) ?_
  refine Fq (.slice A14 6 c16) (r_sliceTo (A := A14) (n := n15) (c := c16) (k := 6) (size := 4) rfl ek ek kk (by have := (fm24).le; omega)) ?_
  refine Fa (.slice A14 6 c16) ?_
  apply F.es
  apply h3
  refine wk fun K6 h6 => ?_
  refine Rq 2 ?_
  refine Fv (.slice A14 6 c16) ?_
  refine Fa (.slice A14 6 c16) ?_
  apply F.es
  apply h6
  refine wp_ret ?_
  try simp only [Exit.then]
  refine ret1 (v := .slice A14 6 c16) rfl kk ?_
  have hrd9 : Rd w43 4 A14 6 (valvesV (vs17.take 6)) := (Rd.toV rd53 (by omega))
  have hl9 := rd_valves_len hrd9
  exact ⟨_, _, _, (vs17.take 6), rfl, ⟨⟨hrd9, (Fm.to fm24 (by have := (fm24).le; omega)), freshA_mono (fun hp => fr26 (by omega)) z20⟩, by first | omega | (rw [List.length_take]; omega)⟩, Cur.mono x45 (by omega), c51⟩
 refine Fq (.bool false) (r_gtr (m := (n15 : Int)) (n := 6) rfl ek ek (df q39)) ?_
 refine Fv (.bool false) ?_
 refine Fs s38 ?_
 refine Fs s38 ?_
 refine Fs s38 ?_
 refine Fq (.bool false) (r_pick (b := false) rfl ek ek) ?_
 apply F.es
 have c54 := (SG.fr (B := B) c36 s38 (fun kq e => .inl (by cases e; rfl)))
 have rd56 := rd_sep rd25 s38 sp34
 apply h4
 refine wp_cond_false ek ?_
 apply wp_skip
 apply h3
 refine wk fun K7 h7 => ?_
 refine Rq 2 ?_
 refine Fv (.slice A14 n15 c16) ?_
 refine Fa (.slice A14 n15 c16) ?_
 apply F.es
 apply h7
 refine wp_ret ?_
 try simp only [Exit.then]
 refine ret1 (v := .slice A14 n15 c16) rfl kk ?_
 have hrd9 : Rd w30 4 A14 n15 (valvesV vs17) := rd56
 have hl9 := rd_valves_len hrd9
 exact ⟨_, _, _, vs17, rfl, ⟨⟨hrd9, fm24, freshA_mono (fun hp => fr26 (by omega)) z20⟩, by first | omega | (rw [List.length_take]; omega)⟩, Cur.mono x32 (by omega), c54⟩
set_option maxRecDepth 100000 in
set_option maxHeartbeats 8000000 in
theorem DrawIsPlan_any (A : Option Addr) (n c : Nat) (zs : List Int) (w : World) (hcode : Rd w 1 A n (bytesV zs)) (hz : ∀ z ∈ zs, 0 ≤ z ∧ z < 256) (hn : n ≤ 4611686018427387904) :
    Calls Try.prog 51 #[.slice A n c] w fun e w' => ∃ (m : Int) (A1 : Option Addr) (n1 c1 : Nat) (ps : List Pp) (A2 : Option Addr) (n2 c2 : Nat) (vs : List Vv) (x2 : Int) (x3 : Int) (A4 : Option Addr) (n4 c4 : Nat) (l4 : List Int), e = .returned (.tuple #[.agg #[.int .i64 m, .slice A1 n1 c1], .slice A2 n2 c2, .int .i64 x2, .int .i64 x3, .slice A4 n4 c4]) ∧ ((Rd w' 4 A1 n1 (pipesV ps) ∧ Fm A1 n1 c1 ∧ freshA w.heap.size A1 n1) ∧ smD 30 m ps) ∧ ((Rd w' 4 A2 n2 (valvesV vs) ∧ Fm A2 n2 c2 ∧ freshA w.heap.size A2 n2) ∧ vs.length ≤ 11) ∧ ((Rd w' 1 A4 n4 (intsV l4) ∧ Fm A4 n4 c4 ∧ freshA w.heap.size A4 n4) ∧ l4.length ≤ 1100) ∧ Below w.heap.size w w' := by
 have hl := rd_bytes_len hcode
 go_enter Try.func51, Try.ntmps51
 refine F.begin 48 [(0, .slice A n c)] (fun U0 => ?_)
 refine wk fun K1 h1 => ?_
 refine W.region_plain (row := none) [(0, true), (1, false), (2, false), (3, false), (4, false)] kk ?_
 have s1 := SG.self w none
 refine W.sn (fun b => .pointer (some ⟨b, 0, none⟩)) #[.int .i64 0, .slice none 0 0] 26 s1 rfl kk rfl (fun _ => by kernel_rfl) (fun b2 w3 hb4 k5 x6 s7 => ?_)
 apply F.nx
 have lo8 : w.heap.size ≤ b2 := Nl ((Sb (Below.refl _ _) s1 nkk)).size (Nat.le_of_eq hb4)
 refine Fa (.slice none 0 0) ?_
 refine Fa (.int .i64 0) ?_
 refine Fa (.int .i64 0) ?_
 refine Fa (.slice none 0 0) ?_
 apply F.es
 have c9 := (Sb (Below.refl _ _) s7 nkk)
 apply h1
 refine wk fun K2 h2 => ?_
 refine W.region_plain (row := none) [(0, false), (1, false), (2, true), (3, false)] kk ?_
 have s10 := SG.self w3 none
 refine Fv (.slice A n c) ?_
 refine Fq (.agg #[.slice A n c, .int .i64 0, .int .u64 0]) (r_build rfl (vs := [(0, .slice A n c)]) kk kk) ?_
 refine W.sn (fun b => .pointer (some ⟨b, 0, none⟩)) #[.slice A n c, .int .i64 0, .int .u64 0] 86 s10 rfl kk rfl (fun _ => by kernel_rfl) (fun b11 w12 hb13 k14 x15 s16 => ?_)
 apply F.nx
 have lo17 : w.heap.size ≤ b11 := Nl ((Sb c9 s10 nkk)).size (Nat.le_of_eq hb13)
 have ne18 : b2 ≠ b11 := Nat.ne_of_lt (Nat.lt_of_lt_of_eq (Nat.lt_of_lt_of_le (blk_lt x6) (s10).size) hb13)
 have x19 := Cur.new x15 hcode hz hn ((Sb c9 s16 nkk)) lo17
 have hN : w.heap.size ≤ w.heap.size := Nat.le_refl _
 refine Fa (.pointer (some ⟨b11, 0, none⟩)) ?_
 apply F.es
 have x6 := Sk s16 x6 onn
 have c20 := (Sb c9 s16 nkk)
 apply h2
 refine wk fun K3 h3 => ?_
 refine W.region_plain (row := (some b11)) [(0, false), (1, true), (2, true), (3, true)] kk ?_
 have s21 := SG.self w12 (some b11)
 refine Fv (.pointer (some ⟨b11, 0, none⟩)) ?_
 have z29 := ((Sb c20 s21 (fun kq e => by cases e; exact lo17))).size
 have lb35 := (Nat.lt_of_lt_of_le (blk_lt x6) (s21).size)
 have lb36 := (Cur.lt x19)
 refine Fc [.pointer (some ⟨b11, 0, none⟩)] (anyNetwork_any b11 w.heap.size 0 _ x19 (by omega)) ?_
 rintro e w38 ⟨m22, A23, n24, c25, ps26, rfl, ⟨ho27, hsm28⟩, x40, g39⟩
 have s41 := SG.of_grown s21 g39 (.inl rfl)
 refine ⟨_, rfl, s41, ?_⟩
 apply F.nx
 have rd33 := own_rd ho27
 have fm32 := own_fm ho27
 have hl30 := rd_pipes_len rd33
 have fr34 := freshA_of ho27 (Nat.le_refl _)
 have hsm28m := hsm28.1
 have hsm28n := hsm28.2.1
 have sp42 : Sp A23 n24 (some b2) := sp_fresh fr34 lb35
 have sp43 : Sp A23 n24 (some b11) := sp_fresh fr34 lb36
 refine W.sn (fun b => .pointer (some ⟨b, 0, none⟩)) #[.int .i64 0, .slice none 0 0] 26 s41 rfl kk rfl (fun _ => by kernel_rfl) (fun b44 w45 hb46 k47 x48 s49 => ?_)
 apply F.nx
 have lo50 : w.heap.size ≤ b44 := Nl ((Sb c20 s41 (fun kq e => by cases e; exact lo17))).size (Nat.le_of_eq hb46)
 have sp51 : Sp A23 n24 (some b44) := sp_new rd33 (by have := hb46; omega)
 have ne52 : b2 ≠ b44 := Nat.ne_of_lt (Nat.lt_of_lt_of_eq (Nat.lt_of_lt_of_le (blk_lt x6) (s41).size) hb46)
 have ne53 : b11 ≠ b44 := Nat.ne_of_lt (Nat.lt_of_lt_of_eq (Cur.lt x40) hb46)
 have x40 := Cur.below x40 k47
 have rd54 := Rk rd33 k47
 refine W.ss (v := .agg #[.int .i64 m22, .slice A23 n24 c25]) (j := 0) (news := [.int .i64 m22, .slice A23 n24 c25]) (cs' := #[.int .i64 m22, .slice A23 n24 c25]) s49 rfl kk rfl rfl kk kk x48 kk kk (by simp) kk kk (.inr (Nl (s41).size (Nat.le_of_eq hb46))) (fun w55 g56 x57 s58 => ?_)
 have x40 := Cur.grown x40 g56 (fun e9 => ne53 (Option.some.inj e9)) (fun j e => by cases e; exact Nat.le_trans hN lo50)
 have rd59 := rd_sepG rd54 g56 sp51
 apply F.es
 have x6 := Sk s58 x6 (fun e9 => ne18 (Option.some.inj e9))
 have c60 := (Sb c20 s58 (fun kq e => by cases e; exact lo17))
 apply h3
 refine wk fun K4 h4 => ?_
 refine W.region_plain (row := (some b11)) [(0, false), (1, false), (2, true), (3, false)] kk ?_
 have s61 := SG.self w55 (some b11)
 refine Fv (.pointer (some ⟨b11, 0, none⟩)) ?_
 refine Fq (.agg #[.int .i64 m22, .slice A23 n24 c25]) (r_load2 rfl ek kk kk (sgS (blk_cell (j := 0) x57 kk) (fun e9 => ne53 (Option.some.inj e9).symm)) (sgS (blk_cell (j := 1) x57 kk) (fun e9 => ne53 (Option.some.inj e9).symm))) ?_
 have z67 := ((Sb c60 s61 (fun kq e => by cases e; exact lo17))).size
 have lb73 := (Nat.lt_of_lt_of_le (blk_lt x6) (s61).size)
 have lb74 := (Cur.lt x40)
 have lb75 := (Nat.lt_of_lt_of_le (blk_lt x57) (s61).size)
 refine Fc [.pointer (some ⟨b11, 0, none⟩), .agg #[.int .i64 m22, .slice A23 n24 c25]] (few_any b11 w.heap.size (0 + 400) m22 A23 n24 c25 ps26 _ x40 (by omega) (rd_sep rd59 s61 sp43) sp43 (by omega) (by omega)) ?_
 rintro e w77 ⟨A62, n63, c64, vs65, rfl, ⟨⟨rd71, fm70, fr72⟩, hsm66⟩, x79, g78⟩
 have s80 := SG.of_grown s61 g78 (.inl rfl)
 refine ⟨_, rfl, s80, ?_⟩
 apply F.nx
 have hl68 := rd_valves_len rd71
 have sp81 : Sp A62 n63 (some b2) := sp_fresh fr72 lb73
 have sp82 : Sp A62 n63 (some b11) := sp_fresh fr72 lb74
 refine Fa (.slice A62 n63 c64) ?_
 apply F.es
 have x6 := Sk s80 x6 (fun e9 => ne18 (Option.some.inj e9))
 have x57 := Sk s80 x57 (fun e9 => ne53 (Option.some.inj e9).symm)
 have c84 := (Sb c60 s80 (fun kq e => by cases e; exact lo17))
 have rd85 := rd_sep rd59 s80 sp43
 apply h4
 refine wk fun K5 h5 => ?_
 refine W.region_sch (row := (some b11)) (Sch.of [(0, false), (1, false), (3, false), (4, false), (2, true), (5, true), (6, false), (7, false)]) kk kk (fun _ d _ _ _ h => by cases d <;> exact h) kk (fun w86 e87 s88 => ?_)
 have x89 := Cur.heap x79 e87
 refine Fv (.pointer (some ⟨b11, 0, none⟩)) ?_
 refine Fq (.agg #[.int .i64 m22, .slice A23 n24 c25]) (r_load2 rfl ek kk kk (sgS (blk_cell (j := 0) x57 kk) (fun e9 => ne53 (Option.some.inj e9).symm)) (sgS (blk_cell (j := 1) x57 kk) (fun e9 => ne53 (Option.some.inj e9).symm))) ?_
 refine Fv (.pointer (some ⟨b11, 0, none⟩)) ?_
 refine Fq (.agg #[.int .i64 m22, .slice A23 n24 c25]) (r_load2 rfl ek kk kk (sgS (blk_cell (j := 0) x57 kk) (fun e9 => ne53 (Option.some.inj e9).symm)) (sgS (blk_cell (j := 1) x57 kk) (fun e9 => ne53 (Option.some.inj e9).symm))) ?_
 refine Fc [.pointer (some ⟨b11, 0, none⟩), .agg #[.int .i64 m22, .slice A23 n24 c25]] (nodeOf_any b11 w.heap.size ((0 + 400) + 402) m22 A23 n24 c25 _ x89 (by omega) (by omega)) ?_
 rintro e w93 ⟨x90, rfl, hx91, x95, g94⟩
 have s96 := SG.of_grown s88 g94 (.inl rfl)
 refine ⟨_, rfl, s96, ?_⟩
 apply F.nx
 refine Fc [.pointer (some ⟨b11, 0, none⟩), .agg #[.int .i64 m22, .slice A23 n24 c25]] (pipeOf_any b11 w.heap.size (((0 + 400) + 402) + 6) m22 A23 n24 c25 ps26 _ x95 (by omega) (rd_sep rd85 s96 sp43) sp43 (by omega) (by omega)) ?_
 rintro e w100 ⟨x97, rfl, hx98, x102, g101⟩
 have s103 := SG.of_grown s96 g101 (.inl rfl)
 refine ⟨_, rfl, s103, ?_⟩
 apply F.nx
 refine Fa (.int .i64 x90) ?_
 refine Fa (.int .i64 x97) ?_
 apply F.es
 have x6 := Sk s103 x6 (fun e9 => ne18 (Option.some.inj e9))
 have x57 := Sk s103 x57 (fun e9 => ne53 (Option.some.inj e9).symm)
 have c104 := (Sb c84 s103 (fun kq e => by cases e; exact lo17))
 have rd105 := rd_sep rd85 s103 sp43
 have rd106 := rd_sep rd71 s103 sp82
 apply h5
 refine wk fun K6 h6 => ?_
 refine W.region_plain (row := (some b11)) [(0, false), (1, true), (2, false), (3, true), (4, true), (5, false)] kk ?_
 have s107 := SG.self w100 (some b11)
 refine Fv (.slice A62 n63 c64) ?_
 have z113 := ((Sb c104 s107 (fun kq e => by cases e; exact lo17))).size
 have lb116 := (Nat.lt_of_lt_of_le (blk_lt x6) (s107).size)
 have lb117 := (Cur.lt x102)
 have lb118 := (Nat.lt_of_lt_of_le (blk_lt x57) (s107).size)
 have zl119 := Nat.le_refl w100.heap.size
 have zl120 := Nat.le_refl w100.heap.size
 refine Fc [.slice A62 n63 c64] (l5Open_any A62 n63 c64 vs65 _ (rd_sep rd106 s107 sp82) (by omega)) ?_
 rintro e w122 ⟨A108, n109, c110, rfl, ho111, b121⟩
 have s123 := SG.of_below s107 b121
 refine ⟨_, rfl, s123, ?_⟩
 apply F.nx
 have x102 := Cur.below x102 b121
 have ho112 := own_base (base' := w.heap.size) ho111 z113
 have hl114 := rd_ints_len (own_rd ho112)
 have hb126 := openIds_len vs65
 have nb128 : Nb b11 (.slice A108 n109 c110) := nb_lo ho111 lb117
 refine Fv (.pointer (some ⟨b11, 0, none⟩)) ?_
 refine Fc [.pointer (some ⟨b11, 0, none⟩), .int .i64 64] (pick_nat b11 w.heap.size ((((0 + 400) + 402) + 6) + 4) 64 _ x102 (by omega) (by omega)) ?_
 rintro e w133 ⟨x130, rfl, hx131, x135, g134⟩
 have s136 := SG.of_grown s123 g134 (.inl rfl)
 refine ⟨_, rfl, s136, ?_⟩
 apply F.nx
 have ho137 := own_grown ho112 g134 (fun j e1 e2 => by cases e2; exact nb128 e1.symm)
 have z143 := ((Sb c104 s136 (fun kq e => by cases e; exact lo17))).size
 have lb146 := (Nat.lt_of_lt_of_le (blk_lt x6) (s136).size)
 have lb147 := (Cur.lt x135)
 have lb148 := (Nat.lt_of_lt_of_le (blk_lt x57) (s136).size)
 have zl149 := (s136).size
 have zl150 := (s136).size
 refine Fc [.slice A108 n109 c110, .int .i64 (x130 : Int)] (l5Choice_any A108 n109 c110 (openIds vs65) x130 _ (own_rd ho137) (by omega) (by omega)) ?_
 rintro e w152 ⟨A138, n139, c140, rfl, ho141, b151⟩
 have s153 := SG.of_below s136 b151
 refine ⟨_, rfl, s153, ?_⟩
 apply F.nx
 have x135 := Cur.below x135 b151
 have sp155 : Sp A62 n63 (Value.ownBlock (.slice A138 n139 c140)) := sp_row rd106 ho141 (by omega)
 have sp156 : Sp A23 n24 (Value.ownBlock (.slice A138 n139 c140)) := sp_row rd105 ho141 (by omega)
 have ho142 := own_base (base' := w.heap.size) ho141 z143
 have hl144 := rd_ints_len (own_rd ho142)
 have hb157 := choice_len (openIds vs65) x130
 have nb158 : Nb b2 (.slice A138 n139 c140) := nb_lo ho141 lb146
 have nb159 : Nb b11 (.slice A138 n139 c140) := nb_lo ho141 lb147
 have nb160 : Nb b44 (.slice A138 n139 c140) := nb_lo ho141 lb148
 refine Fa (.slice A138 n139 c140) ?_
 apply F.es
 have x6 := Sk s153 x6 (fun e9 => ne18 (Option.some.inj e9))
 have x57 := Sk s153 x57 (fun e9 => ne53 (Option.some.inj e9).symm)
 have c162 := (Sb c104 s153 (fun kq e => by cases e; exact lo17))
 have rd163 := rd_sep rd105 s153 sp43
 have rd164 := rd_sep rd106 s153 sp82
 apply h6
 refine wk fun K7 h7 => ?_
 refine wk fun K8 h8 => ?_
 refine W.region_plain (row := (some b11)) [(0, false), (1, true)] kk ?_
 have s165 := SG.self w152 (some b11)
 refine Fv (.pointer (some ⟨b11, 0, none⟩)) ?_
 refine Fc [.pointer (some ⟨b11, 0, none⟩), .int .i64 3] (one_any b11 w.heap.size (((((0 + 400) + 402) + 6) + 4) + 2) 3 _ x135 (by omega) (by omega)) ?_
 rintro e w169 ⟨b166, rfl, _, x171, g170⟩
 have s172 := SG.of_grown s165 g170 (.inl rfl)
 refine ⟨_, rfl, s172, ?_⟩
 apply F.nx
 have ho174 := own_grown ho142 g170 (fun j e1 e2 => by cases e2; exact nb159 e1.symm)
 rcases Bool.eq_false_or_eq_true b166 with q175 | q175
 ·rw [q175]
  apply F.es
  have x6 := Sk s172 x6 (fun e9 => ne18 (Option.some.inj e9))
  have x57 := Sk s172 x57 (fun e9 => ne53 (Option.some.inj e9).symm)
  have c176 := (Sb c162 s172 (fun kq e => by cases e; exact lo17))
  have rd177 := rd_sep rd163 s172 sp43
  have rd178 := rd_sep rd164 s172 sp82
  apply h8
  refine wp_cond_true ek ?_
  refine W.region_plain (row := none) [(0, false), (1, true), (2, false)] kk ?_
  have s179 := SG.self w169 none
  refine Fv (.slice A62 n63 c64) ?_
  have z185 := ((Sb c176 s179 nkk)).size
  have lb188 := (Nat.lt_of_lt_of_le (blk_lt x6) (s179).size)
  have lb189 := (Nat.lt_of_lt_of_le (Cur.lt x171) (s179).size)
  have lb190 := (Nat.lt_of_lt_of_le (blk_lt x57) (s179).size)
  have zl191 := Nat.le_refl w169.heap.size
  have zl192 := Nat.le_refl w169.heap.size
  refine Fc [.slice A62 n63 c64] (l5Open_any A62 n63 c64 vs65 _ (Rk rd178 (SG.below s179)) (by omega)) ?_
  rintro e w194 ⟨A180, n181, c182, rfl, ho183, b193⟩
  have s195 := SG.of_below s179 b193
  refine ⟨_, rfl, s195, ?_⟩
  apply F.nx
  have sp198 : Sp A62 n63 (Value.ownBlock (.slice A180 n181 c182)) := sp_row rd178 ho183 (by omega)
  have sp199 : Sp A23 n24 (Value.ownBlock (.slice A180 n181 c182)) := sp_row rd177 ho183 (by omega)
  have ho184 := own_base (base' := w.heap.size) ho183 z185
  have hl186 := rd_ints_len (own_rd ho184)
  have hb200 := openIds_len vs65
  have nb201 : Nb b2 (.slice A180 n181 c182) := nb_lo ho183 lb188
  have nb202 : Nb b11 (.slice A180 n181 c182) := nb_lo ho183 lb189
  have nb203 : Nb b44 (.slice A180 n181 c182) := nb_lo ho183 lb190
  refine Fa (.slice A180 n181 c182) ?_
  apply F.es
  have x6 := Sk s195 x6 onn
  have x171 := Cur.below x171 (SG.below s195)
  have x57 := Sk s195 x57 onn
  have c206 := (Sb c176 s195 nkk)
  have rd207 := Rk rd177 (SG.below s195)
  have rd208 := Rk rd178 (SG.below s195)
  apply h7
  refine wk fun K9 h9 => ?_
  refine wk fun K10 h10 => ?_
  refine W.region_plain (row := (some b11)) [(0, false), (1, true)] kk ?_
  have s209 := SG.self w194 (some b11)
  refine Fv (.pointer (some ⟨b11, 0, none⟩)) ?_
  refine Fc [.pointer (some ⟨b11, 0, none⟩), .int .i64 16] (one_any b11 w.heap.size ((((((0 + 400) + 402) + 6) + 4) + 2) + 2) 16 _ x171 (by omega) (by omega)) ?_
  rintro e w213 ⟨b210, rfl, _, x215, g214⟩
  have s216 := SG.of_grown s209 g214 (.inl rfl)
  refine ⟨_, rfl, s216, ?_⟩
  apply F.nx
  have ho219 := own_grown ho184 g214 (fun j e1 e2 => by cases e2; exact nb202 e1.symm)
  rcases Bool.eq_false_or_eq_true b210 with q220 | q220
  ·rw [q220]
   apply F.es
   have x6 := Sk s216 x6 (fun e9 => ne18 (Option.some.inj e9))
   have x57 := Sk s216 x57 (fun e9 => ne53 (Option.some.inj e9).symm)
   have c221 := (Sb c206 s216 (fun kq e => by cases e; exact lo17))
   have rd222 := rd_sep rd207 s216 sp43
   have rd223 := rd_sep rd208 s216 sp82
   apply h10
   refine wp_cond_true ek ?_
   refine M.region_plain (row := [(some b11), (Value.ownBlock (.slice A180 n181 c182))]) [(0, false), (1, false), (2, true), (3, true), (4, true), (5, false)] kk ?_
   have s224 := SM.self w213 [(some b11), (Value.ownBlock (.slice A180 n181 c182))]
   refine Fv (.slice A180 n181 c182) ?_
   refine Fv (.pointer (some ⟨b11, 0, none⟩)) ?_
   refine Fc [.pointer (some ⟨b11, 0, none⟩), .int .i64 20] (pick_nat b11 w.heap.size (((((((0 + 400) + 402) + 6) + 4) + 2) + 2) + 2) 20 _ x215 (by omega) (by omega)) ?_
   rintro e w228 ⟨x225, rfl, hx226, x230, g229⟩
   have s231 := SM.of_grown s224 g229 (.inl (by simp))
   refine ⟨_, rfl, s231, ?_⟩
   apply F.nx
   have ho234 := own_grown ho219 g229 (fun j e1 e2 => by cases e2; exact nb202 e1.symm)
   refine M.sn (fun b => .slice (some ⟨b, 0, none⟩) 1 1) #[.int .i64 (x225 : Int)] 3 s231 rfl kk rfl (fun _ => by kernel_rfl) (fun b235 w236 hb237 k238 x239 s240 => ?_)
   apply F.nx
   have lo241 : w.heap.size ≤ b235 := Nl ((SM.belowR c221 s231 (in2 (fun kq e => (by cases e; exact lo17)) (fun kq e => (World.ownsRow.lt ho219 kq e).1)))).size (Nat.le_of_eq hb237)
   have ho252 := own_kept ho234 k238
   refine M.sap (e := 3) (size := 1) (base := w.heap.size) (m := 1) (v := .slice A180 n181 c182) (c := 1) s240 rfl rfl rfl rfl kk kk kk ho252 x239 kk kk (by omega) (by omega) (by have := ((SM.belowR c221 s240 (in2 (fun kq e => (by cases e; exact lo17)) (fun kq e => (World.ownsRow.lt ho219 kq e).1)))).size; omega) (.inl (by simp)) (fun g253 cap254 w255 ho256 hg257 hat258 hlt259 s260 => ?_)
   apply F.nx
   have nb261 : Nb b2 (.slice (some ⟨g253, 0, none⟩) (n181 + 1) cap254) := nb_app nb201 (Nat.lt_of_lt_of_le (blk_lt x6) (s240).size) hat258
   have ho256 := own_snoc ho256
   refine Fa (.slice (some ⟨g253, 0, none⟩) (n181 + 1) cap254) ?_
   apply F.es
   have x6 := SM.blk s260 x6 (ne2 (fun e9 => ne18 (Option.some.inj e9)) nb201)
   have x57 := SM.blk s260 x57 (ne2 (fun e9 => ne53 (Option.some.inj e9).symm) nb203)
   have c271 := (SM.belowR c221 s260 (in2 (fun kq e => (by cases e; exact lo17)) (fun kq e => (World.ownsRow.lt ho219 kq e).1)))
   have rd272 := rd_sepM rd222 s260 (sp2 sp43 sp199)
   have rd273 := rd_sepM rd223 s260 (sp2 sp82 sp198)
   apply h9
   refine wk fun K11 h11 => ?_
   refine W.region_plain (row := (some b2)) [(0, false), (1, false), (2, false), (3, false), (4, false), (5, true), (6, false), (7, false), (8, false), (9, false)] kk ?_
   have s274 := SG.self w255 (some b2)
   refine Fq (.agg #[.int .i64 m22, .slice A23 n24 c25]) (r_load2 rfl ek kk kk (sgS (blk_cell (j := 0) x57 kk) (fun e9 => ne52 (Option.some.inj e9).symm)) (sgS (blk_cell (j := 1) x57 kk) (fun e9 => ne52 (Option.some.inj e9).symm))) ?_
   refine Fv (.slice A62 n63 c64) ?_
   refine Fv (.int .i64 x90) ?_
   refine Fv (.int .i64 x97) ?_
   refine Fv (.slice (some ⟨g253, 0, none⟩) (n181 + 1) cap254) ?_
   refine W.ss (v := .agg #[.int .i64 m22, .slice A23 n24 c25]) (j := 0) (news := [.int .i64 m22, .slice A23 n24 c25]) (cs' := #[.int .i64 m22, .slice A23 n24 c25]) s274 rfl kk rfl rfl kk kk x6 kk kk (by simp) kk kk (.inl rfl) (fun w275 g276 x277 s278 => ?_)
   have ho281 := own_grown ho256 g276 (fun j e1 e2 => by cases e2; exact nb261 e1.symm)
   refine Fa (.slice A62 n63 c64) ?_
   refine Fa (.int .i64 x90) ?_
   refine Fa (.int .i64 x97) ?_
   refine Fa (.slice (some ⟨g253, 0, none⟩) (n181 + 1) cap254) ?_
   apply F.es
   have x57 := Sk s278 x57 (fun e9 => ne52 (Option.some.inj e9).symm)
   have c282 := (Sb c271 s278 (fun kq e => by cases e; exact lo8))
   have rd283 := rd_sep rd272 s278 sp42
   have rd284 := rd_sep rd273 s278 sp81
   apply h11
   refine wp_ret ?_
   try simp only [Exit.then]
   refine retCTTTT (x1 := .slice A62 n63 c64) (x2 := .int .i64 x90) (x3 := .int .i64 x97) (x4 := .slice (some ⟨g253, 0, none⟩) (n181 + 1) cap254) rfl kk kk kk x277 kk kk kk kk ?_
   have rd286 := own_rd ho281
   have hl287 := rd_ints_len rd286
   have fm288 := own_fm ho281
   exact ⟨_, _, _, _, ps26, _, _, _, vs65, _, _, _, _, _, ((openIds vs65) ++ [(x225 : Int)]), rfl, ⟨⟨rd283, fm32, (freshA_mono fr34 z29)⟩, hsm28⟩, ⟨⟨rd284, fm70, (freshA_mono fr72 z67)⟩, by first | omega | (simp; omega)⟩, ⟨⟨rd286, fm288, (freshA_of ho281 (Nat.le_refl _))⟩, by first | omega | (simp; omega)⟩, c282⟩
  rw [q220]
  apply F.es
  have x6 := Sk s216 x6 (fun e9 => ne18 (Option.some.inj e9))
  have x57 := Sk s216 x57 (fun e9 => ne53 (Option.some.inj e9).symm)
  have c295 := (Sb c206 s216 (fun kq e => by cases e; exact lo17))
  have rd296 := rd_sep rd207 s216 sp43
  have rd297 := rd_sep rd208 s216 sp82
  apply h10
  refine wp_cond_false ek ?_
  apply wp_skip
  apply h9
  refine wk fun K12 h12 => ?_
  refine W.region_plain (row := (some b2)) [(0, false), (1, false), (2, false), (3, false), (4, false), (5, true), (6, false), (7, false), (8, false), (9, false)] kk ?_
  have s298 := SG.self w213 (some b2)
  refine Fq (.agg #[.int .i64 m22, .slice A23 n24 c25]) (r_load2 rfl ek kk kk (sgS (blk_cell (j := 0) x57 kk) (fun e9 => ne52 (Option.some.inj e9).symm)) (sgS (blk_cell (j := 1) x57 kk) (fun e9 => ne52 (Option.some.inj e9).symm))) ?_
  refine Fv (.slice A62 n63 c64) ?_
  refine Fv (.int .i64 x90) ?_
  refine Fv (.int .i64 x97) ?_
  refine Fv (.slice A180 n181 c182) ?_
  refine W.ss (v := .agg #[.int .i64 m22, .slice A23 n24 c25]) (j := 0) (news := [.int .i64 m22, .slice A23 n24 c25]) (cs' := #[.int .i64 m22, .slice A23 n24 c25]) s298 rfl kk rfl rfl kk kk x6 kk kk (by simp) kk kk (.inl rfl) (fun w299 g300 x301 s302 => ?_)
  have ho305 := own_grown ho219 g300 (fun j e1 e2 => by cases e2; exact nb201 e1.symm)
  refine Fa (.slice A62 n63 c64) ?_
  refine Fa (.int .i64 x90) ?_
  refine Fa (.int .i64 x97) ?_
  refine Fa (.slice A180 n181 c182) ?_
  apply F.es
  have x57 := Sk s302 x57 (fun e9 => ne52 (Option.some.inj e9).symm)
  have c306 := (Sb c295 s302 (fun kq e => by cases e; exact lo8))
  have rd307 := rd_sep rd296 s302 sp42
  have rd308 := rd_sep rd297 s302 sp81
  apply h12
  refine wp_ret ?_
  try simp only [Exit.then]
  refine retCTTTT (x1 := .slice A62 n63 c64) (x2 := .int .i64 x90) (x3 := .int .i64 x97) (x4 := .slice A180 n181 c182) rfl kk kk kk x301 kk kk kk kk ?_
  have rd310 := own_rd ho305
  have hl311 := rd_ints_len rd310
  have fm312 := own_fm ho305
  exact ⟨_, _, _, _, ps26, _, _, _, vs65, _, _, _, _, _, (openIds vs65), rfl, ⟨⟨rd307, fm32, (freshA_mono fr34 z29)⟩, hsm28⟩, ⟨⟨rd308, fm70, (freshA_mono fr72 z67)⟩, by first | omega | (simp; omega)⟩, ⟨⟨rd310, fm312, (freshA_of ho305 (Nat.le_refl _))⟩, by first | omega | (simp; omega)⟩, c306⟩
 rw [q175]
 apply F.es
 have x6 := Sk s172 x6 (fun e9 => ne18 (Option.some.inj e9))
 have x57 := Sk s172 x57 (fun e9 => ne53 (Option.some.inj e9).symm)
 have c318 := (Sb c162 s172 (fun kq e => by cases e; exact lo17))
 have rd319 := rd_sep rd163 s172 sp43
 have rd320 := rd_sep rd164 s172 sp82
 apply h8
 refine wp_cond_false ek ?_
 apply wp_skip
 apply h7
 refine wk fun K13 h13 => ?_
 refine wk fun K14 h14 => ?_
 refine W.region_plain (row := (some b11)) [(0, false), (1, true)] kk ?_
 have s321 := SG.self w169 (some b11)
 refine Fv (.pointer (some ⟨b11, 0, none⟩)) ?_
 refine Fc [.pointer (some ⟨b11, 0, none⟩), .int .i64 16] (one_any b11 w.heap.size ((((((0 + 400) + 402) + 6) + 4) + 2) + 2) 16 _ x171 (by omega) (by omega)) ?_
 rintro e w325 ⟨b322, rfl, _, x327, g326⟩
 have s328 := SG.of_grown s321 g326 (.inl rfl)
 refine ⟨_, rfl, s328, ?_⟩
 apply F.nx
 have ho330 := own_grown ho174 g326 (fun j e1 e2 => by cases e2; exact nb159 e1.symm)
 rcases Bool.eq_false_or_eq_true b322 with q331 | q331
 ·rw [q331]
  apply F.es
  have x6 := Sk s328 x6 (fun e9 => ne18 (Option.some.inj e9))
  have x57 := Sk s328 x57 (fun e9 => ne53 (Option.some.inj e9).symm)
  have c332 := (Sb c318 s328 (fun kq e => by cases e; exact lo17))
  have rd333 := rd_sep rd319 s328 sp43
  have rd334 := rd_sep rd320 s328 sp82
  apply h14
  refine wp_cond_true ek ?_
  refine M.region_plain (row := [(some b11), (Value.ownBlock (.slice A138 n139 c140))]) [(0, false), (1, false), (2, true), (3, true), (4, true), (5, false)] kk ?_
  have s335 := SM.self w325 [(some b11), (Value.ownBlock (.slice A138 n139 c140))]
  refine Fv (.slice A138 n139 c140) ?_
  refine Fv (.pointer (some ⟨b11, 0, none⟩)) ?_
  refine Fc [.pointer (some ⟨b11, 0, none⟩), .int .i64 20] (pick_nat b11 w.heap.size (((((((0 + 400) + 402) + 6) + 4) + 2) + 2) + 2) 20 _ x327 (by omega) (by omega)) ?_
  rintro e w339 ⟨x336, rfl, hx337, x341, g340⟩
  have s342 := SM.of_grown s335 g340 (.inl (by simp))
  refine ⟨_, rfl, s342, ?_⟩
  apply F.nx
  have ho344 := own_grown ho330 g340 (fun j e1 e2 => by cases e2; exact nb159 e1.symm)
  refine M.sn (fun b => .slice (some ⟨b, 0, none⟩) 1 1) #[.int .i64 (x336 : Int)] 3 s342 rfl kk rfl (fun _ => by kernel_rfl) (fun b345 w346 hb347 k348 x349 s350 => ?_)
  apply F.nx
  have lo351 : w.heap.size ≤ b345 := Nl ((SM.belowR c332 s342 (in2 (fun kq e => (by cases e; exact lo17)) (fun kq e => (World.ownsRow.lt ho330 kq e).1)))).size (Nat.le_of_eq hb347)
  have ho360 := own_kept ho344 k348
  refine M.sap (e := 3) (size := 1) (base := w.heap.size) (m := 1) (v := .slice A138 n139 c140) (c := 1) s350 rfl rfl rfl rfl kk kk kk ho360 x349 kk kk (by omega) (by omega) (by have := ((SM.belowR c332 s350 (in2 (fun kq e => (by cases e; exact lo17)) (fun kq e => (World.ownsRow.lt ho330 kq e).1)))).size; omega) (.inl (by simp)) (fun g361 cap362 w363 ho364 hg365 hat366 hlt367 s368 => ?_)
  apply F.nx
  have nb369 : Nb b2 (.slice (some ⟨g361, 0, none⟩) (n139 + 1) cap362) := nb_app nb158 (Nat.lt_of_lt_of_le (blk_lt x6) (s350).size) hat366
  have ho364 := own_snoc ho364
  refine Fa (.slice (some ⟨g361, 0, none⟩) (n139 + 1) cap362) ?_
  apply F.es
  have x6 := SM.blk s368 x6 (ne2 (fun e9 => ne18 (Option.some.inj e9)) nb158)
  have x57 := SM.blk s368 x57 (ne2 (fun e9 => ne53 (Option.some.inj e9).symm) nb160)
  have c377 := (SM.belowR c332 s368 (in2 (fun kq e => (by cases e; exact lo17)) (fun kq e => (World.ownsRow.lt ho330 kq e).1)))
  have rd378 := rd_sepM rd333 s368 (sp2 sp43 sp156)
  have rd379 := rd_sepM rd334 s368 (sp2 sp82 sp155)
  apply h13
  refine wk fun K15 h15 => ?_
  refine W.region_plain (row := (some b2)) [(0, false), (1, false), (2, false), (3, false), (4, false), (5, true), (6, false), (7, false), (8, false), (9, false)] kk ?_
  have s380 := SG.self w363 (some b2)
  refine Fq (.agg #[.int .i64 m22, .slice A23 n24 c25]) (r_load2 rfl ek kk kk (sgS (blk_cell (j := 0) x57 kk) (fun e9 => ne52 (Option.some.inj e9).symm)) (sgS (blk_cell (j := 1) x57 kk) (fun e9 => ne52 (Option.some.inj e9).symm))) ?_
  refine Fv (.slice A62 n63 c64) ?_
  refine Fv (.int .i64 x90) ?_
  refine Fv (.int .i64 x97) ?_
  refine Fv (.slice (some ⟨g361, 0, none⟩) (n139 + 1) cap362) ?_
  refine W.ss (v := .agg #[.int .i64 m22, .slice A23 n24 c25]) (j := 0) (news := [.int .i64 m22, .slice A23 n24 c25]) (cs' := #[.int .i64 m22, .slice A23 n24 c25]) s380 rfl kk rfl rfl kk kk x6 kk kk (by simp) kk kk (.inl rfl) (fun w381 g382 x383 s384 => ?_)
  have ho386 := own_grown ho364 g382 (fun j e1 e2 => by cases e2; exact nb369 e1.symm)
  refine Fa (.slice A62 n63 c64) ?_
  refine Fa (.int .i64 x90) ?_
  refine Fa (.int .i64 x97) ?_
  refine Fa (.slice (some ⟨g361, 0, none⟩) (n139 + 1) cap362) ?_
  apply F.es
  have x57 := Sk s384 x57 (fun e9 => ne52 (Option.some.inj e9).symm)
  have c387 := (Sb c377 s384 (fun kq e => by cases e; exact lo8))
  have rd388 := rd_sep rd378 s384 sp42
  have rd389 := rd_sep rd379 s384 sp81
  apply h15
  refine wp_ret ?_
  try simp only [Exit.then]
  refine retCTTTT (x1 := .slice A62 n63 c64) (x2 := .int .i64 x90) (x3 := .int .i64 x97) (x4 := .slice (some ⟨g361, 0, none⟩) (n139 + 1) cap362) rfl kk kk kk x383 kk kk kk kk ?_
  have rd391 := own_rd ho386
  have hl392 := rd_ints_len rd391
  have fm393 := own_fm ho386
  exact ⟨_, _, _, _, ps26, _, _, _, vs65, _, _, _, _, _, ((choice (openIds vs65) x130) ++ [(x336 : Int)]), rfl, ⟨⟨rd388, fm32, (freshA_mono fr34 z29)⟩, hsm28⟩, ⟨⟨rd389, fm70, (freshA_mono fr72 z67)⟩, by first | omega | (simp; omega)⟩, ⟨⟨rd391, fm393, (freshA_of ho386 (Nat.le_refl _))⟩, by first | omega | (simp; omega)⟩, c387⟩
 rw [q331]
 apply F.es
 have x6 := Sk s328 x6 (fun e9 => ne18 (Option.some.inj e9))
 have x57 := Sk s328 x57 (fun e9 => ne53 (Option.some.inj e9).symm)
 have c399 := (Sb c318 s328 (fun kq e => by cases e; exact lo17))
 have rd400 := rd_sep rd319 s328 sp43
 have rd401 := rd_sep rd320 s328 sp82
 apply h14
 refine wp_cond_false ek ?_
 apply wp_skip
 apply h13
 refine wk fun K16 h16 => ?_
 refine W.region_plain (row := (some b2)) [(0, false), (1, false), (2, false), (3, false), (4, false), (5, true), (6, false), (7, false), (8, false), (9, false)] kk ?_
 have s402 := SG.self w325 (some b2)
 refine Fq (.agg #[.int .i64 m22, .slice A23 n24 c25]) (r_load2 rfl ek kk kk (sgS (blk_cell (j := 0) x57 kk) (fun e9 => ne52 (Option.some.inj e9).symm)) (sgS (blk_cell (j := 1) x57 kk) (fun e9 => ne52 (Option.some.inj e9).symm))) ?_
 refine Fv (.slice A62 n63 c64) ?_
 refine Fv (.int .i64 x90) ?_
 refine Fv (.int .i64 x97) ?_
 refine Fv (.slice A138 n139 c140) ?_
 refine W.ss (v := .agg #[.int .i64 m22, .slice A23 n24 c25]) (j := 0) (news := [.int .i64 m22, .slice A23 n24 c25]) (cs' := #[.int .i64 m22, .slice A23 n24 c25]) s402 rfl kk rfl rfl kk kk x6 kk kk (by simp) kk kk (.inl rfl) (fun w403 g404 x405 s406 => ?_)
 have ho408 := own_grown ho330 g404 (fun j e1 e2 => by cases e2; exact nb158 e1.symm)
 refine Fa (.slice A62 n63 c64) ?_
 refine Fa (.int .i64 x90) ?_
 refine Fa (.int .i64 x97) ?_
 refine Fa (.slice A138 n139 c140) ?_
 apply F.es
 have c409 := (Sb c399 s406 (fun kq e => by cases e; exact lo8))
 have rd410 := rd_sep rd400 s406 sp42
 have rd411 := rd_sep rd401 s406 sp81
 apply h16
 refine wp_ret ?_
 try simp only [Exit.then]
 refine retCTTTT (x1 := .slice A62 n63 c64) (x2 := .int .i64 x90) (x3 := .int .i64 x97) (x4 := .slice A138 n139 c140) rfl kk kk kk x405 kk kk kk kk ?_
 have rd413 := own_rd ho408
 have hl414 := rd_ints_len rd413
 have fm415 := own_fm ho408
 exact ⟨_, _, _, _, ps26, _, _, _, vs65, _, _, _, _, _, (choice (openIds vs65) x130), rfl, ⟨⟨rd410, fm32, (freshA_mono fr34 z29)⟩, hsm28⟩, ⟨⟨rd411, fm70, (freshA_mono fr72 z67)⟩, by first | omega | (simp; omega)⟩, ⟨⟨rd413, fm415, (freshA_of ho408 (Nat.le_refl _))⟩, by first | omega | (simp; omega)⟩, c409⟩
set_option maxRecDepth 100000 in
set_option maxHeartbeats 8000000 in
theorem DrawShortestPlan_any (A : Option Addr) (n c : Nat) (zs : List Int) (w : World) (hcode : Rd w 1 A n (bytesV zs)) (hz : ∀ z ∈ zs, 0 ≤ z ∧ z < 256) (hn : n ≤ 4611686018427387904) :
    Calls Try.prog 46 #[.slice A n c] w fun e w' => ∃ (m : Int) (A1 : Option Addr) (n1 c1 : Nat) (ps : List Pp) (A2 : Option Addr) (n2 c2 : Nat) (vs : List Vv) (x2 : Int) (x3 : Int), e = .returned (.tuple #[.agg #[.int .i64 m, .slice A1 n1 c1], .slice A2 n2 c2, .int .i64 x2, .int .i64 x3]) ∧ ((Rd w' 4 A1 n1 (pipesV ps) ∧ Fm A1 n1 c1 ∧ freshA w.heap.size A1 n1) ∧ smD 30 m ps) ∧ ((Rd w' 4 A2 n2 (valvesV vs) ∧ Fm A2 n2 c2 ∧ freshA w.heap.size A2 n2) ∧ vs.length ≤ 11) ∧ Below w.heap.size w w' := by
 have hl := rd_bytes_len hcode
 go_enter Try.func46, Try.ntmps46
 refine F.begin 23 [(0, .slice A n c)] (fun U0 => ?_)
 refine wk fun K1 h1 => ?_
 refine W.region_plain (row := none) [(0, true), (1, false), (2, false), (3, false)] kk ?_
 have s1 := SG.self w none
 refine W.sn (fun b => .pointer (some ⟨b, 0, none⟩)) #[.int .i64 0, .slice none 0 0] 26 s1 rfl kk rfl (fun _ => by kernel_rfl) (fun b2 w3 hb4 k5 x6 s7 => ?_)
 apply F.nx
 have lo8 : w.heap.size ≤ b2 := Nl ((Sb (Below.refl _ _) s1 nkk)).size (Nat.le_of_eq hb4)
 refine Fa (.slice none 0 0) ?_
 refine Fa (.int .i64 0) ?_
 refine Fa (.int .i64 0) ?_
 apply F.es
 have c9 := (Sb (Below.refl _ _) s7 nkk)
 apply h1
 refine wk fun K2 h2 => ?_
 refine W.region_plain (row := none) [(0, false), (1, false), (2, true), (3, false)] kk ?_
 have s10 := SG.self w3 none
 refine Fv (.slice A n c) ?_
 refine Fq (.agg #[.slice A n c, .int .i64 0, .int .u64 0]) (r_build rfl (vs := [(0, .slice A n c)]) kk kk) ?_
 refine W.sn (fun b => .pointer (some ⟨b, 0, none⟩)) #[.slice A n c, .int .i64 0, .int .u64 0] 86 s10 rfl kk rfl (fun _ => by kernel_rfl) (fun b11 w12 hb13 k14 x15 s16 => ?_)
 apply F.nx
 have lo17 : w.heap.size ≤ b11 := Nl ((Sb c9 s10 nkk)).size (Nat.le_of_eq hb13)
 have ne18 : b2 ≠ b11 := Nat.ne_of_lt (Nat.lt_of_lt_of_eq (Nat.lt_of_lt_of_le (blk_lt x6) (s10).size) hb13)
 have x19 := Cur.new x15 hcode hz hn ((Sb c9 s16 nkk)) lo17
 have hN : w.heap.size ≤ w.heap.size := Nat.le_refl _
 refine Fa (.pointer (some ⟨b11, 0, none⟩)) ?_
 apply F.es
 have x6 := Sk s16 x6 onn
 have c20 := (Sb c9 s16 nkk)
 apply h2
 refine wk fun K3 h3 => ?_
 refine W.region_plain (row := (some b11)) [(0, false), (1, true), (2, true), (3, true)] kk ?_
 have s21 := SG.self w12 (some b11)
 refine Fv (.pointer (some ⟨b11, 0, none⟩)) ?_
 have z29 := ((Sb c20 s21 (fun kq e => by cases e; exact lo17))).size
 have lb35 := (Nat.lt_of_lt_of_le (blk_lt x6) (s21).size)
 have lb36 := (Cur.lt x19)
 refine Fc [.pointer (some ⟨b11, 0, none⟩)] (anyNetwork_any b11 w.heap.size 0 _ x19 (by omega)) ?_
 rintro e w38 ⟨m22, A23, n24, c25, ps26, rfl, ⟨ho27, hsm28⟩, x40, g39⟩
 have s41 := SG.of_grown s21 g39 (.inl rfl)
 refine ⟨_, rfl, s41, ?_⟩
 apply F.nx
 have rd33 := own_rd ho27
 have fm32 := own_fm ho27
 have hl30 := rd_pipes_len rd33
 have fr34 := freshA_of ho27 (Nat.le_refl _)
 have hsm28m := hsm28.1
 have hsm28n := hsm28.2.1
 have sp42 : Sp A23 n24 (some b2) := sp_fresh fr34 lb35
 have sp43 : Sp A23 n24 (some b11) := sp_fresh fr34 lb36
 refine W.sn (fun b => .pointer (some ⟨b, 0, none⟩)) #[.int .i64 0, .slice none 0 0] 26 s41 rfl kk rfl (fun _ => by kernel_rfl) (fun b44 w45 hb46 k47 x48 s49 => ?_)
 apply F.nx
 have lo50 : w.heap.size ≤ b44 := Nl ((Sb c20 s41 (fun kq e => by cases e; exact lo17))).size (Nat.le_of_eq hb46)
 have sp51 : Sp A23 n24 (some b44) := sp_new rd33 (by have := hb46; omega)
 have ne52 : b2 ≠ b44 := Nat.ne_of_lt (Nat.lt_of_lt_of_eq (Nat.lt_of_lt_of_le (blk_lt x6) (s41).size) hb46)
 have ne53 : b11 ≠ b44 := Nat.ne_of_lt (Nat.lt_of_lt_of_eq (Cur.lt x40) hb46)
 have x40 := Cur.below x40 k47
 have rd54 := Rk rd33 k47
 refine W.ss (v := .agg #[.int .i64 m22, .slice A23 n24 c25]) (j := 0) (news := [.int .i64 m22, .slice A23 n24 c25]) (cs' := #[.int .i64 m22, .slice A23 n24 c25]) s49 rfl kk rfl rfl kk kk x48 kk kk (by simp) kk kk (.inr (Nl (s41).size (Nat.le_of_eq hb46))) (fun w55 g56 x57 s58 => ?_)
 have x40 := Cur.grown x40 g56 (fun e9 => ne53 (Option.some.inj e9)) (fun j e => by cases e; exact Nat.le_trans hN lo50)
 have rd59 := rd_sepG rd54 g56 sp51
 apply F.es
 have x6 := Sk s58 x6 (fun e9 => ne18 (Option.some.inj e9))
 have c60 := (Sb c20 s58 (fun kq e => by cases e; exact lo17))
 apply h3
 refine wk fun K4 h4 => ?_
 refine M.region_sch (row := [(some b11), (some b2)]) (Sch.of [(0, false), (1, false), (2, false), (4, false), (5, false), (7, false), (8, false), (3, true), (6, true), (9, true), (10, true), (11, false), (12, false), (13, false)]) kk kk (fun _ d _ _ _ h => by cases d <;> exact h) kk (fun w61 e62 s63 => ?_)
 have x64 := Cur.heap x40 e62
 have x65 := (heap_same e62 x6)
 refine Fq (.agg #[.int .i64 m22, .slice A23 n24 c25]) (r_load2 rfl ek kk kk (smS (blk_cell (j := 0) x57 kk) (ne2 (fun e9 => ne53 (Option.some.inj e9).symm) (fun e9 => ne52 (Option.some.inj e9).symm))) (smS (blk_cell (j := 1) x57 kk) (ne2 (fun e9 => ne53 (Option.some.inj e9).symm) (fun e9 => ne52 (Option.some.inj e9).symm)))) ?_
 refine Fv (.pointer (some ⟨b11, 0, none⟩)) ?_
 refine Fq (.agg #[.int .i64 m22, .slice A23 n24 c25]) (r_load2 rfl ek kk kk (smS (blk_cell (j := 0) x57 kk) (ne2 (fun e9 => ne53 (Option.some.inj e9).symm) (fun e9 => ne52 (Option.some.inj e9).symm))) (smS (blk_cell (j := 1) x57 kk) (ne2 (fun e9 => ne53 (Option.some.inj e9).symm) (fun e9 => ne52 (Option.some.inj e9).symm)))) ?_
 refine Fv (.pointer (some ⟨b11, 0, none⟩)) ?_
 refine Fq (.agg #[.int .i64 m22, .slice A23 n24 c25]) (r_load2 rfl ek kk kk (smS (blk_cell (j := 0) x57 kk) (ne2 (fun e9 => ne53 (Option.some.inj e9).symm) (fun e9 => ne52 (Option.some.inj e9).symm))) (smS (blk_cell (j := 1) x57 kk) (ne2 (fun e9 => ne53 (Option.some.inj e9).symm) (fun e9 => ne52 (Option.some.inj e9).symm)))) ?_
 refine Fv (.pointer (some ⟨b11, 0, none⟩)) ?_
 refine Fq (.agg #[.int .i64 m22, .slice A23 n24 c25]) (r_load2 rfl ek kk kk (smS (blk_cell (j := 0) x57 kk) (ne2 (fun e9 => ne53 (Option.some.inj e9).symm) (fun e9 => ne52 (Option.some.inj e9).symm))) (smS (blk_cell (j := 1) x57 kk) (ne2 (fun e9 => ne53 (Option.some.inj e9).symm) (fun e9 => ne52 (Option.some.inj e9).symm)))) ?_
 have z71 := ((SM.belowR c60 s63 (in2 (fun kq e => (by cases e; exact lo17)) (fun kq e => (by cases e; exact lo8))))).size
 have lb77 := (blk_lt x65)
 have lb78 := (Cur.lt x64)
 have lb79 := (Nat.lt_of_lt_of_le (blk_lt x57) (s63).size)
 refine Fc [.pointer (some ⟨b11, 0, none⟩), .agg #[.int .i64 m22, .slice A23 n24 c25]] (few_any b11 w.heap.size (0 + 400) m22 A23 n24 c25 ps26 _ x64 (by omega) (rd_sepM rd59 s63 (sp2 sp43 sp42)) sp43 (by omega) (by omega)) ?_
 rintro e w81 ⟨A66, n67, c68, vs69, rfl, ⟨⟨rd75, fm74, fr76⟩, hsm70⟩, x83, g82⟩
 have s84 := SM.of_grown s63 g82 (.inl (by simp))
 refine ⟨_, rfl, s84, ?_⟩
 apply F.nx
 have x65 := (g82.block _ (blk_lt x65) (fun e9 => ne18 (Option.some.inj e9))).trans x65
 have hl72 := rd_valves_len rd75
 have sp85 : Sp A66 n67 (some b2) := sp_fresh fr76 lb77
 have sp86 : Sp A66 n67 (some b11) := sp_fresh fr76 lb78
 refine Fc [.pointer (some ⟨b11, 0, none⟩), .agg #[.int .i64 m22, .slice A23 n24 c25]] (nodeOf_any b11 w.heap.size ((0 + 400) + 402) m22 A23 n24 c25 _ x83 (by omega) (by omega)) ?_
 rintro e w91 ⟨x88, rfl, hx89, x93, g92⟩
 have s94 := SM.of_grown s84 g92 (.inl (by simp))
 refine ⟨_, rfl, s94, ?_⟩
 apply F.nx
 have x65 := (g92.block _ (blk_lt x65) (fun e9 => ne18 (Option.some.inj e9))).trans x65
 have rd95 := rd_sepG rd75 g92 sp86
 refine Fc [.pointer (some ⟨b11, 0, none⟩), .agg #[.int .i64 m22, .slice A23 n24 c25]] (pipeOf_any b11 w.heap.size (((0 + 400) + 402) + 6) m22 A23 n24 c25 ps26 _ x93 (by omega) (rd_sepM rd59 s94 (sp2 sp43 sp42)) sp43 (by omega) (by omega)) ?_
 rintro e w99 ⟨x96, rfl, hx97, x101, g100⟩
 have s102 := SM.of_grown s94 g100 (.inl (by simp))
 refine ⟨_, rfl, s102, ?_⟩
 apply F.nx
 have x65 := (g100.block _ (blk_lt x65) (fun e9 => ne18 (Option.some.inj e9))).trans x65
 have rd103 := rd_sepG rd95 g100 sp86
 refine M.ss (v := .agg #[.int .i64 m22, .slice A23 n24 c25]) (j := 0) (news := [.int .i64 m22, .slice A23 n24 c25]) (cs' := #[.int .i64 m22, .slice A23 n24 c25]) s102 rfl kk rfl rfl kk kk x65 kk kk (by simp) kk kk (.inl (by simp)) (fun w104 g105 x106 s107 => ?_)
 have rd108 := rd_sepG rd103 g105 sp85
 refine Fa (.slice A66 n67 c68) ?_
 refine Fa (.int .i64 x88) ?_
 refine Fa (.int .i64 x96) ?_
 apply F.es
 have c109 := (SM.belowR c60 s107 (in2 (fun kq e => (by cases e; exact lo17)) (fun kq e => (by cases e; exact lo8))))
 have rd110 := rd_sepM rd59 s107 (sp2 sp43 sp42)
 apply h4
 refine wp_ret ?_
 try simp only [Exit.then]
 refine retCTTT (x1 := .slice A66 n67 c68) (x2 := .int .i64 x88) (x3 := .int .i64 x96) rfl kk kk kk x106 kk kk kk ?_
 exact ⟨_, _, _, _, ps26, _, _, _, vs69, _, _, rfl, ⟨⟨rd110, fm32, (freshA_mono fr34 z29)⟩, hsm28⟩, ⟨⟨rd108, fm74, (freshA_mono fr76 z71)⟩, by first | omega | (simp; omega)⟩, c109⟩
set_option maxRecDepth 100000 in
set_option maxHeartbeats 8000000 in
theorem DrawSegmentPlan_any (A : Option Addr) (n c : Nat) (zs : List Int) (w : World) (hcode : Rd w 1 A n (bytesV zs)) (hz : ∀ z ∈ zs, 0 ≤ z ∧ z < 256) (hn : n ≤ 4611686018427387904) :
    Calls Try.prog 56 #[.slice A n c] w fun e w' => ∃ (m : Int) (A1 : Option Addr) (n1 c1 : Nat) (ps : List Pp) (A2 : Option Addr) (n2 c2 : Nat) (vs : List Vv) (x2 : Int) (x3 : Int), e = .returned (.tuple #[.agg #[.int .i64 m, .slice A1 n1 c1], .slice A2 n2 c2, .int .i64 x2, .int .i64 x3]) ∧ ((Rd w' 4 A1 n1 (pipesV ps) ∧ Fm A1 n1 c1 ∧ freshA w.heap.size A1 n1) ∧ smD 30 m ps) ∧ ((Rd w' 4 A2 n2 (valvesV vs) ∧ Fm A2 n2 c2 ∧ freshA w.heap.size A2 n2) ∧ vs.length ≤ 11) ∧ Below w.heap.size w w' := by
 have hl := rd_bytes_len hcode
 go_enter Try.func56, Try.ntmps56
 refine F.begin 12 [(0, .slice A n c)] (fun U0 => ?_)
 refine wk fun K1 h1 => ?_
 refine W.region_plain (row := none) [(0, true), (1, false), (2, false), (3, false)] kk ?_
 have s1 := SG.self w none
 refine W.sn (fun b => .pointer (some ⟨b, 0, none⟩)) #[.int .i64 0, .slice none 0 0] 26 s1 rfl kk rfl (fun _ => by kernel_rfl) (fun b2 w3 hb4 k5 x6 s7 => ?_)
 apply F.nx
 have lo8 : w.heap.size ≤ b2 := Nl ((Sb (Below.refl _ _) s1 nkk)).size (Nat.le_of_eq hb4)
 refine Fa (.slice none 0 0) ?_
 refine Fa (.int .i64 0) ?_
 refine Fa (.int .i64 0) ?_
 apply F.es
 have c9 := (Sb (Below.refl _ _) s7 nkk)
 apply h1
 refine wk fun K2 h2 => ?_
 refine W.region_plain (row := (some b2)) [(0, false), (1, true), (2, false), (3, false), (4, false), (5, false), (6, true), (7, false), (8, false), (9, false)] kk ?_
 have s10 := SG.self w3 (some b2)
 refine Fv (.slice A n c) ?_
 have lb12 := (blk_lt x6)
 have z11 := ((Sb c9 s10 (fun kq e => by cases e; exact lo8))).size
 refine Fc [.slice A n c] (DrawShortestPlan_any A n c zs _ (Rk hcode (Sb c9 s10 (fun kq e => by cases e; exact lo8))) hz hn) ?_
 rintro e w37 ⟨m13, A14, n15, c16, dl17, A24, n25, c26, dl27, x34, x35, rfl, ⟨⟨rd18, fm19, fr23⟩, hsm20⟩, ⟨⟨rd28, fm29, fr33⟩, hsm30⟩, b36⟩
 have s38 := SG.of_below s10 b36
 refine ⟨_, rfl, s38, ?_⟩
 apply F.nx
 have x6 := (b36.block _ (blk_lt x6)).trans x6
 have hl21 := rd_pipes_len rd18
 have sp39 : Sp A14 n15 (some b2) := sp_fresh fr23 lb12
 have hsm20m := hsm20.1
 have hsm20n := hsm20.2.1
 have hl31 := rd_valves_len rd28
 have sp40 : Sp A24 n25 (some b2) := sp_fresh fr33 lb12
 refine Fq (.agg #[.int .i64 m13, .slice A14 n15 c16]) (r_extract (vs := #[.agg #[.int .i64 m13, .slice A14 n15 c16], .slice A24 n25 c26, .int .i64 x34, .int .i64 x35]) rfl ek kk) ?_
 refine Fq (.slice A24 n25 c26) (r_extract (vs := #[.agg #[.int .i64 m13, .slice A14 n15 c16], .slice A24 n25 c26, .int .i64 x34, .int .i64 x35]) rfl ek kk) ?_
 refine Fq (.int .i64 x34) (r_extract (vs := #[.agg #[.int .i64 m13, .slice A14 n15 c16], .slice A24 n25 c26, .int .i64 x34, .int .i64 x35]) rfl ek kk) ?_
 refine Fq (.int .i64 x35) (r_extract (vs := #[.agg #[.int .i64 m13, .slice A14 n15 c16], .slice A24 n25 c26, .int .i64 x34, .int .i64 x35]) rfl ek kk) ?_
 refine W.ss (v := .agg #[.int .i64 m13, .slice A14 n15 c16]) (j := 0) (news := [.int .i64 m13, .slice A14 n15 c16]) (cs' := #[.int .i64 m13, .slice A14 n15 c16]) s38 rfl kk rfl rfl kk kk x6 kk kk (by simp) kk kk (.inl rfl) (fun w41 g42 x43 s44 => ?_)
 have rd45 := rd_sepG rd18 g42 sp39
 have rd46 := rd_sepG rd28 g42 sp40
 refine Fa (.slice A24 n25 c26) ?_
 refine Fa (.int .i64 x34) ?_
 refine Fa (.int .i64 x35) ?_
 apply F.es
 have c47 := (Sb c9 s44 (fun kq e => by cases e; exact lo8))
 apply h2
 refine wp_ret ?_
 try simp only [Exit.then]
 refine retCTTT (x1 := .slice A24 n25 c26) (x2 := .int .i64 x34) (x3 := .int .i64 x35) rfl kk kk kk x43 kk kk kk ?_
 exact ⟨_, _, _, _, dl17, _, _, _, dl27, _, _, rfl, ⟨⟨rd45, fm19, (freshA_mono fr23 z11)⟩, hsm20⟩, ⟨⟨rd46, fm29, (freshA_mono fr33 z11)⟩, by first | omega | (simp; omega)⟩, c47⟩
end Go.Proofs.Ytdbgfejeleafgaa
namespace Go.Proofs.Ytdbgfejeleafgaa
open Go.RowKit
set_option linter.unusedVariables false
set_option linter.unusedSimpArgs false
def bpOf (r : Option (List Int × Int)) : List Int := match r with | some b => b.1 | none => []
def ltOf (r : Option (List Int × Int)) : Int := match r with | some b => b.2 | none => 0
theorem fd_some {fd : Bool} {b : List Int × Int} (h : fd = true) : (bif fd then some b else none) = some b := by rw [h]; rfl
theorem fd_none {fd : Bool} {b : List Int × Int} (h : fd = false) : (bif fd then some b else none) = none := by rw [h]; rfl
theorem best_fin {r : Option (List Int × Int)} {fd : Bool} {bp : List Int} {lt : Int} (h : r = bif fd then some (bp, lt) else none) (hn : fd = false → bp = [] ∧ lt = 0) : bp = bpOf r ∧ lt = ltOf r ∧ fd = r.isSome := by
  subst h
  cases fd with
  | true => exact ⟨rfl, rfl, rfl⟩
  | false => obtain ⟨rfl, rfl⟩ := hn rfl; exact ⟨rfl, rfl, rfl⟩
theorem bestP_len {ps : List Pp} {vs : List Vv} {s id : Int} {h : List Int → Int} (hv : vs.length ≤ 10) : (bpOf (bestOf (cutB ps vs s id) h (openIds vs))).length ≤ 10 := by
  have := openIds_len vs
  cases hr : bestOf (cutB ps vs s id) h (openIds vs) with
  | none => simp [bpOf]
  | some b => have := bestOf_len hr; show b.1.length ≤ 10; omega
set_option maxRecDepth 100000 in
set_option maxHeartbeats 8000000 in
theorem bestPlan_any (m : Int) (A : Option Addr) (n c : Nat) (ps : List Pp) (A2 : Option Addr) (n2 c2 : Nat) (vs : List Vv) (s id : Int) (g : FuncId) (lb : Array Value) (h : List Int → Int) (w : World) (ha : Rd w 4 A n (pipesV ps)) (hb : Rd w 4 A2 n2 (valvesV vs)) (hn : n ≤ 1048576) (hn2 : n2 ≤ 1048576) (hfm2 : Fm A2 n2 c2) (hv9 : GoodVal m ps vs) (hs : 1 ≤ s ∧ s ≤ m) (hfa : 0 ≤ findL ps id) (he : enters Try.prog g = true) (HG : ∀ W (A : Option Addr) (n c : Nat) (pl : List Int), Below w.heap.size w W → Rd W 1 A n (intsV pl) → n ≤ 1000000 → Calls Try.prog g (#[.slice A n c] ++ lb) W fun e w' => e = .returned (.int .i64 (h pl)) ∧ Below W.heap.size W w') :
    Calls Try.prog 110 #[.agg #[.int .i64 m, .slice A n c], .slice A2 n2 c2, .int .i64 s, .int .i64 id, .func (.func g) #[] lb] w fun e w' => ∃ A' d, e = .returned (.tuple #[.slice A' (bpOf (bestOf (cutB ps vs s id) h (openIds vs))).length d, .int .i64 (ltOf (bestOf (cutB ps vs s id) h (openIds vs))), .bool (bestOf (cutB ps vs s id) h (openIds vs)).isSome]) ∧ w'.ownsRow w.heap.size 3 1 (.slice A' (bpOf (bestOf (cutB ps vs s id) h (openIds vs))).length d) (bpOf (bestOf (cutB ps vs s id) h (openIds vs))).length (intsV (bpOf (bestOf (cutB ps vs s id) h (openIds vs)))) ∧ Below w.heap.size w w' := by
 have hl := rd_pipes_len ha
 have hl2 := rd_valves_len hb
 have hg := hv9.net
 have hgl := hg.lo
 have hgh := hg.hi
 have hp := hg.pipesIn
 have hlen10 := hg.len
 have hu := hv9.uniq
 have hvl := hv9.len
 have hfl := findL_lt ps id
 go_enter Try.func110, Try.ntmps110
 refine F.begin 107 [(0, .agg #[.int .i64 m, .slice A n c]), (1, .slice A2 n2 c2), (2, .int .i64 s), (3, .int .i64 id), (4, .func (.func g) #[] lb)] (fun U0 => ?_)
 refine wk fun K1 h1 => ?_
 refine W.region_plain (row := none) [(0, true), (1, false), (2, false), (3, false)] kk ?_
 have s10 := SG.self w none
 refine W.sn (fun b => .pointer (some ⟨b, 0, none⟩)) #[.int .i64 m, .slice A n c] 26 s10 rfl kk rfl (fun _ => by kernel_rfl) (fun b11 w12 hb13 k14 x15 s16 => ?_)
 apply F.nx
 have lo17 : w.heap.size ≤ b11 := Nl ((Sb (Below.refl _ _) s10 nkk)).size (Nat.le_of_eq hb13)
 refine Fa (.slice none 0 0) ?_
 refine Fa (.int .i64 0) ?_
 refine Fa (.bool false) ?_
 apply F.es
 have c18 := (Sb (Below.refl _ _) s16 nkk)
 apply h1
 refine wk fun K2 h2 => ?_
 refine W.region_plain (row := none) [(0, true), (1, false)] kk ?_
 have s19 := SG.self w12 none
 refine W.sn (fun b => .slice (some ⟨b, 0, none⟩) 0 0) #[] 3 s19 rfl kk rfl (fun _ => by kernel_rfl) (fun b20 w21 hb22 k23 x24 s25 => ?_)
 apply F.nx
 have lo26 : w.heap.size ≤ b20 := Nl ((Sb c18 s19 nkk)).size (Nat.le_of_eq hb22)
 have ne27 : b11 ≠ b20 := Nat.ne_of_lt (Nat.lt_of_lt_of_eq (Nat.lt_of_lt_of_le (blk_lt x15) (s19).size) hb22)
 refine Fa (.slice (some ⟨b20, 0, none⟩) 0 0) ?_
 apply F.es
 have x15 := Sk s25 x15 onn
 have c28 := (Sb c18 s25 nkk)
 apply h2
 refine wk fun K3 h3 => ?_
 refine wk fun K4 h4 => ?_
 refine Rq 3 ?_
 refine Fv (.slice A2 n2 c2) ?_
 refine Fq (.int .i64 (n2 : Int)) (r_len (A := A2) (n := n2) (c := c2) rfl ek kk) ?_
 refine Fv (.int .i64 0) ?_
 apply F.es
 apply h4
 refine wp_block ?_
 have ho29 := own_empty (base := w.heap.size) (size := 1) x24 lo26
 replace ho29 : World.ownsRow _ _ _ _ _ _ (intsV []) := ho29
 have nb30 : Nb b11 (.slice (some ⟨b20, 0, none⟩) 0 0) := nb_new ne27
 refine loopK (fun am0 aa0 wl0 => ∃ (j : Nat) (A0_13 : Option Addr) (n0_13 : Nat) (c0_13 : Nat) , Kn aa0 [(0, .agg #[.int .i64 m, .slice A n c]), (1, .slice A2 n2 c2), (2, .int .i64 s), (3, .int .i64 id), (4, .func (.func g) #[] lb), (5, .pointer (some ⟨b11, 0, none⟩)), (10, .slice none 0 0), (11, .int .i64 0), (12, .bool false), (13, .slice A0_13 n0_13 c0_13), (26, .slice A2 n2 c2), (27, .int .i64 (n2 : Int)), (28, .int .i64 (j : Int))] 107 ∧ (am0 = n2 - j) ∧ (j ≤ n2) ∧ (n0_13 ≤ j) ∧ (wl0.heap[b11]? = some (.cells #[.int .i64 m, .slice A n c] 26 (0, 0))) ∧ (wl0.ownsRow w.heap.size 3 1 (.slice A0_13 n0_13 c0_13) n0_13 (intsV (openIds (vs.take j)))) ∧ (Nb b11 (.slice A0_13 n0_13 c0_13)) ∧ (Below w.heap.size w wl0)) (n2 - 0) ?_ ?_
 ·exact ⟨0, (some ⟨b20, 0, none⟩), 0, 0, Kn.of, rfl, (Nat.zero_le _), (Nat.zero_le _), x15, ho29, nb30, c28⟩
 rintro am0 aa0 wl0 K5 h5 ⟨j, A0_13, n0_13, c0_13, ⟨U0, rfl⟩, rfl, hj, hb13, x15, ho0_13, nb0_13_b11, c31⟩
 refine wk fun K6 h6 => ?_
 refine Rq 1 ?_
 by_cases q32 : ((j : Int) : Int) < ((n2 : Int) : Int)
 ·refine Fq (.bool true) (r_lss (m := (j : Int)) (n := (n2 : Int)) rfl ek ek (dt q32)) ?_
  apply F.es
  apply h6
  refine wk fun K7 h7 => ?_
  refine wp_cond_true ek ?_
  apply wp_skip
  apply h7
  refine wk fun K8 h8 => ?_
  refine wp_block ?_
  refine wk fun K9 h9 => ?_
  refine W.region_plain (row := none) [(0, false), (1, false), (2, true), (3, true)] kk ?_
  have s33 := SG.self wl0 none
  obtain ⟨x34, hx35⟩ := get_of (zs := vs) (k := j) (by have := hl2; omega)
  obtain ⟨b36, o37, hA38, hb39, hc40, hc41, hc42, hc43⟩ := Rd.elValve hb hx35
  refine Fq (.pointer (some ⟨b36, o37 + j * 4, none⟩)) (r_idx (n := n2) (c := c2) (k := j) rfl ek hA38 kk kk (by have := hl2; omega)) ?_
  refine Fq (.agg #[.int .i64 x34.id, .int .i64 x34.pipe, .int .i64 x34.node, .bool x34.shut]) (r_load4 rfl ek kk kk (sgS (later c31 hc40) (by simp)) (sgS (later c31 hc41) (by simp)) (sgS (later c31 hc42) (by simp)) (sgS (later c31 hc43) (by simp))) ?_
  refine W.sn (fun b => .pointer (some ⟨b, 0, none⟩)) #[.int .i64 0, .int .i64 0, .int .i64 0, .bool false] 40 s33 rfl kk rfl (fun _ => by kernel_rfl) (fun b44 w45 hb46 k47 x48 s49 => ?_)
  apply F.nx
  have lo50 : w.heap.size ≤ b44 := Nl ((Sb c31 s33 nkk)).size (Nat.le_of_eq hb46)
  have nb52 : Nb b44 (.slice A0_13 n0_13 c0_13) := nb_hi ho0_13 (Nat.le_of_eq hb46)
  have ho53 := own_kept ho0_13 k47
  refine W.ss (v := .agg #[.int .i64 x34.id, .int .i64 x34.pipe, .int .i64 x34.node, .bool x34.shut]) (j := 0) (news := [.int .i64 x34.id, .int .i64 x34.pipe, .int .i64 x34.node, .bool x34.shut]) (cs' := #[.int .i64 x34.id, .int .i64 x34.pipe, .int .i64 x34.node, .bool x34.shut]) s49 rfl kk rfl rfl kk kk x48 kk kk (by simp) kk kk (.inr (Nl (s33).size (Nat.le_of_eq hb46))) (fun w54 g55 x56 s57 => ?_)
  have ho58 := own_grown ho53 g55 (fun j e1 e2 => by cases e2; exact nb52 e1.symm)
  apply F.es
  have x15 := Sk s57 x15 onn
  have c59 := (Sb c31 s57 nkk)
  apply h9
  refine wk fun K10 h10 => ?_
  refine Rq 3 ?_
  refine Fq (.pointer (some ⟨b44, 3, none⟩)) (r_field (k := 3) rfl ek kk) ?_
  refine Fl (.bool x34.shut) (eqS (blk_cell (j := 3) x56 kk)) ?_
  refine Fq (.bool (!x34.shut)) (r_not (b := x34.shut) rfl ek rfl) ?_
  apply F.es
  apply h10
  rcases Bool.eq_false_or_eq_true (!x34.shut) with q60 | q60
  ·rw [q60]
   refine wp_cond_true ek ?_
   refine W.region_plain (row := (Value.ownBlock (.slice A0_13 n0_13 c0_13))) [(0, false), (1, false), (2, false), (3, true), (4, true), (5, false)] kk ?_
   have s61 := SG.self w54 (Value.ownBlock (.slice A0_13 n0_13 c0_13))
   refine Fv (.slice A0_13 n0_13 c0_13) ?_
   refine Fq (.pointer (some ⟨b44, 0, none⟩)) (r_field0 rfl ek kk) ?_
   refine Fl (.int .i64 x34.id) (sgS (blk_cell (j := 0) x56 kk) nb52) ?_
   refine W.sn (fun b => .slice (some ⟨b, 0, none⟩) 1 1) #[.int .i64 x34.id] 3 s61 rfl kk rfl (fun _ => by kernel_rfl) (fun b62 w63 hb64 k65 x66 s67 => ?_)
   apply F.nx
   have lo68 : w.heap.size ≤ b62 := Nl ((Sb c59 s61 (fun kq e => (World.ownsRow.lt ho58 kq e).1))).size (Nat.le_of_eq hb64)
   have ho72 := own_kept ho58 k65
   refine W.sap (e := 3) (size := 1) (base := w.heap.size) (m := 1) (v := .slice A0_13 n0_13 c0_13) (c := 1) s67 rfl rfl rfl rfl kk kk kk ho72 x66 kk kk (by omega) (by omega) (by have := ((Sb c59 s67 (fun kq e => (World.ownsRow.lt ho58 kq e).1))).size; omega) (.inl rfl) (fun g73 cap74 w75 ho76 hg77 hat78 hlt79 s80 => ?_)
   apply F.nx
   have nb81 : Nb b11 (.slice (some ⟨g73, 0, none⟩) (n0_13 + 1) cap74) := nb_app nb0_13_b11 (Nat.lt_of_lt_of_le (blk_lt x15) (s67).size) hat78
   have ho76 := own_snoc ho76
   refine Fa (.slice (some ⟨g73, 0, none⟩) (n0_13 + 1) cap74) ?_
   apply F.es
   have x15 := Sk s80 x15 nb0_13_b11
   have c84 := (Sb c59 s80 (fun kq e => (World.ownsRow.lt ho58 kq e).1))
   apply h8
   refine Rq 2 ?_
   refine Fq (.int .i64 ((j + 1 : Nat) : Int)) (r_add (m := (j : Int)) (n := 1) (z := ((j + 1 : Nat) : Int)) rfl ek ek (by omega) (by omega)) ?_
   refine Fv (.int .i64 ((j + 1 : Nat) : Int)) ?_
   apply F.es
   exact h5 _ _ _ (by omega : (n2 - (j + 1)) < _) ⟨j + 1, (some ⟨g73, 0, none⟩), (n0_13 + 1), cap74, Kn.of, rfl, (by omega), (by omega), x15, (by rw [openIds_yes hx35 (by simpa using q60)]; exact ho76), nb81, c84⟩
  rw [q60]
  refine wp_cond_false ek ?_
  apply wp_skip
  apply h8
  refine Rq 2 ?_
  refine Fq (.int .i64 ((j + 1 : Nat) : Int)) (r_add (m := (j : Int)) (n := 1) (z := ((j + 1 : Nat) : Int)) rfl ek ek (by omega) (by omega)) ?_
  refine Fv (.int .i64 ((j + 1 : Nat) : Int)) ?_
  apply F.es
  exact h5 _ _ _ (by omega : (n2 - (j + 1)) < _) ⟨j + 1, A0_13, n0_13, c0_13, Kn.of, rfl, (by omega), (by omega), x15, (by rw [openIds_no hx35 (by simpa using q60)]; exact ho58), nb0_13_b11, c59⟩
 refine Fq (.bool false) (r_lss (m := (j : Int)) (n := (n2 : Int)) rfl ek ek (df q32)) ?_
 apply F.es
 apply h6
 refine wk fun K11 h11 => ?_
 refine wp_cond_false ek ?_
 refine wp_exit ?_
 apply h3
 refine wk fun K12 h12 => ?_
 refine W.region_plain (row := none) [(0, true), (1, false), (2, false), (3, false)] kk ?_
 have s85 := SG.self wl0 none
 refine W.sn (fun b => .slice (some ⟨b, 0, none⟩) 0 0) #[] 3 s85 rfl kk rfl (fun _ => by kernel_rfl) (fun b86 w87 hb88 k89 x90 s91 => ?_)
 apply F.nx
 have lo92 : w.heap.size ≤ b86 := Nl ((Sb c31 s85 nkk)).size (Nat.le_of_eq hb88)
 have ne93 : b11 ≠ b86 := Nat.ne_of_lt (Nat.lt_of_lt_of_eq (Nat.lt_of_lt_of_le (blk_lt x15) (s85).size) hb88)
 have nb94 : Nb b86 (.slice A0_13 n0_13 c0_13) := nb_hi ho0_13 (Nat.le_of_eq hb88)
 have ho95 := own_kept ho0_13 k89
 refine Fa (.slice (some ⟨b86, 0, none⟩) 0 0) ?_
 refine Fa (.int .i64 0) ?_
 refine Fa (.bool false) ?_
 apply F.es
 have x15 := Sk s91 x15 onn
 have c96 := (Sb c31 s91 nkk)
 apply h12
 refine wk fun K13 h13 => ?_
 refine wk fun K14 h14 => ?_
 refine Rq 4 ?_
 refine Fv (.slice A0_13 n0_13 c0_13) ?_
 refine Fq (.int .i64 (n0_13 : Int)) (r_len (A := A0_13) (n := n0_13) (c := c0_13) rfl ek kk) ?_
 refine Fq (.int .i64 ((2 ^ n0_13 : Nat) : Int)) (r_shl (k := n0_13) (yk := .i64) rfl ek ek (by omega)) ?_
 refine Fv (.int .i64 0) ?_
 apply F.es
 apply h14
 refine wp_block ?_
 have e13 : openIds (vs.take j) = (openIds vs) := by rw [List.take_of_length_le (by omega)]
 have holn := openIds_len vs
 have ho97 := ho95
 rw [e13] at ho97
 have ho98 := own_empty (base := w.heap.size) (size := 1) x90 lo92
 replace ho98 : World.ownsRow _ _ _ _ _ _ (intsV []) := ho98
 have nr99 : NbR (.slice (some ⟨b86, 0, none⟩) 0 0) (.slice A0_13 n0_13 c0_13) := nbr_new nb94
 have nb100 : Nb b11 (.slice (some ⟨b86, 0, none⟩) 0 0) := nb_new ne93
 have rd102 := own_rd ho97
 have hl103 := rd_ints_len rd102
 have sp105 := sp_of_nbr (n := n0_13) (NbR.symm nr99)
 have hpw : 2 ^ n0_13 ≤ 2 ^ 10 := Nat.pow_le_pow_right (by omega) (by omega)
 refine loopK (fun am1 aa1 wl1 => ∃ (t : Nat) (bp : List Int) (lt : Int) (fd : Bool) (A1_16 : Option Addr) (n1_16 : Nat) (c1_16 : Nat) , Kn aa1 [(0, .agg #[.int .i64 m, .slice A n c]), (1, .slice A2 n2 c2), (2, .int .i64 s), (3, .int .i64 id), (4, .func (.func g) #[] lb), (5, .pointer (some ⟨b11, 0, none⟩)), (10, .slice none 0 0), (11, .int .i64 0), (12, .bool false), (13, .slice A0_13 n0_13 c0_13), (16, .slice A1_16 n1_16 c1_16), (17, .int .i64 lt), (18, .bool fd), (26, .slice A2 n2 c2), (27, .int .i64 (n2 : Int)), (28, .int .i64 (j : Int)), (29, .bool false), (44, .int .i64 ((2 ^ n0_13 : Nat) : Int)), (45, .int .i64 (t : Int))] 107 ∧ (am1 = 2 ^ n0_13 - t) ∧ (t ≤ 2 ^ n0_13) ∧ (bestTo (cutB ps vs s id) h (openIds vs) t = bif fd then some (bp, lt) else none) ∧ (fd = false → bp = [] ∧ lt = 0) ∧ (n1_16 ≤ 10) ∧ (wl1.heap[b11]? = some (.cells #[.int .i64 m, .slice A n c] 26 (0, 0))) ∧ (wl1.ownsRow w.heap.size 3 1 (.slice A1_16 n1_16 c1_16) n1_16 (intsV bp)) ∧ (Nb b11 (.slice A1_16 n1_16 c1_16)) ∧ (Rd wl1 1 A0_13 n0_13 (intsV (openIds vs))) ∧ (Sp A0_13 n0_13 (Value.ownBlock (.slice A1_16 n1_16 c1_16))) ∧ (Below w.heap.size w wl1)) (2 ^ n0_13 - 0) ?_ ?_
 ·exact ⟨0, [], 0, false, (some ⟨b86, 0, none⟩), 0, 0, Kn.of, rfl, (Nat.zero_le _), rfl, (fun _ => ⟨rfl, rfl⟩), (by omega), x15, ho98, nb100, rd102, sp105, c96⟩
 rintro am1 aa1 wl1 K15 h15 ⟨t, bp, lt, fd, A1_16, n1_16, c1_16, ⟨U1, rfl⟩, rfl, ht, hst, hnf, hb16, x15, ho1_16, nb1_16_b11, rd1_13, sp1_13_16, c107⟩
 refine wk fun K16 h16 => ?_
 refine Rq 1 ?_
 by_cases q108 : ((t : Int) : Int) < (((2 ^ n0_13 : Nat) : Int) : Int)
 ·refine Fq (.bool true) (r_lss (m := (t : Int)) (n := ((2 ^ n0_13 : Nat) : Int)) rfl ek ek (dt q108)) ?_
  apply F.es
  apply h16
  refine wk fun K17 h17 => ?_
  refine wp_cond_true ek ?_
  apply wp_skip
  apply h17
  refine wk fun K18 h18 => ?_
  refine wp_block ?_
  refine wk fun K19 h19 => ?_
  refine Rq 2 ?_
  refine Fv (.int .i64 (t : Int)) ?_
  refine Fa (.int .i64 (t : Int)) ?_
  apply F.es
  apply h19
  refine wk fun K20 h20 => ?_
  refine W.region_plain (row := none) [(0, true), (1, false)] kk ?_
  have s109 := SG.self wl1 none
  refine W.sn (fun b => .slice (some ⟨b, 0, none⟩) 0 0) #[] 3 s109 rfl kk rfl (fun _ => by kernel_rfl) (fun b110 w111 hb112 k113 x114 s115 => ?_)
  apply F.nx
  have lo116 : w.heap.size ≤ b110 := Nl ((Sb c107 s109 nkk)).size (Nat.le_of_eq hb112)
  have sp117 : Sp A0_13 n0_13 (some b110) := sp_new rd1_13 (by have := (s109).size; have := hb112; omega)
  have ne118 : b11 ≠ b110 := Nat.ne_of_lt (Nat.lt_of_lt_of_eq (Nat.lt_of_lt_of_le (blk_lt x15) (s109).size) hb112)
  have nb119 : Nb b110 (.slice A1_16 n1_16 c1_16) := nb_hi ho1_16 (Nat.le_of_eq hb112)
  have ho120 := own_kept ho1_16 k113
  refine Fa (.slice (some ⟨b110, 0, none⟩) 0 0) ?_
  apply F.es
  have x15 := Sk s115 x15 onn
  have c121 := (Sb c107 s115 nkk)
  have rd122 := Rk rd1_13 (SG.below s115)
  apply h20
  refine wk fun K21 h21 => ?_
  refine wk fun K22 h22 => ?_
  refine Rq 3 ?_
  refine Fv (.slice A0_13 n0_13 c0_13) ?_
  refine Fq (.int .i64 (n0_13 : Int)) (r_len (A := A0_13) (n := n0_13) (c := c0_13) rfl ek kk) ?_
  refine Fv (.int .i64 0) ?_
  apply F.es
  apply h22
  refine wp_block ?_
  have ho123 := own_empty (base := w.heap.size) (size := 1) x114 lo116
  replace ho123 : World.ownsRow _ _ _ _ _ _ (intsV []) := ho123
  have nr124 : NbR (.slice (some ⟨b110, 0, none⟩) 0 0) (.slice A1_16 n1_16 c1_16) := nbr_new nb119
  have sp125 := sp_own (n' := 0) (c := 0) sp117
  have nb126 : Nb b11 (.slice (some ⟨b110, 0, none⟩) 0 0) := nb_new ne118
  refine loopK (fun am2 aa2 wl2 => ∃ (i : Nat) (A2_20 : Option Addr) (n2_20 : Nat) (c2_20 : Nat) , Kn aa2 [(0, .agg #[.int .i64 m, .slice A n c]), (1, .slice A2 n2 c2), (2, .int .i64 s), (3, .int .i64 id), (4, .func (.func g) #[] lb), (5, .pointer (some ⟨b11, 0, none⟩)), (10, .slice none 0 0), (11, .int .i64 0), (12, .bool false), (13, .slice A0_13 n0_13 c0_13), (16, .slice A1_16 n1_16 c1_16), (17, .int .i64 lt), (18, .bool fd), (19, .int .i64 (t : Int)), (20, .slice A2_20 n2_20 c2_20), (26, .slice A2 n2 c2), (27, .int .i64 (n2 : Int)), (28, .int .i64 (j : Int)), (29, .bool false), (44, .int .i64 ((2 ^ n0_13 : Nat) : Int)), (45, .int .i64 (t : Int)), (46, .bool true), (49, .slice A0_13 n0_13 c0_13), (50, .int .i64 (n0_13 : Int)), (51, .int .i64 (i : Int))] 107 ∧ (am2 = n0_13 - i) ∧ (i ≤ n0_13) ∧ (n2_20 ≤ i) ∧ (wl2.heap[b11]? = some (.cells #[.int .i64 m, .slice A n c] 26 (0, 0))) ∧ (wl2.ownsRow w.heap.size 3 1 (.slice A1_16 n1_16 c1_16) n1_16 (intsV bp)) ∧ (wl2.ownsRow w.heap.size 3 1 (.slice A2_20 n2_20 c2_20) n2_20 (intsV (choiceTo (openIds vs) t i))) ∧ (Nb b11 (.slice A2_20 n2_20 c2_20)) ∧ (NbR (.slice A2_20 n2_20 c2_20) (.slice A1_16 n1_16 c1_16)) ∧ (Rd wl2 1 A0_13 n0_13 (intsV (openIds vs))) ∧ (Rd wl2 1 A0_13 n0_13 (intsV (openIds vs))) ∧ (Sp A0_13 n0_13 (Value.ownBlock (.slice A2_20 n2_20 c2_20))) ∧ (Sp A0_13 n0_13 (Value.ownBlock (.slice A2_20 n2_20 c2_20))) ∧ (Below w.heap.size w wl2)) (n0_13 - 0) ?_ ?_
  ·exact ⟨0, (some ⟨b110, 0, none⟩), 0, 0, Kn.of, rfl, (Nat.zero_le _), (Nat.zero_le _), x15, ho120, ho123, nb126, nr124, rd122, rd122, sp125, sp125, c121⟩
  rintro am2 aa2 wl2 K23 h23 ⟨i, A2_20, n2_20, c2_20, ⟨U2, rfl⟩, rfl, hi, hb20, x15, ho2_16, ho2_20, nb2_20_b11, nr2_1_0, rd2_49, rd2_13, sp2_49_20, sp2_13_20, c127⟩
  refine wk fun K24 h24 => ?_
  refine Rq 1 ?_
  by_cases q128 : ((i : Int) : Int) < ((n0_13 : Int) : Int)
  ·refine Fq (.bool true) (r_lss (m := (i : Int)) (n := (n0_13 : Int)) rfl ek ek (dt q128)) ?_
   apply F.es
   apply h24
   refine wk fun K25 h25 => ?_
   refine wp_cond_true ek ?_
   apply wp_skip
   apply h25
   refine wk fun K26 h26 => ?_
   refine wp_block ?_
   refine wk fun K27 h27 => ?_
   refine Rq 5 ?_
   refine Fv (.int .i64 (i : Int)) ?_
   obtain ⟨x129, hx130⟩ := get_of (zs := (openIds vs)) (k := i) (by have := hl103; omega)
   obtain ⟨b131, o132, hA133, hb134, hc135⟩ := Rd.elInt rd2_49 hx130
   refine Fq (.pointer (some ⟨b131, o132 + i, none⟩)) (r_idx1 (n := n0_13) (c := c0_13) (k := i) rfl ek hA133 kk kk (by have := hl103; omega)) ?_
   refine Fl (.int .i64 x129) (eqS hc135) ?_
   refine Fa (.int .i64 (i : Int)) ?_
   refine Fa (.int .i64 x129) ?_
   apply F.es
   apply h27
   refine wk fun K28 h28 => ?_
   refine Rq 5 ?_
   refine Fv (.int .i64 (t : Int)) ?_
   refine Fv (.int .i64 (i : Int)) ?_
   refine Fq (.int .i64 ((t / 2 ^ i : Nat) : Int)) (r_shr (q := t) (k := i) (yk := .i64) rfl ek ek (by omega)) ?_
   refine Fq (.int .i64 (((t / 2 ^ i) % 2 : Nat) : Int)) (r_and1 (q := t / 2 ^ i) rfl ek kk (by have h9 := Nat.div_le_self t (2 ^ i); have h8 : (2 : Nat) ^ 10 = 1024 := rfl; omega)) ?_
   by_cases q136 : ((((t / 2 ^ i) % 2 : Nat) : Int) : Int) = (1 : Int)
   ·refine Fq (.bool true) (r_eql (m := (((t / 2 ^ i) % 2 : Nat) : Int)) (n := 1) rfl ek ek (dt q136)) ?_
    apply F.es
    apply h28
    refine wp_cond_true ek ?_
    refine W.region_plain (row := (Value.ownBlock (.slice A2_20 n2_20 c2_20))) [(0, false), (1, false), (2, true), (3, true), (4, false)] kk ?_
    have s137 := SG.self wl2 (Value.ownBlock (.slice A2_20 n2_20 c2_20))
    refine Fv (.slice A2_20 n2_20 c2_20) ?_
    refine Fv (.int .i64 x129) ?_
    refine W.sn (fun b => .slice (some ⟨b, 0, none⟩) 1 1) #[.int .i64 x129] 3 s137 rfl kk rfl (fun _ => by kernel_rfl) (fun b138 w139 hb140 k141 x142 s143 => ?_)
    apply F.nx
    have lo144 : w.heap.size ≤ b138 := Nl ((Sb c127 s137 (fun kq e => (World.ownsRow.lt ho2_20 kq e).1))).size (Nat.le_of_eq hb140)
    have ho150 := own_kept ho2_16 k141
    have ho151 := own_kept ho2_20 k141
    refine W.sap (e := 3) (size := 1) (base := w.heap.size) (m := 1) (v := .slice A2_20 n2_20 c2_20) (c := 1) s143 rfl rfl rfl rfl kk kk kk ho151 x142 kk kk (by omega) (by omega) (by have := ((Sb c127 s143 (fun kq e => (World.ownsRow.lt ho2_20 kq e).1))).size; omega) (.inl rfl) (fun g152 cap153 w154 ho155 hg156 hat157 hlt158 s159 => ?_)
    apply F.nx
    have nb160 : Nb b11 (.slice (some ⟨g152, 0, none⟩) (n2_20 + 1) cap153) := nb_app nb2_20_b11 (Nat.lt_of_lt_of_le (blk_lt x15) (s143).size) hat157
    have ho155 := own_snoc ho155
    have sp162 := sp_app (v' := .slice (some ⟨g152, 0, none⟩) (n2_20 + 1) cap153) sp2_49_20 rd2_49 ((s143).size) (hat3 (v := .slice A2_20 n2_20 c2_20) hat157)
    have sp163 := sp_app (v' := .slice (some ⟨g152, 0, none⟩) (n2_20 + 1) cap153) sp2_13_20 rd2_13 ((s143).size) (hat3 (v := .slice A2_20 n2_20 c2_20) hat157)
    have nr164 : NbR (.slice (some ⟨g152, 0, none⟩) (n2_20 + 1) cap153) (.slice A1_16 n1_16 c1_16) := nbr_app nr2_1_0 (fun j h => (World.ownsRow.lt ho150 j h).2) (hat3 (v := .slice A2_20 n2_20 c2_20) hat157)
    have ho165 := own_grown ho150 hg156 (NbR.symm nr2_1_0)
    refine Fa (.slice (some ⟨g152, 0, none⟩) (n2_20 + 1) cap153) ?_
    apply F.es
    have x15 := Sk s159 x15 nb2_20_b11
    have c166 := (Sb c127 s159 (fun kq e => (World.ownsRow.lt ho2_20 kq e).1))
    have rd167 := rd_sep rd2_49 s159 sp2_49_20
    have rd168 := rd_sep rd2_13 s159 sp2_13_20
    apply h26
    refine Rq 2 ?_
    refine Fq (.int .i64 ((i + 1 : Nat) : Int)) (r_add (m := (i : Int)) (n := 1) (z := ((i + 1 : Nat) : Int)) rfl ek ek (by omega) (by omega)) ?_
    refine Fv (.int .i64 ((i + 1 : Nat) : Int)) ?_
    apply F.es
    exact h23 _ _ _ (by omega : (n0_13 - (i + 1)) < _) ⟨i + 1, (some ⟨g152, 0, none⟩), (n2_20 + 1), cap153, Kn.of, rfl, (by omega), (by omega), x15, ho165, (by rw [choiceTo_yes hx130 (by omega)]; exact ho155), nb160, nr164, rd167, rd168, sp162, sp163, c166⟩
   refine Fq (.bool false) (r_eql (m := (((t / 2 ^ i) % 2 : Nat) : Int)) (n := 1) rfl ek ek (df q136)) ?_
   apply F.es
   apply h28
   refine wp_cond_false ek ?_
   apply wp_skip
   apply h26
   refine Rq 2 ?_
   refine Fq (.int .i64 ((i + 1 : Nat) : Int)) (r_add (m := (i : Int)) (n := 1) (z := ((i + 1 : Nat) : Int)) rfl ek ek (by omega) (by omega)) ?_
   refine Fv (.int .i64 ((i + 1 : Nat) : Int)) ?_
   apply F.es
   exact h23 _ _ _ (by omega : (n0_13 - (i + 1)) < _) ⟨i + 1, A2_20, n2_20, c2_20, Kn.of, rfl, (by omega), (by omega), x15, ho2_16, (by rw [choiceTo_no (by omega)]; exact ho2_20), nb2_20_b11, nr2_1_0, rd2_49, rd2_13, sp2_49_20, sp2_13_20, c127⟩
  refine Fq (.bool false) (r_lss (m := (i : Int)) (n := (n0_13 : Int)) rfl ek ek (df q128)) ?_
  apply F.es
  apply h24
  refine wk fun K29 h29 => ?_
  refine wp_cond_false ek ?_
  refine wp_exit ?_
  apply h21
  refine wk fun K30 h30 => ?_
  refine wk fun K31 h31 => ?_
  refine W.region_plain (row := none) [(0, false), (1, false), (2, false), (3, false), (4, false), (5, true), (6, false)] kk ?_
  have s169 := SG.self wl2 none
  refine Fq (.agg #[.int .i64 m, .slice A n c]) (r_load2 rfl ek kk kk (sgS (blk_cell (j := 0) x15 kk) onn) (sgS (blk_cell (j := 1) x15 kk) onn)) ?_
  refine Fv (.slice A2 n2 c2) ?_
  refine Fv (.int .i64 s) ?_
  refine Fv (.int .i64 id) ?_
  refine Fv (.slice A2_20 n2_20 c2_20) ?_
  refine Fc [.agg #[.int .i64 m, .slice A n c], .slice A2 n2 c2, .int .i64 s, .int .i64 id, .slice A2_20 n2_20 c2_20] (isolates_any m A n c ps A2 n2 c2 vs s id A2_20 n2_20 c2_20 (choiceTo (openIds vs) t i) _ (Rk ha (Sb c127 s169 nkk)) (Rk hb (Sb c127 s169 nkk)) (by omega) (by omega) hfm2 hv9 hs hfa (own_rd ho2_20) (by omega)) ?_
  rintro e w171 ⟨rfl, b170⟩
  have s172 := SG.of_below s169 b170
  refine ⟨_, rfl, s172, ?_⟩
  apply F.nx
  have ho173 := own_kept ho2_16 b170
  have ho174 := own_kept ho2_20 b170
  rcases Bool.eq_false_or_eq_true (cutB ps vs s id (choiceTo (openIds vs) t i)) with q175 | q175
  ·rw [q175]
   refine Fq (.bool false) (r_not (b := true) rfl ek rfl) ?_
   apply F.es
   have x15 := Sk s172 x15 onn
   have c176 := (Sb c127 s172 nkk)
   have rd178 := Rk rd2_13 (SG.below s172)
   apply h31
   refine wp_cond_false ek ?_
   apply wp_skip
   apply h30
   refine wk fun K32 h32 => ?_
   refine W.region_plain (row := none) [(0, false), (1, false), (2, true), (3, false)] kk ?_
   have s179 := SG.self w171 none
   refine Fv (.func (.func g) #[] lb) ?_
   refine Fv (.slice A2_20 n2_20 c2_20) ?_
   refine W.scv (vs := [.slice A2_20 n2_20 c2_20]) (g := g) (lb := lb) rfl rfl kk kk he kk rfl (HG _ A2_20 n2_20 c2_20 (choiceTo (openIds vs) t i) ((Sb c176 s179 nkk)) (own_rd ho174) (by omega)) ?_
   rintro e w181 ⟨rfl, b180⟩
   have s182 := SG.of_below s179 b180
   refine ⟨_, rfl, s182, ?_⟩
   apply F.nx
   have ho183 := own_kept ho173 b180
   have ho184 := own_kept ho174 b180
   refine Fa (.int .i64 (h (choiceTo (openIds vs) t i))) ?_
   apply F.es
   have x15 := Sk s182 x15 onn
   have c185 := (Sb c176 s182 nkk)
   have rd187 := Rk rd178 (SG.below s182)
   apply h32
   refine wk fun K33 h33 => ?_
   refine W.region_plain (row := none) [(0, false), (1, false), (2, false), (3, true), (4, false), (5, false), (6, false), (7, true), (8, true), (9, false)] kk ?_
   have s188 := SG.self w181 none
   refine Fv (.int .i64 (h (choiceTo (openIds vs) t i))) ?_
   refine Fv (.slice A2_20 n2_20 c2_20) ?_
   refine Fq (.int .i64 (n2_20 : Int)) (r_len (A := A2_20) (n := n2_20) (c := c2_20) rfl ek kk) ?_
   refine W.sn (fun b => .slice (some ⟨b, 0, none⟩) 2 2) #[.int .i64 (h (choiceTo (openIds vs) t i)), .int .i64 (n2_20 : Int)] 3 s188 rfl kk rfl (fun _ => by kernel_rfl) (fun b189 w190 hb191 k192 x193 s194 => ?_)
   apply F.nx
   have lo195 : w.heap.size ≤ b189 := Nl ((Sb c185 s188 nkk)).size (Nat.le_of_eq hb191)
   have ho201 := own_kept ho183 k192
   have ho202 := own_kept ho184 k192
   refine Fv (.int .i64 lt) ?_
   refine Fv (.slice A1_16 n1_16 c1_16) ?_
   refine Fq (.int .i64 (n1_16 : Int)) (r_len (A := A1_16) (n := n1_16) (c := c1_16) rfl ek kk) ?_
   refine W.sn (fun b => .slice (some ⟨b, 0, none⟩) 2 2) #[.int .i64 lt, .int .i64 (n1_16 : Int)] 3 s194 rfl kk rfl (fun _ => by kernel_rfl) (fun b203 w204 hb205 k206 x207 s208 => ?_)
   apply F.nx
   have lo209 : w.heap.size ≤ b203 := Nl ((Sb c185 s194 nkk)).size (Nat.le_of_eq hb205)
   have x193 := (k206.block _ (blk_lt x193)).trans x193
   have ho216 := own_kept ho201 k206
   have ho217 := own_kept ho202 k206
   have ho218 := own_blk (base := w.heap.size) (size := 1) (n := 2) x193 lo195 rfl (by omega)
   replace ho218 : World.ownsRow _ _ _ _ _ _ (intsV [(h (choiceTo (openIds vs) t i)), (n2_20 : Int)]) := ho218
   have ho225 := own_blk (base := w.heap.size) (size := 1) (n := 2) x207 lo209 rfl (by omega)
   replace ho225 : World.ownsRow _ _ _ _ _ _ (intsV [lt, (n1_16 : Int)]) := ho225
   refine Fc [.slice (some ⟨b189, 0, none⟩) 2 2, .slice (some ⟨b203, 0, none⟩) 2 2] (slCompare_any (some ⟨b189, 0, none⟩) 2 2 ([(h (choiceTo (openIds vs) t i)), (n2_20 : Int)]) (some ⟨b203, 0, none⟩) 2 2 ([lt, (n1_16 : Int)]) _ (own_rd ho218) (by omega) (own_rd ho225) (by omega)) ?_
   rintro e w233 ⟨rfl, b232⟩
   have s234 := SG.of_below s208 b232
   refine ⟨_, rfl, s234, ?_⟩
   apply F.nx
   have ho235 := own_kept ho216 b232
   have ho236 := own_kept ho217 b232
   refine Fa (.int .i64 (cmpL ([(h (choiceTo (openIds vs) t i)), (n2_20 : Int)]) ([lt, (n1_16 : Int)]))) ?_
   apply F.es
   have x15 := Sk s234 x15 onn
   have c239 := (Sb c185 s234 nkk)
   have rd241 := Rk rd187 (SG.below s234)
   apply h33
   refine wk fun K34 h34 => ?_
   refine W.region_plain (row := none) [(0, false), (1, false), (2, false), (3, false), (4, false), (5, false), (6, false), (7, false), (8, false), (9, false), (10, false), (11, false), (12, true), (13, false), (14, false), (15, false)] kk ?_
   have s242 := SG.self w233 none
   refine Fv (.bool fd) ?_
   refine Fq (.bool (!fd)) (r_not (b := fd) rfl ek rfl) ?_
   refine Fv (.bool (!fd)) ?_
   rcases Bool.eq_false_or_eq_true (!fd) with q243 | q243
   ·rw [q243]
    refine Fs s242 ?_
    refine Fs s242 ?_
    refine Fq (.bool true) (r_pick (b := true) rfl ek ek) ?_
    refine Fv (.bool true) ?_
    refine Fs s242 ?_
    refine Fs s242 ?_
    refine Fs s242 ?_
    refine Fs s242 ?_
    refine Fs s242 ?_
    refine Fs s242 ?_
    refine Fs s242 ?_
    refine Fs s242 ?_
    refine Fq (.bool true) (r_pick (b := true) rfl ek ek) ?_
    apply F.es
    have x15 := Sk s242 x15 onn
    have c244 := (Sb c239 s242 nkk)
    have rd246 := Rk rd241 (SG.below s242)
    apply h34
    refine wp_cond_true ek ?_
    refine Rq 5 ?_
    refine Fv (.slice A2_20 n2_20 c2_20) ?_
    refine Fv (.int .i64 (h (choiceTo (openIds vs) t i))) ?_
    refine Fa (.slice A2_20 n2_20 c2_20) ?_
    refine Fa (.int .i64 (h (choiceTo (openIds vs) t i))) ?_
    refine Fa (.bool true) ?_
    apply F.es
    apply h18
    refine Rq 2 ?_
    refine Fq (.int .i64 ((t + 1 : Nat) : Int)) (r_add (m := (t : Int)) (n := 1) (z := ((t + 1 : Nat) : Int)) rfl ek ek (by omega) (by omega)) ?_
    refine Fv (.int .i64 ((t + 1 : Nat) : Int)) ?_
    apply F.es
    exact h15 _ _ _ (by omega : (2 ^ n0_13 - (t + 1)) < _) ⟨t + 1, (choiceTo (openIds vs) t i), (h (choiceTo (openIds vs) t i)), true, A2_20, n2_20, c2_20, Kn.of, rfl, (by omega), ((bestTo_next (hst.trans (fd_none (by simpa using q243)))).trans (by rw [show choice (openIds vs) t = choiceTo (openIds vs) t i from by unfold choice; rw [show (openIds vs).length = i by omega]]; exact bestStep_first q175)), (fun e => by cases e), (by omega), x15, ho236, nb2_20_b11, rd246, sp2_13_20, c244⟩
   rw [q243]
   refine Fv (.int .i64 (cmpL ([(h (choiceTo (openIds vs) t i)), (n2_20 : Int)]) ([lt, (n1_16 : Int)]))) ?_
   by_cases q247 : ((cmpL ([(h (choiceTo (openIds vs) t i)), (n2_20 : Int)]) ([lt, (n1_16 : Int)])) : Int) < (0 : Int)
   ·have hlp := rd_ints_len (own_rd ho236)
    have hlb := rd_ints_len (own_rd ho235)
    refine Fq (.bool true) (r_lss (m := (cmpL ([(h (choiceTo (openIds vs) t i)), (n2_20 : Int)]) ([lt, (n1_16 : Int)]))) (n := 0) rfl ek ek (dt q247)) ?_
    refine Fq (.bool true) (r_pick (b := false) rfl ek ek) ?_
    refine Fv (.bool true) ?_
    refine Fs s242 ?_
    refine Fs s242 ?_
    refine Fs s242 ?_
    refine Fs s242 ?_
    refine Fs s242 ?_
    refine Fs s242 ?_
    refine Fs s242 ?_
    refine Fs s242 ?_
    refine Fq (.bool true) (r_pick (b := true) rfl ek ek) ?_
    apply F.es
    have x15 := Sk s242 x15 onn
    have c248 := (Sb c239 s242 nkk)
    have rd250 := Rk rd241 (SG.below s242)
    apply h34
    refine wp_cond_true ek ?_
    refine Rq 5 ?_
    refine Fv (.slice A2_20 n2_20 c2_20) ?_
    refine Fv (.int .i64 (h (choiceTo (openIds vs) t i))) ?_
    refine Fa (.slice A2_20 n2_20 c2_20) ?_
    refine Fa (.int .i64 (h (choiceTo (openIds vs) t i))) ?_
    refine Fa (.bool true) ?_
    apply F.es
    apply h18
    refine Rq 2 ?_
    refine Fq (.int .i64 ((t + 1 : Nat) : Int)) (r_add (m := (t : Int)) (n := 1) (z := ((t + 1 : Nat) : Int)) rfl ek ek (by omega) (by omega)) ?_
    refine Fv (.int .i64 ((t + 1 : Nat) : Int)) ?_
    apply F.es
    exact h15 _ _ _ (by omega : (2 ^ n0_13 - (t + 1)) < _) ⟨t + 1, (choiceTo (openIds vs) t i), (h (choiceTo (openIds vs) t i)), true, A2_20, n2_20, c2_20, Kn.of, rfl, (by omega), ((bestTo_next (hst.trans (fd_some (by simpa using q243)))).trans (by rw [show choice (openIds vs) t = choiceTo (openIds vs) t i from by unfold choice; rw [show (openIds vs).length = i by omega]]; exact bestStep_yes q175 (by rw [better_cmp, show (((choiceTo (openIds vs) t i).length : Nat) : Int) = (n2_20 : Int) from by omega, show ((bp.length : Nat) : Int) = (n1_16 : Int) from by omega, decide_eq_true q247]; try rfl))), (fun e => by cases e), (by omega), x15, ho236, nb2_20_b11, rd250, sp2_13_20, c248⟩
   have hlp := rd_ints_len (own_rd ho236)
   have hlb := rd_ints_len (own_rd ho235)
   refine Fq (.bool false) (r_lss (m := (cmpL ([(h (choiceTo (openIds vs) t i)), (n2_20 : Int)]) ([lt, (n1_16 : Int)]))) (n := 0) rfl ek ek (df q247)) ?_
   refine Fq (.bool false) (r_pick (b := false) rfl ek ek) ?_
   refine Fv (.bool false) ?_
   refine Fv (.int .i64 (cmpL ([(h (choiceTo (openIds vs) t i)), (n2_20 : Int)]) ([lt, (n1_16 : Int)]))) ?_
   by_cases q251 : ((cmpL ([(h (choiceTo (openIds vs) t i)), (n2_20 : Int)]) ([lt, (n1_16 : Int)])) : Int) = (0 : Int)
   ·refine Fq (.bool true) (r_eql (m := (cmpL ([(h (choiceTo (openIds vs) t i)), (n2_20 : Int)]) ([lt, (n1_16 : Int)]))) (n := 0) rfl ek ek (dt q251)) ?_
    refine Fv (.bool true) ?_
    refine Fv (.slice A2_20 n2_20 c2_20) ?_
    refine Fv (.slice A1_16 n1_16 c1_16) ?_
    refine Fc [.slice A2_20 n2_20 c2_20, .slice A1_16 n1_16 c1_16] (slCompare_any A2_20 n2_20 c2_20 (choiceTo (openIds vs) t i) A1_16 n1_16 c1_16 bp _ (own_rd ho236) (by omega) (own_rd ho235) (by omega)) ?_
    rintro e w253 ⟨rfl, b252⟩
    have s254 := SG.of_below s242 b252
    refine ⟨_, rfl, s254, ?_⟩
    apply F.nx
    have ho255 := own_kept ho235 b252
    have ho256 := own_kept ho236 b252
    by_cases q259 : ((cmpL (choiceTo (openIds vs) t i) bp) : Int) < (0 : Int)
    ·refine Fq (.bool true) (r_lss (m := (cmpL (choiceTo (openIds vs) t i) bp)) (n := 0) rfl ek ek (dt q259)) ?_
     refine Fq (.bool true) (r_pick (b := true) rfl ek ek) ?_
     refine Fq (.bool true) (r_pick (b := false) rfl ek ek) ?_
     apply F.es
     have x15 := Sk s254 x15 onn
     have c260 := (Sb c239 s254 nkk)
     have rd262 := Rk rd241 (SG.below s254)
     apply h34
     refine wp_cond_true ek ?_
     refine Rq 5 ?_
     refine Fv (.slice A2_20 n2_20 c2_20) ?_
     refine Fv (.int .i64 (h (choiceTo (openIds vs) t i))) ?_
     refine Fa (.slice A2_20 n2_20 c2_20) ?_
     refine Fa (.int .i64 (h (choiceTo (openIds vs) t i))) ?_
     refine Fa (.bool true) ?_
     apply F.es
     apply h18
     refine Rq 2 ?_
     refine Fq (.int .i64 ((t + 1 : Nat) : Int)) (r_add (m := (t : Int)) (n := 1) (z := ((t + 1 : Nat) : Int)) rfl ek ek (by omega) (by omega)) ?_
     refine Fv (.int .i64 ((t + 1 : Nat) : Int)) ?_
     apply F.es
     exact h15 _ _ _ (by omega : (2 ^ n0_13 - (t + 1)) < _) ⟨t + 1, (choiceTo (openIds vs) t i), (h (choiceTo (openIds vs) t i)), true, A2_20, n2_20, c2_20, Kn.of, rfl, (by omega), ((bestTo_next (hst.trans (fd_some (by simpa using q243)))).trans (by rw [show choice (openIds vs) t = choiceTo (openIds vs) t i from by unfold choice; rw [show (openIds vs).length = i by omega]]; exact bestStep_yes q175 (by rw [better_cmp, show (((choiceTo (openIds vs) t i).length : Nat) : Int) = (n2_20 : Int) from by omega, show ((bp.length : Nat) : Int) = (n1_16 : Int) from by omega, decide_eq_false q247, decide_eq_true q251, decide_eq_true q259]; try rfl))), (fun e => by cases e), (by omega), x15, ho256, nb2_20_b11, rd262, sp2_13_20, c260⟩
    refine Fq (.bool false) (r_lss (m := (cmpL (choiceTo (openIds vs) t i) bp)) (n := 0) rfl ek ek (df q259)) ?_
    refine Fq (.bool false) (r_pick (b := true) rfl ek ek) ?_
    refine Fq (.bool false) (r_pick (b := false) rfl ek ek) ?_
    apply F.es
    have x15 := Sk s254 x15 onn
    have c263 := (Sb c239 s254 nkk)
    have rd265 := Rk rd241 (SG.below s254)
    apply h34
    refine wp_cond_false ek ?_
    apply wp_skip
    apply h18
    refine Rq 2 ?_
    refine Fq (.int .i64 ((t + 1 : Nat) : Int)) (r_add (m := (t : Int)) (n := 1) (z := ((t + 1 : Nat) : Int)) rfl ek ek (by omega) (by omega)) ?_
    refine Fv (.int .i64 ((t + 1 : Nat) : Int)) ?_
    apply F.es
    exact h15 _ _ _ (by omega : (2 ^ n0_13 - (t + 1)) < _) ⟨t + 1, bp, lt, fd, A1_16, n1_16, c1_16, Kn.of, rfl, (by omega), ((bestTo_next (hst.trans (fd_some (by simpa using q243)))).trans (by rw [show choice (openIds vs) t = choiceTo (openIds vs) t i from by unfold choice; rw [show (openIds vs).length = i by omega], bestStep_keep (by rw [better_cmp, show (((choiceTo (openIds vs) t i).length : Nat) : Int) = (n2_20 : Int) from by omega, show ((bp.length : Nat) : Int) = (n1_16 : Int) from by omega, decide_eq_false q247, decide_eq_true q251, decide_eq_false q259]; try rfl), show fd = true from (by simpa using q243)]; try rfl)), hnf, (by omega), x15, ho255, nb1_16_b11, rd265, sp1_13_16, c263⟩
   refine Fq (.bool false) (r_eql (m := (cmpL ([(h (choiceTo (openIds vs) t i)), (n2_20 : Int)]) ([lt, (n1_16 : Int)]))) (n := 0) rfl ek ek (df q251)) ?_
   refine Fv (.bool false) ?_
   refine Fs s242 ?_
   refine Fs s242 ?_
   refine Fs s242 ?_
   refine Fs s242 ?_
   refine Fq (.bool false) (r_pick (b := false) rfl ek ek) ?_
   refine Fq (.bool false) (r_pick (b := false) rfl ek ek) ?_
   apply F.es
   have x15 := Sk s242 x15 onn
   have c266 := (Sb c239 s242 nkk)
   have rd268 := Rk rd241 (SG.below s242)
   apply h34
   refine wp_cond_false ek ?_
   apply wp_skip
   apply h18
   refine Rq 2 ?_
   refine Fq (.int .i64 ((t + 1 : Nat) : Int)) (r_add (m := (t : Int)) (n := 1) (z := ((t + 1 : Nat) : Int)) rfl ek ek (by omega) (by omega)) ?_
   refine Fv (.int .i64 ((t + 1 : Nat) : Int)) ?_
   apply F.es
   exact h15 _ _ _ (by omega : (2 ^ n0_13 - (t + 1)) < _) ⟨t + 1, bp, lt, fd, A1_16, n1_16, c1_16, Kn.of, rfl, (by omega), ((bestTo_next (hst.trans (fd_some (by simpa using q243)))).trans (by rw [show choice (openIds vs) t = choiceTo (openIds vs) t i from by unfold choice; rw [show (openIds vs).length = i by omega], bestStep_keep (by rw [better_cmp, show (((choiceTo (openIds vs) t i).length : Nat) : Int) = (n2_20 : Int) from by omega, show ((bp.length : Nat) : Int) = (n1_16 : Int) from by omega, decide_eq_false q247, decide_eq_false q251]; try rfl), show fd = true from (by simpa using q243)]; try rfl)), hnf, (by omega), x15, ho235, nb1_16_b11, rd268, sp1_13_16, c266⟩
  rw [q175]
  refine Fq (.bool true) (r_not (b := false) rfl ek rfl) ?_
  apply F.es
  have x15 := Sk s172 x15 onn
  have c269 := (Sb c127 s172 nkk)
  have rd271 := Rk rd2_13 (SG.below s172)
  apply h31
  refine wp_cond_true ek ?_
  refine wp_exit ?_
  apply h18
  refine Rq 2 ?_
  refine Fq (.int .i64 ((t + 1 : Nat) : Int)) (r_add (m := (t : Int)) (n := 1) (z := ((t + 1 : Nat) : Int)) rfl ek ek (by omega) (by omega)) ?_
  refine Fv (.int .i64 ((t + 1 : Nat) : Int)) ?_
  apply F.es
  exact h15 _ _ _ (by omega : (2 ^ n0_13 - (t + 1)) < _) ⟨t + 1, bp, lt, fd, A1_16, n1_16, c1_16, Kn.of, rfl, (by omega), ((bestTo_next hst).trans (bestStep_no (by rw [show choice (openIds vs) t = choiceTo (openIds vs) t i from by unfold choice; rw [show (openIds vs).length = i by omega]]; exact q175))), hnf, (by omega), x15, ho173, nb1_16_b11, rd271, sp1_13_16, c269⟩
 refine Fq (.bool false) (r_lss (m := (t : Int)) (n := ((2 ^ n0_13 : Nat) : Int)) rfl ek ek (df q108)) ?_
 apply F.es
 apply h16
 refine wk fun K35 h35 => ?_
 refine wp_cond_false ek ?_
 refine wp_exit ?_
 apply h13
 refine wk fun K36 h36 => ?_
 refine Rq 6 ?_
 refine Fv (.slice A1_16 n1_16 c1_16) ?_
 refine Fv (.int .i64 lt) ?_
 refine Fv (.bool fd) ?_
 refine Fa (.slice A1_16 n1_16 c1_16) ?_
 refine Fa (.int .i64 lt) ?_
 refine Fa (.bool fd) ?_
 apply F.es
 apply h36
 refine wp_ret ?_
 try simp only [Exit.then]
 refine ret3 (v := .slice A1_16 n1_16 c1_16) (x := .int .i64 lt) (y := .bool fd) rfl kk kk kk ?_
 obtain ⟨e1, e2, e3⟩ := best_fin (r := bestOf (cutB ps vs s id) h (openIds vs)) (by unfold bestOf; rw [show 2 ^ (openIds vs).length = t by rw [show (openIds vs).length = n0_13 by omega]; omega]; exact hst) hnf
 have hbl := rd_ints_len (own_rd ho1_16)
 exact ⟨_, _, by rw [← e1, ← e2, ← e3, hbl], (by rw [← e1, hbl]; exact ho1_16), c107⟩
end Go.Proofs.Ytdbgfejeleafgaa
namespace Go.Proofs.Ytdbgfejeleafgaa
open Go.RowKit
set_option linter.unusedVariables false
set_option linter.unusedSimpArgs false
noncomputable def bestR (ps : List Pp) (vs : List Vv) (s id : Int) (cs : List Int) : Option (List Int × Int) := bestOf (cutB ps vs s id) (harmL ps vs s cs) (openIds vs)
theorem bp_none {r : Option (List Int × Int)} (h : r.isSome = false) : bpOf' r = [] := by
  cases r with
  | none => rfl
  | some b => cases h
theorem least_yes {r : Option (List Int × Int)} (h : 0 ≤ leastOf r) : r.isSome = true := by
  cases r with
  | none => exact absurd h (by show ¬ (0 : Int) ≤ -1; omega)
  | some b => rfl
theorem least_no {ps : List Pp} {vs : List Vv} {s id : Int} {cs : List Int} (hc : ∀ c, c ∈ cs → 0 ≤ c ∧ c ≤ 1000) (h : ¬ 0 ≤ leastOf (bestR ps vs s id cs)) : (bestR ps vs s id cs).isSome = false := by
  cases e : bestR ps vs s id cs with
  | none => rfl
  | some b =>
    unfold bestR at e
    obtain ⟨t, h1, h2, h3⟩ := bestOf_in e
    exfalso; apply h
    unfold bestR
    rw [e]
    show 0 ≤ b.2
    rw [h3]; exact harmL_nn hc
end Go.Proofs.Ytdbgfejeleafgaa
namespace Go.Proofs.Ytdbgfejeleafgaa
open Go.RowKit
set_option linter.unusedVariables false
set_option linter.unusedSimpArgs false
noncomputable def ShortestPlan_v1 (m : Int) (ps : List Pp) (vs : List Vv) (s id : Int) : Bool := canB m ps vs s id && (bestR ps vs s id []).isSome
noncomputable def ShortestPlan_v0 (m : Int) (ps : List Pp) (vs : List Vv) (s id : Int) : List Int := if ShortestPlan_v1 m ps vs s id = true then bpOf (bestR ps vs s id []) else []
theorem ShortestPlan_len (m : Int) (ps : List Pp) (vs : List Vv) (s id : Int) : (ShortestPlan_v0 m ps vs s id).length ≤ 1048576 := by
  unfold ShortestPlan_v0
  split
  · rename_i h
    have hc : canB m ps vs s id = true := by unfold ShortestPlan_v1 at h; rw [Bool.and_eq_true] at h; exact h.1
    have h8 := (canB_of hc).1.len
    have h9 := bestP_len (ps := ps) (s := s) (id := id) (h := harmL ps vs s []) (canB_of hc).1.len
    unfold bestR; omega
  · simp
set_option maxRecDepth 100000 in
set_option maxHeartbeats 8000000 in
theorem shortF_any (A3 : Option Addr) (n3 c3 : Nat) (w : World) :
    Calls Try.prog 111 #[.slice A3 n3 c3] w fun e w' => e = .returned (.int .i64 0) ∧ Below w.heap.size w w' := by
 go_enter Try.func111, Try.ntmps111
 refine F.begin 3 [(0, .slice A3 n3 c3)] (fun U0 => ?_)
 refine wk fun K1 h1 => ?_
 refine Rq 1 ?_
 refine Fa (.int .i64 0) ?_
 apply F.es
 apply h1
 refine wk fun K2 h2 => ?_
 refine Rq 1 ?_
 refine Fa (.int .i64 0) ?_
 apply F.es
 apply h2
 refine wp_ret ?_
 try simp only [Exit.then]
 refine ret1 (v := .int .i64 0) rfl kk ?_
 exact ⟨rfl, (Below.refl _ _)⟩
set_option maxRecDepth 100000 in
set_option maxHeartbeats 8000000 in
theorem ShortestPlan_impl (m : Int) (A : Option Addr) (n c : Nat) (ps : List Pp) (A2 : Option Addr) (n2 c2 : Nat) (vs : List Vv) (s id : Int) (w : World) (ha : Rd w 4 A n (pipesV ps)) (hb : Rd w 4 A2 n2 (valvesV vs)) (hn : n ≤ 1048576) (hn2 : n2 ≤ 1048576) (hfm : Fm A n c) (hfm2 : Fm A2 n2 c2) :
    Calls Try.prog 47 #[.agg #[.int .i64 m, .slice A n c], .slice A2 n2 c2, .int .i64 s, .int .i64 id] w fun e w' => ∃ A' d, e = .returned (.tuple #[.slice A' (ShortestPlan_v0 m ps vs s id).length d, .bool (ShortestPlan_v1 m ps vs s id)]) ∧ w'.ownsRow w.heap.size 3 1 (.slice A' (ShortestPlan_v0 m ps vs s id).length d) (ShortestPlan_v0 m ps vs s id).length (intsV (ShortestPlan_v0 m ps vs s id)) ∧ Below w.heap.size w w' := by
 have hl := rd_pipes_len ha
 have hl2 := rd_valves_len hb
 have hfl := findL_lt ps id
 go_enter Try.func47, Try.ntmps47
 refine F.begin 31 [(0, .agg #[.int .i64 m, .slice A n c]), (1, .slice A2 n2 c2), (2, .int .i64 s), (3, .int .i64 id)] (fun U0 => ?_)
 refine wk fun K1 h1 => ?_
 refine W.region_plain (row := none) [(0, true), (1, false), (2, false)] kk ?_
 have s1 := SG.self w none
 refine W.sn (fun b => .pointer (some ⟨b, 0, none⟩)) #[.int .i64 m, .slice A n c] 26 s1 rfl kk rfl (fun _ => by kernel_rfl) (fun b2 w3 hb4 k5 x6 s7 => ?_)
 apply F.nx
 have lo8 : w.heap.size ≤ b2 := Nl ((Sb (Below.refl _ _) s1 nkk)).size (Nat.le_of_eq hb4)
 refine Fa (.slice none 0 0) ?_
 refine Fa (.bool false) ?_
 apply F.es
 have c9 := (Sb (Below.refl _ _) s7 nkk)
 apply h1
 refine wk fun K2 h2 => ?_
 refine wk fun K3 h3 => ?_
 refine W.region_plain (row := none) [(0, false), (1, false), (2, false), (3, false), (4, true), (5, false)] kk ?_
 have s10 := SG.self w3 none
 refine Fq (.agg #[.int .i64 m, .slice A n c]) (r_load2 rfl ek kk kk (sgS (blk_cell (j := 0) x6 kk) onn) (sgS (blk_cell (j := 1) x6 kk) onn)) ?_
 refine Fv (.slice A2 n2 c2) ?_
 refine Fv (.int .i64 s) ?_
 refine Fv (.int .i64 id) ?_
 refine Fc [.agg #[.int .i64 m, .slice A n c], .slice A2 n2 c2, .int .i64 s, .int .i64 id] (canBurst_any m A n c ps A2 n2 c2 vs s id _ (Rk ha (Sb c9 s10 nkk)) (Rk hb (Sb c9 s10 nkk)) (by omega) (by omega) hfm2) ?_
 rintro e w12 ⟨rfl, b11⟩
 have s13 := SG.of_below s10 b11
 refine ⟨_, rfl, s13, ?_⟩
 apply F.nx
 rcases Bool.eq_false_or_eq_true (canB m ps vs s id) with q14 | q14
 ·rw [q14]
  obtain ⟨hv9, hs, hfa⟩ := canB_of q14
  have hg := hv9.net
  have hgl := hg.lo
  have hgh := hg.hi
  have hp := hg.pipesIn
  have hlen10 := hg.len
  have hu := hv9.uniq
  have hvl := hv9.len
  refine Fq (.bool false) (r_not (b := true) rfl ek rfl) ?_
  apply F.es
  have x6 := Sk s13 x6 onn
  have c15 := (Sb c9 s13 nkk)
  apply h3
  refine wp_cond_false ek ?_
  apply wp_skip
  apply h2
  refine wk fun K4 h4 => ?_
  refine W.region_plain (row := none) [(0, false), (1, false), (2, false), (3, false), (4, true), (5, false), (6, false), (7, false), (8, false), (9, false), (10, false), (11, false)] kk ?_
  have s16 := SG.self w12 none
  refine Fq (.agg #[.int .i64 m, .slice A n c]) (r_load2 rfl ek kk kk (sgS (blk_cell (j := 0) x6 kk) onn) (sgS (blk_cell (j := 1) x6 kk) onn)) ?_
  refine Fv (.slice A2 n2 c2) ?_
  refine Fv (.int .i64 s) ?_
  refine Fv (.int .i64 id) ?_
  have z21 := ((Sb c15 s16 nkk)).size
  refine Fc [.agg #[.int .i64 m, .slice A n c], .slice A2 n2 c2, .int .i64 s, .int .i64 id, .func (.func 111) #[] #[]] (bestPlan_any m A n c ps A2 n2 c2 vs s id 111 #[] (harmL ps vs s ([])) _ (Rk ha (Sb c15 s16 nkk)) (Rk hb (Sb c15 s16 nkk)) (by omega) (by omega) hfm2 hv9 hs hfa kk (fun W A9 n9 c9 pl9 hW hr9 hn9 => shortF_any A9 n9 c9 W)) ?_
  rintro e w24 ⟨A17, c18, rfl, ho19, b23⟩
  have s25 := SG.of_below s16 b23
  refine ⟨_, rfl, s25, ?_⟩
  apply F.nx
  have ho20 := own_base (base' := w.heap.size) ho19 z21
  refine Fv (.tuple #[.slice A17 ((bpOf (bestR ps vs s id ([]))).length) c18, .int .i64 (ltOf (bestR ps vs s id ([]))), .bool ((bestR ps vs s id ([])).isSome)]) ?_
  refine Fq (.slice A17 ((bpOf (bestR ps vs s id ([]))).length) c18) (r_extract (vs := #[.slice A17 ((bpOf (bestR ps vs s id ([]))).length) c18, .int .i64 (ltOf (bestR ps vs s id ([]))), .bool ((bestR ps vs s id ([])).isSome)]) rfl ek kk) ?_
  refine Fq (.int .i64 (ltOf (bestR ps vs s id ([])))) (r_extract (vs := #[.slice A17 ((bpOf (bestR ps vs s id ([]))).length) c18, .int .i64 (ltOf (bestR ps vs s id ([]))), .bool ((bestR ps vs s id ([])).isSome)]) rfl ek kk) ?_
  refine Fq (.bool ((bestR ps vs s id ([])).isSome)) (r_extract (vs := #[.slice A17 ((bpOf (bestR ps vs s id ([]))).length) c18, .int .i64 (ltOf (bestR ps vs s id ([]))), .bool ((bestR ps vs s id ([])).isSome)]) rfl ek kk) ?_
  refine Fa (.slice A17 ((bpOf (bestR ps vs s id ([]))).length) c18) ?_
  refine Fa (.int .i64 (ltOf (bestR ps vs s id ([])))) ?_
  refine Fa (.bool ((bestR ps vs s id ([])).isSome)) ?_
  apply F.es
  have c27 := (Sb c15 s25 nkk)
  apply h4
  refine wk fun K5 h5 => ?_
  refine wk fun K6 h6 => ?_
  refine Rq 2 ?_
  refine Fv (.bool ((bestR ps vs s id ([])).isSome)) ?_
  refine Fq (.bool (!((bestR ps vs s id ([])).isSome))) (r_not (b := ((bestR ps vs s id ([])).isSome)) rfl ek rfl) ?_
  apply F.es
  apply h6
  rcases Bool.eq_false_or_eq_true (!((bestR ps vs s id ([])).isSome)) with q28 | q28
  ·rw [q28]
   refine wp_cond_true ek ?_
   refine wk fun K7 h7 => ?_
   refine Rq 2 ?_
   refine Fa (.slice none 0 0) ?_
   refine Fa (.bool false) ?_
   apply F.es
   apply h7
   refine wp_ret ?_
   try simp only [Exit.then]
   refine ret2 (v := .slice none 0 0) (x := .bool false) rfl kk kk ?_
   have e7 : (bestR ps vs s id ([])).isSome = false := (by have h9 := q28; rw [Bool.not_eq_true'] at h9; exact h9)
   have e8 : ShortestPlan_v1 m ps vs s id = false := by unfold ShortestPlan_v1; rw [q14, e7]; try rfl
   exact fin_ints (zs := []) (World.ownsRow_nil _ _ _ _) (by unfold ShortestPlan_v0; rw [if_neg (by rw [e8]; simp)]) e8.symm c27
  rw [q28]
  refine wp_cond_false ek ?_
  apply wp_skip
  apply h5
  refine wk fun K8 h8 => ?_
  refine Rq 3 ?_
  refine Fv (.slice A17 ((bpOf (bestR ps vs s id ([]))).length) c18) ?_
  refine Fa (.slice A17 ((bpOf (bestR ps vs s id ([]))).length) c18) ?_
  refine Fa (.bool true) ?_
  apply F.es
  apply h8
  refine wp_ret ?_
  try simp only [Exit.then]
  refine ret2 (v := .slice A17 ((bpOf (bestR ps vs s id ([]))).length) c18) (x := .bool true) rfl kk kk ?_
  have e7 : (bestR ps vs s id ([])).isSome = true := (by have h9 := q28; rw [Bool.not_eq_false'] at h9; exact h9)
  have e8 : ShortestPlan_v1 m ps vs s id = true := by unfold ShortestPlan_v1; rw [q14, e7]; try rfl
  exact fin_ints  ho20 (by unfold ShortestPlan_v0; rw [if_pos e8] <;> first | done | rfl) e8.symm c27
 rw [q14]
 refine Fq (.bool true) (r_not (b := false) rfl ek rfl) ?_
 apply F.es
 have c29 := (Sb c9 s13 nkk)
 apply h3
 refine wp_cond_true ek ?_
 refine wk fun K9 h9 => ?_
 refine Rq 2 ?_
 refine Fa (.slice none 0 0) ?_
 refine Fa (.bool false) ?_
 apply F.es
 apply h9
 refine wp_ret ?_
 try simp only [Exit.then]
 refine ret2 (v := .slice none 0 0) (x := .bool false) rfl kk kk ?_
 have e8 : ShortestPlan_v1 m ps vs s id = false := by unfold ShortestPlan_v1; rw [q14]; try rfl
 exact fin_ints (zs := []) (World.ownsRow_nil _ _ _ _) (by unfold ShortestPlan_v0; rw [if_neg (by rw [e8]; simp)]) e8.symm c29
set_option maxRecDepth 100000 in
set_option maxHeartbeats 8000000 in
theorem ShortestPlan_spec (m : Int) (A : Option Addr) (n c : Nat) (ps : List Pp) (A2 : Option Addr) (n2 c2 : Nat) (vs : List Vv) (s id : Int) (w : World) (ha : Rd w 4 A n (pipesV ps)) (hb : Rd w 4 A2 n2 (valvesV vs)) (hn : n ≤ 1048576) (hn2 : n2 ≤ 1048576) (hfm : Fm A n c) (hfm2 : Fm A2 n2 c2) :
    Calls Try.prog 48 #[.agg #[.int .i64 m, .slice A n c], .slice A2 n2 c2, .int .i64 s, .int .i64 id] w fun e w' => ∃ A' d, e = .returned (.tuple #[.slice A' (ShortestPlan_v0 m ps vs s id).length d, .bool (ShortestPlan_v1 m ps vs s id)]) ∧ Rd w' 1 A' (ShortestPlan_v0 m ps vs s id).length (intsV (ShortestPlan_v0 m ps vs s id)) ∧ Below w.heap.size w w' := by
 have hl := rd_pipes_len ha
 have hl2 := rd_valves_len hb
 have hfl := findL_lt ps id
 go_enter Try.func48, Try.ntmps48
 refine F.begin 31 [(0, .agg #[.int .i64 m, .slice A n c]), (1, .slice A2 n2 c2), (2, .int .i64 s), (3, .int .i64 id)] (fun U0 => ?_)
 refine wk fun K1 h1 => ?_
 refine W.region_plain (row := none) [(0, true), (1, false), (2, false)] kk ?_
 have s1 := SG.self w none
 refine W.sn (fun b => .pointer (some ⟨b, 0, none⟩)) #[.int .i64 m, .slice A n c] 26 s1 rfl kk rfl (fun _ => by kernel_rfl) (fun b2 w3 hb4 k5 x6 s7 => ?_)
 apply F.nx
 have lo8 : w.heap.size ≤ b2 := Nl ((Sb (Below.refl _ _) s1 nkk)).size (Nat.le_of_eq hb4)
 refine Fa (.slice none 0 0) ?_
 refine Fa (.bool false) ?_
 apply F.es
 have c9 := (Sb (Below.refl _ _) s7 nkk)
 apply h1
 refine wk fun K2 h2 => ?_
 refine wk fun K3 h3 => ?_
 refine W.region_plain (row := none) [(0, false), (1, false), (2, false), (3, false), (4, true), (5, false)] kk ?_
 have s10 := SG.self w3 none
 refine Fq (.agg #[.int .i64 m, .slice A n c]) (r_load2 rfl ek kk kk (sgS (blk_cell (j := 0) x6 kk) onn) (sgS (blk_cell (j := 1) x6 kk) onn)) ?_
 refine Fv (.slice A2 n2 c2) ?_
 refine Fv (.int .i64 s) ?_
 refine Fv (.int .i64 id) ?_
 refine Fc [.agg #[.int .i64 m, .slice A n c], .slice A2 n2 c2, .int .i64 s, .int .i64 id] (l5Asked_any m A n c ps A2 n2 c2 vs s id _ (Rk ha (Sb c9 s10 nkk)) (Rk hb (Sb c9 s10 nkk)) (by omega) (by omega) hfm2) ?_
 rintro e w12 ⟨rfl, b11⟩
 have s13 := SG.of_below s10 b11
 refine ⟨_, rfl, s13, ?_⟩
 apply F.nx
 rcases Bool.eq_false_or_eq_true (canB m ps vs s id) with q14 | q14
 ·rw [q14]
  obtain ⟨hv9, hs, hfa⟩ := canB_of q14
  have hg := hv9.net
  have hgl := hg.lo
  have hgh := hg.hi
  have hp := hg.pipesIn
  have hlen10 := hg.len
  have hu := hv9.uniq
  have hvl := hv9.len
  refine Fq (.bool false) (r_not (b := true) rfl ek rfl) ?_
  apply F.es
  have x6 := Sk s13 x6 onn
  have c15 := (Sb c9 s13 nkk)
  apply h3
  refine wp_cond_false ek ?_
  apply wp_skip
  apply h2
  refine wk fun K4 h4 => ?_
  refine W.region_plain (row := none) [(0, false), (1, false), (2, false), (3, false), (4, true), (5, true), (6, false), (7, false), (8, false), (9, false), (10, false)] kk ?_
  have s16 := SG.self w12 none
  refine Fq (.agg #[.int .i64 m, .slice A n c]) (r_load2 rfl ek kk kk (sgS (blk_cell (j := 0) x6 kk) onn) (sgS (blk_cell (j := 1) x6 kk) onn)) ?_
  refine Fv (.slice A2 n2 c2) ?_
  refine Fv (.int .i64 s) ?_
  refine Fv (.int .i64 id) ?_
  refine W.sn (fun b => .slice (some ⟨b, 0, none⟩) 0 0) #[] 3 s16 rfl kk rfl (fun _ => by kernel_rfl) (fun b17 w18 hb19 k20 x21 s22 => ?_)
  apply F.nx
  have lo23 : w.heap.size ≤ b17 := Nl ((Sb c15 s16 nkk)).size (Nat.le_of_eq hb19)
  have ho25 := own_empty (base := w.heap.size) (size := 1) x21 lo23
  replace ho25 : World.ownsRow _ _ _ _ _ _ (intsV []) := ho25
  have lr34 := World.ownsRow.lt ho25
  have z32 := ((Sb c15 s22 nkk)).size
  refine Fc [.agg #[.int .i64 m, .slice A n c], .slice A2 n2 c2, .int .i64 s, .int .i64 id, .slice (some ⟨b17, 0, none⟩) 0 0] (l5Best_any m A n c ps A2 n2 c2 vs s id (some ⟨b17, 0, none⟩) 0 0 ([]) _ (Rk ha (Sb c15 s22 nkk)) (Rk hb (Sb c15 s22 nkk)) (by omega) (by omega) hfm2 hv9 hs hfa (own_rd ho25) (by omega) (fun c hc => by cases hc) (.inl rfl)) ?_
  rintro e w36 ⟨A27, n28, c29, rfl, ho30, b35⟩
  have s37 := SG.of_below s22 b35
  refine ⟨_, rfl, s37, ?_⟩
  apply F.nx
  have ho31 := own_base (base' := w.heap.size) ho30 z32
  refine Fv (.tuple #[.slice A27 n28 c29, .int .i64 (leastOf (bestR ps vs s id ([])))]) ?_
  refine Fq (.slice A27 n28 c29) (r_extract (vs := #[.slice A27 n28 c29, .int .i64 (leastOf (bestR ps vs s id ([])))]) rfl ek kk) ?_
  refine Fq (.int .i64 (leastOf (bestR ps vs s id ([])))) (r_extract (vs := #[.slice A27 n28 c29, .int .i64 (leastOf (bestR ps vs s id ([])))]) rfl ek kk) ?_
  refine Fa (.slice A27 n28 c29) ?_
  refine Fa (.int .i64 (leastOf (bestR ps vs s id ([])))) ?_
  apply F.es
  have c41 := (Sb c15 s37 nkk)
  apply h4
  refine wk fun K5 h5 => ?_
  refine Rq 5 ?_
  refine Fv (.slice A27 n28 c29) ?_
  refine Fv (.int .i64 (leastOf (bestR ps vs s id ([])))) ?_
  by_cases q42 : ((leastOf (bestR ps vs s id ([]))) : Int) ≥ (0 : Int)
  ·refine Fq (.bool true) (r_geq (m := (leastOf (bestR ps vs s id ([])))) (n := 0) rfl ek ek (dt q42)) ?_
   refine Fa (.slice A27 n28 c29) ?_
   refine Fa (.bool true) ?_
   apply F.es
   apply h5
   refine wp_ret ?_
   try simp only [Exit.then]
   refine ret2 (v := .slice A27 n28 c29) (x := .bool true) rfl kk kk ?_
   have e7 : (bestR ps vs s id ([])).isSome = true := least_yes (by omega)
   have e8 : ShortestPlan_v1 m ps vs s id = true := by unfold ShortestPlan_v1; rw [q14, e7]; try rfl
   exact fin_rd  (own_rd ho31) (by unfold ShortestPlan_v0; rw [if_pos e8] <;> first | done | rfl) e8.symm c41
  refine Fq (.bool false) (r_geq (m := (leastOf (bestR ps vs s id ([])))) (n := 0) rfl ek ek (df q42)) ?_
  refine Fa (.slice A27 n28 c29) ?_
  refine Fa (.bool false) ?_
  apply F.es
  apply h5
  refine wp_ret ?_
  try simp only [Exit.then]
  refine ret2 (v := .slice A27 n28 c29) (x := .bool false) rfl kk kk ?_
  have e7 : (bestR ps vs s id ([])).isSome = false := least_no (fun c hc => by cases hc) (by omega)
  have e8 : ShortestPlan_v1 m ps vs s id = false := by unfold ShortestPlan_v1; rw [q14, e7]; try rfl
  exact fin_rd  (own_rd ho31) (by unfold ShortestPlan_v0; rw [if_neg (by rw [e8]; simp)]; exact bp_none e7) e8.symm c41
 rw [q14]
 refine Fq (.bool true) (r_not (b := false) rfl ek rfl) ?_
 apply F.es
 have c43 := (Sb c9 s13 nkk)
 apply h3
 refine wp_cond_true ek ?_
 refine wk fun K6 h6 => ?_
 refine W.region_plain (row := none) [(0, true), (1, false), (2, false)] kk ?_
 have s44 := SG.self w12 none
 refine W.sn (fun b => .slice (some ⟨b, 0, none⟩) 0 0) #[] 3 s44 rfl kk rfl (fun _ => by kernel_rfl) (fun b45 w46 hb47 k48 x49 s50 => ?_)
 apply F.nx
 have lo51 : w.heap.size ≤ b45 := Nl ((Sb c43 s44 nkk)).size (Nat.le_of_eq hb47)
 refine Fa (.slice (some ⟨b45, 0, none⟩) 0 0) ?_
 refine Fa (.bool false) ?_
 apply F.es
 have c53 := (Sb c43 s50 nkk)
 apply h6
 refine wp_ret ?_
 try simp only [Exit.then]
 refine ret2 (v := .slice (some ⟨b45, 0, none⟩) 0 0) (x := .bool false) rfl kk kk ?_
 have ho54 := own_empty (base := w.heap.size) (size := 1) x49 lo51
 replace ho54 : World.ownsRow _ _ _ _ _ _ (intsV []) := ho54
 have e8 : ShortestPlan_v1 m ps vs s id = false := by unfold ShortestPlan_v1; rw [q14]; try rfl
 exact fin_rd (zs := []) (own_rd ho54) (by unfold ShortestPlan_v0; rw [if_neg (by rw [e8]; simp)]) e8.symm c53
end Go.Proofs.Ytdbgfejeleafgaa
namespace Go.Proofs.Ytdbgfejeleafgaa
open Go.RowKit
set_option linter.unusedVariables false
set_option linter.unusedSimpArgs false
end Go.Proofs.Ytdbgfejeleafgaa
