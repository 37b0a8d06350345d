/- What the texts behind it build on; conditions: none. -/
import Derived.Test.YtdbgfejeleafgaaPg3
namespace Go.Proofs.Ytdbgfejeleafgaa
open Go.RowKit
set_option linter.unusedVariables false
set_option linter.unusedSimpArgs false
theorem openQ_no {vs : List Vv} {only : Bool} {p : Pp} {v : Int} (h : blocked vs p.id v only = true) : openQ vs only p v = false := by unfold openQ; rw [h]; rfl
theorem openQ_yes {vs : List Vv} {only : Bool} {p : Pp} {v : Int} (h : blocked vs p.id v only = false) : openQ vs only p v = true := by unfold openQ; rw [h]; rfl
set_option maxRecDepth 100000 in
set_option maxHeartbeats 8000000 in
theorem l4Spread_true (m : Int) (A : Option Addr) (n c : Nat) (ps : List Pp) (A2 : Option Addr) (n2 c2 : Nat) (vs : List Vv) (a : Int) (A3 : Option Addr) (n3 c3 : Nat) (ys : List Int) (A4 : Option Addr) (n4 c4 : Nat) (xs : List Int) (w : World) (ha : Rd w 4 A n (pipesV ps)) (hb : Rd w 4 A2 n2 (valvesV vs)) (hn : n ≤ 1048576) (hn2 : n2 ≤ 1048576) (hp : pipesIn ps m.toNat) (hm : 1 ≤ m ∧ m ≤ 8) (hlen10 : ps.length ≤ 10) (hy : Rd w 1 A3 n3 (intsV ys)) (hfy : Fm A3 n3 c3) (hx : Rd w 1 A4 n4 (intsV xs)) (hfx : Fm A4 n4 c4) (hq0 : FndQ (linked ps (openQ vs true)) m.toNat ps.length a ys xs) :
    Calls Try.prog 77 #[.agg #[.int .i64 m, .slice A n c], .slice A2 n2 c2, .bool true, .slice A3 n3 c3, .slice A4 n4 c4] w fun e w' => ∃ A5 n5 c5 A6 n6 c6, e = .returned (.tuple #[.slice A5 n5 c5, .slice A6 n6 c6]) ∧ Rd w' 1 A5 n5 (intsV (nodesL (linked ps (openQ vs true)) m.toNat a true)) ∧ Fm A5 n5 c5 ∧ Rd w' 1 A6 n6 (intsV (idxL (linked ps (openQ vs true)) ps.length a true)) ∧ Fm A6 n6 c6 ∧ Below w.heap.size w w' := by
 have hl := rd_pipes_len ha
 have hl2 := rd_valves_len hb
 have hly := rd_ints_len hy
 have hlx := rd_ints_len hx
 have hfl0 := hq0.len
 go_enter Try.func77, Try.ntmps77
 refine F.begin 65 [(0, .agg #[.int .i64 m, .slice A n c]), (1, .slice A2 n2 c2), (2, .bool true), (3, .slice A3 n3 c3), (4, .slice A4 n4 c4)] (fun U0 => ?_)
 refine wk fun K1 h1 => ?_
 refine W.region_plain (row := none) [(0, true), (1, false), (2, false)] kk ?_
 have s1 := SG.self w none
 refine W.sn (fun b => .pointer (some ⟨b, 0, none⟩)) #[.int .i64 m, .slice A n c] 26 s1 rfl kk rfl (fun _ => by kernel_rfl) (fun b2 w3 hb4 k5 x6 s7 => ?_)
 apply F.nx
 have lo8 : w.heap.size ≤ b2 := Nl ((Sb (Below.refl _ _) s1 nkk)).size (Nat.le_of_eq hb4)
 refine Fa (.slice none 0 0) ?_
 refine Fa (.slice none 0 0) ?_
 apply F.es
 have c9 := (Sb (Below.refl _ _) s7 nkk)
 apply h1
 refine wk fun K2 h2 => ?_
 refine wk fun K3 h3 => ?_
 refine Rq 1 ?_
 refine Fa (.bool true) ?_
 apply F.es
 apply h3
 refine wp_block ?_
 refine loopK (fun am0 aa0 wl0 => ∃ (ys0 : List Int) (xs0 : List Int) (mo : Bool) (A0_3 : Option Addr) (n0_3 : Nat) (c0_3 : Nat) (A0_4 : Option Addr) (n0_4 : Nat) (c0_4 : Nat) , Kn aa0 [(0, .agg #[.int .i64 m, .slice A n c]), (1, .slice A2 n2 c2), (2, .bool true), (3, .slice A0_3 n0_3 c0_3), (4, .slice A0_4 n0_4 c0_4), (5, .pointer (some ⟨b2, 0, none⟩)), (10, .slice none 0 0), (11, .slice none 0 0), (12, .bool mo)] 65 ∧ (am0 = 2 * (18 - ys0.length - xs0.length) + mo.toNat) ∧ (FndQ (linked ps (openQ vs true)) m.toNat ps.length a ys0 xs0) ∧ (mo = false → shutE ps (openQ vs true) (inQ ys0 xs0) ps.length) ∧ (wl0.heap[b2]? = some (.cells #[.int .i64 m, .slice A n c] 26 (0, 0))) ∧ (Fm A0_3 n0_3 c0_3) ∧ (Rd wl0 1 A0_3 n0_3 (intsV ys0)) ∧ (Fm A0_4 n0_4 c0_4) ∧ (Rd wl0 1 A0_4 n0_4 (intsV xs0)) ∧ (Below w.heap.size w wl0)) (2 * (18 - ys.length - xs.length) + true.toNat) ?_ ?_
 ·exact ⟨ys, xs, true, A3, n3, c3, A4, n4, c4, Kn.of, rfl, hq0, (fun e => by cases e), x6, hfy, (Rk hy c9), hfx, (Rk hx c9), c9⟩
 rintro am0 aa0 wl0 K4 h4 ⟨ys0, xs0, mo, A0_3, n0_3, c0_3, A0_4, n0_4, c0_4, ⟨U0, rfl⟩, rfl, hf, hsh, x6, fm0_3, rd0_3, fm0_4, rd0_4, c10⟩
 have hl0_3 := rd_ints_len rd0_3
 have hl0_4 := rd_ints_len rd0_4
 have hfl := hf.len
 refine wk fun K5 h5 => ?_
 refine wk fun K6 h6 => ?_
 refine Rq 1 ?_
 refine Fv (.bool mo) ?_
 apply F.es
 apply h6
 rcases Bool.eq_false_or_eq_true mo with q11 | q11
 ·rw [q11]
  have qmo := q11
  refine wp_cond_true ek ?_
  apply wp_skip
  apply h5
  refine wp_block ?_
  refine wk fun K7 h7 => ?_
  refine Rq 1 ?_
  refine Fa (.bool false) ?_
  apply F.es
  apply h7
  refine wk fun K8 h8 => ?_
  refine Rq 1 ?_
  refine Fa (.int .i64 0) ?_
  apply F.es
  apply h8
  refine wp_block ?_
  refine loopK (fun am1 aa1 wl1 => ∃ (i : Nat) (yt : List Int) (xt : List Int) (mo2 : Bool) (A1_3 : Option Addr) (n1_3 : Nat) (c1_3 : Nat) (A1_4 : Option Addr) (n1_4 : Nat) (c1_4 : Nat) , Kn aa1 [(0, .agg #[.int .i64 m, .slice A n c]), (1, .slice A2 n2 c2), (2, .bool true), (3, .slice A1_3 n1_3 c1_3), (4, .slice A1_4 n1_4 c1_4), (5, .pointer (some ⟨b2, 0, none⟩)), (10, .slice none 0 0), (11, .slice none 0 0), (12, .bool mo2), (13, .int .i64 (i : Int)), (17, .bool true)] 65 ∧ (am1 = n - i) ∧ (i ≤ n) ∧ (FndQ (linked ps (openQ vs true)) m.toNat ps.length a yt xt) ∧ (mo2 = true → ys0.length + xs0.length < yt.length + xt.length) ∧ (mo2 = false → yt = ys0 ∧ xt = xs0 ∧ shutE ps (openQ vs true) (inQ yt xt) i) ∧ (wl1.heap[b2]? = some (.cells #[.int .i64 m, .slice A n c] 26 (0, 0))) ∧ (Fm A1_3 n1_3 c1_3) ∧ (Rd wl1 1 A1_3 n1_3 (intsV yt)) ∧ (Fm A1_4 n1_4 c1_4) ∧ (Rd wl1 1 A1_4 n1_4 (intsV xt)) ∧ (Below w.heap.size w wl1)) (n - 0) ?_ ?_
  ·exact ⟨0, ys0, xs0, false, A0_3, n0_3, c0_3, A0_4, n0_4, c0_4, Kn.of, rfl, (Nat.zero_le _), hf, (fun e => by cases e), (fun _ => ⟨rfl, rfl, shutE_zero _ _ _⟩), x6, fm0_3, rd0_3, fm0_4, rd0_4, c10⟩
  rintro am1 aa1 wl1 K9 h9 ⟨i, yt, xt, mo2, A1_3, n1_3, c1_3, A1_4, n1_4, c1_4, ⟨U1, rfl⟩, rfl, hi, hf2, hmt2, hmf2, x6, fm1_3, rd1_3, fm1_4, rd1_4, c12⟩
  have hl1_3 := rd_ints_len rd1_3
  have hl1_4 := rd_ints_len rd1_4
  have hfl2 := hf2.len
  refine wk fun K10 h10 => ?_
  refine wk fun K11 h11 => ?_
  refine Rq 5 ?_
  refine Fv (.int .i64 (i : Int)) ?_
  refine Fq (.pointer (some ⟨b2, 1, none⟩)) (r_field (k := 1) rfl ek kk) ?_
  refine Fl (.slice A n c) (eqS (blk_cell (j := 1) x6 kk)) ?_
  refine Fq (.int .i64 (n : Int)) (r_len (A := A) (n := n) (c := c) rfl ek kk) ?_
  by_cases q13 : ((i : Int) : Int) < ((n : Int) : Int)
  ·refine Fq (.bool true) (r_lss (m := (i : Int)) (n := (n : Int)) rfl ek ek (dt q13)) ?_
   apply F.es
   apply h11
   refine wp_cond_true ek ?_
   apply wp_skip
   apply h10
   refine wk fun K12 h12 => ?_
   refine wp_block ?_
   refine wk fun K13 h13 => ?_
   refine W.region_plain (row := none) [(0, false), (1, false), (2, false), (3, false), (4, false), (5, true), (6, true)] kk ?_
   have s14 := SG.self wl1 none
   refine Fq (.pointer (some ⟨b2, 1, none⟩)) (r_field (k := 1) rfl ek kk) ?_
   refine Fl (.slice A n c) (sgS (blk_cell (j := 1) x6 kk) onn) ?_
   refine Fv (.int .i64 (i : Int)) ?_
   obtain ⟨x15, hx16⟩ := get_of (zs := ps) (k := i) (by have := hl; omega)
   obtain ⟨b17, o18, hA19, hb20, hc21, hc22, hc23, hc24⟩ := Rd.elPipe ha hx16
   refine Fq (.pointer (some ⟨b17, o18 + i * 4, none⟩)) (r_idx (n := n) (c := c) (k := i) rfl ek hA19 kk kk (by have := hl; omega)) ?_
   refine Fq (.agg #[.int .i64 x15.id, .int .i64 x15.fr, .int .i64 x15.to, .int .i64 x15.sz]) (r_load4 rfl ek kk kk (sgS (later c12 hc21) (by simp)) (sgS (later c12 hc22) (by simp)) (sgS (later c12 hc23) (by simp)) (sgS (later c12 hc24) (by simp))) ?_
   refine W.sn (fun b => .pointer (some ⟨b, 0, none⟩)) #[.int .i64 0, .int .i64 0, .int .i64 0, .int .i64 0] 51 s14 rfl kk rfl (fun _ => by kernel_rfl) (fun b25 w26 hb27 k28 x29 s30 => ?_)
   apply F.nx
   have lo31 : w.heap.size ≤ b25 := Nl ((Sb c12 s14 nkk)).size (Nat.le_of_eq hb27)
   refine W.ss (v := .agg #[.int .i64 x15.id, .int .i64 x15.fr, .int .i64 x15.to, .int .i64 x15.sz]) (j := 0) (news := [.int .i64 x15.id, .int .i64 x15.fr, .int .i64 x15.to, .int .i64 x15.sz]) (cs' := #[.int .i64 x15.id, .int .i64 x15.fr, .int .i64 x15.to, .int .i64 x15.sz]) s30 rfl kk rfl rfl kk kk x29 kk kk (by simp) kk kk (.inr (Nl (s14).size (Nat.le_of_eq hb27))) (fun w35 g36 x37 s38 => ?_)
   apply F.es
   have x6 := Sk s38 x6 onn
   have c39 := (Sb c12 s38 nkk)
   have rd40 := Rk rd1_3 (SG.below s38)
   have rd41 := Rk rd1_4 (SG.below s38)
   apply h13
   refine wk fun K14 h14 => ?_
   refine Rq 1 ?_
   refine Fa (.int .i64 0) ?_
   apply F.es
   apply h14
   refine wp_block ?_
   refine loopK (fun am2 aa2 wl2 => ∃ (k : Nat) (yu : List Int) (xu : List Int) (mo3 : Bool) (A2_3 : Option Addr) (n2_3 : Nat) (c2_3 : Nat) (A2_4 : Option Addr) (n2_4 : Nat) (c2_4 : Nat) , Kn aa2 [(0, .agg #[.int .i64 m, .slice A n c]), (1, .slice A2 n2 c2), (2, .bool true), (3, .slice A2_3 n2_3 c2_3), (4, .slice A2_4 n2_4 c2_4), (5, .pointer (some ⟨b2, 0, none⟩)), (10, .slice none 0 0), (11, .slice none 0 0), (12, .bool mo3), (13, .int .i64 (i : Int)), (14, .pointer (some ⟨b25, 0, none⟩)), (15, .int .i64 (k : Int)), (17, .bool true), (22, .bool true)] 65 ∧ (am2 = 2 - k) ∧ (k ≤ 2) ∧ (FndQ (linked ps (openQ vs true)) m.toNat ps.length a yu xu) ∧ (mo3 = true → ys0.length + xs0.length < yu.length + xu.length) ∧ (mo3 = false → yu = ys0 ∧ xu = xs0 ∧ shutE ps (openQ vs true) (inQ yu xu) i ∧ (1 ≤ k → okP (openQ vs true) (inQ yu xu) i x15 x15.fr) ∧ (2 ≤ k → okP (openQ vs true) (inQ yu xu) i x15 x15.to)) ∧ (wl2.heap[b2]? = some (.cells #[.int .i64 m, .slice A n c] 26 (0, 0))) ∧ (wl2.heap[b25]? = some (.cells #[.int .i64 x15.id, .int .i64 x15.fr, .int .i64 x15.to, .int .i64 x15.sz] 51 (0, 0))) ∧ (Fm A2_3 n2_3 c2_3) ∧ (Rd wl2 1 A2_3 n2_3 (intsV yu)) ∧ (Fm A2_4 n2_4 c2_4) ∧ (Rd wl2 1 A2_4 n2_4 (intsV xu)) ∧ (Below w.heap.size w wl2)) (2 - 0) ?_ ?_
   ·exact ⟨0, yt, xt, mo2, A1_3, n1_3, c1_3, A1_4, n1_4, c1_4, Kn.of, rfl, (Nat.zero_le _), hf2, hmt2, (fun e => ⟨(hmf2 e).1, (hmf2 e).2.1, (hmf2 e).2.2, fun h => absurd h (by omega), fun h => absurd h (by omega)⟩), x6, x37, fm1_3, rd40, fm1_4, rd41, c39⟩
   rintro am2 aa2 wl2 K15 h15 ⟨k, yu, xu, mo3, A2_3, n2_3, c2_3, A2_4, n2_4, c2_4, ⟨U2, rfl⟩, rfl, hk, hf3, hmt3, hmf3, x6, x37, fm2_3, rd2_3, fm2_4, rd2_4, c42⟩
   have hl2_3 := rd_ints_len rd2_3
   have hl2_4 := rd_ints_len rd2_4
   have hfl3 := hf3.len
   refine wk fun K16 h16 => ?_
   refine wk fun K17 h17 => ?_
   refine Rq 2 ?_
   refine Fv (.int .i64 (k : Int)) ?_
   by_cases q43 : ((k : Int) : Int) < (2 : Int)
   ·refine Fq (.bool true) (r_lss (m := (k : Int)) (n := 2) rfl ek ek (dt q43)) ?_
    apply F.es
    apply h17
    refine wp_cond_true ek ?_
    apply wp_skip
    apply h16
    refine wk fun K18 h18 => ?_
    refine wp_block ?_
    refine wk fun K19 h19 => ?_
    refine W.region_plain (row := none) [(0, false), (1, false), (2, false), (3, false), (4, true), (5, false), (6, false), (7, true), (8, false)] kk ?_
    have s44 := SG.self wl2 none
    refine Fq (.pointer (some ⟨b25, 1, none⟩)) (r_field (k := 1) rfl ek kk) ?_
    refine Fl (.int .i64 x15.fr) (sgS (blk_cell (j := 1) x37 kk) onn) ?_
    refine Fq (.pointer (some ⟨b25, 2, none⟩)) (r_field (k := 2) rfl ek kk) ?_
    refine Fl (.int .i64 x15.to) (sgS (blk_cell (j := 2) x37 kk) onn) ?_
    refine W.sn (fun b => .slice (some ⟨b, 0, none⟩) 2 2) #[.int .i64 x15.fr, .int .i64 x15.to] 3 s44 rfl kk rfl (fun _ => by kernel_rfl) (fun b45 w46 hb47 k48 x49 s50 => ?_)
    apply F.nx
    have lo51 : w.heap.size ≤ b45 := Nl ((Sb c42 s44 nkk)).size (Nat.le_of_eq hb47)
    refine Fv (.int .i64 (k : Int)) ?_
    have ho56 := own_blk (base := w.heap.size) (size := 1) (n := 2) x49 lo51 rfl (by omega)
    replace ho56 : World.ownsRow _ _ _ _ _ _ (intsV [x15.fr, x15.to]) := ho56
    have rd62 := own_rd ho56
    have hl63 := rd_ints_len rd62
    obtain ⟨x64, hx65⟩ := get_of (zs := [x15.fr, x15.to]) (k := k) (by have := hl63; omega)
    have hy2 := two_of hx65
    have hpx := hp x15 (List.mem_of_getElem? hx16)
    obtain ⟨b66, o67, hA68, hb69, hc70⟩ := Rd.elInt rd62 hx65
    refine Fq (.pointer (some ⟨b66, o67 + k, none⟩)) (r_idx1 (n := 2) (c := 2) (k := k) rfl ek hA68 kk kk (by have := hl63; omega)) ?_
    refine W.slq (v := .int .i64 x64) s50 rfl (r_load rfl kk kk (eqS hc70)) kk rfl ?_
    apply F.nx
    refine Fa (.int .i64 x64) ?_
    apply F.es
    have x6 := Sk s50 x6 onn
    have x37 := Sk s50 x37 onn
    have c71 := (Sb c42 s50 nkk)
    have rd72 := Rk rd2_3 (SG.below s50)
    have rd73 := Rk rd2_4 (SG.below s50)
    apply h19
    refine wk fun K20 h20 => ?_
    refine wk fun K21 h21 => ?_
    refine W.region_plain (row := none) [(0, false), (1, false), (2, false), (3, false), (4, false), (5, true), (6, false), (7, false), (8, false), (9, true), (10, false), (11, false), (12, true), (13, false), (14, false)] kk ?_
    have s74 := SG.self w46 none
    refine Fv (.slice A2 n2 c2) ?_
    refine Fq (.pointer (some ⟨b25, 0, none⟩)) (r_field0 rfl ek kk) ?_
    refine Fl (.int .i64 x15.id) (sgS (blk_cell (j := 0) x37 kk) onn) ?_
    refine Fv (.int .i64 x64) ?_
    refine Fv (.bool true) ?_
    refine Fc [.slice A2 n2 c2, .int .i64 x15.id, .int .i64 x64, .bool true] (l4Blocked_true A2 n2 c2 vs x15.id x64 _ (Rk hb (Sb c71 s74 nkk)) (by omega)) ?_
    rintro e w76 ⟨rfl, b75⟩
    have s77 := SG.of_below s74 b75
    refine ⟨_, rfl, s77, ?_⟩
    apply F.nx
    rcases Bool.eq_false_or_eq_true (blocked vs x15.id x64 true) with q78 | q78
    ·rw [q78]
     refine Fv (.bool true) ?_
     refine Fs s77 ?_
     refine Fs s77 ?_
     refine Fs s77 ?_
     refine Fs s77 ?_
     refine Fs s77 ?_
     refine Fs s77 ?_
     refine Fs s77 ?_
     refine Fq (.bool true) (r_pick (b := true) rfl ek ek) ?_
     apply F.es
     have x6 := Sk s77 x6 onn
     have x37 := Sk s77 x37 onn
     have c79 := (Sb c71 s77 nkk)
     have rd80 := Rk rd72 (SG.below s77)
     have rd81 := Rk rd73 (SG.below s77)
     apply h21
     refine wp_cond_true ek ?_
     refine wp_exit ?_
     apply h18
     refine Rq 3 ?_
     refine Fv (.int .i64 (k : Int)) ?_
     refine Fq (.int .i64 ((k + 1 : Nat) : Int)) (r_add (m := (k : Int)) (n := 1) (z := ((k + 1 : Nat) : Int)) rfl ek ek (by omega) (by omega)) ?_
     refine Fa (.int .i64 ((k + 1 : Nat) : Int)) ?_
     apply F.es
     exact h15 _ _ _ (by omega : (2 - (k + 1)) < _) ⟨k + 1, yu, xu, mo3, A2_3, n2_3, c2_3, A2_4, n2_4, c2_4, Kn.of, rfl, (by omega), hf3, hmt3, (fun e => ⟨(hmf3 e).1, (hmf3 e).2.1, (hmf3 e).2.2.1, two_next hy2 (hmf3 e).2.2.2.1 (okP_shut (openQ_no q78))⟩), x6, x37, fm2_3, rd80, fm2_4, rd81, c79⟩
    rw [q78]
    refine Fv (.bool false) ?_
    refine Fv (.slice A2_3 n2_3 c2_3) ?_
    refine Fv (.int .i64 x64) ?_
    refine Fc [.slice A2_3 n2_3 c2_3, .int .i64 x64] (l1Has_any A2_3 n2_3 c2_3 yu x64 _ (Rk rd72 (SG.below s77)) (by omega)) ?_
    rintro e w84 ⟨rfl, b83⟩
    have s85 := SG.of_below s77 b83
    refine ⟨_, rfl, s85, ?_⟩
    apply F.nx
    refine Fv (.slice A2_4 n2_4 c2_4) ?_
    refine Fv (.int .i64 (i : Int)) ?_
    refine Fc [.slice A2_4 n2_4 c2_4, .int .i64 (i : Int)] (l1Has_any A2_4 n2_4 c2_4 xu (i : Int) _ (Rk rd73 (SG.below s85)) (by omega)) ?_
    rintro e w87 ⟨rfl, b86⟩
    have s88 := SG.of_below s85 b86
    refine ⟨_, rfl, s88, ?_⟩
    apply F.nx
    by_cases q89 : (yu.contains x64) = (xu.contains (i : Int))
    ·refine Fq (.bool true) (r_eqlB (m := (yu.contains x64)) (n := (xu.contains (i : Int))) rfl ek ek kk (beq_iff_eq.2 q89)) ?_
     refine Fq (.bool true) (r_pick (b := false) rfl ek ek) ?_
     apply F.es
     have x6 := Sk s88 x6 onn
     have x37 := Sk s88 x37 onn
     have c90 := (Sb c71 s88 nkk)
     have rd91 := Rk rd72 (SG.below s88)
     have rd92 := Rk rd73 (SG.below s88)
     apply h21
     refine wp_cond_true ek ?_
     refine wp_exit ?_
     apply h18
     refine Rq 3 ?_
     refine Fv (.int .i64 (k : Int)) ?_
     refine Fq (.int .i64 ((k + 1 : Nat) : Int)) (r_add (m := (k : Int)) (n := 1) (z := ((k + 1 : Nat) : Int)) rfl ek ek (by omega) (by omega)) ?_
     refine Fa (.int .i64 ((k + 1 : Nat) : Int)) ?_
     apply F.es
     exact h15 _ _ _ (by omega : (2 - (k + 1)) < _) ⟨k + 1, yu, xu, mo3, A2_3, n2_3, c2_3, A2_4, n2_4, c2_4, Kn.of, rfl, (by omega), hf3, hmt3, (fun e => ⟨(hmf3 e).1, (hmf3 e).2.1, (hmf3 e).2.2.1, two_next hy2 (hmf3 e).2.2.2.1 (okQ_same (m := m.toNat) (by omega) hf3.b1 (by omega) q89)⟩), x6, x37, fm2_3, rd91, fm2_4, rd92, c90⟩
    refine Fq (.bool false) (r_eqlB (m := (yu.contains x64)) (n := (xu.contains (i : Int))) rfl ek ek kk (beq_eq_false_iff_ne.2 q89)) ?_
    refine Fq (.bool false) (r_pick (b := false) rfl ek ek) ?_
    apply F.es
    have x6 := Sk s88 x6 onn
    have x37 := Sk s88 x37 onn
    have c94 := (Sb c71 s88 nkk)
    have rd95 := Rk rd72 (SG.below s88)
    have rd96 := Rk rd73 (SG.below s88)
    apply h21
    refine wp_cond_false ek ?_
    apply wp_skip
    apply h20
    refine wk fun K22 h22 => ?_
    refine W.region_plain (row := none) [(0, false), (1, false), (2, true), (3, false)] kk ?_
    have s98 := SG.self w87 none
    refine Fv (.slice A2_3 n2_3 c2_3) ?_
    refine Fv (.int .i64 x64) ?_
    refine Fc [.slice A2_3 n2_3 c2_3, .int .i64 x64] (l1Put_any A2_3 n2_3 c2_3 yu x64 _ (Rk rd95 (SG.below s98)) fm2_3 (by have h7 := hl2_3; first | omega)) ?_
    rintro e w107 ⟨A99, n100, c101, rfl, rd102, fm103, b106⟩
    have s108 := SG.of_below s98 b106
    refine ⟨_, rfl, s108, ?_⟩
    apply F.nx
    have hl104 := rd_ints_len rd102
    refine Fa (.slice A99 n100 c101) ?_
    apply F.es
    have x6 := Sk s108 x6 onn
    have x37 := Sk s108 x37 onn
    have c109 := (Sb c94 s108 nkk)
    have rd111 := Rk rd96 (SG.below s108)
    apply h22
    refine wk fun K23 h23 => ?_
    refine W.region_plain (row := none) [(0, false), (1, false), (2, true), (3, false)] kk ?_
    have s113 := SG.self w107 none
    refine Fv (.slice A2_4 n2_4 c2_4) ?_
    refine Fv (.int .i64 (i : Int)) ?_
    refine Fc [.slice A2_4 n2_4 c2_4, .int .i64 (i : Int)] (l1Put_any A2_4 n2_4 c2_4 xu (i : Int) _ (Rk rd111 (SG.below s113)) fm2_4 (by have h7 := hl2_4; first | omega)) ?_
    rintro e w122 ⟨A114, n115, c116, rfl, rd117, fm118, b121⟩
    have s123 := SG.of_below s113 b121
    refine ⟨_, rfl, s123, ?_⟩
    apply F.nx
    have hl119 := rd_ints_len rd117
    refine Fa (.slice A114 n115 c116) ?_
    apply F.es
    have x6 := Sk s123 x6 onn
    have x37 := Sk s123 x37 onn
    have c124 := (Sb c109 s123 nkk)
    have rd128 := Rk rd102 (SG.below s123)
    apply h23
    refine Rq 1 ?_
    refine Fa (.bool true) ?_
    apply F.es
    apply h18
    refine Rq 3 ?_
    refine Fv (.int .i64 (k : Int)) ?_
    refine Fq (.int .i64 ((k + 1 : Nat) : Int)) (r_add (m := (k : Int)) (n := 1) (z := ((k + 1 : Nat) : Int)) rfl ek ek (by omega) (by omega)) ?_
    refine Fa (.int .i64 ((k + 1 : Nat) : Int)) ?_
    apply F.es
    exact h15 _ _ _ (by omega : (2 - (k + 1)) < _) ⟨k + 1, putL yu x64, putL xu (i : Int), true, A99, n100, c101, A114, n115, c116, Kn.of, rfl, (by omega), (hf3.put (by omega) hx16 (by omega) (by omega) (openQ_yes q78) q89), (fun _ => by have h9 := put2_len2 q89; rcases Bool.eq_false_or_eq_true mo3 with e | e <;> first | (have h8 := hmt3 e; omega) | (have h8 := hmf3 e; rw [h8.1, h8.2.1] at h9; rw [h8.1, h8.2.1]; exact h9)), (fun e => by cases e), x6, x37, fm103, rd128, fm118, rd117, c124⟩
   refine Fq (.bool false) (r_lss (m := (k : Int)) (n := 2) rfl ek ek (df q43)) ?_
   apply F.es
   apply h17
   refine wp_cond_false ek ?_
   refine wp_exit ?_
   apply h12
   refine Rq 3 ?_
   refine Fv (.int .i64 (i : Int)) ?_
   refine Fq (.int .i64 ((i + 1 : Nat) : Int)) (r_add (m := (i : Int)) (n := 1) (z := ((i + 1 : Nat) : Int)) rfl ek ek (by omega) (by omega)) ?_
   refine Fa (.int .i64 ((i + 1 : Nat) : Int)) ?_
   apply F.es
   exact h9 _ _ _ (by omega : (n - (i + 1)) < _) ⟨i + 1, yu, xu, mo3, A2_3, n2_3, c2_3, A2_4, n2_4, c2_4, Kn.of, rfl, (by omega), hf3, hmt3, (fun e => ⟨(hmf3 e).1, (hmf3 e).2.1, (hmf3 e).2.2.1.next hx16 ((hmf3 e).2.2.2.1 (by omega)) ((hmf3 e).2.2.2.2 (by omega))⟩), x6, fm2_3, rd2_3, fm2_4, rd2_4, c42⟩
  refine Fq (.bool false) (r_lss (m := (i : Int)) (n := (n : Int)) rfl ek ek (df q13)) ?_
  apply F.es
  apply h11
  refine wp_cond_false ek ?_
  refine wp_exit ?_
  exact h4 _ _ _ (by rcases Bool.eq_false_or_eq_true mo2 with e | e <;> rw [e] <;> simp only [Bool.toNat_true, Bool.toNat_false, qmo] <;> first | (have h9 := hmt2 e; omega) | (rw [(hmf2 e).1, (hmf2 e).2.1]; omega) : (2 * (18 - yt.length - xt.length) + mo2.toNat) < _) ⟨yt, xt, mo2, A1_3, n1_3, c1_3, A1_4, n1_4, c1_4, Kn.of, rfl, hf2, (fun e => by have h9 := (hmf2 e).2.2; rw [show i = ps.length by omega] at h9; exact h9), x6, fm1_3, rd1_3, fm1_4, rd1_4, c12⟩
 rw [q11]
 have qmo := q11
 refine wp_cond_false ek ?_
 refine wp_exit ?_
 apply h2
 refine wk fun K24 h24 => ?_
 refine Rq 4 ?_
 refine Fv (.slice A0_3 n0_3 c0_3) ?_
 refine Fv (.slice A0_4 n0_4 c0_4) ?_
 refine Fa (.slice A0_3 n0_3 c0_3) ?_
 refine Fa (.slice A0_4 n0_4 c0_4) ?_
 apply F.es
 apply h24
 refine wp_ret ?_
 try simp only [Exit.then]
 refine ret2 (v := .slice A0_3 n0_3 c0_3) (x := .slice A0_4 n0_4 c0_4) rfl kk kk ?_
 have e9 := hf.fin (by omega) (hsh qmo)
 exact ⟨_, _, _, _, _, _, rfl, (by rw [← e9.1]; exact rd0_3), fm0_3, (by rw [← e9.2]; exact rd0_4), fm0_4, c10⟩
end Go.Proofs.Ytdbgfejeleafgaa
namespace Go.Proofs.Ytdbgfejeleafgaa
open Go.RowKit
set_option linter.unusedVariables false
set_option linter.unusedSimpArgs false
theorem nodesL_yes {E : Int → Int → Prop} {m : Nat} {a : Int} {told : Bool} (h : rb E a ((m : Int) + 1) = told) : nodesL E (m + 1) a told = nodesL E m a told ++ [((m + 1 : Nat) : Int)] := by
  rw [nodesL_succ, if_pos h]; simp
theorem nodesL_no {E : Int → Int → Prop} {m : Nat} {a : Int} {told : Bool} (h : rb E a ((m : Int) + 1) ≠ told) : nodesL E (m + 1) a told = nodesL E m a told := by
  rw [nodesL_succ, if_neg h]; simp
theorem wet_eq {E : Int → Int → Prop} {a : Int} {k : Nat} {x : Bool} (hx : (wetL E a)[k]? = some x) : x = rb E a (k : Int) := by
  have hk : k < 19 := by have := (List.getElem?_eq_some_iff.1 hx).1; rw [wetL_len] at this; exact this
  rw [wetL_at E a hk] at hx; exact (Option.some.inj hx).symm
theorem wet_eq1 {E : Int → Int → Prop} {a : Int} {m : Nat} {x : Bool} (hx : (wetL E a)[m + 1]? = some x) : rb E a ((m : Int) + 1) = x := by
  rw [wet_eq hx]; rfl
theorem nodesL_has {E : Int → Int → Prop} {m : Nat} {a b : Int} (hb : 1 ≤ b ∧ b ≤ m) : (nodesL E m a true).contains b = rb E a b := by
  rw [Bool.eq_iff_iff, List.contains_iff_mem, mem_nodesL]
  exact ⟨fun h => h.2, fun h => ⟨hb, h⟩⟩
theorem idxL_has {E : Int → Int → Prop} {n : Nat} {a b : Int} (hb : 0 ≤ b ∧ b < n) : (idxL E n a true).contains b = rb E a (9 + b) := by
  rw [Bool.eq_iff_iff, List.contains_iff_mem, mem_idxL]
  exact ⟨fun h => h.2, fun h => ⟨hb, h⟩⟩
theorem idxL_yes {E : Int → Int → Prop} {i : Nat} {a : Int} {told : Bool} (h : rb E a (9 + (i : Int)) = told) : idxL E (i + 1) a told = idxL E i a told ++ [(i : Int)] := by rw [idxL_succ, if_pos h]
theorem idxL_no {E : Int → Int → Prop} {i : Nat} {a : Int} {told : Bool} (h : rb E a (9 + (i : Int)) ≠ told) : idxL E (i + 1) a told = idxL E i a told := by rw [idxL_succ, if_neg h, List.append_nil]
theorem ne_of_not {a b : Bool} (h : a = !b) : a ≠ b := by cases b <;> simp_all
set_option maxRecDepth 100000 in
set_option maxHeartbeats 8000000 in
theorem l4Dry_any (m : Int) (A : Option Addr) (n c : Nat) (ps : List Pp) (A2 : Option Addr) (n2 c2 : Nat) (vs : List Vv) (a : Int) (w : World) (ha : Rd w 4 A n (pipesV ps)) (hb : Rd w 4 A2 n2 (valvesV vs)) (hn : n ≤ 1048576) (hn2 : n2 ≤ 1048576) (hp : pipesIn ps m.toNat) (hm : 1 ≤ m ∧ m ≤ 8) (hlen10 : ps.length ≤ 10) (hav : 1 ≤ a ∧ a ≤ m) :
    Calls Try.prog 95 #[.agg #[.int .i64 m, .slice A n c], .slice A2 n2 c2, .int .i64 a] w fun e w' => ∃ A5 n5 c5 A6 n6 c6, e = .returned (.tuple #[.slice A5 n5 c5, .slice A6 n6 c6]) ∧ Rd w' 1 A5 n5 (intsV (nodesL (linked ps (openQ vs true)) m.toNat a false)) ∧ Fm A5 n5 c5 ∧ Rd w' 1 A6 n6 (intsV (idxL (linked ps (openQ vs true)) ps.length a false)) ∧ Fm A6 n6 c6 ∧ Below w.heap.size w w' := by
 have hl := rd_pipes_len ha
 have hl2 := rd_valves_len hb
 go_enter Try.func95, Try.ntmps95
 refine F.begin 56 [(0, .agg #[.int .i64 m, .slice A n c]), (1, .slice A2 n2 c2), (2, .int .i64 a)] (fun U0 => ?_)
 refine wk fun K1 h1 => ?_
 refine W.region_plain (row := none) [(0, true), (1, false), (2, false)] kk ?_
 have s1 := SG.self w none
 refine W.sn (fun b => .pointer (some ⟨b, 0, none⟩)) #[.int .i64 m, .slice A n c] 26 s1 rfl kk rfl (fun _ => by kernel_rfl) (fun b2 w3 hb4 k5 x6 s7 => ?_)
 apply F.nx
 have lo8 : w.heap.size ≤ b2 := Nl ((Sb (Below.refl _ _) s1 nkk)).size (Nat.le_of_eq hb4)
 refine Fa (.slice none 0 0) ?_
 refine Fa (.slice none 0 0) ?_
 apply F.es
 have c9 := (Sb (Below.refl _ _) s7 nkk)
 apply h1
 refine wk fun K2 h2 => ?_
 refine W.region_plain (row := none) [(0, false), (1, false), (2, false), (3, true), (4, true), (5, true), (6, false), (7, false), (8, false), (9, false), (10, false)] kk ?_
 have s10 := SG.self w3 none
 refine Fq (.agg #[.int .i64 m, .slice A n c]) (r_load2 rfl ek kk kk (sgS (blk_cell (j := 0) x6 kk) onn) (sgS (blk_cell (j := 1) x6 kk) onn)) ?_
 refine Fv (.slice A2 n2 c2) ?_
 refine Fv (.int .i64 a) ?_
 refine W.sn (fun b => .slice (some ⟨b, 0, none⟩) 1 1) #[.int .i64 a] 3 s10 rfl kk rfl (fun _ => by kernel_rfl) (fun b11 w12 hb13 k14 x15 s16 => ?_)
 apply F.nx
 have lo17 : w.heap.size ≤ b11 := Nl ((Sb c9 s10 nkk)).size (Nat.le_of_eq hb13)
 refine W.sn (fun b => .slice (some ⟨b, 0, none⟩) 0 0) #[] 3 s16 rfl kk rfl (fun _ => by kernel_rfl) (fun b19 w20 hb21 k22 x23 s24 => ?_)
 apply F.nx
 have lo25 : w.heap.size ≤ b19 := Nl ((Sb c9 s16 nkk)).size (Nat.le_of_eq hb21)
 have x15 := (k22.block _ (blk_lt x15)).trans x15
 have ho28 := own_blk (base := w.heap.size) (size := 1) (n := 1) x15 lo17 rfl (by omega)
 replace ho28 : World.ownsRow _ _ _ _ _ _ (intsV [a]) := ho28
 have rd32 := own_rd ho28
 have hl33 := rd_ints_len rd32
 have ho34 := own_empty (base := w.heap.size) (size := 1) x23 lo25
 replace ho34 : World.ownsRow _ _ _ _ _ _ (intsV []) := ho34
 have rd37 := own_rd ho34
 have hl38 := rd_ints_len rd37
 refine Fc [.agg #[.int .i64 m, .slice A n c], .slice A2 n2 c2, .bool true, .slice (some ⟨b11, 0, none⟩) 1 1, .slice (some ⟨b19, 0, none⟩) 0 0] (l4Spread_true m A n c ps A2 n2 c2 vs a (some ⟨b11, 0, none⟩) 1 1 ([a]) (some ⟨b19, 0, none⟩) 0 0 ([]) _ (Rk ha (Sb c9 s24 nkk)) (Rk hb (Sb c9 s24 nkk)) (by omega) (by omega) hp (by omega) (by omega) rd32 (own_fm ho28) rd37 (own_fm ho34) (FndQ.startN _ (by omega))) ?_
 rintro e w54 ⟨A39, n40, c41, A42, n43, c44, rfl, rd45, fm46, rd47, fm48, b53⟩
 have s55 := SG.of_below s24 b53
 refine ⟨_, rfl, s55, ?_⟩
 apply F.nx
 have hl51 := rd_ints_len rd45
 have hl52 := rd_ints_len rd47
 have := nodesL_len (linked ps (openQ vs true)) m.toNat a true
 have := idxL_len (linked ps (openQ vs true)) ps.length a true
 refine Fv (.tuple #[.slice A39 n40 c41, .slice A42 n43 c44]) ?_
 refine Fq (.slice A39 n40 c41) (r_extract (vs := #[.slice A39 n40 c41, .slice A42 n43 c44]) rfl ek kk) ?_
 refine Fq (.slice A42 n43 c44) (r_extract (vs := #[.slice A39 n40 c41, .slice A42 n43 c44]) rfl ek kk) ?_
 refine Fa (.slice A39 n40 c41) ?_
 refine Fa (.slice A42 n43 c44) ?_
 apply F.es
 have x6 := Sk s55 x6 onn
 have c58 := (Sb c9 s55 nkk)
 apply h2
 refine wk fun K3 h3 => ?_
 refine W.region_plain (row := none) [(0, true), (1, true), (2, false), (3, false)] kk ?_
 have s59 := SG.self w54 none
 refine W.sn (fun b => .slice (some ⟨b, 0, none⟩) 0 0) #[] 3 s59 rfl kk rfl (fun _ => by kernel_rfl) (fun b60 w61 hb62 k63 x64 s65 => ?_)
 apply F.nx
 have lo66 : w.heap.size ≤ b60 := Nl ((Sb c58 s59 nkk)).size (Nat.le_of_eq hb62)
 have sp67 : Sp A39 n40 (some b60) := sp_new rd45 (by have := (s59).size; have := hb62; omega)
 have sp68 : Sp A42 n43 (some b60) := sp_new rd47 (by have := (s59).size; have := hb62; omega)
 have ne71 : b2 ≠ b60 := Nat.ne_of_lt (Nat.lt_of_lt_of_eq (Nat.lt_of_lt_of_le (blk_lt x6) (s59).size) hb62)
 refine W.sn (fun b => .slice (some ⟨b, 0, none⟩) 0 0) #[] 3 s65 rfl kk rfl (fun _ => by kernel_rfl) (fun b72 w73 hb74 k75 x76 s77 => ?_)
 apply F.nx
 have lo78 : w.heap.size ≤ b72 := Nl ((Sb c58 s65 nkk)).size (Nat.le_of_eq hb74)
 have sp80 : Sp A42 n43 (some b72) := sp_new rd47 (by have := (s65).size; have := hb74; omega)
 have ne83 : b2 ≠ b72 := Nat.ne_of_lt (Nat.lt_of_lt_of_eq (Nat.lt_of_lt_of_le (blk_lt x6) (s65).size) hb74)
 have ne84 : b60 ≠ b72 := Nat.ne_of_lt (Nat.lt_of_lt_of_eq (blk_lt x64) hb74)
 have x64 := (k75.block _ (blk_lt x64)).trans x64
 refine Fa (.slice (some ⟨b60, 0, none⟩) 0 0) ?_
 refine Fa (.slice (some ⟨b72, 0, none⟩) 0 0) ?_
 apply F.es
 have x6 := Sk s77 x6 onn
 have c85 := (Sb c58 s77 nkk)
 have rd88 := Rk rd45 (SG.below s77)
 have rd89 := Rk rd47 (SG.below s77)
 apply h3
 refine wk fun K4 h4 => ?_
 refine wk fun K5 h5 => ?_
 refine Rq 1 ?_
 refine Fa (.int .i64 1) ?_
 apply F.es
 apply h5
 refine wp_block ?_
 have ho90 := own_empty (base := w.heap.size) (size := 1) x64 lo66
 replace ho90 : World.ownsRow _ _ _ _ _ _ (intsV []) := ho90
 have sp91 := sp_own (n' := 0) (c := 0) sp67
 have sp92 := sp_own (n' := 0) (c := 0) sp68
 have nb95 : Nb b2 (.slice (some ⟨b60, 0, none⟩) 0 0) := nb_new ne71
 have nb96 : Nb b72 (.slice (some ⟨b60, 0, none⟩) 0 0) := nb_new (Ne.symm ne84)
 refine loopK (fun am0 aa0 wl0 => ∃ (j : Nat) (A0_10 : Option Addr) (n0_10 : Nat) (c0_10 : Nat) , Kn aa0 [(0, .agg #[.int .i64 m, .slice A n c]), (1, .slice A2 n2 c2), (2, .int .i64 a), (3, .pointer (some ⟨b2, 0, none⟩)), (6, .slice none 0 0), (7, .slice none 0 0), (8, .slice A39 n40 c41), (9, .slice A42 n43 c44), (10, .slice A0_10 n0_10 c0_10), (11, .slice (some ⟨b72, 0, none⟩) 0 0), (12, .int .i64 ((j + 1 : Nat) : Int))] 56 ∧ (am0 = m.toNat - j) ∧ (j ≤ m.toNat) ∧ (n0_10 ≤ j) ∧ (wl0.heap[b2]? = some (.cells #[.int .i64 m, .slice A n c] 26 (0, 0))) ∧ (wl0.heap[b72]? = some (.cells #[] 3 (0, 0))) ∧ (wl0.ownsRow w.heap.size 3 1 (.slice A0_10 n0_10 c0_10) n0_10 (intsV (nodesL (linked ps (openQ vs true)) j a false))) ∧ (Nb b2 (.slice A0_10 n0_10 c0_10)) ∧ (Nb b72 (.slice A0_10 n0_10 c0_10)) ∧ (Rd wl0 1 A39 n40 (intsV (nodesL (linked ps (openQ vs true)) m.toNat a true))) ∧ (Rd wl0 1 A42 n43 (intsV (idxL (linked ps (openQ vs true)) ps.length a true))) ∧ (Sp A39 n40 (Value.ownBlock (.slice A0_10 n0_10 c0_10))) ∧ (Sp A42 n43 (Value.ownBlock (.slice A0_10 n0_10 c0_10))) ∧ (Below w.heap.size w wl0)) (m.toNat - 0) ?_ ?_
 ·exact ⟨0, (some ⟨b60, 0, none⟩), 0, 0, Kn.of, rfl, (Nat.zero_le _), (Nat.zero_le _), x6, x76, ho90, nb95, nb96, rd88, rd89, sp91, sp92, c85⟩
 rintro am0 aa0 wl0 K6 h6 ⟨j, A0_10, n0_10, c0_10, ⟨U0, rfl⟩, rfl, hj, hb10, x6, x76, ho0_10, nb0_10_b2, nb0_10_b72, rd0_8, rd0_9, sp0_8_10, sp0_9_10, c97⟩
 refine wk fun K7 h7 => ?_
 refine wk fun K8 h8 => ?_
 refine Rq 4 ?_
 refine Fv (.int .i64 ((j + 1 : Nat) : Int)) ?_
 refine Fq (.pointer (some ⟨b2, 0, none⟩)) (r_field0 rfl ek kk) ?_
 refine Fl (.int .i64 m) (eqS (blk_cell (j := 0) x6 kk)) ?_
 by_cases q98 : (((j + 1 : Nat) : Int) : Int) ≤ (m : Int)
 ·refine Fq (.bool true) (r_leq (m := ((j + 1 : Nat) : Int)) (n := m) rfl ek ek (dt q98)) ?_
  apply F.es
  apply h8
  refine wp_cond_true ek ?_
  apply wp_skip
  apply h7
  refine wk fun K9 h9 => ?_
  refine wp_block ?_
  refine wk fun K10 h10 => ?_
  refine W.region_plain (row := none) [(0, false), (1, false), (2, true), (3, false)] kk ?_
  have s99 := SG.self wl0 none
  refine Fv (.slice A39 n40 c41) ?_
  refine Fv (.int .i64 ((j + 1 : Nat) : Int)) ?_
  refine Fc [.slice A39 n40 c41, .int .i64 ((j + 1 : Nat) : Int)] (l1Has_any A39 n40 c41 (nodesL (linked ps (openQ vs true)) m.toNat a true) ((j + 1 : Nat) : Int) _ (Rk rd0_8 (SG.below s99)) (by omega)) ?_
  rintro e w101 ⟨rfl, b100⟩
  have s102 := SG.of_below s99 b100
  refine ⟨_, rfl, s102, ?_⟩
  apply F.nx
  have ho103 := own_kept ho0_10 b100
  rcases Bool.eq_false_or_eq_true ((nodesL (linked ps (openQ vs true)) m.toNat a true).contains ((j + 1 : Nat) : Int)) with q104 | q104
  ·rw [q104]
   refine Fq (.bool false) (r_not (b := true) rfl ek rfl) ?_
   apply F.es
   have x6 := Sk s102 x6 onn
   have x76 := Sk s102 x76 onn
   have c105 := (Sb c97 s102 nkk)
   have rd106 := Rk rd0_8 (SG.below s102)
   have rd107 := Rk rd0_9 (SG.below s102)
   apply h10
   refine wp_cond_false ek ?_
   apply wp_skip
   apply h9
   refine Rq 3 ?_
   refine Fv (.int .i64 ((j + 1 : Nat) : Int)) ?_
   refine Fq (.int .i64 ((j + 1 + 1 : Nat) : Int)) (r_add (m := ((j + 1 : Nat) : Int)) (n := 1) (z := ((j + 1 + 1 : Nat) : Int)) rfl ek ek (by omega) (by omega)) ?_
   refine Fa (.int .i64 ((j + 1 + 1 : Nat) : Int)) ?_
   apply F.es
   exact h6 _ _ _ (by omega : (m.toNat - (j + 1)) < _) ⟨j + 1, A0_10, n0_10, c0_10, Kn.of, rfl, (by omega), (by omega), x6, x76, (by rw [nodesL_no (ne_of_not (by rw [show rb (linked ps (openQ vs true)) a ((j : Int) + 1) = true from (nodesL_has (by omega : 1 ≤ ((j + 1 : Nat) : Int) ∧ ((j + 1 : Nat) : Int) ≤ m.toNat)).symm.trans q104]; try rfl))]; exact ho103), nb0_10_b2, nb0_10_b72, rd106, rd107, sp0_8_10, sp0_9_10, c105⟩
  rw [q104]
  refine Fq (.bool true) (r_not (b := false) rfl ek rfl) ?_
  apply F.es
  have x6 := Sk s102 x6 onn
  have x76 := Sk s102 x76 onn
  have c108 := (Sb c97 s102 nkk)
  have rd109 := Rk rd0_8 (SG.below s102)
  have rd110 := Rk rd0_9 (SG.below s102)
  apply h10
  refine wp_cond_true ek ?_
  refine W.region_plain (row := (Value.ownBlock (.slice A0_10 n0_10 c0_10))) [(0, false), (1, false), (2, true), (3, true), (4, false)] kk ?_
  have s111 := SG.self w101 (Value.ownBlock (.slice A0_10 n0_10 c0_10))
  refine Fv (.slice A0_10 n0_10 c0_10) ?_
  refine Fv (.int .i64 ((j + 1 : Nat) : Int)) ?_
  refine W.sn (fun b => .slice (some ⟨b, 0, none⟩) 1 1) #[.int .i64 ((j + 1 : Nat) : Int)] 3 s111 rfl kk rfl (fun _ => by kernel_rfl) (fun b112 w113 hb114 k115 x116 s117 => ?_)
  apply F.nx
  have lo118 : w.heap.size ≤ b112 := Nl ((Sb c108 s111 (fun kq e => (World.ownsRow.lt ho103 kq e).1))).size (Nat.le_of_eq hb114)
  have ho124 := own_kept ho103 k115
  refine W.sap (e := 3) (size := 1) (base := w.heap.size) (m := 1) (v := .slice A0_10 n0_10 c0_10) (c := 1) s117 rfl rfl rfl rfl kk kk kk ho124 x116 kk kk (by omega) (by omega) (by have := ((Sb c108 s117 (fun kq e => (World.ownsRow.lt ho103 kq e).1))).size; omega) (.inl rfl) (fun g125 cap126 w127 ho128 hg129 hat130 hlt131 s132 => ?_)
  apply F.nx
  have nb133 : Nb b2 (.slice (some ⟨g125, 0, none⟩) (n0_10 + 1) cap126) := nb_app nb0_10_b2 (Nat.lt_of_lt_of_le (blk_lt x6) (s117).size) hat130
  have nb134 : Nb b72 (.slice (some ⟨g125, 0, none⟩) (n0_10 + 1) cap126) := nb_app nb0_10_b72 (Nat.lt_of_lt_of_le (blk_lt x76) (s117).size) hat130
  have ho128 := own_snoc ho128
  have sp136 := sp_app (v' := .slice (some ⟨g125, 0, none⟩) (n0_10 + 1) cap126) sp0_8_10 rd109 ((s117).size) (hat3 (v := .slice A0_10 n0_10 c0_10) hat130)
  have sp137 := sp_app (v' := .slice (some ⟨g125, 0, none⟩) (n0_10 + 1) cap126) sp0_9_10 rd110 ((s117).size) (hat3 (v := .slice A0_10 n0_10 c0_10) hat130)
  refine Fa (.slice (some ⟨g125, 0, none⟩) (n0_10 + 1) cap126) ?_
  apply F.es
  have x6 := Sk s132 x6 nb0_10_b2
  have x76 := Sk s132 x76 nb0_10_b72
  have c138 := (Sb c108 s132 (fun kq e => (World.ownsRow.lt ho103 kq e).1))
  have rd139 := rd_sep rd109 s132 sp0_8_10
  have rd140 := rd_sep rd110 s132 sp0_9_10
  apply h9
  refine Rq 3 ?_
  refine Fv (.int .i64 ((j + 1 : Nat) : Int)) ?_
  refine Fq (.int .i64 ((j + 1 + 1 : Nat) : Int)) (r_add (m := ((j + 1 : Nat) : Int)) (n := 1) (z := ((j + 1 + 1 : Nat) : Int)) rfl ek ek (by omega) (by omega)) ?_
  refine Fa (.int .i64 ((j + 1 + 1 : Nat) : Int)) ?_
  apply F.es
  exact h6 _ _ _ (by omega : (m.toNat - (j + 1)) < _) ⟨j + 1, (some ⟨g125, 0, none⟩), (n0_10 + 1), cap126, Kn.of, rfl, (by omega), (by omega), x6, x76, (by rw [nodesL_yes ((nodesL_has (by omega : 1 ≤ ((j + 1 : Nat) : Int) ∧ ((j + 1 : Nat) : Int) ≤ m.toNat)).symm.trans q104)]; exact ho128), nb133, nb134, rd139, rd140, sp136, sp137, c138⟩
 refine Fq (.bool false) (r_leq (m := ((j + 1 : Nat) : Int)) (n := m) rfl ek ek (df q98)) ?_
 apply F.es
 apply h8
 refine wp_cond_false ek ?_
 refine wp_exit ?_
 apply h4
 refine wk fun K11 h11 => ?_
 refine wk fun K12 h12 => ?_
 refine Rq 1 ?_
 refine Fa (.int .i64 0) ?_
 apply F.es
 apply h12
 refine wp_block ?_
 have ho141 := own_empty (base := w.heap.size) (size := 1) x76 lo78
 replace ho141 : World.ownsRow _ _ _ _ _ _ (intsV []) := ho141
 have nr142 : NbR (.slice (some ⟨b72, 0, none⟩) 0 0) (.slice A0_10 n0_10 c0_10) := nbr_new nb0_10_b72
 have sp144 := sp_own (n' := 0) (c := 0) sp80
 have nb145 : Nb b2 (.slice (some ⟨b72, 0, none⟩) 0 0) := nb_new ne83
 refine loopK (fun am1 aa1 wl1 => ∃ (i : Nat) (A1_11 : Option Addr) (n1_11 : Nat) (c1_11 : Nat) , Kn aa1 [(0, .agg #[.int .i64 m, .slice A n c]), (1, .slice A2 n2 c2), (2, .int .i64 a), (3, .pointer (some ⟨b2, 0, none⟩)), (6, .slice none 0 0), (7, .slice none 0 0), (8, .slice A39 n40 c41), (9, .slice A42 n43 c44), (10, .slice A0_10 n0_10 c0_10), (11, .slice A1_11 n1_11 c1_11), (12, .int .i64 ((j + 1 : Nat) : Int)), (13, .int .i64 (i : Int)), (28, .bool false)] 56 ∧ (am1 = n - i) ∧ (i ≤ n) ∧ (n1_11 ≤ i) ∧ (wl1.heap[b2]? = some (.cells #[.int .i64 m, .slice A n c] 26 (0, 0))) ∧ (wl1.ownsRow w.heap.size 3 1 (.slice A0_10 n0_10 c0_10) n0_10 (intsV (nodesL (linked ps (openQ vs true)) m.toNat a false))) ∧ (wl1.ownsRow w.heap.size 3 1 (.slice A1_11 n1_11 c1_11) n1_11 (intsV (idxL (linked ps (openQ vs true)) i a false))) ∧ (Nb b2 (.slice A1_11 n1_11 c1_11)) ∧ (NbR (.slice A1_11 n1_11 c1_11) (.slice A0_10 n0_10 c0_10)) ∧ (Rd wl1 1 A42 n43 (intsV (idxL (linked ps (openQ vs true)) ps.length a true))) ∧ (Sp A42 n43 (Value.ownBlock (.slice A1_11 n1_11 c1_11))) ∧ (Below w.heap.size w wl1)) (n - 0) ?_ ?_
 ·exact ⟨0, (some ⟨b72, 0, none⟩), 0, 0, Kn.of, rfl, (Nat.zero_le _), (Nat.zero_le _), x6, (by rw [show m.toNat = j by omega]; exact ho0_10), ho141, nb145, nr142, rd0_9, sp144, c97⟩
 rintro am1 aa1 wl1 K13 h13 ⟨i, A1_11, n1_11, c1_11, ⟨U1, rfl⟩, rfl, hi, hb11, x6, ho1_10, ho1_11, nb1_11_b2, nr1_1_0, rd1_9, sp1_9_11, c146⟩
 refine wk fun K14 h14 => ?_
 refine wk fun K15 h15 => ?_
 refine Rq 5 ?_
 refine Fv (.int .i64 (i : Int)) ?_
 refine Fq (.pointer (some ⟨b2, 1, none⟩)) (r_field (k := 1) rfl ek kk) ?_
 refine Fl (.slice A n c) (eqS (blk_cell (j := 1) x6 kk)) ?_
 refine Fq (.int .i64 (n : Int)) (r_len (A := A) (n := n) (c := c) rfl ek kk) ?_
 by_cases q147 : ((i : Int) : Int) < ((n : Int) : Int)
 ·refine Fq (.bool true) (r_lss (m := (i : Int)) (n := (n : Int)) rfl ek ek (dt q147)) ?_
  apply F.es
  apply h15
  refine wp_cond_true ek ?_
  apply wp_skip
  apply h14
  refine wk fun K16 h16 => ?_
  refine wp_block ?_
  refine wk fun K17 h17 => ?_
  refine W.region_plain (row := none) [(0, false), (1, false), (2, true), (3, false)] kk ?_
  have s148 := SG.self wl1 none
  refine Fv (.slice A42 n43 c44) ?_
  refine Fv (.int .i64 (i : Int)) ?_
  refine Fc [.slice A42 n43 c44, .int .i64 (i : Int)] (l1Has_any A42 n43 c44 (idxL (linked ps (openQ vs true)) ps.length a true) (i : Int) _ (Rk rd1_9 (SG.below s148)) (by omega)) ?_
  rintro e w150 ⟨rfl, b149⟩
  have s151 := SG.of_below s148 b149
  refine ⟨_, rfl, s151, ?_⟩
  apply F.nx
  have ho152 := own_kept ho1_10 b149
  have ho153 := own_kept ho1_11 b149
  rcases Bool.eq_false_or_eq_true ((idxL (linked ps (openQ vs true)) ps.length a true).contains (i : Int)) with q154 | q154
  ·rw [q154]
   refine Fq (.bool false) (r_not (b := true) rfl ek rfl) ?_
   apply F.es
   have x6 := Sk s151 x6 onn
   have c155 := (Sb c146 s151 nkk)
   have rd156 := Rk rd1_9 (SG.below s151)
   apply h17
   refine wp_cond_false ek ?_
   apply wp_skip
   apply h16
   refine Rq 3 ?_
   refine Fv (.int .i64 (i : Int)) ?_
   refine Fq (.int .i64 ((i + 1 : Nat) : Int)) (r_add (m := (i : Int)) (n := 1) (z := ((i + 1 : Nat) : Int)) rfl ek ek (by omega) (by omega)) ?_
   refine Fa (.int .i64 ((i + 1 : Nat) : Int)) ?_
   apply F.es
   exact h13 _ _ _ (by omega : (n - (i + 1)) < _) ⟨i + 1, A1_11, n1_11, c1_11, Kn.of, rfl, (by omega), (by omega), x6, ho152, (by rw [idxL_no (ne_of_not (by rw [show rb (linked ps (openQ vs true)) a (9 + (i : Int)) = true from (idxL_has (by omega : 0 ≤ (i : Int) ∧ (i : Int) < ps.length)).symm.trans q154]; try rfl))]; exact ho153), nb1_11_b2, nr1_1_0, rd156, sp1_9_11, c155⟩
  rw [q154]
  refine Fq (.bool true) (r_not (b := false) rfl ek rfl) ?_
  apply F.es
  have x6 := Sk s151 x6 onn
  have c157 := (Sb c146 s151 nkk)
  have rd158 := Rk rd1_9 (SG.below s151)
  apply h17
  refine wp_cond_true ek ?_
  refine W.region_plain (row := (Value.ownBlock (.slice A1_11 n1_11 c1_11))) [(0, false), (1, false), (2, true), (3, true), (4, false)] kk ?_
  have s159 := SG.self w150 (Value.ownBlock (.slice A1_11 n1_11 c1_11))
  refine Fv (.slice A1_11 n1_11 c1_11) ?_
  refine Fv (.int .i64 (i : Int)) ?_
  refine W.sn (fun b => .slice (some ⟨b, 0, none⟩) 1 1) #[.int .i64 (i : Int)] 3 s159 rfl kk rfl (fun _ => by kernel_rfl) (fun b160 w161 hb162 k163 x164 s165 => ?_)
  apply F.nx
  have lo166 : w.heap.size ≤ b160 := Nl ((Sb c157 s159 (fun kq e => (World.ownsRow.lt ho153 kq e).1))).size (Nat.le_of_eq hb162)
  have ho171 := own_kept ho152 k163
  have ho172 := own_kept ho153 k163
  refine W.sap (e := 3) (size := 1) (base := w.heap.size) (m := 1) (v := .slice A1_11 n1_11 c1_11) (c := 1) s165 rfl rfl rfl rfl kk kk kk ho172 x164 kk kk (by omega) (by omega) (by have := ((Sb c157 s165 (fun kq e => (World.ownsRow.lt ho153 kq e).1))).size; omega) (.inl rfl) (fun g173 cap174 w175 ho176 hg177 hat178 hlt179 s180 => ?_)
  apply F.nx
  have nb181 : Nb b2 (.slice (some ⟨g173, 0, none⟩) (n1_11 + 1) cap174) := nb_app nb1_11_b2 (Nat.lt_of_lt_of_le (blk_lt x6) (s165).size) hat178
  have ho176 := own_snoc ho176
  have sp183 := sp_app (v' := .slice (some ⟨g173, 0, none⟩) (n1_11 + 1) cap174) sp1_9_11 rd158 ((s165).size) (hat3 (v := .slice A1_11 n1_11 c1_11) hat178)
  have nr184 : NbR (.slice (some ⟨g173, 0, none⟩) (n1_11 + 1) cap174) (.slice A0_10 n0_10 c0_10) := nbr_app nr1_1_0 (fun j h => (World.ownsRow.lt ho171 j h).2) (hat3 (v := .slice A1_11 n1_11 c1_11) hat178)
  have ho185 := own_grown ho171 hg177 (NbR.symm nr1_1_0)
  refine Fa (.slice (some ⟨g173, 0, none⟩) (n1_11 + 1) cap174) ?_
  apply F.es
  have x6 := Sk s180 x6 nb1_11_b2
  have c186 := (Sb c157 s180 (fun kq e => (World.ownsRow.lt ho153 kq e).1))
  have rd187 := rd_sep rd158 s180 sp1_9_11
  apply h16
  refine Rq 3 ?_
  refine Fv (.int .i64 (i : Int)) ?_
  refine Fq (.int .i64 ((i + 1 : Nat) : Int)) (r_add (m := (i : Int)) (n := 1) (z := ((i + 1 : Nat) : Int)) rfl ek ek (by omega) (by omega)) ?_
  refine Fa (.int .i64 ((i + 1 : Nat) : Int)) ?_
  apply F.es
  exact h13 _ _ _ (by omega : (n - (i + 1)) < _) ⟨i + 1, (some ⟨g173, 0, none⟩), (n1_11 + 1), cap174, Kn.of, rfl, (by omega), (by omega), x6, ho185, (by rw [idxL_yes ((idxL_has (by omega : 0 ≤ (i : Int) ∧ (i : Int) < ps.length)).symm.trans q154)]; exact ho176), nb181, nr184, rd187, sp183, c186⟩
 refine Fq (.bool false) (r_lss (m := (i : Int)) (n := (n : Int)) rfl ek ek (df q147)) ?_
 apply F.es
 apply h15
 refine wp_cond_false ek ?_
 refine wp_exit ?_
 apply h11
 refine wk fun K18 h18 => ?_
 refine Rq 4 ?_
 refine Fv (.slice A0_10 n0_10 c0_10) ?_
 refine Fv (.slice A1_11 n1_11 c1_11) ?_
 refine Fa (.slice A0_10 n0_10 c0_10) ?_
 refine Fa (.slice A1_11 n1_11 c1_11) ?_
 apply F.es
 apply h18
 refine wp_ret ?_
 try simp only [Exit.then]
 refine ret2 (v := .slice A0_10 n0_10 c0_10) (x := .slice A1_11 n1_11 c1_11) rfl kk kk ?_
 exact ⟨_, _, _, _, _, _, rfl, own_rd ho1_10, own_fm ho1_10, (by rw [show ps.length = i by omega]; exact own_rd ho1_11), own_fm ho1_11, c146⟩
end Go.Proofs.Ytdbgfejeleafgaa
namespace Go.Proofs.Ytdbgfejeleafgaa
open Go.RowKit
set_option linter.unusedVariables false
set_option linter.unusedSimpArgs false
theorem flatV_take {vs : List Vv} : ∀ k, (valvesV vs).take (k * 4) = valvesV (vs.take k) := by
  intro k
  induction vs generalizing k with
  | nil => simp [valvesV]
  | cons p ps ih =>
    cases k with
    | zero => simp [valvesV]
    | succ k => simp only [valvesV, List.flatMap_cons, List.take_succ_cons] at ih ⊢; rw [show (k + 1) * 4 = k * 4 + 4 by omega]; simp [Vv.vals, ih]
theorem Rd.toV {w : World} {A : Option Addr} {n k : Nat} {vs : List Vv} (h : Rd w 4 A n (valvesV vs)) (hk : k ≤ n) : Rd w 4 A k (valvesV (vs.take k)) := by
  have := h.to hk; rwa [flatV_take] at this
theorem other_zero {p : Pp} {u : Int} (h1 : 1 ≤ p.fr) (h2 : 1 ≤ p.to) : otherOf p u = 0 ↔ ¬ (p.fr = u ∨ p.to = u) := by
  rw [← other_pos h1 h2]
  unfold otherOf
  split
  · omega
  · split <;> omega
set_option maxRecDepth 100000 in
set_option maxHeartbeats 8000000 in
theorem IsValidValves_any (m : Int) (A : Option Addr) (n c : Nat) (ps : List Pp) (A2 : Option Addr) (n2 c2 : Nat) (vs : List Vv) (w : World) (ha : Rd w 4 A n (pipesV ps)) (hb : Rd w 4 A2 n2 (valvesV vs)) (hn : n ≤ 1048576) (hn2 : n2 ≤ 1048576) (hfm2 : Fm A2 n2 c2) :
    Calls Try.prog 13 #[.agg #[.int .i64 m, .slice A n c], .slice A2 n2 c2] w fun e w' => e = .returned (.bool (goodV m ps vs)) ∧ Below w.heap.size w w' := by
 have hl := rd_pipes_len ha
 have hl2 := rd_valves_len hb
 go_enter Try.func13, Try.ntmps13
 refine F.begin 72 [(0, .agg #[.int .i64 m, .slice A n c]), (1, .slice A2 n2 c2)] (fun U0 => ?_)
 refine wk fun K1 h1 => ?_
 refine W.region_plain (row := none) [(0, true), (1, false)] kk ?_
 have s1 := SG.self w none
 refine W.sn (fun b => .pointer (some ⟨b, 0, none⟩)) #[.int .i64 m, .slice A n c] 26 s1 rfl kk rfl (fun _ => by kernel_rfl) (fun b2 w3 hb4 k5 x6 s7 => ?_)
 apply F.nx
 have lo8 : w.heap.size ≤ b2 := Nl ((Sb (Below.refl _ _) s1 nkk)).size (Nat.le_of_eq hb4)
 refine Fa (.bool false) ?_
 apply F.es
 have c9 := (Sb (Below.refl _ _) s7 nkk)
 apply h1
 refine wk fun K2 h2 => ?_
 refine wk fun K3 h3 => ?_
 refine W.region_plain (row := none) [(0, false), (1, true), (2, false), (3, false), (4, false), (5, false), (6, false), (7, false)] kk ?_
 have s10 := SG.self w3 none
 refine Fq (.agg #[.int .i64 m, .slice A n c]) (r_load2 rfl ek kk kk (sgS (blk_cell (j := 0) x6 kk) onn) (sgS (blk_cell (j := 1) x6 kk) onn)) ?_
 refine Fc [.agg #[.int .i64 m, .slice A n c]] (IsValid_any m A n c ps _ (Rk ha (Sb c9 s10 nkk)) (by omega)) ?_
 rintro e w12 ⟨rfl, b11⟩
 have s13 := SG.of_below s10 b11
 refine ⟨_, rfl, s13, ?_⟩
 apply F.nx
 rcases Bool.eq_false_or_eq_true (goodN m ps) with q14 | q14
 ·rw [q14]
  refine Fq (.bool false) (r_not (b := true) rfl ek rfl) ?_
  refine Fv (.bool false) ?_
  refine Fv (.slice A2 n2 c2) ?_
  refine Fq (.int .i64 (n2 : Int)) (r_len (A := A2) (n := n2) (c := c2) rfl ek kk) ?_
  by_cases q15 : ((n2 : Int) : Int) > (10 : Int)
  ·refine Fq (.bool true) (r_gtr (m := (n2 : Int)) (n := 10) rfl ek ek (dt q15)) ?_
   refine Fq (.bool true) (r_pick (b := false) rfl ek ek) ?_
   apply F.es
   have x6 := Sk s13 x6 onn
   have c16 := (Sb c9 s13 nkk)
   apply h3
   refine wp_cond_true ek ?_
   refine wk fun K4 h4 => ?_
   refine Rq 1 ?_
   refine Fa (.bool false) ?_
   apply F.es
   apply h4
   refine wp_ret ?_
   try simp only [Exit.then]
   refine ret1 (v := .bool false) rfl kk ?_
   exact ⟨ret_bool (goodV_out (.inr (by omega))).symm, c16⟩
  refine Fq (.bool false) (r_gtr (m := (n2 : Int)) (n := 10) rfl ek ek (df q15)) ?_
  refine Fq (.bool false) (r_pick (b := false) rfl ek ek) ?_
  apply F.es
  have x6 := Sk s13 x6 onn
  have c17 := (Sb c9 s13 nkk)
  apply h3
  refine wp_cond_false ek ?_
  apply wp_skip
  apply h2
  refine wk fun K5 h5 => ?_
  refine wk fun K6 h6 => ?_
  refine Rq 3 ?_
  refine Fv (.slice A2 n2 c2) ?_
  refine Fq (.int .i64 (n2 : Int)) (r_len (A := A2) (n := n2) (c := c2) rfl ek kk) ?_
  refine Fv (.int .i64 0) ?_
  apply F.es
  apply h6
  refine wp_block ?_
  refine loopK (fun am0 aa0 wl0 => ∃ (K : Nat) , Kn aa0 [(0, .agg #[.int .i64 m, .slice A n c]), (1, .slice A2 n2 c2), (2, .pointer (some ⟨b2, 0, none⟩)), (4, .bool false), (15, .bool false), (16, .slice A2 n2 c2), (17, .int .i64 (n2 : Int)), (18, .int .i64 (K : Int))] 72 ∧ (am0 = n2 - K) ∧ (K ≤ n2) ∧ (okVTo ps vs K = true) ∧ (wl0.heap[b2]? = some (.cells #[.int .i64 m, .slice A n c] 26 (0, 0))) ∧ (Below w.heap.size w wl0)) (n2 - 0) ?_ ?_
  ·exact ⟨0, Kn.of, rfl, (Nat.zero_le _), rfl, x6, c17⟩
  rintro am0 aa0 wl0 K7 h7 ⟨K, ⟨U0, rfl⟩, rfl, hk, hok, x6, c18⟩
  refine wk fun K8 h8 => ?_
  refine Rq 1 ?_
  by_cases q19 : ((K : Int) : Int) < ((n2 : Int) : Int)
  ·refine Fq (.bool true) (r_lss (m := (K : Int)) (n := (n2 : Int)) rfl ek ek (dt q19)) ?_
   apply F.es
   apply h8
   refine wk fun K9 h9 => ?_
   refine wp_cond_true ek ?_
   apply wp_skip
   apply h9
   refine wk fun K10 h10 => ?_
   refine wp_block ?_
   refine wk fun K11 h11 => ?_
   refine W.region_plain (row := none) [(0, false), (1, false), (2, false), (3, true), (4, false), (5, true)] kk ?_
   have s20 := SG.self wl0 none
   refine Fv (.int .i64 (K : Int)) ?_
   obtain ⟨x21, hx22⟩ := get_of (zs := vs) (k := K) (by have := hl2; omega)
   obtain ⟨b23, o24, hA25, hb26, hc27, hc28, hc29, hc30⟩ := Rd.elValve hb hx22
   refine Fq (.pointer (some ⟨b23, o24 + K * 4, none⟩)) (r_idx (n := n2) (c := c2) (k := K) rfl ek hA25 kk kk (by have := hl2; omega)) ?_
   refine Fq (.agg #[.int .i64 x21.id, .int .i64 x21.pipe, .int .i64 x21.node, .bool x21.shut]) (r_load4 rfl ek kk kk (sgS (later c18 hc27) (by simp)) (sgS (later c18 hc28) (by simp)) (sgS (later c18 hc29) (by simp)) (sgS (later c18 hc30) (by simp))) ?_
   refine W.sn (fun b => .pointer (some ⟨b, 0, none⟩)) #[.int .i64 0, .int .i64 0, .int .i64 0, .bool false] 40 s20 rfl kk rfl (fun _ => by kernel_rfl) (fun b31 w32 hb33 k34 x35 s36 => ?_)
   apply F.nx
   have lo37 : w.heap.size ≤ b31 := Nl ((Sb c18 s20 nkk)).size (Nat.le_of_eq hb33)
   refine Fa (.int .i64 (K : Int)) ?_
   refine W.ss (v := .agg #[.int .i64 x21.id, .int .i64 x21.pipe, .int .i64 x21.node, .bool x21.shut]) (j := 0) (news := [.int .i64 x21.id, .int .i64 x21.pipe, .int .i64 x21.node, .bool x21.shut]) (cs' := #[.int .i64 x21.id, .int .i64 x21.pipe, .int .i64 x21.node, .bool x21.shut]) s36 rfl kk rfl rfl kk kk x35 kk kk (by simp) kk kk (.inr (Nl (s20).size (Nat.le_of_eq hb33))) (fun w39 g40 x41 s42 => ?_)
   apply F.es
   have x6 := Sk s42 x6 onn
   have c43 := (Sb c18 s42 nkk)
   apply h11
   refine wk fun K12 h12 => ?_
   refine W.region_plain (row := none) [(0, false), (1, false), (2, false), (3, true), (4, false)] kk ?_
   have s44 := SG.self w39 none
   refine Fq (.agg #[.int .i64 m, .slice A n c]) (r_load2 rfl ek kk kk (sgS (blk_cell (j := 0) x6 kk) onn) (sgS (blk_cell (j := 1) x6 kk) onn)) ?_
   refine Fq (.pointer (some ⟨b31, 1, none⟩)) (r_field (k := 1) rfl ek kk) ?_
   refine Fl (.int .i64 x21.pipe) (sgS (blk_cell (j := 1) x41 kk) onn) ?_
   refine Fc [.agg #[.int .i64 m, .slice A n c], .int .i64 x21.pipe] (pipeIndex_any m A n c ps x21.pipe _ (Rk ha (Sb c43 s44 nkk)) (by omega)) ?_
   rintro e w46 ⟨rfl, b45⟩
   have s47 := SG.of_below s44 b45
   refine ⟨_, rfl, s47, ?_⟩
   apply F.nx
   refine Fa (.int .i64 (findL ps x21.pipe)) ?_
   apply F.es
   have x6 := Sk s47 x6 onn
   have x41 := Sk s47 x41 onn
   have c48 := (Sb c43 s47 nkk)
   apply h12
   refine wk fun K13 h13 => ?_
   refine wk fun K14 h14 => ?_
   refine W.region_sch (row := none) (Sch.of [(0, false), (1, false), (2, true), (3, false), (4, false), (5, false), (6, false), (7, false), (8, false), (9, false), (10, false), (11, false), (12, false), (13, false), (14, false), (15, false), (16, false), (17, false), (18, false), (19, false), (20, false), (21, false), (22, false), (23, false), (24, false), (25, false), (26, false), (27, false), (28, false), (29, false), (30, false), (31, false), (32, false), (33, false), (34, false), (35, false), (36, true), (37, false), (38, false)]) kk kk (fun _ d _ _ _ h => by cases d <;> exact h) kk (fun w49 e50 s51 => ?_)
   refine Fq (.pointer (some ⟨b31, 0, none⟩)) (r_field0 rfl ek kk) ?_
   refine Fl (.int .i64 x21.id) (sgS (blk_cell (j := 0) x41 kk) onn) ?_
   refine Fc [.int .i64 x21.id, .int .i64 1, .int .i64 99] (inside_any x21.id 1 99 _) ?_
   rintro e w' ⟨rfl, rfl⟩
   refine ⟨_, rfl, s51, ?_⟩
   apply F.nx
   rcases Bool.eq_false_or_eq_true (inB x21.id 1 99) with q54 | q54
   ·rw [q54]
    refine Fq (.bool false) (r_not (b := true) rfl ek rfl) ?_
    refine Fv (.bool false) ?_
    refine Fv (.int .i64 (K : Int)) ?_
    by_cases q55 : ((K : Int) : Int) > (0 : Int)
    ·obtain ⟨k, rfl⟩ : ∃ k, K = k + 1 := ⟨K - 1, by omega⟩
     refine Fq (.bool true) (r_gtr (m := (((k + 1) : Nat) : Int)) (n := 0) rfl ek ek (dt q55)) ?_
     refine Fv (.bool true) ?_
     refine Fv (.slice A2 n2 c2) ?_
     refine Fv (.int .i64 (((k + 1) : Nat) : Int)) ?_
     refine Fq (.int .i64 (k : Int)) (r_sub (m := (((k + 1) : Nat) : Int)) (n := 1) (z := (k : Int)) rfl ek ek (by omega) (by omega)) ?_
     obtain ⟨x56, hx57⟩ := get_of (zs := vs) (k := k) (by have := hl2; omega)
     obtain ⟨b58, o59, hA60, hb61, hc62, hc63, hc64, hc65⟩ := Rd.elValve hb hx57
     refine Fq (.pointer (some ⟨b58, o59 + k * 4, none⟩)) (r_idx (n := n2) (c := c2) (k := k) rfl ek hA60 kk kk (by have := hl2; omega)) ?_
     refine Fq (.pointer (some ⟨b58, o59 + k * 4, none⟩)) (r_field0 rfl ek kk) ?_
     refine Fl (.int .i64 x56.id) (sgS (later c48 hc62) (by simp)) ?_
     refine Fq (.pointer (some ⟨b31, 0, none⟩)) (r_field0 rfl ek kk) ?_
     refine Fl (.int .i64 x21.id) (sgS (blk_cell (j := 0) x41 kk) onn) ?_
     by_cases q66 : (x56.id : Int) ≥ (x21.id : Int)
     ·refine Fq (.bool true) (r_geq (m := x56.id) (n := x21.id) rfl ek ek (dt q66)) ?_
      refine Fq (.bool true) (r_pick (b := true) rfl ek ek) ?_
      refine Fq (.bool true) (r_pick (b := false) rfl ek ek) ?_
      refine Fv (.bool true) ?_
      refine Fs s51 ?_
      refine Fs s51 ?_
      refine Fq (.bool true) (r_pick (b := true) rfl ek ek) ?_
      refine Fv (.bool true) ?_
      refine Fs s51 ?_
      refine Fs s51 ?_
      refine Fs s51 ?_
      refine Fq (.bool true) (r_pick (b := true) rfl ek ek) ?_
      refine Fv (.bool true) ?_
      refine Fs s51 ?_
      refine Fs s51 ?_
      refine Fs s51 ?_
      refine Fs s51 ?_
      refine Fs s51 ?_
      refine Fs s51 ?_
      refine Fs s51 ?_
      refine Fs s51 ?_
      refine Fs s51 ?_
      refine Fq (.bool true) (r_pick (b := true) rfl ek ek) ?_
      apply F.es
      have x6 := Sk s51 x6 onn
      have x41 := Sk s51 x41 onn
      have c67 := (Sb c48 s51 nkk)
      apply h14
      refine wp_cond_true ek ?_
      refine wk fun K15 h15 => ?_
      refine Rq 1 ?_
      refine Fa (.bool false) ?_
      apply F.es
      apply h15
      refine wp_ret ?_
      try simp only [Exit.then, Exit.inBlock]
      refine ret1 (v := .bool false) rfl kk ?_
      have e8 : okV ps vs (k + 1) = false := Bool.eq_false_iff.2 (fun h9 => by
        have h8 := (okV_iff hx22).1 h9
        obtain ⟨⟨hA, hB⟩, hC, hD⟩ := h8
        obtain ⟨hC0, p9, hp9, hC1⟩ := endAt_pos hC
        have hg9 := (good_of q14).at hp9
        have h7 := (other_zero (u := x21.node) hg9.2.1.1 hg9.2.2.1.1)
        have hB' := of_decide_eq_true ((above_next hx57).symm.trans hB)
        first | omega | (rw [inB_iff.2 hA] at q54; cases q54))
      exact ⟨ret_bool (goodV_bad (k := k + 1) (by omega) e8).symm, c67⟩
     refine Fq (.bool false) (r_geq (m := x56.id) (n := x21.id) rfl ek ek (df q66)) ?_
     refine Fq (.bool false) (r_pick (b := true) rfl ek ek) ?_
     refine Fq (.bool false) (r_pick (b := false) rfl ek ek) ?_
     refine Fv (.bool false) ?_
     refine Fv (.int .i64 (findL ps x21.pipe)) ?_
     by_cases q68 : (findL ps x21.pipe : Int) < (0 : Int)
     ·refine Fq (.bool true) (r_lss (m := findL ps x21.pipe) (n := 0) rfl ek ek (dt q68)) ?_
      refine Fq (.bool true) (r_pick (b := false) rfl ek ek) ?_
      refine Fv (.bool true) ?_
      refine Fs s51 ?_
      refine Fs s51 ?_
      refine Fs s51 ?_
      refine Fq (.bool true) (r_pick (b := true) rfl ek ek) ?_
      refine Fv (.bool true) ?_
      refine Fs s51 ?_
      refine Fs s51 ?_
      refine Fs s51 ?_
      refine Fs s51 ?_
      refine Fs s51 ?_
      refine Fs s51 ?_
      refine Fs s51 ?_
      refine Fs s51 ?_
      refine Fs s51 ?_
      refine Fq (.bool true) (r_pick (b := true) rfl ek ek) ?_
      apply F.es
      have x6 := Sk s51 x6 onn
      have x41 := Sk s51 x41 onn
      have c69 := (Sb c48 s51 nkk)
      apply h14
      refine wp_cond_true ek ?_
      refine wk fun K16 h16 => ?_
      refine Rq 1 ?_
      refine Fa (.bool false) ?_
      apply F.es
      apply h16
      refine wp_ret ?_
      try simp only [Exit.then, Exit.inBlock]
      refine ret1 (v := .bool false) rfl kk ?_
      have e8 : okV ps vs (k + 1) = false := Bool.eq_false_iff.2 (fun h9 => by
        have h8 := (okV_iff hx22).1 h9
        obtain ⟨⟨hA, hB⟩, hC, hD⟩ := h8
        obtain ⟨hC0, p9, hp9, hC1⟩ := endAt_pos hC
        have hg9 := (good_of q14).at hp9
        have h7 := (other_zero (u := x21.node) hg9.2.1.1 hg9.2.2.1.1)
        have hB' := of_decide_eq_true ((above_next hx57).symm.trans hB)
        first | omega | (rw [inB_iff.2 hA] at q54; cases q54))
      exact ⟨ret_bool (goodV_bad (k := k + 1) (by omega) e8).symm, c69⟩
     refine Fq (.bool false) (r_lss (m := findL ps x21.pipe) (n := 0) rfl ek ek (df q68)) ?_
     refine Fq (.bool false) (r_pick (b := false) rfl ek ek) ?_
     refine Fv (.bool false) ?_
     refine Fq (.pointer (some ⟨b31, 2, none⟩)) (r_field (k := 2) rfl ek kk) ?_
     refine Fl (.int .i64 x21.node) (sgS (blk_cell (j := 2) x41 kk) onn) ?_
     by_cases q70 : (x21.node : Int) < (1 : Int)
     ·refine Fq (.bool true) (r_lss (m := x21.node) (n := 1) rfl ek ek (dt q70)) ?_
      refine Fq (.bool true) (r_pick (b := false) rfl ek ek) ?_
      refine Fv (.bool true) ?_
      refine Fs s51 ?_
      refine Fs s51 ?_
      refine Fs s51 ?_
      refine Fs s51 ?_
      refine Fs s51 ?_
      refine Fs s51 ?_
      refine Fs s51 ?_
      refine Fs s51 ?_
      refine Fs s51 ?_
      refine Fq (.bool true) (r_pick (b := true) rfl ek ek) ?_
      apply F.es
      have x6 := Sk s51 x6 onn
      have x41 := Sk s51 x41 onn
      have c71 := (Sb c48 s51 nkk)
      apply h14
      refine wp_cond_true ek ?_
      refine wk fun K17 h17 => ?_
      refine Rq 1 ?_
      refine Fa (.bool false) ?_
      apply F.es
      apply h17
      refine wp_ret ?_
      try simp only [Exit.then, Exit.inBlock]
      refine ret1 (v := .bool false) rfl kk ?_
      have e8 : okV ps vs (k + 1) = false := Bool.eq_false_iff.2 (fun h9 => by
        have h8 := (okV_iff hx22).1 h9
        obtain ⟨⟨hA, hB⟩, hC, hD⟩ := h8
        obtain ⟨hC0, p9, hp9, hC1⟩ := endAt_pos hC
        have hg9 := (good_of q14).at hp9
        have h7 := (other_zero (u := x21.node) hg9.2.1.1 hg9.2.2.1.1)
        have hB' := of_decide_eq_true ((above_next hx57).symm.trans hB)
        first | omega | (rw [inB_iff.2 hA] at q54; cases q54))
      exact ⟨ret_bool (goodV_bad (k := k + 1) (by omega) e8).symm, c71⟩
     refine Fq (.bool false) (r_lss (m := x21.node) (n := 1) rfl ek ek (df q70)) ?_
     refine Fq (.bool false) (r_pick (b := false) rfl ek ek) ?_
     refine Fv (.bool false) ?_
     refine Fq (.pointer (some ⟨b2, 1, none⟩)) (r_field (k := 1) rfl ek kk) ?_
     refine Fl (.slice A n c) (sgS (blk_cell (j := 1) x6 kk) onn) ?_
     refine Fv (.int .i64 (findL ps x21.pipe)) ?_
     have hfl := findL_lt ps x21.pipe
     obtain ⟨pz, hpz⟩ := get_of (zs := ps) (k := (findL ps x21.pipe).toNat) (by omega)
     have hgz := (good_of q14).at hpz
     obtain ⟨b72, o73, hA74, hb75, hc76, hc77, hc78, hc79⟩ := Rd.elPipe ha hpz
     refine Fq (.pointer (some ⟨b72, o73 + ((findL ps x21.pipe).toNat) * 4, none⟩)) (r_idx (n := n) (c := c) (k := (findL ps x21.pipe).toNat) rfl ek hA74 (evk (z := findL ps x21.pipe) kk (by omega)) kk (by have := hl; omega)) ?_
     refine Fq (.agg #[.int .i64 pz.id, .int .i64 pz.fr, .int .i64 pz.to, .int .i64 pz.sz]) (r_load4 rfl ek kk kk (sgS (later c48 hc76) (by simp)) (sgS (later c48 hc77) (by simp)) (sgS (later c48 hc78) (by simp)) (sgS (later c48 hc79) (by simp))) ?_
     refine Fq (.pointer (some ⟨b31, 2, none⟩)) (r_field (k := 2) rfl ek kk) ?_
     refine Fl (.int .i64 x21.node) (sgS (blk_cell (j := 2) x41 kk) onn) ?_
     refine Fc [.agg #[.int .i64 pz.id, .int .i64 pz.fr, .int .i64 pz.to, .int .i64 pz.sz], .int .i64 x21.node] (other_any pz x21.node _) ?_
     rintro e w81 ⟨rfl, b80⟩
     have s82 := SG.of_below s51 b80
     refine ⟨_, rfl, s82, ?_⟩
     apply F.nx
     by_cases q83 : (otherOf pz x21.node : Int) = (0 : Int)
     ·refine Fq (.bool true) (r_eql (m := otherOf pz x21.node) (n := 0) rfl ek ek (dt q83)) ?_
      refine Fq (.bool true) (r_pick (b := false) rfl ek ek) ?_
      apply F.es
      have x6 := Sk s82 x6 onn
      have x41 := Sk s82 x41 onn
      have c84 := (Sb c48 s82 nkk)
      apply h14
      refine wp_cond_true ek ?_
      refine wk fun K18 h18 => ?_
      refine Rq 1 ?_
      refine Fa (.bool false) ?_
      apply F.es
      apply h18
      refine wp_ret ?_
      try simp only [Exit.then, Exit.inBlock]
      refine ret1 (v := .bool false) rfl kk ?_
      have e8 : okV ps vs (k + 1) = false := Bool.eq_false_iff.2 (fun h9 => by
        have h8 := (okV_iff hx22).1 h9
        obtain ⟨⟨hA, hB⟩, hC, hD⟩ := h8
        obtain ⟨hC0, p9, hp9, hC1⟩ := endAt_pos hC
        have hg9 := (good_of q14).at hp9
        have h7 := (other_zero (u := x21.node) hg9.2.1.1 hg9.2.2.1.1)
        have hB' := of_decide_eq_true ((above_next hx57).symm.trans hB)
        obtain rfl := Option.some.inj (hp9.symm.trans hpz)
        first | omega | (rw [inB_iff.2 hA] at q54; cases q54))
      exact ⟨ret_bool (goodV_bad (k := k + 1) (by omega) e8).symm, c84⟩
     refine Fq (.bool false) (r_eql (m := otherOf pz x21.node) (n := 0) rfl ek ek (df q83)) ?_
     refine Fq (.bool false) (r_pick (b := false) rfl ek ek) ?_
     apply F.es
     have x6 := Sk s82 x6 onn
     have x41 := Sk s82 x41 onn
     have c85 := (Sb c48 s82 nkk)
     apply h14
     refine wp_cond_false ek ?_
     apply wp_skip
     apply h13
     refine wk fun K19 h19 => ?_
     refine W.region_plain (row := none) [(0, false), (1, false), (2, false), (3, false), (4, true)] kk ?_
     have s86 := SG.self w81 none
     refine Fv (.slice A2 n2 c2) ?_
     refine Fv (.int .i64 (((k + 1) : Nat) : Int)) ?_
     refine Fq (.slice A2 (k + 1) c2) (r_sliceTo (A := A2) (n := n2) (c := c2) (k := (k + 1)) (size := 4) rfl ek ek kk (by have := (hfm2).le; omega)) ?_
     refine Fq (.func (.func 83) #[] #[.pointer (some ⟨b31, 0, none⟩)]) (r_makeFunc (vs := [.pointer (some ⟨b31, 0, none⟩)]) rfl kk) ?_
     refine Fc [.slice A2 (k + 1) c2, .func (.func 83) #[] #[.pointer (some ⟨b31, 0, none⟩)]] (anyV_any A2 (k + 1) c2 (vs.take (k + 1)) 83 #[.pointer (some ⟨b31, 0, none⟩)] (fun v => decide (v.pipe = x21.pipe) && decide (v.node = x21.node)) _ (Rd.toV (Rk hb (Sb c85 s86 nkk)) (by omega)) (by omega) kk (fun W v hW => validF_any v x21 b31 W ((hW.block _ (blk_lt x41)).trans x41))) ?_
     rintro e w88 ⟨rfl, b87⟩
     have s89 := SG.of_below s86 b87
     refine ⟨_, rfl, s89, ?_⟩
     apply F.nx
     rcases Bool.eq_false_or_eq_true ((vs.take (k + 1)).any (fun v => decide (v.pipe = x21.pipe) && decide (v.node = x21.node))) with q90 | q90
     ·rw [q90]
      apply F.es
      have x6 := Sk s89 x6 onn
      have x41 := Sk s89 x41 onn
      have c91 := (Sb c85 s89 nkk)
      apply h19
      refine wp_cond_true ek ?_
      refine wk fun K20 h20 => ?_
      refine Rq 1 ?_
      refine Fa (.bool false) ?_
      apply F.es
      apply h20
      refine wp_ret ?_
      try simp only [Exit.then, Exit.inBlock]
      refine ret1 (v := .bool false) rfl kk ?_
      have e8 : okV ps vs (k + 1) = false := Bool.eq_false_iff.2 (fun h9 => by
        have h8 := (okV_iff hx22).1 h9
        obtain ⟨⟨hA, hB⟩, hC, hD⟩ := h8
        obtain ⟨hC0, p9, hp9, hC1⟩ := endAt_pos hC
        have hg9 := (good_of q14).at hp9
        have h7 := (other_zero (u := x21.node) hg9.2.1.1 hg9.2.2.1.1)
        have hB' := of_decide_eq_true ((above_next hx57).symm.trans hB)
        obtain rfl := Option.some.inj (hp9.symm.trans hpz)
        exact absurd (show placed (vs.take (k + 1)) x21.pipe x21.node = true from q90) (by rw [hD]; simp))
      exact ⟨ret_bool (goodV_bad (k := k + 1) (by omega) e8).symm, c91⟩
     rw [q90]
     apply F.es
     have x6 := Sk s89 x6 onn
     have x41 := Sk s89 x41 onn
     have c92 := (Sb c85 s89 nkk)
     apply h19
     refine wp_cond_false ek ?_
     apply wp_skip
     apply h10
     refine Rq 2 ?_
     refine Fq (.int .i64 (((k + 1) + 1 : Nat) : Int)) (r_add (m := (((k + 1) : Nat) : Int)) (n := 1) (z := (((k + 1) + 1 : Nat) : Int)) rfl ek ek (by omega) (by omega)) ?_
     refine Fv (.int .i64 (((k + 1) + 1 : Nat) : Int)) ?_
     apply F.es
     exact h7 _ _ _ (by omega : (n2 - (k + 1 + 1)) < _) ⟨k + 1 + 1, Kn.of, rfl, (by omega), (okVTo_next hok ((okV_iff hx22).2 ⟨⟨inB_iff.1 q54, (by rw [above_next hx57]; exact decide_eq_true (by omega))⟩, endAt_of (by omega) hpz (by have h9 := (other_zero (u := x21.node) hgz.2.1.1 hgz.2.2.1.1); omega), q90⟩)), x6, c92⟩
    refine Fq (.bool false) (r_gtr (m := (K : Int)) (n := 0) rfl ek ek (df q55)) ?_
    refine Fv (.bool false) ?_
    refine Fs s51 ?_
    refine Fs s51 ?_
    refine Fs s51 ?_
    refine Fs s51 ?_
    refine Fs s51 ?_
    refine Fs s51 ?_
    refine Fs s51 ?_
    refine Fs s51 ?_
    refine Fs s51 ?_
    refine Fq (.bool false) (r_pick (b := false) rfl ek ek) ?_
    refine Fq (.bool false) (r_pick (b := false) rfl ek ek) ?_
    refine Fv (.bool false) ?_
    refine Fv (.int .i64 (findL ps x21.pipe)) ?_
    by_cases q93 : (findL ps x21.pipe : Int) < (0 : Int)
    ·refine Fq (.bool true) (r_lss (m := findL ps x21.pipe) (n := 0) rfl ek ek (dt q93)) ?_
     refine Fq (.bool true) (r_pick (b := false) rfl ek ek) ?_
     refine Fv (.bool true) ?_
     refine Fs s51 ?_
     refine Fs s51 ?_
     refine Fs s51 ?_
     refine Fq (.bool true) (r_pick (b := true) rfl ek ek) ?_
     refine Fv (.bool true) ?_
     refine Fs s51 ?_
     refine Fs s51 ?_
     refine Fs s51 ?_
     refine Fs s51 ?_
     refine Fs s51 ?_
     refine Fs s51 ?_
     refine Fs s51 ?_
     refine Fs s51 ?_
     refine Fs s51 ?_
     refine Fq (.bool true) (r_pick (b := true) rfl ek ek) ?_
     apply F.es
     have x6 := Sk s51 x6 onn
     have x41 := Sk s51 x41 onn
     have c94 := (Sb c48 s51 nkk)
     apply h14
     refine wp_cond_true ek ?_
     refine wk fun K21 h21 => ?_
     refine Rq 1 ?_
     refine Fa (.bool false) ?_
     apply F.es
     apply h21
     refine wp_ret ?_
     try simp only [Exit.then, Exit.inBlock]
     refine ret1 (v := .bool false) rfl kk ?_
     have e8 : okV ps vs (K) = false := Bool.eq_false_iff.2 (fun h9 => by
       have h8 := (okV_iff hx22).1 h9
       obtain ⟨⟨hA, hB⟩, hC, hD⟩ := h8
       obtain ⟨hC0, p9, hp9, hC1⟩ := endAt_pos hC
       have hg9 := (good_of q14).at hp9
       have h7 := (other_zero (u := x21.node) hg9.2.1.1 hg9.2.2.1.1)
       first | omega | (rw [inB_iff.2 hA] at q54; cases q54))
     exact ⟨ret_bool (goodV_bad (k := K) (by omega) e8).symm, c94⟩
    refine Fq (.bool false) (r_lss (m := findL ps x21.pipe) (n := 0) rfl ek ek (df q93)) ?_
    refine Fq (.bool false) (r_pick (b := false) rfl ek ek) ?_
    refine Fv (.bool false) ?_
    refine Fq (.pointer (some ⟨b31, 2, none⟩)) (r_field (k := 2) rfl ek kk) ?_
    refine Fl (.int .i64 x21.node) (sgS (blk_cell (j := 2) x41 kk) onn) ?_
    by_cases q95 : (x21.node : Int) < (1 : Int)
    ·refine Fq (.bool true) (r_lss (m := x21.node) (n := 1) rfl ek ek (dt q95)) ?_
     refine Fq (.bool true) (r_pick (b := false) rfl ek ek) ?_
     refine Fv (.bool true) ?_
     refine Fs s51 ?_
     refine Fs s51 ?_
     refine Fs s51 ?_
     refine Fs s51 ?_
     refine Fs s51 ?_
     refine Fs s51 ?_
     refine Fs s51 ?_
     refine Fs s51 ?_
     refine Fs s51 ?_
     refine Fq (.bool true) (r_pick (b := true) rfl ek ek) ?_
     apply F.es
     have x6 := Sk s51 x6 onn
     have x41 := Sk s51 x41 onn
     have c96 := (Sb c48 s51 nkk)
     apply h14
     refine wp_cond_true ek ?_
     refine wk fun K22 h22 => ?_
     refine Rq 1 ?_
     refine Fa (.bool false) ?_
     apply F.es
     apply h22
     refine wp_ret ?_
     try simp only [Exit.then, Exit.inBlock]
     refine ret1 (v := .bool false) rfl kk ?_
     have e8 : okV ps vs (K) = false := Bool.eq_false_iff.2 (fun h9 => by
       have h8 := (okV_iff hx22).1 h9
       obtain ⟨⟨hA, hB⟩, hC, hD⟩ := h8
       obtain ⟨hC0, p9, hp9, hC1⟩ := endAt_pos hC
       have hg9 := (good_of q14).at hp9
       have h7 := (other_zero (u := x21.node) hg9.2.1.1 hg9.2.2.1.1)
       first | omega | (rw [inB_iff.2 hA] at q54; cases q54))
     exact ⟨ret_bool (goodV_bad (k := K) (by omega) e8).symm, c96⟩
    refine Fq (.bool false) (r_lss (m := x21.node) (n := 1) rfl ek ek (df q95)) ?_
    refine Fq (.bool false) (r_pick (b := false) rfl ek ek) ?_
    refine Fv (.bool false) ?_
    refine Fq (.pointer (some ⟨b2, 1, none⟩)) (r_field (k := 1) rfl ek kk) ?_
    refine Fl (.slice A n c) (sgS (blk_cell (j := 1) x6 kk) onn) ?_
    refine Fv (.int .i64 (findL ps x21.pipe)) ?_
    have hfl := findL_lt ps x21.pipe
    obtain ⟨pz, hpz⟩ := get_of (zs := ps) (k := (findL ps x21.pipe).toNat) (by omega)
    have hgz := (good_of q14).at hpz
    obtain ⟨b97, o98, hA99, hb100, hc101, hc102, hc103, hc104⟩ := Rd.elPipe ha hpz
    refine Fq (.pointer (some ⟨b97, o98 + ((findL ps x21.pipe).toNat) * 4, none⟩)) (r_idx (n := n) (c := c) (k := (findL ps x21.pipe).toNat) rfl ek hA99 (evk (z := findL ps x21.pipe) kk (by omega)) kk (by have := hl; omega)) ?_
    refine Fq (.agg #[.int .i64 pz.id, .int .i64 pz.fr, .int .i64 pz.to, .int .i64 pz.sz]) (r_load4 rfl ek kk kk (sgS (later c48 hc101) (by simp)) (sgS (later c48 hc102) (by simp)) (sgS (later c48 hc103) (by simp)) (sgS (later c48 hc104) (by simp))) ?_
    refine Fq (.pointer (some ⟨b31, 2, none⟩)) (r_field (k := 2) rfl ek kk) ?_
    refine Fl (.int .i64 x21.node) (sgS (blk_cell (j := 2) x41 kk) onn) ?_
    refine Fc [.agg #[.int .i64 pz.id, .int .i64 pz.fr, .int .i64 pz.to, .int .i64 pz.sz], .int .i64 x21.node] (other_any pz x21.node _) ?_
    rintro e w106 ⟨rfl, b105⟩
    have s107 := SG.of_below s51 b105
    refine ⟨_, rfl, s107, ?_⟩
    apply F.nx
    by_cases q108 : (otherOf pz x21.node : Int) = (0 : Int)
    ·refine Fq (.bool true) (r_eql (m := otherOf pz x21.node) (n := 0) rfl ek ek (dt q108)) ?_
     refine Fq (.bool true) (r_pick (b := false) rfl ek ek) ?_
     apply F.es
     have x6 := Sk s107 x6 onn
     have x41 := Sk s107 x41 onn
     have c109 := (Sb c48 s107 nkk)
     apply h14
     refine wp_cond_true ek ?_
     refine wk fun K23 h23 => ?_
     refine Rq 1 ?_
     refine Fa (.bool false) ?_
     apply F.es
     apply h23
     refine wp_ret ?_
     try simp only [Exit.then, Exit.inBlock]
     refine ret1 (v := .bool false) rfl kk ?_
     have e8 : okV ps vs (K) = false := Bool.eq_false_iff.2 (fun h9 => by
       have h8 := (okV_iff hx22).1 h9
       obtain ⟨⟨hA, hB⟩, hC, hD⟩ := h8
       obtain ⟨hC0, p9, hp9, hC1⟩ := endAt_pos hC
       have hg9 := (good_of q14).at hp9
       have h7 := (other_zero (u := x21.node) hg9.2.1.1 hg9.2.2.1.1)
       obtain rfl := Option.some.inj (hp9.symm.trans hpz)
       first | omega | (rw [inB_iff.2 hA] at q54; cases q54))
     exact ⟨ret_bool (goodV_bad (k := K) (by omega) e8).symm, c109⟩
    refine Fq (.bool false) (r_eql (m := otherOf pz x21.node) (n := 0) rfl ek ek (df q108)) ?_
    refine Fq (.bool false) (r_pick (b := false) rfl ek ek) ?_
    apply F.es
    have x6 := Sk s107 x6 onn
    have x41 := Sk s107 x41 onn
    have c110 := (Sb c48 s107 nkk)
    apply h14
    refine wp_cond_false ek ?_
    apply wp_skip
    apply h13
    refine wk fun K24 h24 => ?_
    refine W.region_plain (row := none) [(0, false), (1, false), (2, false), (3, false), (4, true)] kk ?_
    have s111 := SG.self w106 none
    refine Fv (.slice A2 n2 c2) ?_
    refine Fv (.int .i64 (K : Int)) ?_
    refine Fq (.slice A2 K c2) (r_sliceTo (A := A2) (n := n2) (c := c2) (k := K) (size := 4) rfl ek ek kk (by have := (hfm2).le; omega)) ?_
    refine Fq (.func (.func 83) #[] #[.pointer (some ⟨b31, 0, none⟩)]) (r_makeFunc (vs := [.pointer (some ⟨b31, 0, none⟩)]) rfl kk) ?_
    refine Fc [.slice A2 K c2, .func (.func 83) #[] #[.pointer (some ⟨b31, 0, none⟩)]] (anyV_any A2 K c2 (vs.take K) 83 #[.pointer (some ⟨b31, 0, none⟩)] (fun v => decide (v.pipe = x21.pipe) && decide (v.node = x21.node)) _ (Rd.toV (Rk hb (Sb c110 s111 nkk)) (by omega)) (by omega) kk (fun W v hW => validF_any v x21 b31 W ((hW.block _ (blk_lt x41)).trans x41))) ?_
    rintro e w113 ⟨rfl, b112⟩
    have s114 := SG.of_below s111 b112
    refine ⟨_, rfl, s114, ?_⟩
    apply F.nx
    rcases Bool.eq_false_or_eq_true ((vs.take K).any (fun v => decide (v.pipe = x21.pipe) && decide (v.node = x21.node))) with q115 | q115
    ·rw [q115]
     apply F.es
     have x6 := Sk s114 x6 onn
     have c116 := (Sb c110 s114 nkk)
     apply h24
     refine wp_cond_true ek ?_
     refine wk fun K25 h25 => ?_
     refine Rq 1 ?_
     refine Fa (.bool false) ?_
     apply F.es
     apply h25
     refine wp_ret ?_
     try simp only [Exit.then, Exit.inBlock]
     refine ret1 (v := .bool false) rfl kk ?_
     have e8 : okV ps vs (K) = false := Bool.eq_false_iff.2 (fun h9 => by
       have h8 := (okV_iff hx22).1 h9
       obtain ⟨⟨hA, hB⟩, hC, hD⟩ := h8
       obtain ⟨hC0, p9, hp9, hC1⟩ := endAt_pos hC
       have hg9 := (good_of q14).at hp9
       have h7 := (other_zero (u := x21.node) hg9.2.1.1 hg9.2.2.1.1)
       obtain rfl := Option.some.inj (hp9.symm.trans hpz)
       exact absurd (show placed (vs.take (K)) x21.pipe x21.node = true from q115) (by rw [hD]; simp))
     exact ⟨ret_bool (goodV_bad (k := K) (by omega) e8).symm, c116⟩
    rw [q115]
    apply F.es
    have x6 := Sk s114 x6 onn
    have c117 := (Sb c110 s114 nkk)
    apply h24
    refine wp_cond_false ek ?_
    apply wp_skip
    apply h10
    refine Rq 2 ?_
    refine Fq (.int .i64 ((K + 1 : Nat) : Int)) (r_add (m := (K : Int)) (n := 1) (z := ((K + 1 : Nat) : Int)) rfl ek ek (by omega) (by omega)) ?_
    refine Fv (.int .i64 ((K + 1 : Nat) : Int)) ?_
    apply F.es
    exact h7 _ _ _ (by omega : (n2 - (K + 1)) < _) ⟨K + 1, Kn.of, rfl, (by omega), (okVTo_next hok ((okV_iff hx22).2 ⟨⟨inB_iff.1 q54, (by have e0 : K = 0 := (by omega); subst e0; exact above_zero)⟩, endAt_of (by omega) hpz (by have h9 := (other_zero (u := x21.node) hgz.2.1.1 hgz.2.2.1.1); omega), q115⟩)), x6, c117⟩
   rw [q54]
   refine Fq (.bool true) (r_not (b := false) rfl ek rfl) ?_
   refine Fv (.bool true) ?_
   refine Fs s51 ?_
   refine Fs s51 ?_
   refine Fs s51 ?_
   refine Fs s51 ?_
   refine Fs s51 ?_
   refine Fs s51 ?_
   refine Fs s51 ?_
   refine Fs s51 ?_
   refine Fs s51 ?_
   refine Fs s51 ?_
   refine Fs s51 ?_
   refine Fs s51 ?_
   refine Fs s51 ?_
   refine Fq (.bool true) (r_pick (b := true) rfl ek ek) ?_
   refine Fv (.bool true) ?_
   refine Fs s51 ?_
   refine Fs s51 ?_
   refine Fq (.bool true) (r_pick (b := true) rfl ek ek) ?_
   refine Fv (.bool true) ?_
   refine Fs s51 ?_
   refine Fs s51 ?_
   refine Fs s51 ?_
   refine Fq (.bool true) (r_pick (b := true) rfl ek ek) ?_
   refine Fv (.bool true) ?_
   refine Fs s51 ?_
   refine Fs s51 ?_
   refine Fs s51 ?_
   refine Fs s51 ?_
   refine Fs s51 ?_
   refine Fs s51 ?_
   refine Fs s51 ?_
   refine Fs s51 ?_
   refine Fs s51 ?_
   refine Fq (.bool true) (r_pick (b := true) rfl ek ek) ?_
   apply F.es
   have c118 := (Sb c48 s51 nkk)
   apply h14
   refine wp_cond_true ek ?_
   refine wk fun K26 h26 => ?_
   refine Rq 1 ?_
   refine Fa (.bool false) ?_
   apply F.es
   apply h26
   refine wp_ret ?_
   try simp only [Exit.then, Exit.inBlock]
   refine ret1 (v := .bool false) rfl kk ?_
   have e8 : okV ps vs (K) = false := Bool.eq_false_iff.2 (fun h9 => by
     have h8 := (okV_iff hx22).1 h9
     obtain ⟨⟨hA, hB⟩, hC, hD⟩ := h8
     obtain ⟨hC0, p9, hp9, hC1⟩ := endAt_pos hC
     have hg9 := (good_of q14).at hp9
     have h7 := (other_zero (u := x21.node) hg9.2.1.1 hg9.2.2.1.1)
     first | omega | (rw [inB_iff.2 hA] at q54; cases q54))
   exact ⟨ret_bool (goodV_bad (k := K) (by omega) e8).symm, c118⟩
  refine Fq (.bool false) (r_lss (m := (K : Int)) (n := (n2 : Int)) rfl ek ek (df q19)) ?_
  apply F.es
  apply h8
  refine wk fun K27 h27 => ?_
  refine wp_cond_false ek ?_
  refine wp_exit ?_
  apply h5
  refine wk fun K28 h28 => ?_
  refine Rq 1 ?_
  refine Fa (.bool true) ?_
  apply F.es
  apply h28
  refine wp_ret ?_
  try simp only [Exit.then]
  refine ret1 (v := .bool true) rfl kk ?_
  exact ⟨ret_bool (goodV_fin q14 (by omega) (by rw [show vs.length = K by omega]; exact hok)).symm, c18⟩
 rw [q14]
 refine Fq (.bool true) (r_not (b := false) rfl ek rfl) ?_
 refine Fv (.bool true) ?_
 refine Fs s13 ?_
 refine Fs s13 ?_
 refine Fs s13 ?_
 refine Fq (.bool true) (r_pick (b := true) rfl ek ek) ?_
 apply F.es
 have c119 := (Sb c9 s13 nkk)
 apply h3
 refine wp_cond_true ek ?_
 refine wk fun K29 h29 => ?_
 refine Rq 1 ?_
 refine Fa (.bool false) ?_
 apply F.es
 apply h29
 refine wp_ret ?_
 try simp only [Exit.then]
 refine ret1 (v := .bool false) rfl kk ?_
 exact ⟨ret_bool (goodV_out (.inl q14)).symm, c119⟩
end Go.Proofs.Ytdbgfejeleafgaa
namespace Go.Proofs.Ytdbgfejeleafgaa
open Go.RowKit
set_option linter.unusedVariables false
theorem wet_eqI {E : Int → Int → Prop} {a b : Int} {k : Nat} {x : Bool} (hx : (wetL E a)[k]? = some x) (e : b = (k : Int)) : x = rb E a b := by rw [e]; exact wet_eq hx
end Go.Proofs.Ytdbgfejeleafgaa
namespace Go.Proofs.Ytdbgfejeleafgaa
open Go.RowKit
set_option linter.unusedVariables false
set_option linter.unusedSimpArgs false
abbrev idQ (a : Int) : Vv → Bool := fun v => decide (v.id = a)
set_option maxRecDepth 100000 in
set_option maxHeartbeats 8000000 in
theorem l4Turned_any (A2 : Option Addr) (n2 c2 : Nat) (vs : List Vv) (k : Nat) (x : Vv) (b : Bool) (w : World) (hb : Rd w 4 A2 n2 (valvesV vs)) (hn2 : n2 ≤ 1048576) (hfm2 : Fm A2 n2 c2) (hx : vs[k]? = some x) :
    Calls Try.prog 94 #[.slice A2 n2 c2, .int .i64 ((k : Nat) : Int), .bool b] w fun e w' => ∃ A' n' c', e = .returned (.slice A' n' c') ∧ w'.ownsRow w.heap.size 40 4 (.slice A' n' c') n' (valvesV (vs.set k { x with shut := b })) ∧ Below w.heap.size w w' := by
 have hl2 := rd_valves_len hb
 have hk9 := (List.getElem?_eq_some_iff.1 hx).1
 go_enter Try.func94, Try.ntmps94
 refine F.begin 23 [(0, .slice A2 n2 c2), (1, .int .i64 (k : Int)), (2, .bool b)] (fun U0 => ?_)
 refine wk fun K1 h1 => ?_
 refine Rq 1 ?_
 refine Fa (.slice none 0 0) ?_
 apply F.es
 apply h1
 refine wk fun K2 h2 => ?_
 refine W.region_plain (row := none) [(0, true), (1, false), (2, true), (3, false)] kk ?_
 have s1 := SG.self w none
 refine W.sn (fun b => .slice (some ⟨b, 0, none⟩) 0 0) #[] 40 s1 rfl kk rfl (fun _ => by kernel_rfl) (fun b2 w3 hb4 k5 x6 s7 => ?_)
 apply F.nx
 have lo8 : w.heap.size ≤ b2 := Nl ((Sb (Below.refl _ _) s1 nkk)).size (Nat.le_of_eq hb4)
 refine Fv (.slice A2 n2 c2) ?_
 have ho9 := own_empty (base := w.heap.size) (size := 4) x6 lo8
 replace ho9 : World.ownsRow _ _ _ _ _ _ (valvesV []) := ho9
 replace ho9 : World.ownsRow _ _ _ _ _ _ (valvesV []) := ho9
 refine W.sapR (e := 40) (size := 4) (base := w.heap.size) (v := .slice (some ⟨b2, 0, none⟩) 0 0) (A := A2) (m := n2) (c := c2) s7 rfl rfl rfl rfl kk kk kk ho9 (Rk hb (Sb (Below.refl _ _) s7 nkk)) hfm2 (valves_one _) (by omega) (by have := ((Sb (Below.refl _ _) s7 nkk)).size; omega) (.inr (fun kq e => by have := (s1).size; have := hb4; have e' := Option.some.inj e; simp at e'; omega)) (fun A10 cap11 w12 ho13 hg14 hat15 s16 => ?_)
 apply F.nx
 have ho13 := own_joinV ho13
 have fr17 : ∀ kq, (.slice A10 (0 + n2) cap11 : Value).ownBlock = some kq → w.heap.size ≤ kq := fun kq e => by
   have hs := (s7).size
   rcases hat15 with h | h
   · exact (show ∀ kq, Value.ownBlock _ = some kq → w.heap.size ≤ kq from (fun kq e => by have := (s1).size; have := hb4; have e' := Option.some.inj e; simp at e'; omega)) kq (h.symm.trans e)
   · have := Option.some.inj (h.symm.trans e); omega
 replace ho13 : World.ownsRow _ _ _ _ _ _ (valvesV vs) := ho13
 refine Fa (.slice A10 (0 + n2) cap11) ?_
 apply F.es
 have c18 := (Sb (Below.refl _ _) s16 nkk)
 apply h2
 refine wk fun K3 h3 => ?_
 refine W.region_plain (row := none) [(0, false), (1, false), (2, false), (3, false), (4, true), (5, true)] kk ?_
 have s19 := SG.self w12 none
 refine Fv (.slice A10 (0 + n2) cap11) ?_
 refine Fv (.int .i64 (k : Int)) ?_
 obtain ⟨g20, rfl, _, _⟩ := own_addr ho13 (by omega)
 refine Fq (.pointer (some ⟨g20, 0 + k * 4, none⟩)) (r_idx (n := (0 + n2)) (c := cap11) (k := k) (size := 4) rfl ek rfl kk kk (by omega)) ?_
 refine Fq (.agg #[.int .i64 x.id, .int .i64 x.pipe, .int .i64 x.node, .bool x.shut]) (r_load4 rfl ek kk kk (sgS ((own_atV ho13 hx).1) (by simp)) (sgS ((own_atV ho13 hx).2.1) (by simp)) (sgS ((own_atV ho13 hx).2.2.1) (by simp)) (sgS ((own_atV ho13 hx).2.2.2) (by simp))) ?_
 refine W.sn (fun b => .pointer (some ⟨b, 0, none⟩)) #[.int .i64 0, .int .i64 0, .int .i64 0, .bool false] 40 s19 rfl kk rfl (fun _ => by kernel_rfl) (fun b21 w22 hb23 k24 x25 s26 => ?_)
 apply F.nx
 have lo27 : w.heap.size ≤ b21 := Nl ((Sb c18 s19 nkk)).size (Nat.le_of_eq hb23)
 have nb28 : Nb b21 (.slice (some ⟨g20, 0, none⟩) (0 + n2) cap11) := nb_hi ho13 (Nat.le_of_eq hb23)
 have ho29 := own_kept ho13 k24
 refine W.ss (v := .agg #[.int .i64 x.id, .int .i64 x.pipe, .int .i64 x.node, .bool x.shut]) (j := 0) (news := [.int .i64 x.id, .int .i64 x.pipe, .int .i64 x.node, .bool x.shut]) (cs' := #[.int .i64 x.id, .int .i64 x.pipe, .int .i64 x.node, .bool x.shut]) s26 rfl kk rfl rfl kk kk x25 kk kk (by simp) kk kk (.inr (Nl (s19).size (Nat.le_of_eq hb23))) (fun w30 g31 x32 s33 => ?_)
 have ho34 := own_grown ho29 g31 (fun j e1 e2 => by cases e2; exact nb28 e1.symm)
 apply F.es
 have c35 := (Sb c18 s33 nkk)
 apply h3
 refine wk fun K4 h4 => ?_
 refine W.region_plain (row := (some b21)) [(0, false), (1, false), (2, true)] kk ?_
 have s36 := SG.self w30 (some b21)
 refine Fv (.bool b) ?_
 refine Fq (.pointer (some ⟨b21, 3, none⟩)) (r_field (k := 3) rfl ek kk) ?_
 refine W.ss (v := .bool b) (j := 3) (news := [.bool b]) (cs' := #[.int .i64 x.id, .int .i64 x.pipe, .int .i64 x.node, .bool b]) s36 rfl kk rfl rfl kk kk x32 kk kk (by simp) kk kk (.inl rfl) (fun w37 g38 x39 s40 => ?_)
 have ho41 := own_grown ho34 g38 (fun j e1 e2 => by cases e2; exact nb28 e1.symm)
 apply F.es
 have c42 := (Sb c35 s40 (fun kq e => by cases e; exact lo27))
 apply h4
 refine wk fun K5 h5 => ?_
 refine W.region_plain (row := (Value.ownBlock (.slice (some ⟨g20, 0, none⟩) (0 + n2) cap11))) [(0, false), (1, false), (2, false), (3, false), (4, true)] kk ?_
 have s43 := SG.self w37 (Value.ownBlock (.slice (some ⟨g20, 0, none⟩) (0 + n2) cap11))
 refine Fv (.slice (some ⟨g20, 0, none⟩) (0 + n2) cap11) ?_
 refine Fv (.int .i64 (k : Int)) ?_
 refine Fq (.agg #[.int .i64 x.id, .int .i64 x.pipe, .int .i64 x.node, .bool b]) (r_load4 rfl ek kk kk (sgS (blk_cell (j := 0) x39 kk) nb28) (sgS (blk_cell (j := 1) x39 kk) nb28) (sgS (blk_cell (j := 2) x39 kk) nb28) (sgS (blk_cell (j := 3) x39 kk) nb28)) ?_
 refine Fq (.pointer (some ⟨g20, 0 + k * 4, none⟩)) (r_idx (n := (0 + n2)) (c := cap11) (k := k) (size := 4) rfl ek rfl kk kk (by omega)) ?_
 refine W.sst (base := w.heap.size) (e := 40) (size := 4) (n := (0 + n2)) (c := cap11) (j := 0 + k * 4) (u := .agg #[.int .i64 x.id, .int .i64 x.pipe, .int .i64 x.node, .bool b]) (news := [.int .i64 x.id, .int .i64 x.pipe, .int .i64 x.node, .bool b]) s43 rfl kk rfl rfl kk kk ho41 kk kk kk (by simp only [List.length_cons, List.length_nil]; omega) (.inl rfl) (fun w44 ho45 g46 s47 => ?_)
 have ho45 := own_setV hx ⟨x.id, x.pipe, x.node, b⟩ ho45
 apply F.es
 have c48 := (Sb c42 s47 (fun kq e => (World.ownsRow.lt ho41 kq e).1))
 apply h5
 refine wk fun K6 h6 => ?_
 refine Rq 2 ?_
 refine Fv (.slice (some ⟨g20, 0, none⟩) (0 + n2) cap11) ?_
 refine Fa (.slice (some ⟨g20, 0, none⟩) (0 + n2) cap11) ?_
 apply F.es
 apply h6
 refine wp_ret ?_
 try simp only [Exit.then]
 refine ret1 (v := .slice (some ⟨g20, 0, none⟩) (0 + n2) cap11) rfl kk ?_
 exact ⟨_, _, _, rfl, ho45, c48⟩
end Go.Proofs.Ytdbgfejeleafgaa
namespace Go.Proofs.Ytdbgfejeleafgaa
open Go.RowKit
set_option linter.unusedVariables false
set_option linter.unusedSimpArgs false
theorem idxL_hasF {E : Int → Int → Prop} {n : Nat} {a b : Int} (hb : 0 ≤ b ∧ b < n) : (idxL E n a false).contains b = !rb E a (9 + b) := by
  rw [Bool.eq_iff_iff, List.contains_iff_mem, mem_idxL, Bool.not_eq_true']
  exact ⟨fun h => h.2, fun h => ⟨hb, h⟩⟩
def canB (m : Int) (ps : List Pp) (vs : List Vv) (s id : Int) : Bool := goodV m ps vs && inB s 1 m && decide (0 ≤ findL ps id)
theorem canB_of {m : Int} {ps : List Pp} {vs : List Vv} {s id : Int} (h : canB m ps vs s id = true) : GoodVal m ps vs ∧ (1 ≤ s ∧ s ≤ m) ∧ 0 ≤ findL ps id := by
  unfold canB at h
  simp only [Bool.and_eq_true, decide_eq_true_eq] at h
  exact ⟨goodV_of h.1.1, inB_iff.1 h.1.2, h.2⟩
def custOk (m : Int) (cs : List Int) : Bool := decide ((cs.length : Int) = m) && cs.all (fun c => inB c 0 1000)
theorem custOk_of {m : Int} {cs : List Int} (h : custOk m cs = true) : (cs.length : Int) = m ∧ ∀ c, c ∈ cs → 0 ≤ c ∧ c ≤ 1000 := by
  unfold custOk at h
  rw [Bool.and_eq_true, decide_eq_true_eq, List.all_eq_true] at h
  exact ⟨h.1, fun c hc => inB_iff.1 (h.2 c hc)⟩
theorem all_any (cs : List Int) : cs.any (fun c => !inB c 0 1000) = !cs.all (fun c => inB c 0 1000) := by
  induction cs with
  | nil => rfl
  | cons c cs ih => rw [List.any_cons, List.all_cons, ih, Bool.not_and]
noncomputable def harmTo (E : Int → Int → Prop) (s : Int) (cs : List Int) : Nat → Int
  | 0 => 0
  | i + 1 => harmTo E s cs i + (if rb E s ((i : Int) + 1) = false then cs.getD i 0 else 0)
theorem harmTo_bd {E : Int → Int → Prop} {s : Int} {cs : List Int} (h : ∀ c, c ∈ cs → 0 ≤ c ∧ c ≤ 1000) : ∀ i, i ≤ cs.length → 0 ≤ harmTo E s cs i ∧ harmTo E s cs i ≤ 1000 * (i : Int)
  | 0, _ => by simp [harmTo]
  | i + 1, hi => by
    have ih := harmTo_bd (E := E) (s := s) h i (by omega)
    have hx : cs[i]? = some cs[i] := List.getElem?_eq_getElem (by omega)
    have hc := h _ (List.mem_of_getElem? hx)
    unfold harmTo
    rw [List.getD_eq_getElem?_getD, hx]
    simp only [Option.getD_some]
    split <;> omega
theorem harmTo_yes {E : Int → Int → Prop} {s : Int} {cs : List Int} {i : Nat} {c : Int} (hc : cs[i]? = some c) (h : rb E s ((i : Int) + 1) = false) : harmTo E s cs (i + 1) = harmTo E s cs i + c := by
  rw [harmTo, if_pos h, List.getD_eq_getElem?_getD, hc]; rfl
theorem harmTo_no {E : Int → Int → Prop} {s : Int} {cs : List Int} {i : Nat} (h : rb E s ((i : Int) + 1) = true) : harmTo E s cs (i + 1) = harmTo E s cs i := by
  rw [harmTo, if_neg (by rw [h]; simp), Int.add_zero]
def sumAt (cs : List Int) : List Int → Int
  | [] => 0
  | b :: bs => cs.getD (b - 1).toNat 0 + sumAt cs bs
theorem sumAt_app (cs : List Int) : ∀ xs ys : List Int, sumAt cs (xs ++ ys) = sumAt cs xs + sumAt cs ys
  | [], ys => by simp [sumAt]
  | x :: xs, ys => by rw [List.cons_append, sumAt, sumAt, sumAt_app cs xs ys]; omega
theorem sumAt_next {cs xs : List Int} {i : Nat} {b c : Int} (hb : xs[i]? = some b) (hc : cs[(b - 1).toNat]? = some c) : sumAt cs (xs.take (i + 1)) = sumAt cs (xs.take i) + c := by
  rw [List.take_add_one, hb, sumAt_app]
  simp only [Option.toList_some, sumAt, Int.add_zero]
  rw [List.getD_eq_getElem?_getD, hc]; rfl
theorem sumAt_bd {cs : List Int} (h : ∀ c, c ∈ cs → 0 ≤ c ∧ c ≤ 1000) : ∀ xs : List Int, 0 ≤ sumAt cs xs ∧ sumAt cs xs ≤ 1000 * (xs.length : Int)
  | [] => by simp [sumAt]
  | b :: bs => by
    have ih := sumAt_bd h bs
    have hg : 0 ≤ cs.getD (b - 1).toNat 0 ∧ cs.getD (b - 1).toNat 0 ≤ 1000 := by
      rw [List.getD_eq_getElem?_getD]
      cases hc : cs[(b - 1).toNat]? with
      | none => simp
      | some c => exact h c (List.mem_of_getElem? hc)
    rw [sumAt, List.length_cons]; omega
theorem sumAt_harm (E : Int → Int → Prop) (s : Int) (cs : List Int) : ∀ m, sumAt cs (nodesL E m s false) = harmTo E s cs m
  | 0 => rfl
  | m + 1 => by
    rw [nodesL_succ, sumAt_app, sumAt_harm E s cs m, harmTo]
    congr 1
    split
    · simp only [sumAt, Int.add_zero]; rw [show ((m : Int) + 1 - 1).toNat = m by omega]
    · rfl
noncomputable def harmL (ps : List Pp) (vs : List Vv) (s : Int) (cs plan : List Int) : Int := harmTo (linked ps (openQ (shutV vs plan) true)) s cs cs.length
set_option maxRecDepth 100000 in
set_option maxHeartbeats 8000000 in
theorem shutToo_any (A2 : Option Addr) (n2 c2 : Nat) (vs : List Vv) (A3 : Option Addr) (n3 c3 : Nat) (pl : List Int) (w : World) (hb : Rd w 4 A2 n2 (valvesV vs)) (hn2 : n2 ≤ 1000000) (hfm2 : Fm A2 n2 c2) (hp3 : Rd w 1 A3 n3 (intsV pl)) (hn3 : n3 ≤ 1000000) :
    Calls Try.prog 146 #[.slice A2 n2 c2, .slice A3 n3 c3] w fun e w' => ∃ A' n' c', e = .returned (.slice A' n' c') ∧ w'.ownsRow w.heap.size 40 4 (.slice A' n' c') n' (valvesV (shutV vs pl)) ∧ Below w.heap.size w w' := by
 have hl2 := rd_valves_len hb
 have hl3 := rd_ints_len hp3
 go_enter Try.func146, Try.ntmps146
 refine F.begin 35 [(0, .slice A2 n2 c2), (1, .slice A3 n3 c3)] (fun U0 => ?_)
 refine wk fun K1 h1 => ?_
 refine Rq 1 ?_
 refine Fa (.slice none 0 0) ?_
 apply F.es
 apply h1
 refine wk fun K2 h2 => ?_
 refine W.region_plain (row := none) [(0, true), (1, false), (2, true), (3, false)] kk ?_
 have s1 := SG.self w none
 refine W.sn (fun b => .slice (some ⟨b, 0, none⟩) 0 0) #[] 40 s1 rfl kk rfl (fun _ => by kernel_rfl) (fun b2 w3 hb4 k5 x6 s7 => ?_)
 apply F.nx
 have lo8 : w.heap.size ≤ b2 := Nl ((Sb (Below.refl _ _) s1 nkk)).size (Nat.le_of_eq hb4)
 refine Fv (.slice A2 n2 c2) ?_
 have ho9 := own_empty (base := w.heap.size) (size := 4) x6 lo8
 replace ho9 : World.ownsRow _ _ _ _ _ _ (valvesV []) := ho9
 replace ho9 : World.ownsRow _ _ _ _ _ _ (valvesV []) := ho9
 refine W.sapR (e := 40) (size := 4) (base := w.heap.size) (v := .slice (some ⟨b2, 0, none⟩) 0 0) (A := A2) (m := n2) (c := c2) s7 rfl rfl rfl rfl kk kk kk ho9 (Rk hb (Sb (Below.refl _ _) s7 nkk)) hfm2 (valves_one _) (by omega) (by have := ((Sb (Below.refl _ _) s7 nkk)).size; omega) (.inr (fun kq e => by have := (s1).size; have := hb4; have e' := Option.some.inj e; simp at e'; omega)) (fun A10 cap11 w12 ho13 hg14 hat15 s16 => ?_)
 apply F.nx
 have ho13 := own_joinV ho13
 have fr17 : ∀ kq, (.slice A10 (0 + n2) cap11 : Value).ownBlock = some kq → w.heap.size ≤ kq := fun kq e => by
   have hs := (s7).size
   rcases hat15 with h | h
   · exact (show ∀ kq, Value.ownBlock _ = some kq → w.heap.size ≤ kq from (fun kq e => by have := (s1).size; have := hb4; have e' := Option.some.inj e; simp at e'; omega)) kq (h.symm.trans e)
   · have := Option.some.inj (h.symm.trans e); omega
 replace ho13 : World.ownsRow _ _ _ _ _ _ (valvesV vs) := ho13
 refine Fa (.slice A10 (0 + n2) cap11) ?_
 apply F.es
 have c18 := (Sb (Below.refl _ _) s16 nkk)
 apply h2
 refine wk fun K3 h3 => ?_
 refine wk fun K4 h4 => ?_
 refine Rq 3 ?_
 refine Fv (.slice A10 (0 + n2) cap11) ?_
 refine Fq (.int .i64 (((0 + n2) : Nat) : Int)) (r_len (A := A10) (n := (0 + n2)) (c := cap11) rfl ek kk) ?_
 refine Fv (.int .i64 0) ?_
 apply F.es
 apply h4
 refine wp_block ?_
 refine loopK (fun am0 aa0 wl0 => ∃ (i : Nat) (A0_5 : Option Addr) (n0_5 : Nat) (c0_5 : Nat) , Kn aa0 [(0, .slice A2 n2 c2), (1, .slice A3 n3 c3), (4, .slice none 0 0), (5, .slice A0_5 n0_5 c0_5), (11, .int .i64 (((0 + n2) : Nat) : Int)), (12, .int .i64 (i : Int))] 35 ∧ (am0 = n2 - i) ∧ (i ≤ n2) ∧ (wl0.ownsRow w.heap.size 40 4 (.slice A0_5 n0_5 c0_5) n0_5 (valvesV (mixV vs pl i))) ∧ (Below w.heap.size w wl0)) (n2 - 0) ?_ ?_
 ·exact ⟨0, A10, (0 + n2), cap11, Kn.of, rfl, (Nat.zero_le _), (by rw [mixV_zero]; exact ho13), c18⟩
 rintro am0 aa0 wl0 K5 h5 ⟨i, A0_5, n0_5, c0_5, ⟨U0, rfl⟩, rfl, hi, ho0_5, c19⟩
 have hml := mixV_len vs pl i
 have hln := rd_valves_len (own_rd ho0_5)
 refine wk fun K6 h6 => ?_
 refine Rq 1 ?_
 by_cases q20 : ((i : Int) : Int) < ((((0 + n2) : Nat) : Int) : Int)
 ·refine Fq (.bool true) (r_lss (m := (i : Int)) (n := (((0 + n2) : Nat) : Int)) rfl ek ek (dt q20)) ?_
  apply F.es
  apply h6
  refine wk fun K7 h7 => ?_
  refine wp_cond_true ek ?_
  apply wp_skip
  apply h7
  refine wk fun K8 h8 => ?_
  refine wp_block ?_
  refine wk fun K9 h9 => ?_
  refine Rq 2 ?_
  refine Fv (.int .i64 (i : Int)) ?_
  refine Fa (.int .i64 (i : Int)) ?_
  apply F.es
  apply h9
  refine W.region_plain (row := (Value.ownBlock (.slice A0_5 n0_5 c0_5))) [(0, false), (1, false), (2, false), (3, false), (4, false), (5, false), (6, true), (7, false), (8, false), (9, false), (10, false), (11, false), (12, false), (13, true), (14, true), (15, false), (16, false), (17, false), (18, true)] kk ?_
  have s21 := SG.self wl0 (Value.ownBlock (.slice A0_5 n0_5 c0_5))
  refine Fv (.slice A0_5 n0_5 c0_5) ?_
  refine Fv (.int .i64 (i : Int)) ?_
  refine Fv (.slice A0_5 n0_5 c0_5) ?_
  refine Fv (.int .i64 (i : Int)) ?_
  obtain ⟨x9, hx9⟩ := get_of (zs := vs) (k := i) (by omega)
  have hmx := mixV_at (plan := pl) hx9
  obtain ⟨g22, rfl, _, _⟩ := own_addr ho0_5 (by omega)
  refine Fq (.pointer (some ⟨g22, 0 + i * 4, none⟩)) (r_idx (n := n0_5) (c := c0_5) (k := i) (size := 4) rfl ek rfl kk kk (by omega)) ?_
  refine Fq (.pointer (some ⟨g22, 0 + i * 4 + 3, none⟩)) (r_field (k := 3) rfl ek kk) ?_
  refine W.slq (v := .bool x9.shut) s21 rfl (r_load rfl kk kk (eqS ((own_atV ho0_5 hmx).2.2.2))) kk rfl ?_
  apply F.nx
  refine Fv (.bool x9.shut) ?_
  rcases Bool.eq_false_or_eq_true x9.shut with q23 | q23
  ·rw [q23]
   refine Fs s21 ?_
   refine Fs s21 ?_
   refine Fs s21 ?_
   refine Fs s21 ?_
   refine Fs s21 ?_
   refine Fs s21 ?_
   refine Fs s21 ?_
   refine Fq (.bool true) (r_pick (b := true) rfl ek ek) ?_
   refine Fq (.pointer (some ⟨g22, 0 + i * 4, none⟩)) (r_idx (n := n0_5) (c := c0_5) (k := i) (size := 4) rfl ek rfl kk kk (by omega)) ?_
   refine Fq (.pointer (some ⟨g22, 0 + i * 4 + 3, none⟩)) (r_field (k := 3) rfl ek kk) ?_
   refine W.sst (base := w.heap.size) (e := 40) (size := 4) (n := n0_5) (c := c0_5) (j := 0 + i * 4 + 3) (u := .bool true) (news := [.bool true]) s21 rfl kk rfl rfl kk kk ho0_5 kk kk kk (by simp only [List.length_cons, List.length_nil]; omega) (.inl rfl) (fun w24 ho25 g26 s27 => ?_)
   have ho25 := own_setU hmx ho25
   apply F.es
   have c28 := (Sb c19 s27 (fun kq e => (World.ownsRow.lt ho0_5 kq e).1))
   apply h8
   refine Rq 2 ?_
   refine Fq (.int .i64 ((i + 1 : Nat) : Int)) (r_add (m := (i : Int)) (n := 1) (z := ((i + 1 : Nat) : Int)) rfl ek ek (by omega) (by omega)) ?_
   refine Fv (.int .i64 ((i + 1 : Nat) : Int)) ?_
   apply F.es
   exact h5 _ _ _ (by omega : (n2 - (i + 1)) < _) ⟨i + 1, (some ⟨g22, 0, none⟩), n0_5, c0_5, Kn.of, rfl, (by omega), (by rw [(mixV_next hx9).trans (by rw [shutX_true (.inl q23)])]; exact ho25), c28⟩
  rw [q23]
  refine Fv (.slice A3 n3 c3) ?_
  refine Fv (.slice (some ⟨g22, 0, none⟩) n0_5 c0_5) ?_
  refine Fv (.int .i64 (i : Int)) ?_
  refine Fq (.pointer (some ⟨g22, 0 + i * 4, none⟩)) (r_idx (n := n0_5) (c := c0_5) (k := i) (size := 4) rfl ek rfl kk kk (by omega)) ?_
  refine Fq (.pointer (some ⟨g22, 0 + i * 4, none⟩)) (r_field0 rfl ek kk) ?_
  refine W.slq (v := .int .i64 x9.id) s21 rfl (r_load rfl kk kk (eqS ((own_atV ho0_5 hmx).1))) kk rfl ?_
  apply F.nx
  refine Fc [.slice A3 n3 c3, .int .i64 x9.id] (slContains_any A3 n3 c3 pl x9.id _ (Rk hp3 (Sb c19 s21 (fun kq e => (World.ownsRow.lt ho0_5 kq e).1))) (by omega)) ?_
  rintro e w30 ⟨rfl, b29⟩
  have s31 := SG.of_below s21 b29
  refine ⟨_, rfl, s31, ?_⟩
  apply F.nx
  have ho32 := own_kept ho0_5 b29
  rcases Bool.eq_false_or_eq_true (pl.contains x9.id) with q33 | q33
  ·rw [q33]
   refine Fq (.bool true) (r_pick (b := false) rfl ek ek) ?_
   refine Fq (.pointer (some ⟨g22, 0 + i * 4, none⟩)) (r_idx (n := n0_5) (c := c0_5) (k := i) (size := 4) rfl ek rfl kk kk (by omega)) ?_
   refine Fq (.pointer (some ⟨g22, 0 + i * 4 + 3, none⟩)) (r_field (k := 3) rfl ek kk) ?_
   refine W.sst (base := w.heap.size) (e := 40) (size := 4) (n := n0_5) (c := c0_5) (j := 0 + i * 4 + 3) (u := .bool true) (news := [.bool true]) s31 rfl kk rfl rfl kk kk ho32 kk kk kk (by simp only [List.length_cons, List.length_nil]; omega) (.inl rfl) (fun w34 ho35 g36 s37 => ?_)
   have ho35 := own_setU hmx ho35
   apply F.es
   have c38 := (Sb c19 s37 (fun kq e => (World.ownsRow.lt ho0_5 kq e).1))
   apply h8
   refine Rq 2 ?_
   refine Fq (.int .i64 ((i + 1 : Nat) : Int)) (r_add (m := (i : Int)) (n := 1) (z := ((i + 1 : Nat) : Int)) rfl ek ek (by omega) (by omega)) ?_
   refine Fv (.int .i64 ((i + 1 : Nat) : Int)) ?_
   apply F.es
   exact h5 _ _ _ (by omega : (n2 - (i + 1)) < _) ⟨i + 1, (some ⟨g22, 0, none⟩), n0_5, c0_5, Kn.of, rfl, (by omega), (by rw [(mixV_next hx9).trans (by rw [shutX_true (.inr q33)])]; exact ho35), c38⟩
  rw [q33]
  refine Fq (.bool false) (r_pick (b := false) rfl ek ek) ?_
  refine Fq (.pointer (some ⟨g22, 0 + i * 4, none⟩)) (r_idx (n := n0_5) (c := c0_5) (k := i) (size := 4) rfl ek rfl kk kk (by omega)) ?_
  refine Fq (.pointer (some ⟨g22, 0 + i * 4 + 3, none⟩)) (r_field (k := 3) rfl ek kk) ?_
  refine W.sst (base := w.heap.size) (e := 40) (size := 4) (n := n0_5) (c := c0_5) (j := 0 + i * 4 + 3) (u := .bool false) (news := [.bool false]) s31 rfl kk rfl rfl kk kk ho32 kk kk kk (by simp only [List.length_cons, List.length_nil]; omega) (.inl rfl) (fun w39 ho40 g41 s42 => ?_)
  have ho40 := own_setU hmx ho40
  apply F.es
  have c43 := (Sb c19 s42 (fun kq e => (World.ownsRow.lt ho0_5 kq e).1))
  apply h8
  refine Rq 2 ?_
  refine Fq (.int .i64 ((i + 1 : Nat) : Int)) (r_add (m := (i : Int)) (n := 1) (z := ((i + 1 : Nat) : Int)) rfl ek ek (by omega) (by omega)) ?_
  refine Fv (.int .i64 ((i + 1 : Nat) : Int)) ?_
  apply F.es
  exact h5 _ _ _ (by omega : (n2 - (i + 1)) < _) ⟨i + 1, (some ⟨g22, 0, none⟩), n0_5, c0_5, Kn.of, rfl, (by omega), (by rw [(mixV_next hx9).trans (by rw [shutX_false q23 q33])]; exact ho40), c43⟩
 refine Fq (.bool false) (r_lss (m := (i : Int)) (n := (((0 + n2) : Nat) : Int)) rfl ek ek (df q20)) ?_
 apply F.es
 apply h6
 refine wk fun K10 h10 => ?_
 refine wp_cond_false ek ?_
 refine wp_exit ?_
 apply h3
 refine wk fun K11 h11 => ?_
 refine Rq 2 ?_
 refine Fv (.slice A0_5 n0_5 c0_5) ?_
 refine Fa (.slice A0_5 n0_5 c0_5) ?_
 apply F.es
 apply h11
 refine wp_ret ?_
 try simp only [Exit.then]
 refine ret1 (v := .slice A0_5 n0_5 c0_5) rfl kk ?_
 exact ⟨_, _, _, rfl, (by rw [← mixV_end (vs := vs) (plan := pl) (i := i) (by omega)]; exact ho0_5), c19⟩
set_option maxRecDepth 100000 in
set_option maxHeartbeats 8000000 in
theorem l5Shut_any (A2 : Option Addr) (n2 c2 : Nat) (vs : List Vv) (A3 : Option Addr) (n3 c3 : Nat) (pl : List Int) (w : World) (hb : Rd w 4 A2 n2 (valvesV vs)) (hn2 : n2 ≤ 1000000) (hfm2 : Fm A2 n2 c2) (hp3 : Rd w 1 A3 n3 (intsV pl)) (hn3 : n3 ≤ 1000000) :
    Calls Try.prog 149 #[.slice A2 n2 c2, .slice A3 n3 c3] w fun e w' => ∃ A' n' c', e = .returned (.slice A' n' c') ∧ w'.ownsRow w.heap.size 40 4 (.slice A' n' c') n' (valvesV (shutV vs pl)) ∧ Below w.heap.size w w' := by
 have hl2 := rd_valves_len hb
 have hl3 := rd_ints_len hp3
 go_enter Try.func149, Try.ntmps149
 refine F.begin 27 [(0, .slice A2 n2 c2), (1, .slice A3 n3 c3)] (fun U0 => ?_)
 refine wk fun K1 h1 => ?_
 refine Rq 1 ?_
 refine Fa (.slice none 0 0) ?_
 apply F.es
 apply h1
 refine wk fun K2 h2 => ?_
 refine W.region_plain (row := none) [(0, true), (1, false), (2, true), (3, false)] kk ?_
 have s1 := SG.self w none
 refine W.sn (fun b => .slice (some ⟨b, 0, none⟩) 0 0) #[] 40 s1 rfl kk rfl (fun _ => by kernel_rfl) (fun b2 w3 hb4 k5 x6 s7 => ?_)
 apply F.nx
 have lo8 : w.heap.size ≤ b2 := Nl ((Sb (Below.refl _ _) s1 nkk)).size (Nat.le_of_eq hb4)
 refine Fv (.slice A2 n2 c2) ?_
 have ho9 := own_empty (base := w.heap.size) (size := 4) x6 lo8
 replace ho9 : World.ownsRow _ _ _ _ _ _ (valvesV []) := ho9
 replace ho9 : World.ownsRow _ _ _ _ _ _ (valvesV []) := ho9
 refine W.sapR (e := 40) (size := 4) (base := w.heap.size) (v := .slice (some ⟨b2, 0, none⟩) 0 0) (A := A2) (m := n2) (c := c2) s7 rfl rfl rfl rfl kk kk kk ho9 (Rk hb (Sb (Below.refl _ _) s7 nkk)) hfm2 (valves_one _) (by omega) (by have := ((Sb (Below.refl _ _) s7 nkk)).size; omega) (.inr (fun kq e => by have := (s1).size; have := hb4; have e' := Option.some.inj e; simp at e'; omega)) (fun A10 cap11 w12 ho13 hg14 hat15 s16 => ?_)
 apply F.nx
 have ho13 := own_joinV ho13
 have fr17 : ∀ kq, (.slice A10 (0 + n2) cap11 : Value).ownBlock = some kq → w.heap.size ≤ kq := fun kq e => by
   have hs := (s7).size
   rcases hat15 with h | h
   · exact (show ∀ kq, Value.ownBlock _ = some kq → w.heap.size ≤ kq from (fun kq e => by have := (s1).size; have := hb4; have e' := Option.some.inj e; simp at e'; omega)) kq (h.symm.trans e)
   · have := Option.some.inj (h.symm.trans e); omega
 replace ho13 : World.ownsRow _ _ _ _ _ _ (valvesV vs) := ho13
 refine Fa (.slice A10 (0 + n2) cap11) ?_
 apply F.es
 have c18 := (Sb (Below.refl _ _) s16 nkk)
 apply h2
 refine wk fun K3 h3 => ?_
 refine wk fun K4 h4 => ?_
 refine Rq 1 ?_
 refine Fa (.int .i64 0) ?_
 apply F.es
 apply h4
 refine wp_block ?_
 refine loopK (fun am0 aa0 wl0 => ∃ (i : Nat) (A0_5 : Option Addr) (n0_5 : Nat) (c0_5 : Nat) , Kn aa0 [(0, .slice A2 n2 c2), (1, .slice A3 n3 c3), (4, .slice none 0 0), (5, .slice A0_5 n0_5 c0_5), (6, .int .i64 (i : Int))] 27 ∧ (am0 = n2 - i) ∧ (i ≤ n2) ∧ (wl0.ownsRow w.heap.size 40 4 (.slice A0_5 n0_5 c0_5) n0_5 (valvesV (mixV vs pl i))) ∧ (Below w.heap.size w wl0)) (n2 - 0) ?_ ?_
 ·exact ⟨0, A10, (0 + n2), cap11, Kn.of, rfl, (Nat.zero_le _), (by rw [mixV_zero]; exact ho13), c18⟩
 rintro am0 aa0 wl0 K5 h5 ⟨i, A0_5, n0_5, c0_5, ⟨U0, rfl⟩, rfl, hi, ho0_5, c19⟩
 have hml := mixV_len vs pl i
 have hln := rd_valves_len (own_rd ho0_5)
 refine wk fun K6 h6 => ?_
 refine wk fun K7 h7 => ?_
 refine Rq 4 ?_
 refine Fv (.int .i64 (i : Int)) ?_
 refine Fv (.slice A0_5 n0_5 c0_5) ?_
 refine Fq (.int .i64 (n0_5 : Int)) (r_len (A := A0_5) (n := n0_5) (c := c0_5) rfl ek kk) ?_
 by_cases q20 : ((i : Int) : Int) < ((n0_5 : Int) : Int)
 ·refine Fq (.bool true) (r_lss (m := (i : Int)) (n := (n0_5 : Int)) rfl ek ek (dt q20)) ?_
  apply F.es
  apply h7
  refine wp_cond_true ek ?_
  apply wp_skip
  apply h6
  refine wk fun K8 h8 => ?_
  refine wp_block ?_
  refine wk fun K9 h9 => ?_
  refine W.region_plain (row := none) [(0, false), (1, false), (2, false), (3, false), (4, false), (5, false), (6, true)] kk ?_
  have s21 := SG.self wl0 none
  refine Fv (.slice A3 n3 c3) ?_
  refine Fv (.slice A0_5 n0_5 c0_5) ?_
  refine Fv (.int .i64 (i : Int)) ?_
  obtain ⟨x9, hx9⟩ := get_of (zs := vs) (k := i) (by omega)
  have hmx := mixV_at (plan := pl) hx9
  obtain ⟨g22, rfl, _, _⟩ := own_addr ho0_5 (by omega)
  refine Fq (.pointer (some ⟨g22, 0 + i * 4, none⟩)) (r_idx (n := n0_5) (c := c0_5) (k := i) (size := 4) rfl ek rfl kk kk (by omega)) ?_
  refine Fq (.pointer (some ⟨g22, 0 + i * 4, none⟩)) (r_field0 rfl ek kk) ?_
  refine Fl (.int .i64 x9.id) (sgS ((own_atV ho0_5 hmx).1) (by simp)) ?_
  refine Fc [.slice A3 n3 c3, .int .i64 x9.id] (l1Has_any A3 n3 c3 pl x9.id _ (Rk hp3 (Sb c19 s21 nkk)) (by omega)) ?_
  rintro e w24 ⟨rfl, b23⟩
  have s25 := SG.of_below s21 b23
  refine ⟨_, rfl, s25, ?_⟩
  apply F.nx
  have ho26 := own_kept ho0_5 b23
  rcases Bool.eq_false_or_eq_true (pl.contains x9.id) with q27 | q27
  ·rw [q27]
   apply F.es
   have c28 := (Sb c19 s25 nkk)
   apply h9
   refine wp_cond_true ek ?_
   refine W.region_plain (row := none) [(0, false), (1, false), (2, true), (3, false)] kk ?_
   have s29 := SG.self w24 none
   refine Fv (.slice (some ⟨g22, 0, none⟩) n0_5 c0_5) ?_
   refine Fv (.int .i64 (i : Int)) ?_
   have z35 := ((Sb c28 s29 nkk)).size
   refine Fc [.slice (some ⟨g22, 0, none⟩) n0_5 c0_5, .int .i64 (i : Int), .bool true] (l4Turned_any (some ⟨g22, 0, none⟩) n0_5 c0_5 (mixV vs pl i) i x9 true _ (own_rd ho26) (by omega) (own_fm ho26) hmx) ?_
   rintro e w38 ⟨A30, n31, c32, rfl, ho33, b37⟩
   have s39 := SG.of_below s29 b37
   refine ⟨_, rfl, s39, ?_⟩
   apply F.nx
   have ho34 := own_base (base' := w.heap.size) ho33 z35
   refine Fa (.slice A30 n31 c32) ?_
   apply F.es
   have c41 := (Sb c28 s39 nkk)
   apply h8
   refine Rq 3 ?_
   refine Fv (.int .i64 (i : Int)) ?_
   refine Fq (.int .i64 ((i + 1 : Nat) : Int)) (r_add (m := (i : Int)) (n := 1) (z := ((i + 1 : Nat) : Int)) rfl ek ek (by omega) (by omega)) ?_
   refine Fa (.int .i64 ((i + 1 : Nat) : Int)) ?_
   apply F.es
   exact h5 _ _ _ (by omega : (n2 - (i + 1)) < _) ⟨i + 1, A30, n31, c32, Kn.of, rfl, (by omega), (by rw [(mixV_next hx9).trans (by rw [shutX_true (.inr q27)])]; exact ho34), c41⟩
  rw [q27]
  apply F.es
  have c42 := (Sb c19 s25 nkk)
  apply h9
  refine wp_cond_false ek ?_
  apply wp_skip
  apply h8
  refine Rq 3 ?_
  refine Fv (.int .i64 (i : Int)) ?_
  refine Fq (.int .i64 ((i + 1 : Nat) : Int)) (r_add (m := (i : Int)) (n := 1) (z := ((i + 1 : Nat) : Int)) rfl ek ek (by omega) (by omega)) ?_
  refine Fa (.int .i64 ((i + 1 : Nat) : Int)) ?_
  apply F.es
  exact h5 _ _ _ (by omega : (n2 - (i + 1)) < _) ⟨i + 1, (some ⟨g22, 0, none⟩), n0_5, c0_5, Kn.of, rfl, (by omega), (by rw [mixV_skip hx9 q27]; exact ho26), c42⟩
 refine Fq (.bool false) (r_lss (m := (i : Int)) (n := (n0_5 : Int)) rfl ek ek (df q20)) ?_
 apply F.es
 apply h7
 refine wp_cond_false ek ?_
 refine wp_exit ?_
 apply h3
 refine wk fun K10 h10 => ?_
 refine Rq 2 ?_
 refine Fv (.slice A0_5 n0_5 c0_5) ?_
 refine Fa (.slice A0_5 n0_5 c0_5) ?_
 apply F.es
 apply h10
 refine wp_ret ?_
 try simp only [Exit.then]
 refine ret1 (v := .slice A0_5 n0_5 c0_5) rfl kk ?_
 exact ⟨_, _, _, rfl, (by rw [← mixV_end (vs := vs) (plan := pl) (i := i) (by omega)]; exact ho0_5), c19⟩
set_option maxRecDepth 100000 in
set_option maxHeartbeats 8000000 in
theorem isolates_any (m : Int) (A : Option Addr) (n c : Nat) (ps : List Pp) (A2 : Option Addr) (n2 c2 : Nat) (vs : List Vv) (s id : Int) (A3 : Option Addr) (n3 c3 : Nat) (pl : List Int) (w : World) (ha : Rd w 4 A n (pipesV ps)) (hb : Rd w 4 A2 n2 (valvesV vs)) (hn : n ≤ 1048576) (hn2 : n2 ≤ 1048576) (hfm2 : Fm A2 n2 c2) (hv9 : GoodVal m ps vs) (hs : 1 ≤ s ∧ s ≤ m) (hfa : 0 ≤ findL ps id) (hp3 : Rd w 1 A3 n3 (intsV pl)) (hn3 : n3 ≤ 1000000) :
    Calls Try.prog 113 #[.agg #[.int .i64 m, .slice A n c], .slice A2 n2 c2, .int .i64 s, .int .i64 id, .slice A3 n3 c3] w fun e w' => e = .returned (.bool (cutB ps vs s id pl)) ∧ Below w.heap.size w w' := by
 have hl := rd_pipes_len ha
 have hl2 := rd_valves_len hb
 have hl3 := rd_ints_len hp3
 have hg := hv9.net
 have hgl := hg.lo
 have hgh := hg.hi
 have hp := hg.pipesIn
 have hlen10 := hg.len
 have hu := hv9.uniq
 have hvl := hv9.len
 have hfl := findL_lt ps id
 go_enter Try.func113, Try.ntmps113
 refine F.begin 25 [(0, .agg #[.int .i64 m, .slice A n c]), (1, .slice A2 n2 c2), (2, .int .i64 s), (3, .int .i64 id), (4, .slice A3 n3 c3)] (fun U0 => ?_)
 refine wk fun K1 h1 => ?_
 refine W.region_plain (row := none) [(0, true), (1, false)] kk ?_
 have s1 := SG.self w none
 refine W.sn (fun b => .pointer (some ⟨b, 0, none⟩)) #[.int .i64 m, .slice A n c] 26 s1 rfl kk rfl (fun _ => by kernel_rfl) (fun b2 w3 hb4 k5 x6 s7 => ?_)
 apply F.nx
 have lo8 : w.heap.size ≤ b2 := Nl ((Sb (Below.refl _ _) s1 nkk)).size (Nat.le_of_eq hb4)
 refine Fa (.bool false) ?_
 apply F.es
 have c9 := (Sb (Below.refl _ _) s7 nkk)
 apply h1
 refine wk fun K2 h2 => ?_
 refine W.region_sch (row := none) (Sch.of [(0, false), (1, false), (2, false), (4, false), (6, false), (7, false), (3, true), (5, true), (10, false), (8, true), (9, true), (11, false), (12, true), (13, false), (14, false)]) kk kk (fun _ d _ _ _ h => by cases d <;> exact h) kk (fun w10 e11 s12 => ?_)
 refine Fq (.agg #[.int .i64 m, .slice A n c]) (r_load2 rfl ek kk kk (sgS (blk_cell (j := 0) x6 kk) onn) (sgS (blk_cell (j := 1) x6 kk) onn)) ?_
 refine Fv (.slice A2 n2 c2) ?_
 refine Fv (.slice A3 n3 c3) ?_
 refine Fv (.int .i64 s) ?_
 refine Fq (.agg #[.int .i64 m, .slice A n c]) (r_load2 rfl ek kk kk (sgS (blk_cell (j := 0) x6 kk) onn) (sgS (blk_cell (j := 1) x6 kk) onn)) ?_
 refine Fv (.int .i64 id) ?_
 refine Fc [.slice A2 n2 c2, .slice A3 n3 c3] (shutToo_any A2 n2 c2 vs A3 n3 c3 pl _ (Rk hb (Sb c9 s12 nkk)) (by omega) hfm2 (Rk hp3 (Sb c9 s12 nkk)) (by omega)) ?_
 rintro e w22 ⟨A13, n14, c15, rfl, ho16, b21⟩
 have s23 := SG.of_below s12 b21
 refine ⟨_, rfl, s23, ?_⟩
 apply F.nx
 have rd17 := own_rd ho16
 have hl18 := rd_valves_len rd17
 have := shutV_len vs pl
 refine Fc [.agg #[.int .i64 m, .slice A n c], .slice A13 n14 c15, .int .i64 s] (watered_any m A n c ps A13 n14 c15 (shutV vs pl) (s) (s).toNat _ (Rk ha (Sb c9 s23 nkk)) rd17 (by omega) (by omega) hp (by omega) (by omega) (uniqV_shut hu pl) (by omega) (by omega)) ?_
 rintro e w31 ⟨pb25, rfl, lo29, rd26, b30⟩
 have s32 := SG.of_below s23 b30
 refine ⟨_, rfl, s32, ?_⟩
 apply F.nx
 have hl27 := rd_bools_len rd26
 rw [wetL_len] at hl27
 have hl27 : (wetL (linked ps (openQ (shutV vs pl) true)) (s)).length = 19 := wetL_len _ _
 refine Fq (.pointer (some ⟨pb25, 0, none⟩)) (r_nilCheck rfl ek) ?_
 refine Fc [.agg #[.int .i64 m, .slice A n c], .int .i64 id] (pipeIndex_any m A n c ps id _ (Rk ha (Sb c9 s32 nkk)) (by omega)) ?_
 rintro e w36 ⟨rfl, b35⟩
 have s37 := SG.of_below s32 b35
 refine ⟨_, rfl, s37, ?_⟩
 apply F.nx
 have rd39 := Rk rd26 b35
 refine Fc [.int .i64 (findL ps id)] (element_any (findL ps id) _ (by omega)) ?_
 rintro e w' ⟨rfl, rfl⟩
 refine ⟨_, rfl, s37, ?_⟩
 apply F.nx
 obtain ⟨x42, hx43⟩ := get_of (zs := (wetL (linked ps (openQ (shutV vs pl) true)) (s))) (k := (9 + findL ps id).toNat) (by have := hl27; omega)
 obtain ⟨hb44, hc45⟩ := Rd.elBool rd39 hx43
 refine Fq (.pointer (some ⟨pb25, (9 + findL ps id).toNat, none⟩)) (r_idxA (len := 19) (k := (9 + findL ps id).toNat) rfl ek (evk (z := 9 + (findL ps id)) kk (by omega)) kk (by omega)) ?_
 refine W.slq (v := .bool x42) s37 rfl (r_load rfl kk kk (eqS hc45)) kk rfl ?_
 apply F.nx
 refine Fq (.bool (!x42)) (r_not (b := x42) rfl ek rfl) ?_
 refine Fa (.bool (!x42)) ?_
 apply F.es
 have c46 := (Sb c9 s37 nkk)
 apply h2
 refine wp_ret ?_
 try simp only [Exit.then]
 refine ret1 (v := .bool (!x42)) rfl kk ?_
 exact ⟨by unfold cutB; rw [← wet_eqI (b := 9 + findL ps id) hx43 (by omega)], c46⟩
set_option maxRecDepth 100000 in
set_option maxHeartbeats 8000000 in
theorem l5Cut_any (m : Int) (A : Option Addr) (n c : Nat) (ps : List Pp) (A2 : Option Addr) (n2 c2 : Nat) (vs : List Vv) (s id : Int) (A3 : Option Addr) (n3 c3 : Nat) (pl : List Int) (w : World) (ha : Rd w 4 A n (pipesV ps)) (hb : Rd w 4 A2 n2 (valvesV vs)) (hn : n ≤ 1048576) (hn2 : n2 ≤ 1048576) (hfm2 : Fm A2 n2 c2) (hv9 : GoodVal m ps vs) (hs : 1 ≤ s ∧ s ≤ m) (hfa : 0 ≤ findL ps id) (hp3 : Rd w 1 A3 n3 (intsV pl)) (hn3 : n3 ≤ 1000000) :
    Calls Try.prog 118 #[.agg #[.int .i64 m, .slice A n c], .slice A2 n2 c2, .int .i64 s, .int .i64 id, .slice A3 n3 c3] w fun e w' => e = .returned (.bool (cutB ps vs s id pl)) ∧ Below w.heap.size w w' := by
 have hl := rd_pipes_len ha
 have hl2 := rd_valves_len hb
 have hl3 := rd_ints_len hp3
 have hg := hv9.net
 have hgl := hg.lo
 have hgh := hg.hi
 have hp := hg.pipesIn
 have hlen10 := hg.len
 have hu := hv9.uniq
 have hvl := hv9.len
 have hfl := findL_lt ps id
 go_enter Try.func118, Try.ntmps118
 refine F.begin 27 [(0, .agg #[.int .i64 m, .slice A n c]), (1, .slice A2 n2 c2), (2, .int .i64 s), (3, .int .i64 id), (4, .slice A3 n3 c3)] (fun U0 => ?_)
 refine wk fun K1 h1 => ?_
 refine W.region_plain (row := none) [(0, true), (1, false)] kk ?_
 have s1 := SG.self w none
 refine W.sn (fun b => .pointer (some ⟨b, 0, none⟩)) #[.int .i64 m, .slice A n c] 26 s1 rfl kk rfl (fun _ => by kernel_rfl) (fun b2 w3 hb4 k5 x6 s7 => ?_)
 apply F.nx
 have lo8 : w.heap.size ≤ b2 := Nl ((Sb (Below.refl _ _) s1 nkk)).size (Nat.le_of_eq hb4)
 refine Fa (.bool false) ?_
 apply F.es
 have c9 := (Sb (Below.refl _ _) s7 nkk)
 apply h1
 refine wk fun K2 h2 => ?_
 refine W.region_sch (row := none) (Sch.of [(0, false), (1, false), (2, false), (4, false), (3, true), (5, true), (6, false), (7, false), (8, false), (9, false), (10, false)]) kk kk (fun _ d _ _ _ h => by cases d <;> exact h) kk (fun w10 e11 s12 => ?_)
 refine Fq (.agg #[.int .i64 m, .slice A n c]) (r_load2 rfl ek kk kk (sgS (blk_cell (j := 0) x6 kk) onn) (sgS (blk_cell (j := 1) x6 kk) onn)) ?_
 refine Fv (.slice A2 n2 c2) ?_
 refine Fv (.slice A3 n3 c3) ?_
 refine Fv (.int .i64 s) ?_
 refine Fc [.slice A2 n2 c2, .slice A3 n3 c3] (l5Shut_any A2 n2 c2 vs A3 n3 c3 pl _ (Rk hb (Sb c9 s12 nkk)) (by omega) hfm2 (Rk hp3 (Sb c9 s12 nkk)) (by omega)) ?_
 rintro e w22 ⟨A13, n14, c15, rfl, ho16, b21⟩
 have s23 := SG.of_below s12 b21
 refine ⟨_, rfl, s23, ?_⟩
 apply F.nx
 have rd17 := own_rd ho16
 have hl18 := rd_valves_len rd17
 have := shutV_len vs pl
 refine Fc [.agg #[.int .i64 m, .slice A n c], .slice A13 n14 c15, .int .i64 s] (l4Dry_any m A n c ps A13 n14 c15 (shutV vs pl) s _ (Rk ha (Sb c9 s23 nkk)) rd17 (by omega) (by omega) hp (by omega) (by omega) (by omega)) ?_
 rintro e w40 ⟨A25, n26, c27, A28, n29, c30, rfl, rd31, fm32, rd33, fm34, b39⟩
 have s41 := SG.of_below s23 b39
 refine ⟨_, rfl, s41, ?_⟩
 apply F.nx
 have hl37 := rd_ints_len rd31
 have hl38 := rd_ints_len rd33
 have := nodesL_len (linked ps (openQ (shutV vs pl) true)) m.toNat s false
 have := idxL_len (linked ps (openQ (shutV vs pl) true)) ps.length s false
 refine Fv (.tuple #[.slice A25 n26 c27, .slice A28 n29 c30]) ?_
 refine Fq (.slice A25 n26 c27) (r_extract (vs := #[.slice A25 n26 c27, .slice A28 n29 c30]) rfl ek kk) ?_
 refine Fq (.slice A28 n29 c30) (r_extract (vs := #[.slice A25 n26 c27, .slice A28 n29 c30]) rfl ek kk) ?_
 refine Fa (.slice A25 n26 c27) ?_
 refine Fa (.slice A28 n29 c30) ?_
 apply F.es
 have x6 := Sk s41 x6 onn
 have c43 := (Sb c9 s41 nkk)
 apply h2
 refine wk fun K3 h3 => ?_
 refine W.region_plain (row := none) [(0, false), (1, false), (2, false), (3, true), (4, true), (5, false)] kk ?_
 have s44 := SG.self w40 none
 refine Fv (.slice A28 n29 c30) ?_
 refine Fq (.agg #[.int .i64 m, .slice A n c]) (r_load2 rfl ek kk kk (sgS (blk_cell (j := 0) x6 kk) onn) (sgS (blk_cell (j := 1) x6 kk) onn)) ?_
 refine Fv (.int .i64 id) ?_
 refine Fc [.agg #[.int .i64 m, .slice A n c], .int .i64 id] (l2Find_any m A n c ps id _ (Rk ha (Sb c43 s44 nkk)) (by omega)) ?_
 rintro e w46 ⟨rfl, b45⟩
 have s47 := SG.of_below s44 b45
 refine ⟨_, rfl, s47, ?_⟩
 apply F.nx
 refine Fc [.slice A28 n29 c30, .int .i64 (findL ps id)] (l1Has_any A28 n29 c30 (idxL (linked ps (openQ (shutV vs pl) true)) ps.length s false) (findL ps id) _ (Rk rd33 (SG.below s47)) (by omega)) ?_
 rintro e w49 ⟨rfl, b48⟩
 have s50 := SG.of_below s47 b48
 refine ⟨_, rfl, s50, ?_⟩
 apply F.nx
 refine Fa (.bool ((idxL (linked ps (openQ (shutV vs pl) true)) ps.length s false).contains (findL ps id))) ?_
 apply F.es
 have c51 := (Sb c43 s50 nkk)
 apply h3
 refine wp_ret ?_
 try simp only [Exit.then]
 refine ret1 (v := .bool ((idxL (linked ps (openQ (shutV vs pl) true)) ps.length s false).contains (findL ps id))) rfl kk ?_
 exact ⟨by unfold cutB; rw [idxL_hasF (by omega)], c51⟩
set_option maxRecDepth 100000 in
set_option maxHeartbeats 8000000 in
theorem canBurst_any (m : Int) (A : Option Addr) (n c : Nat) (ps : List Pp) (A2 : Option Addr) (n2 c2 : Nat) (vs : List Vv) (s id : Int) (w : World) (ha : Rd w 4 A n (pipesV ps)) (hb : Rd w 4 A2 n2 (valvesV vs)) (hn : n ≤ 1048576) (hn2 : n2 ≤ 1048576) (hfm2 : Fm A2 n2 c2) :
    Calls Try.prog 103 #[.agg #[.int .i64 m, .slice A n c], .slice A2 n2 c2, .int .i64 s, .int .i64 id] w fun e w' => e = .returned (.bool (canB m ps vs s id)) ∧ Below w.heap.size w w' := by
 have hl := rd_pipes_len ha
 have hl2 := rd_valves_len hb
 go_enter Try.func103, Try.ntmps103
 refine F.begin 23 [(0, .agg #[.int .i64 m, .slice A n c]), (1, .slice A2 n2 c2), (2, .int .i64 s), (3, .int .i64 id)] (fun U0 => ?_)
 refine wk fun K1 h1 => ?_
 refine W.region_plain (row := none) [(0, true), (1, false)] kk ?_
 have s1 := SG.self w none
 refine W.sn (fun b => .pointer (some ⟨b, 0, none⟩)) #[.int .i64 m, .slice A n c] 26 s1 rfl kk rfl (fun _ => by kernel_rfl) (fun b2 w3 hb4 k5 x6 s7 => ?_)
 apply F.nx
 have lo8 : w.heap.size ≤ b2 := Nl ((Sb (Below.refl _ _) s1 nkk)).size (Nat.le_of_eq hb4)
 refine Fa (.bool false) ?_
 apply F.es
 have c9 := (Sb (Below.refl _ _) s7 nkk)
 apply h1
 refine wk fun K2 h2 => ?_
 refine W.region_plain (row := none) [(0, false), (1, false), (2, true), (3, false), (4, false), (5, false), (6, true), (7, false), (8, false), (9, false), (10, false), (11, true), (12, false), (13, false), (14, false)] kk ?_
 have s10 := SG.self w3 none
 refine Fq (.agg #[.int .i64 m, .slice A n c]) (r_load2 rfl ek kk kk (sgS (blk_cell (j := 0) x6 kk) onn) (sgS (blk_cell (j := 1) x6 kk) onn)) ?_
 refine Fv (.slice A2 n2 c2) ?_
 refine Fc [.agg #[.int .i64 m, .slice A n c], .slice A2 n2 c2] (IsValidValves_any m A n c ps A2 n2 c2 vs _ (Rk ha (Sb c9 s10 nkk)) (Rk hb (Sb c9 s10 nkk)) (by omega) (by omega) hfm2) ?_
 rintro e w12 ⟨rfl, b11⟩
 have s13 := SG.of_below s10 b11
 refine ⟨_, rfl, s13, ?_⟩
 apply F.nx
 rcases Bool.eq_false_or_eq_true (goodV m ps vs) with q14 | q14
 ·rw [q14]
  have hv9 := goodV_of q14
  have hg := hv9.net
  have hgl := hg.lo
  have hgh := hg.hi
  have hp := hg.pipesIn
  have hlen10 := hg.len
  have hu := hv9.uniq
  have hvl := hv9.len
  have hfl := findL_lt ps id
  refine Fv (.bool true) ?_
  refine Fq (.agg #[.int .i64 m, .slice A n c]) (r_load2 rfl ek kk kk (sgS (blk_cell (j := 0) x6 kk) onn) (sgS (blk_cell (j := 1) x6 kk) onn)) ?_
  refine Fv (.int .i64 s) ?_
  refine Fc [.agg #[.int .i64 m, .slice A n c], .int .i64 s] (has_any m A n c ps s _) ?_
  rintro e w16 ⟨rfl, b15⟩
  have s17 := SG.of_below s13 b15
  refine ⟨_, rfl, s17, ?_⟩
  apply F.nx
  rcases Bool.eq_false_or_eq_true (inB s 1 m) with q18 | q18
  ·rw [q18]
   refine Fq (.bool true) (r_pick (b := true) rfl ek ek) ?_
   refine Fv (.bool true) ?_
   refine Fq (.agg #[.int .i64 m, .slice A n c]) (r_load2 rfl ek kk kk (sgS (blk_cell (j := 0) x6 kk) onn) (sgS (blk_cell (j := 1) x6 kk) onn)) ?_
   refine Fv (.int .i64 id) ?_
   refine Fc [.agg #[.int .i64 m, .slice A n c], .int .i64 id] (pipeIndex_any m A n c ps id _ (Rk ha (Sb c9 s17 nkk)) (by omega)) ?_
   rintro e w20 ⟨rfl, b19⟩
   have s21 := SG.of_below s17 b19
   refine ⟨_, rfl, s21, ?_⟩
   apply F.nx
   by_cases q22 : (findL ps id : Int) ≥ (0 : Int)
   ·refine Fq (.bool true) (r_geq (m := findL ps id) (n := 0) rfl ek ek (dt q22)) ?_
    refine Fq (.bool true) (r_pick (b := true) rfl ek ek) ?_
    refine Fa (.bool true) ?_
    apply F.es
    have c23 := (Sb c9 s21 nkk)
    apply h2
    refine wp_ret ?_
    try simp only [Exit.then]
    refine ret1 (v := .bool true) rfl kk ?_
    exact ⟨by unfold canB; rw [q14, q18, decide_eq_true q22]; try rfl, c23⟩
   refine Fq (.bool false) (r_geq (m := findL ps id) (n := 0) rfl ek ek (df q22)) ?_
   refine Fq (.bool false) (r_pick (b := true) rfl ek ek) ?_
   refine Fa (.bool false) ?_
   apply F.es
   have c24 := (Sb c9 s21 nkk)
   apply h2
   refine wp_ret ?_
   try simp only [Exit.then]
   refine ret1 (v := .bool false) rfl kk ?_
   exact ⟨by unfold canB; rw [decide_eq_false q22, Bool.and_false], c24⟩
  rw [q18]
  refine Fq (.bool false) (r_pick (b := true) rfl ek ek) ?_
  refine Fv (.bool false) ?_
  refine Fs s17 ?_
  refine Fs s17 ?_
  refine Fs s17 ?_
  refine Fs s17 ?_
  refine Fq (.bool false) (r_pick (b := false) rfl ek ek) ?_
  refine Fa (.bool false) ?_
  apply F.es
  have c25 := (Sb c9 s17 nkk)
  apply h2
  refine wp_ret ?_
  try simp only [Exit.then]
  refine ret1 (v := .bool false) rfl kk ?_
  exact ⟨by unfold canB; rw [q18, Bool.and_false, Bool.false_and], c25⟩
 rw [q14]
 refine Fv (.bool false) ?_
 refine Fs s13 ?_
 refine Fs s13 ?_
 refine Fs s13 ?_
 refine Fq (.bool false) (r_pick (b := false) rfl ek ek) ?_
 refine Fv (.bool false) ?_
 refine Fs s13 ?_
 refine Fs s13 ?_
 refine Fs s13 ?_
 refine Fs s13 ?_
 refine Fq (.bool false) (r_pick (b := false) rfl ek ek) ?_
 refine Fa (.bool false) ?_
 apply F.es
 have c26 := (Sb c9 s13 nkk)
 apply h2
 refine wp_ret ?_
 try simp only [Exit.then]
 refine ret1 (v := .bool false) rfl kk ?_
 exact ⟨by unfold canB; rw [q14]; try rfl, c26⟩
set_option maxRecDepth 100000 in
set_option maxHeartbeats 8000000 in
theorem l5Asked_any (m : Int) (A : Option Addr) (n c : Nat) (ps : List Pp) (A2 : Option Addr) (n2 c2 : Nat) (vs : List Vv) (s id : Int) (w : World) (ha : Rd w 4 A n (pipesV ps)) (hb : Rd w 4 A2 n2 (valvesV vs)) (hn : n ≤ 1048576) (hn2 : n2 ≤ 1048576) (hfm2 : Fm A2 n2 c2) :
    Calls Try.prog 99 #[.agg #[.int .i64 m, .slice A n c], .slice A2 n2 c2, .int .i64 s, .int .i64 id] w fun e w' => e = .returned (.bool (canB m ps vs s id)) ∧ Below w.heap.size w w' := by
 have hl := rd_pipes_len ha
 have hl2 := rd_valves_len hb
 go_enter Try.func99, Try.ntmps99
 refine F.begin 23 [(0, .agg #[.int .i64 m, .slice A n c]), (1, .slice A2 n2 c2), (2, .int .i64 s), (3, .int .i64 id)] (fun U0 => ?_)
 refine wk fun K1 h1 => ?_
 refine W.region_plain (row := none) [(0, true), (1, false)] kk ?_
 have s1 := SG.self w none
 refine W.sn (fun b => .pointer (some ⟨b, 0, none⟩)) #[.int .i64 m, .slice A n c] 26 s1 rfl kk rfl (fun _ => by kernel_rfl) (fun b2 w3 hb4 k5 x6 s7 => ?_)
 apply F.nx
 have lo8 : w.heap.size ≤ b2 := Nl ((Sb (Below.refl _ _) s1 nkk)).size (Nat.le_of_eq hb4)
 refine Fa (.bool false) ?_
 apply F.es
 have c9 := (Sb (Below.refl _ _) s7 nkk)
 apply h1
 refine wk fun K2 h2 => ?_
 refine W.region_plain (row := none) [(0, false), (1, false), (2, true), (3, false), (4, false), (5, false), (6, true), (7, false), (8, false), (9, false), (10, false), (11, true), (12, false), (13, false), (14, false)] kk ?_
 have s10 := SG.self w3 none
 refine Fq (.agg #[.int .i64 m, .slice A n c]) (r_load2 rfl ek kk kk (sgS (blk_cell (j := 0) x6 kk) onn) (sgS (blk_cell (j := 1) x6 kk) onn)) ?_
 refine Fv (.slice A2 n2 c2) ?_
 refine Fc [.agg #[.int .i64 m, .slice A n c], .slice A2 n2 c2] (l4Good_any m A n c ps A2 n2 c2 vs _ (Rk ha (Sb c9 s10 nkk)) (Rk hb (Sb c9 s10 nkk)) (by omega) (by omega)) ?_
 rintro e w12 ⟨rfl, b11⟩
 have s13 := SG.of_below s10 b11
 refine ⟨_, rfl, s13, ?_⟩
 apply F.nx
 rcases Bool.eq_false_or_eq_true (goodV m ps vs) with q14 | q14
 ·rw [q14]
  have hv9 := goodV_of q14
  have hg := hv9.net
  have hgl := hg.lo
  have hgh := hg.hi
  have hp := hg.pipesIn
  have hlen10 := hg.len
  have hu := hv9.uniq
  have hvl := hv9.len
  have hfl := findL_lt ps id
  refine Fv (.bool true) ?_
  refine Fq (.agg #[.int .i64 m, .slice A n c]) (r_load2 rfl ek kk kk (sgS (blk_cell (j := 0) x6 kk) onn) (sgS (blk_cell (j := 1) x6 kk) onn)) ?_
  refine Fv (.int .i64 s) ?_
  refine Fc [.agg #[.int .i64 m, .slice A n c], .int .i64 s] (l2Node_any m A n c ps s _ (Rk ha (Sb c9 s13 nkk)) (by omega)) ?_
  rintro e w16 ⟨rfl, b15⟩
  have s17 := SG.of_below s13 b15
  refine ⟨_, rfl, s17, ?_⟩
  apply F.nx
  rcases Bool.eq_false_or_eq_true (goodN m ps && inB s 1 m) with q18 | q18
  ·rw [q18]
   have q19 : inB s 1 m = true := (Bool.and_eq_true_iff.1 q18).2
   refine Fq (.bool true) (r_pick (b := true) rfl ek ek) ?_
   refine Fv (.bool true) ?_
   refine Fq (.agg #[.int .i64 m, .slice A n c]) (r_load2 rfl ek kk kk (sgS (blk_cell (j := 0) x6 kk) onn) (sgS (blk_cell (j := 1) x6 kk) onn)) ?_
   refine Fv (.int .i64 id) ?_
   refine Fc [.agg #[.int .i64 m, .slice A n c], .int .i64 id] (l2Find_any m A n c ps id _ (Rk ha (Sb c9 s17 nkk)) (by omega)) ?_
   rintro e w21 ⟨rfl, b20⟩
   have s22 := SG.of_below s17 b20
   refine ⟨_, rfl, s22, ?_⟩
   apply F.nx
   by_cases q23 : (findL ps id : Int) ≥ (0 : Int)
   ·refine Fq (.bool true) (r_geq (m := findL ps id) (n := 0) rfl ek ek (dt q23)) ?_
    refine Fq (.bool true) (r_pick (b := true) rfl ek ek) ?_
    refine Fa (.bool true) ?_
    apply F.es
    have c24 := (Sb c9 s22 nkk)
    apply h2
    refine wp_ret ?_
    try simp only [Exit.then]
    refine ret1 (v := .bool true) rfl kk ?_
    exact ⟨by unfold canB; rw [q14, q19, decide_eq_true q23]; try rfl, c24⟩
   refine Fq (.bool false) (r_geq (m := findL ps id) (n := 0) rfl ek ek (df q23)) ?_
   refine Fq (.bool false) (r_pick (b := true) rfl ek ek) ?_
   refine Fa (.bool false) ?_
   apply F.es
   have c25 := (Sb c9 s22 nkk)
   apply h2
   refine wp_ret ?_
   try simp only [Exit.then]
   refine ret1 (v := .bool false) rfl kk ?_
   exact ⟨by unfold canB; rw [decide_eq_false q23, Bool.and_false], c25⟩
  rw [q18]
  have q26 : inB s 1 m = false := by have h9 := q18; rw [hv9.good, Bool.true_and] at h9; exact h9
  refine Fq (.bool false) (r_pick (b := true) rfl ek ek) ?_
  refine Fv (.bool false) ?_
  refine Fs s17 ?_
  refine Fs s17 ?_
  refine Fs s17 ?_
  refine Fs s17 ?_
  refine Fq (.bool false) (r_pick (b := false) rfl ek ek) ?_
  refine Fa (.bool false) ?_
  apply F.es
  have c27 := (Sb c9 s17 nkk)
  apply h2
  refine wp_ret ?_
  try simp only [Exit.then]
  refine ret1 (v := .bool false) rfl kk ?_
  exact ⟨by unfold canB; rw [q26, Bool.and_false, Bool.false_and], c27⟩
 rw [q14]
 refine Fv (.bool false) ?_
 refine Fs s13 ?_
 refine Fs s13 ?_
 refine Fs s13 ?_
 refine Fq (.bool false) (r_pick (b := false) rfl ek ek) ?_
 refine Fv (.bool false) ?_
 refine Fs s13 ?_
 refine Fs s13 ?_
 refine Fs s13 ?_
 refine Fs s13 ?_
 refine Fq (.bool false) (r_pick (b := false) rfl ek ek) ?_
 refine Fa (.bool false) ?_
 apply F.es
 have c28 := (Sb c9 s13 nkk)
 apply h2
 refine wp_ret ?_
 try simp only [Exit.then]
 refine ret1 (v := .bool false) rfl kk ?_
 exact ⟨by unfold canB; rw [q14]; try rfl, c28⟩
set_option maxRecDepth 100000 in
set_option maxHeartbeats 8000000 in
theorem l5Open_any (A2 : Option Addr) (n2 c2 : Nat) (vs : List Vv) (w : World) (hb : Rd w 4 A2 n2 (valvesV vs)) (hn2 : n2 ≤ 1000000) :
    Calls Try.prog 115 #[.slice A2 n2 c2] w fun e w' => ∃ A' n' c', e = .returned (.slice A' n' c') ∧ w'.ownsRow w.heap.size 3 1 (.slice A' n' c') n' (intsV (openIds vs)) ∧ Below w.heap.size w w' := by
 have hl2 := rd_valves_len hb
 go_enter Try.func115, Try.ntmps115
 refine F.begin 27 [(0, .slice A2 n2 c2)] (fun U0 => ?_)
 refine wk fun K1 h1 => ?_
 refine Rq 1 ?_
 refine Fa (.slice none 0 0) ?_
 apply F.es
 apply h1
 refine wk fun K2 h2 => ?_
 refine W.region_plain (row := none) [(0, true), (1, false)] kk ?_
 have s1 := SG.self w none
 refine W.sn (fun b => .slice (some ⟨b, 0, none⟩) 0 0) #[] 3 s1 rfl kk rfl (fun _ => by kernel_rfl) (fun b2 w3 hb4 k5 x6 s7 => ?_)
 apply F.nx
 have lo8 : w.heap.size ≤ b2 := Nl ((Sb (Below.refl _ _) s1 nkk)).size (Nat.le_of_eq hb4)
 refine Fa (.slice (some ⟨b2, 0, none⟩) 0 0) ?_
 apply F.es
 have c9 := (Sb (Below.refl _ _) s7 nkk)
 apply h2
 refine wk fun K3 h3 => ?_
 refine wk fun K4 h4 => ?_
 refine Rq 1 ?_
 refine Fa (.int .i64 0) ?_
 apply F.es
 apply h4
 refine wp_block ?_
 have ho10 := own_empty (base := w.heap.size) (size := 1) x6 lo8
 replace ho10 : World.ownsRow _ _ _ _ _ _ (intsV []) := ho10
 refine loopK (fun am0 aa0 wl0 => ∃ (i : Nat) (A0_3 : Option Addr) (n0_3 : Nat) (c0_3 : Nat) , Kn aa0 [(0, .slice A2 n2 c2), (2, .slice none 0 0), (3, .slice A0_3 n0_3 c0_3), (4, .int .i64 (i : Int))] 27 ∧ (am0 = n2 - i) ∧ (i ≤ n2) ∧ (n0_3 ≤ i) ∧ (wl0.ownsRow w.heap.size 3 1 (.slice A0_3 n0_3 c0_3) n0_3 (intsV (openIds (vs.take i)))) ∧ (Below w.heap.size w wl0)) (n2 - 0) ?_ ?_
 ·exact ⟨0, (some ⟨b2, 0, none⟩), 0, 0, Kn.of, rfl, (Nat.zero_le _), (Nat.zero_le _), ho10, c9⟩
 rintro am0 aa0 wl0 K5 h5 ⟨i, A0_3, n0_3, c0_3, ⟨U0, rfl⟩, rfl, hi, hb3, ho0_3, c11⟩
 refine wk fun K6 h6 => ?_
 refine wk fun K7 h7 => ?_
 refine Rq 4 ?_
 refine Fv (.int .i64 (i : Int)) ?_
 refine Fv (.slice A2 n2 c2) ?_
 refine Fq (.int .i64 (n2 : Int)) (r_len (A := A2) (n := n2) (c := c2) rfl ek kk) ?_
 by_cases q12 : ((i : Int) : Int) < ((n2 : Int) : Int)
 ·refine Fq (.bool true) (r_lss (m := (i : Int)) (n := (n2 : Int)) rfl ek ek (dt q12)) ?_
  apply F.es
  apply h7
  refine wp_cond_true ek ?_
  apply wp_skip
  apply h6
  refine wk fun K8 h8 => ?_
  refine wp_block ?_
  refine wk fun K9 h9 => ?_
  refine Rq 6 ?_
  refine Fv (.slice A2 n2 c2) ?_
  refine Fv (.int .i64 (i : Int)) ?_
  obtain ⟨x13, hx14⟩ := get_of (zs := vs) (k := i) (by have := hl2; omega)
  obtain ⟨b15, o16, hA17, hb18, hc19, hc20, hc21, hc22⟩ := Rd.elValve hb hx14
  refine Fq (.pointer (some ⟨b15, o16 + i * 4, none⟩)) (r_idx (n := n2) (c := c2) (k := i) rfl ek hA17 kk kk (by have := hl2; omega)) ?_
  refine Fq (.pointer (some ⟨b15, o16 + i * 4 + 3, none⟩)) (r_field (k := 3) rfl ek kk) ?_
  refine Fl (.bool x13.shut) (eqS (later c11 hc22)) ?_
  refine Fq (.bool (!x13.shut)) (r_not (b := x13.shut) rfl ek rfl) ?_
  apply F.es
  apply h9
  rcases Bool.eq_false_or_eq_true (!x13.shut) with q23 | q23
  ·rw [q23]
   refine wp_cond_true ek ?_
   refine W.region_plain (row := (Value.ownBlock (.slice A0_3 n0_3 c0_3))) [(0, false), (1, false), (2, false), (3, false), (4, false), (5, false), (6, true), (7, true), (8, false)] kk ?_
   have s24 := SG.self wl0 (Value.ownBlock (.slice A0_3 n0_3 c0_3))
   refine Fv (.slice A0_3 n0_3 c0_3) ?_
   refine Fv (.slice A2 n2 c2) ?_
   refine Fv (.int .i64 (i : Int)) ?_
   refine Fq (.pointer (some ⟨b15, o16 + i * 4, none⟩)) (r_idx (n := n2) (c := c2) (k := i) rfl ek hA17 kk kk (by have := hl2; omega)) ?_
   refine Fq (.pointer (some ⟨b15, o16 + i * 4, none⟩)) (r_field0 rfl ek kk) ?_
   refine Fl (.int .i64 x13.id) (sgS (later c11 hc19) (nb_lo ho0_3 hb18)) ?_
   refine W.sn (fun b => .slice (some ⟨b, 0, none⟩) 1 1) #[.int .i64 x13.id] 3 s24 rfl kk rfl (fun _ => by kernel_rfl) (fun b25 w26 hb27 k28 x29 s30 => ?_)
   apply F.nx
   have lo31 : w.heap.size ≤ b25 := Nl ((Sb c11 s24 (fun kq e => (World.ownsRow.lt ho0_3 kq e).1))).size (Nat.le_of_eq hb27)
   have ho33 := own_kept ho0_3 k28
   refine W.sap (e := 3) (size := 1) (base := w.heap.size) (m := 1) (v := .slice A0_3 n0_3 c0_3) (c := 1) s30 rfl rfl rfl rfl kk kk kk ho33 x29 kk kk (by omega) (by omega) (by have := ((Sb c11 s30 (fun kq e => (World.ownsRow.lt ho0_3 kq e).1))).size; omega) (.inl rfl) (fun g34 cap35 w36 ho37 hg38 hat39 hlt40 s41 => ?_)
   apply F.nx
   have ho37 := own_snoc ho37
   refine Fa (.slice (some ⟨g34, 0, none⟩) (n0_3 + 1) cap35) ?_
   apply F.es
   have c43 := (Sb c11 s41 (fun kq e => (World.ownsRow.lt ho0_3 kq e).1))
   apply h8
   refine Rq 3 ?_
   refine Fv (.int .i64 (i : Int)) ?_
   refine Fq (.int .i64 ((i + 1 : Nat) : Int)) (r_add (m := (i : Int)) (n := 1) (z := ((i + 1 : Nat) : Int)) rfl ek ek (by omega) (by omega)) ?_
   refine Fa (.int .i64 ((i + 1 : Nat) : Int)) ?_
   apply F.es
   exact h5 _ _ _ (by omega : (n2 - (i + 1)) < _) ⟨i + 1, (some ⟨g34, 0, none⟩), (n0_3 + 1), cap35, Kn.of, rfl, (by omega), (by omega), (by rw [openIds_yes hx14 (by simpa using q23)]; exact ho37), c43⟩
  rw [q23]
  refine wp_cond_false ek ?_
  apply wp_skip
  apply h8
  refine Rq 3 ?_
  refine Fv (.int .i64 (i : Int)) ?_
  refine Fq (.int .i64 ((i + 1 : Nat) : Int)) (r_add (m := (i : Int)) (n := 1) (z := ((i + 1 : Nat) : Int)) rfl ek ek (by omega) (by omega)) ?_
  refine Fa (.int .i64 ((i + 1 : Nat) : Int)) ?_
  apply F.es
  exact h5 _ _ _ (by omega : (n2 - (i + 1)) < _) ⟨i + 1, A0_3, n0_3, c0_3, Kn.of, rfl, (by omega), (by omega), (by rw [openIds_no hx14 (by simpa using q23)]; exact ho0_3), c11⟩
 refine Fq (.bool false) (r_lss (m := (i : Int)) (n := (n2 : Int)) rfl ek ek (df q12)) ?_
 apply F.es
 apply h7
 refine wp_cond_false ek ?_
 refine wp_exit ?_
 apply h3
 refine wk fun K10 h10 => ?_
 refine Rq 2 ?_
 refine Fv (.slice A0_3 n0_3 c0_3) ?_
 refine Fa (.slice A0_3 n0_3 c0_3) ?_
 apply F.es
 apply h10
 refine wp_ret ?_
 try simp only [Exit.then]
 refine ret1 (v := .slice A0_3 n0_3 c0_3) rfl kk ?_
 have h9 := ho0_3
 rw [List.take_of_length_le (by omega)] at h9
 exact ⟨_, _, _, rfl, h9, c11⟩
set_option maxRecDepth 100000 in
set_option maxHeartbeats 8000000 in
theorem custF_any (z : Int) (w : World) :
    Calls Try.prog 140 #[.int .i64 z] w fun e w' => e = .returned (.bool (!inB z 0 1000)) ∧ Below w.heap.size w w' := by
 go_enter Try.func140, Try.ntmps140
 refine F.begin 6 [(0, .int .i64 z)] (fun U0 => ?_)
 refine wk fun K1 h1 => ?_
 refine Rq 1 ?_
 refine Fa (.bool false) ?_
 apply F.es
 apply h1
 refine wk fun K2 h2 => ?_
 refine W.region_plain (row := none) [(0, false), (1, true), (2, false), (3, false)] kk ?_
 have s1 := SG.self w none
 refine Fv (.int .i64 z) ?_
 refine Fc [.int .i64 z, .int .i64 0, .int .i64 1000] (inside_any z 0 1000 _) ?_
 rintro e w' ⟨rfl, rfl⟩
 refine ⟨_, rfl, s1, ?_⟩
 apply F.nx
 rcases Bool.eq_false_or_eq_true (inB z 0 1000) with q4 | q4
 ·rw [q4]
  refine Fq (.bool false) (r_not (b := true) rfl ek rfl) ?_
  refine Fa (.bool false) ?_
  apply F.es
  have c5 := (Sb (Below.refl _ _) s1 nkk)
  apply h2
  refine wp_ret ?_
  try simp only [Exit.then]
  refine ret1 (v := .bool false) rfl kk ?_
  exact ⟨by rw [q4]; try rfl, c5⟩
 rw [q4]
 refine Fq (.bool true) (r_not (b := false) rfl ek rfl) ?_
 refine Fa (.bool true) ?_
 apply F.es
 have c6 := (Sb (Below.refl _ _) s1 nkk)
 apply h2
 refine wp_ret ?_
 try simp only [Exit.then]
 refine ret1 (v := .bool true) rfl kk ?_
 exact ⟨by rw [q4]; try rfl, c6⟩
set_option maxRecDepth 100000 in
set_option maxHeartbeats 8000000 in
theorem areCustomers_any (m : Int) (A : Option Addr) (n c : Nat) (ps : List Pp) (A4 : Option Addr) (n4 c4 : Nat) (cs : List Int) (w : World) (ha : Rd w 4 A n (pipesV ps)) (hn : n ≤ 1048576) (hc4 : Rd w 1 A4 n4 (intsV cs)) (hn4 : n4 ≤ 1048576) :
    Calls Try.prog 104 #[.agg #[.int .i64 m, .slice A n c], .slice A4 n4 c4] w fun e w' => e = .returned (.bool (custOk m cs)) ∧ Below w.heap.size w w' := by
 have hl := rd_pipes_len ha
 have hl4 := rd_ints_len hc4
 go_enter Try.func104, Try.ntmps104
 refine F.begin 15 [(0, .agg #[.int .i64 m, .slice A n c]), (1, .slice A4 n4 c4)] (fun U0 => ?_)
 refine wk fun K1 h1 => ?_
 refine W.region_plain (row := none) [(0, true), (1, false)] kk ?_
 have s1 := SG.self w none
 refine W.sn (fun b => .pointer (some ⟨b, 0, none⟩)) #[.int .i64 m, .slice A n c] 26 s1 rfl kk rfl (fun _ => by kernel_rfl) (fun b2 w3 hb4 k5 x6 s7 => ?_)
 apply F.nx
 have lo8 : w.heap.size ≤ b2 := Nl ((Sb (Below.refl _ _) s1 nkk)).size (Nat.le_of_eq hb4)
 refine Fa (.bool false) ?_
 apply F.es
 have c9 := (Sb (Below.refl _ _) s7 nkk)
 apply h1
 refine wk fun K2 h2 => ?_
 refine W.region_plain (row := none) [(0, false), (1, false), (2, false), (3, false), (4, false), (5, false), (6, false), (7, true), (8, false), (9, false), (10, false)] kk ?_
 have s10 := SG.self w3 none
 refine Fv (.slice A4 n4 c4) ?_
 refine Fq (.int .i64 (n4 : Int)) (r_len (A := A4) (n := n4) (c := c4) rfl ek kk) ?_
 refine Fq (.pointer (some ⟨b2, 0, none⟩)) (r_field0 rfl ek kk) ?_
 refine Fl (.int .i64 m) (sgS (blk_cell (j := 0) x6 kk) onn) ?_
 by_cases q11 : ((n4 : Int) : Int) = (m : Int)
 ·refine Fq (.bool true) (r_eql (m := (n4 : Int)) (n := m) rfl ek ek (dt q11)) ?_
  refine Fv (.bool true) ?_
  refine Fv (.slice A4 n4 c4) ?_
  refine Fc [.slice A4 n4 c4, .func (.func 140) #[] #[]] (slContainsFunc_any A4 n4 c4 cs 140 #[] (fun c => !inB c 0 1000) _ (Rk hc4 (Sb c9 s10 nkk)) (by omega) kk (fun W v hW => custF_any v W)) ?_
  rintro e w13 ⟨rfl, b12⟩
  have s14 := SG.of_below s10 b12
  refine ⟨_, rfl, s14, ?_⟩
  apply F.nx
  rcases Bool.eq_false_or_eq_true (cs.any (fun c => !inB c 0 1000)) with q15 | q15
  ·rw [q15]
   refine Fq (.bool false) (r_not (b := true) rfl ek rfl) ?_
   refine Fq (.bool false) (r_pick (b := true) rfl ek ek) ?_
   refine Fa (.bool false) ?_
   apply F.es
   have c16 := (Sb c9 s14 nkk)
   apply h2
   refine wp_ret ?_
   try simp only [Exit.then]
   refine ret1 (v := .bool false) rfl kk ?_
   exact ⟨by have h9 := q15; rw [all_any, Bool.not_eq_true'] at h9; unfold custOk; rw [h9, Bool.and_false], c16⟩
  rw [q15]
  refine Fq (.bool true) (r_not (b := false) rfl ek rfl) ?_
  refine Fq (.bool true) (r_pick (b := true) rfl ek ek) ?_
  refine Fa (.bool true) ?_
  apply F.es
  have c17 := (Sb c9 s14 nkk)
  apply h2
  refine wp_ret ?_
  try simp only [Exit.then]
  refine ret1 (v := .bool true) rfl kk ?_
  exact ⟨by have h9 := q15; rw [all_any, Bool.not_eq_false'] at h9; unfold custOk; rw [h9, decide_eq_true (by omega)]; try rfl, c17⟩
 refine Fq (.bool false) (r_eql (m := (n4 : Int)) (n := m) rfl ek ek (df q11)) ?_
 refine Fv (.bool false) ?_
 refine Fs s10 ?_
 refine Fs s10 ?_
 refine Fs s10 ?_
 refine Fq (.bool false) (r_pick (b := false) rfl ek ek) ?_
 refine Fa (.bool false) ?_
 apply F.es
 have c18 := (Sb c9 s10 nkk)
 apply h2
 refine wp_ret ?_
 try simp only [Exit.then]
 refine ret1 (v := .bool false) rfl kk ?_
 exact ⟨by unfold custOk; rw [decide_eq_false (by omega)]; try rfl, c18⟩
set_option maxRecDepth 100000 in
set_option maxHeartbeats 8000000 in
theorem l5Customers_any (m : Int) (A : Option Addr) (n c : Nat) (ps : List Pp) (A4 : Option Addr) (n4 c4 : Nat) (cs : List Int) (w : World) (ha : Rd w 4 A n (pipesV ps)) (hn : n ≤ 1048576) (hc4 : Rd w 1 A4 n4 (intsV cs)) (hn4 : n4 ≤ 1048576) :
    Calls Try.prog 100 #[.agg #[.int .i64 m, .slice A n c], .slice A4 n4 c4] w fun e w' => e = .returned (.bool (custOk m cs)) ∧ Below w.heap.size w w' := by
 have hl := rd_pipes_len ha
 have hl4 := rd_ints_len hc4
 go_enter Try.func100, Try.ntmps100
 refine F.begin 23 [(0, .agg #[.int .i64 m, .slice A n c]), (1, .slice A4 n4 c4)] (fun U0 => ?_)
 refine wk fun K1 h1 => ?_
 refine W.region_plain (row := none) [(0, true), (1, false)] kk ?_
 have s1 := SG.self w none
 refine W.sn (fun b => .pointer (some ⟨b, 0, none⟩)) #[.int .i64 m, .slice A n c] 26 s1 rfl kk rfl (fun _ => by kernel_rfl) (fun b2 w3 hb4 k5 x6 s7 => ?_)
 apply F.nx
 have lo8 : w.heap.size ≤ b2 := Nl ((Sb (Below.refl _ _) s1 nkk)).size (Nat.le_of_eq hb4)
 refine Fa (.bool false) ?_
 apply F.es
 have c9 := (Sb (Below.refl _ _) s7 nkk)
 apply h1
 refine wk fun K2 h2 => ?_
 refine wk fun K3 h3 => ?_
 refine Rq 1 ?_
 refine Fa (.int .i64 0) ?_
 apply F.es
 apply h3
 refine wp_block ?_
 refine loopK (fun am0 aa0 wl0 => ∃ (k : Nat) , Kn aa0 [(0, .agg #[.int .i64 m, .slice A n c]), (1, .slice A4 n4 c4), (2, .pointer (some ⟨b2, 0, none⟩)), (4, .bool false), (5, .int .i64 (k : Int))] 23 ∧ (am0 = n4 - k) ∧ (k ≤ n4) ∧ (∀ j z, j < k → cs[j]? = some z → inB z 0 1000 = true) ∧ (wl0.heap[b2]? = some (.cells #[.int .i64 m, .slice A n c] 26 (0, 0))) ∧ (Below w.heap.size w wl0)) (n4 - 0) ?_ ?_
 ·exact ⟨0, Kn.of, rfl, (Nat.zero_le _), (fun j z hj => absurd hj (by omega)), x6, c9⟩
 rintro am0 aa0 wl0 K4 h4 ⟨k, ⟨U0, rfl⟩, rfl, hk, hno, x6, c10⟩
 refine wk fun K5 h5 => ?_
 refine wk fun K6 h6 => ?_
 refine Rq 4 ?_
 refine Fv (.int .i64 (k : Int)) ?_
 refine Fv (.slice A4 n4 c4) ?_
 refine Fq (.int .i64 (n4 : Int)) (r_len (A := A4) (n := n4) (c := c4) rfl ek kk) ?_
 by_cases q11 : ((k : Int) : Int) < ((n4 : Int) : Int)
 ·refine Fq (.bool true) (r_lss (m := (k : Int)) (n := (n4 : Int)) rfl ek ek (dt q11)) ?_
  apply F.es
  apply h6
  refine wp_cond_true ek ?_
  apply wp_skip
  apply h5
  refine wk fun K7 h7 => ?_
  refine wp_block ?_
  refine wk fun K8 h8 => ?_
  refine W.region_plain (row := none) [(0, false), (1, false), (2, false), (3, false), (4, true), (5, false)] kk ?_
  have s12 := SG.self wl0 none
  refine Fv (.slice A4 n4 c4) ?_
  refine Fv (.int .i64 (k : Int)) ?_
  obtain ⟨x13, hx14⟩ := get_of (zs := cs) (k := k) (by have := hl4; omega)
  obtain ⟨b15, o16, hA17, hb18, hc19⟩ := Rd.elInt hc4 hx14
  refine Fq (.pointer (some ⟨b15, o16 + k, none⟩)) (r_idx1 (n := n4) (c := c4) (k := k) rfl ek hA17 kk kk (by have := hl4; omega)) ?_
  refine Fl (.int .i64 x13) (sgS (later c10 hc19) (by simp)) ?_
  refine Fc [.int .i64 x13, .int .i64 0, .int .i64 1000] (l1In_any x13 0 1000 _) ?_
  rintro e w' ⟨rfl, rfl⟩
  refine ⟨_, rfl, s12, ?_⟩
  apply F.nx
  rcases Bool.eq_false_or_eq_true (inB x13 0 1000) with q22 | q22
  ·rw [q22]
   refine Fq (.bool false) (r_not (b := true) rfl ek rfl) ?_
   apply F.es
   have x6 := Sk s12 x6 onn
   have c23 := (Sb c10 s12 nkk)
   apply h8
   refine wp_cond_false ek ?_
   apply wp_skip
   apply h7
   refine Rq 3 ?_
   refine Fv (.int .i64 (k : Int)) ?_
   refine Fq (.int .i64 ((k + 1 : Nat) : Int)) (r_add (m := (k : Int)) (n := 1) (z := ((k + 1 : Nat) : Int)) rfl ek ek (by omega) (by omega)) ?_
   refine Fa (.int .i64 ((k + 1 : Nat) : Int)) ?_
   apply F.es
   exact h4 _ _ _ (by omega : (n4 - (k + 1)) < _) ⟨k + 1, Kn.of, rfl, (by omega), (upto_succ (Q := fun z => inB z 0 1000 = true) hno hx14 q22), x6, c23⟩
  rw [q22]
  refine Fq (.bool true) (r_not (b := false) rfl ek rfl) ?_
  apply F.es
  have x6 := Sk s12 x6 onn
  have c24 := (Sb c10 s12 nkk)
  apply h8
  refine wp_cond_true ek ?_
  refine wk fun K9 h9 => ?_
  refine Rq 1 ?_
  refine Fa (.bool false) ?_
  apply F.es
  apply h9
  refine wp_ret ?_
  try simp only [Exit.then, Exit.inBlock]
  refine ret1 (v := .bool false) rfl kk ?_
  exact ⟨by unfold custOk; rw [show cs.all (fun c => inB c 0 1000) = false from Bool.eq_false_iff.2 (fun h9 => by have := List.all_eq_true.1 h9 x13 (List.mem_of_getElem? hx14); rw [q22] at this; cases this), Bool.and_false], c24⟩
 refine Fq (.bool false) (r_lss (m := (k : Int)) (n := (n4 : Int)) rfl ek ek (df q11)) ?_
 apply F.es
 apply h6
 refine wp_cond_false ek ?_
 refine wp_exit ?_
 apply h2
 refine wk fun K10 h10 => ?_
 refine Rq 6 ?_
 refine Fv (.slice A4 n4 c4) ?_
 refine Fq (.int .i64 (n4 : Int)) (r_len (A := A4) (n := n4) (c := c4) rfl ek kk) ?_
 refine Fq (.pointer (some ⟨b2, 0, none⟩)) (r_field0 rfl ek kk) ?_
 refine Fl (.int .i64 m) (eqS (blk_cell (j := 0) x6 kk)) ?_
 by_cases q25 : ((n4 : Int) : Int) = (m : Int)
 ·refine Fq (.bool true) (r_eql (m := (n4 : Int)) (n := m) rfl ek ek (dt q25)) ?_
  refine Fa (.bool true) ?_
  apply F.es
  apply h10
  refine wp_ret ?_
  try simp only [Exit.then]
  refine ret1 (v := .bool true) rfl kk ?_
  have e8 : cs.all (fun c => inB c 0 1000) = true := List.all_eq_true.2 (fun c hc => by obtain ⟨j, hj, e⟩ := List.getElem_of_mem hc; exact hno j c (by omega) (by rw [List.getElem?_eq_getElem hj, e]))
  exact ⟨by unfold custOk; rw [e8, decide_eq_true (by omega)]; try rfl, c10⟩
 refine Fq (.bool false) (r_eql (m := (n4 : Int)) (n := m) rfl ek ek (df q25)) ?_
 refine Fa (.bool false) ?_
 apply F.es
 apply h10
 refine wp_ret ?_
 try simp only [Exit.then]
 refine ret1 (v := .bool false) rfl kk ?_
 have e8 : cs.all (fun c => inB c 0 1000) = true := List.all_eq_true.2 (fun c hc => by obtain ⟨j, hj, e⟩ := List.getElem_of_mem hc; exact hno j c (by omega) (by rw [List.getElem?_eq_getElem hj, e]))
 exact ⟨by unfold custOk; rw [e8, decide_eq_false (by omega)]; try rfl, c10⟩
set_option maxRecDepth 100000 in
set_option maxHeartbeats 8000000 in
theorem harmOf_any (m : Int) (A : Option Addr) (n c : Nat) (ps : List Pp) (A2 : Option Addr) (n2 c2 : Nat) (vs : List Vv) (s : Int) (A3 : Option Addr) (n3 c3 : Nat) (pl : List Int) (A4 : Option Addr) (n4 c4 : Nat) (cs : List Int) (w : World) (ha : Rd w 4 A n (pipesV ps)) (hb : Rd w 4 A2 n2 (valvesV vs)) (hn : n ≤ 1048576) (hn2 : n2 ≤ 1048576) (hfm2 : Fm A2 n2 c2) (hv9 : GoodVal m ps vs) (hs : 1 ≤ s ∧ s ≤ m) (hp3 : Rd w 1 A3 n3 (intsV pl)) (hn3 : n3 ≤ 1000000) (hc4 : Rd w 1 A4 n4 (intsV cs)) (hn4 : n4 ≤ 1048576) (hco : custOk m cs = true) :
    Calls Try.prog 120 #[.agg #[.int .i64 m, .slice A n c], .slice A2 n2 c2, .int .i64 s, .slice A3 n3 c3, .slice A4 n4 c4] w fun e w' => e = .returned (.int .i64 (harmL ps vs s cs pl)) ∧ Below w.heap.size w w' := by
 have hl := rd_pipes_len ha
 have hl2 := rd_valves_len hb
 have hl3 := rd_ints_len hp3
 have hg := hv9.net
 have hgl := hg.lo
 have hgh := hg.hi
 have hp := hg.pipesIn
 have hlen10 := hg.len
 have hu := hv9.uniq
 have hvl := hv9.len
 have hl4 := rd_ints_len hc4
 obtain ⟨hcl, hcb⟩ := custOk_of hco
 go_enter Try.func120, Try.ntmps120
 refine F.begin 40 [(0, .agg #[.int .i64 m, .slice A n c]), (1, .slice A2 n2 c2), (2, .int .i64 s), (3, .slice A3 n3 c3), (4, .slice A4 n4 c4)] (fun U0 => ?_)
 refine wk fun K1 h1 => ?_
 refine W.region_plain (row := none) [(0, true), (1, false)] kk ?_
 have s1 := SG.self w none
 refine W.sn (fun b => .pointer (some ⟨b, 0, none⟩)) #[.int .i64 m, .slice A n c] 26 s1 rfl kk rfl (fun _ => by kernel_rfl) (fun b2 w3 hb4 k5 x6 s7 => ?_)
 apply F.nx
 have lo8 : w.heap.size ≤ b2 := Nl ((Sb (Below.refl _ _) s1 nkk)).size (Nat.le_of_eq hb4)
 refine Fa (.int .i64 0) ?_
 apply F.es
 have c9 := (Sb (Below.refl _ _) s7 nkk)
 apply h1
 refine wk fun K2 h2 => ?_
 refine W.region_sch (row := none) (Sch.of [(0, false), (1, false), (2, false), (4, false), (3, true), (5, true), (6, false), (7, false)]) kk kk (fun _ d _ _ _ h => by cases d <;> exact h) kk (fun w10 e11 s12 => ?_)
 refine Fq (.agg #[.int .i64 m, .slice A n c]) (r_load2 rfl ek kk kk (sgS (blk_cell (j := 0) x6 kk) onn) (sgS (blk_cell (j := 1) x6 kk) onn)) ?_
 refine Fv (.slice A2 n2 c2) ?_
 refine Fv (.slice A3 n3 c3) ?_
 refine Fv (.int .i64 s) ?_
 refine Fc [.slice A2 n2 c2, .slice A3 n3 c3] (shutToo_any A2 n2 c2 vs A3 n3 c3 pl _ (Rk hb (Sb c9 s12 nkk)) (by omega) hfm2 (Rk hp3 (Sb c9 s12 nkk)) (by omega)) ?_
 rintro e w22 ⟨A13, n14, c15, rfl, ho16, b21⟩
 have s23 := SG.of_below s12 b21
 refine ⟨_, rfl, s23, ?_⟩
 apply F.nx
 have rd17 := own_rd ho16
 have hl18 := rd_valves_len rd17
 have := shutV_len vs pl
 refine Fc [.agg #[.int .i64 m, .slice A n c], .slice A13 n14 c15, .int .i64 s] (watered_any m A n c ps A13 n14 c15 (shutV vs pl) (s) (s).toNat _ (Rk ha (Sb c9 s23 nkk)) rd17 (by omega) (by omega) hp (by omega) (by omega) (uniqV_shut hu pl) (by omega) (by omega)) ?_
 rintro e w31 ⟨pb25, rfl, lo29, rd26, b30⟩
 have s32 := SG.of_below s23 b30
 refine ⟨_, rfl, s32, ?_⟩
 apply F.nx
 have hl27 := rd_bools_len rd26
 rw [wetL_len] at hl27
 have hl27 : (wetL (linked ps (openQ (shutV vs pl) true)) (s)).length = 19 := wetL_len _ _
 refine Fa (.pointer (some ⟨pb25, 0, none⟩)) ?_
 refine Fa (.int .i64 0) ?_
 apply F.es
 have x6 := Sk s32 x6 onn
 have c35 := (Sb c9 s32 nkk)
 apply h2
 refine wk fun K3 h3 => ?_
 refine wk fun K4 h4 => ?_
 refine Rq 3 ?_
 refine Fv (.slice A4 n4 c4) ?_
 refine Fq (.int .i64 (n4 : Int)) (r_len (A := A4) (n := n4) (c := c4) rfl ek kk) ?_
 refine Fv (.int .i64 0) ?_
 apply F.es
 apply h4
 refine wp_block ?_
 refine loopK (fun am0 aa0 wl0 => ∃ (i : Nat) (u : Int) , Kn aa0 [(0, .agg #[.int .i64 m, .slice A n c]), (1, .slice A2 n2 c2), (2, .int .i64 s), (3, .slice A3 n3 c3), (4, .slice A4 n4 c4), (5, .pointer (some ⟨b2, 0, none⟩)), (10, .int .i64 0), (11, .pointer (some ⟨pb25, 0, none⟩)), (12, .int .i64 u), (21, .slice A4 n4 c4), (22, .int .i64 (n4 : Int)), (23, .int .i64 (i : Int))] 40 ∧ (am0 = n4 - i) ∧ (i ≤ n4) ∧ (u = harmTo (linked ps (openQ (shutV vs pl) true)) s cs i) ∧ (wl0.heap[b2]? = some (.cells #[.int .i64 m, .slice A n c] 26 (0, 0))) ∧ (Rd wl0 1 (some ⟨pb25, 0, none⟩) 19 (boolsV (wetL (linked ps (openQ (shutV vs pl) true)) (s)))) ∧ (Below w.heap.size w wl0)) (n4 - 0) ?_ ?_
 ·exact ⟨0, 0, Kn.of, rfl, (Nat.zero_le _), rfl, x6, rd26, c35⟩
 rintro am0 aa0 wl0 K5 h5 ⟨i, u, ⟨U0, rfl⟩, rfl, hi, hsum, x6, rd0_11, c36⟩
 have hbd := harmTo_bd (E := (linked ps (openQ (shutV vs pl) true))) (s := s) hcb i (by omega)
 refine wk fun K6 h6 => ?_
 refine Rq 1 ?_
 by_cases q37 : ((i : Int) : Int) < ((n4 : Int) : Int)
 ·refine Fq (.bool true) (r_lss (m := (i : Int)) (n := (n4 : Int)) rfl ek ek (dt q37)) ?_
  apply F.es
  apply h6
  refine wk fun K7 h7 => ?_
  refine wp_cond_true ek ?_
  apply wp_skip
  apply h7
  refine wk fun K8 h8 => ?_
  refine wp_block ?_
  refine wk fun K9 h9 => ?_
  refine Rq 5 ?_
  refine Fv (.int .i64 (i : Int)) ?_
  obtain ⟨x38, hx39⟩ := get_of (zs := cs) (k := i) (by have := hl4; omega)
  have hcx := hcb x38 (List.mem_of_getElem? hx39)
  obtain ⟨b40, o41, hA42, hb43, hc44⟩ := Rd.elInt hc4 hx39
  refine Fq (.pointer (some ⟨b40, o41 + i, none⟩)) (r_idx1 (n := n4) (c := c4) (k := i) rfl ek hA42 kk kk (by have := hl4; omega)) ?_
  refine Fl (.int .i64 x38) (eqS (later c36 hc44)) ?_
  refine Fa (.int .i64 (i : Int)) ?_
  refine Fa (.int .i64 x38) ?_
  apply F.es
  apply h9
  refine wk fun K10 h10 => ?_
  refine Rq 7 ?_
  refine Fv (.pointer (some ⟨pb25, 0, none⟩)) ?_
  refine Fv (.int .i64 (i : Int)) ?_
  refine Fq (.int .i64 ((i + 1 : Nat) : Int)) (r_add (m := (i : Int)) (n := 1) (z := ((i + 1 : Nat) : Int)) rfl ek ek (by omega) (by omega)) ?_
  refine Fq (.pointer (some ⟨pb25, 0, none⟩)) (r_nilCheck rfl ek) ?_
  obtain ⟨x45, hx46⟩ := get_of (zs := (wetL (linked ps (openQ (shutV vs pl) true)) (s))) (k := i + 1) (by have := hl27; omega)
  obtain ⟨hb47, hc48⟩ := Rd.elBool rd0_11 hx46
  refine Fq (.pointer (some ⟨pb25, i + 1, none⟩)) (r_idxA (len := 19) (k := i + 1) rfl ek kk kk (by omega)) ?_
  refine Fl (.bool x45) (eqS hc48) ?_
  refine Fq (.bool (!x45)) (r_not (b := x45) rfl ek rfl) ?_
  apply F.es
  apply h10
  rcases Bool.eq_false_or_eq_true (!x45) with q49 | q49
  ·rw [q49]
   refine wp_cond_true ek ?_
   refine Rq 4 ?_
   refine Fv (.int .i64 u) ?_
   refine Fv (.int .i64 x38) ?_
   refine Fq (.int .i64 (u + x38)) (r_add (m := u) (n := x38) (z := u + x38) rfl ek ek (rfl) (by omega)) ?_
   refine Fa (.int .i64 (u + x38)) ?_
   apply F.es
   apply h8
   refine Rq 2 ?_
   refine Fq (.int .i64 ((i + 1 : Nat) : Int)) (r_add (m := (i : Int)) (n := 1) (z := ((i + 1 : Nat) : Int)) rfl ek ek (by omega) (by omega)) ?_
   refine Fv (.int .i64 ((i + 1 : Nat) : Int)) ?_
   apply F.es
   exact h5 _ _ _ (by omega : (n4 - (i + 1)) < _) ⟨i + 1, u + x38, Kn.of, rfl, (by omega), (by rw [hsum, harmTo_yes hx39 ((wet_eq1 hx46).trans (show x45 = false by simpa using q49))]), x6, rd0_11, c36⟩
  rw [q49]
  refine wp_cond_false ek ?_
  apply wp_skip
  apply h8
  refine Rq 2 ?_
  refine Fq (.int .i64 ((i + 1 : Nat) : Int)) (r_add (m := (i : Int)) (n := 1) (z := ((i + 1 : Nat) : Int)) rfl ek ek (by omega) (by omega)) ?_
  refine Fv (.int .i64 ((i + 1 : Nat) : Int)) ?_
  apply F.es
  exact h5 _ _ _ (by omega : (n4 - (i + 1)) < _) ⟨i + 1, u, Kn.of, rfl, (by omega), (by rw [hsum, harmTo_no ((wet_eq1 hx46).trans (show x45 = true by simpa using q49))]), x6, rd0_11, c36⟩
 refine Fq (.bool false) (r_lss (m := (i : Int)) (n := (n4 : Int)) rfl ek ek (df q37)) ?_
 apply F.es
 apply h6
 refine wk fun K11 h11 => ?_
 refine wp_cond_false ek ?_
 refine wp_exit ?_
 apply h3
 refine wk fun K12 h12 => ?_
 refine Rq 2 ?_
 refine Fv (.int .i64 u) ?_
 refine Fa (.int .i64 u) ?_
 apply F.es
 apply h12
 refine wp_ret ?_
 try simp only [Exit.then]
 refine ret1 (v := .int .i64 u) rfl kk ?_
 exact ⟨by unfold harmL; rw [show cs.length = i by omega, ← hsum], c36⟩
set_option maxRecDepth 100000 in
set_option maxHeartbeats 8000000 in
theorem l5Harm_any (m : Int) (A : Option Addr) (n c : Nat) (ps : List Pp) (A2 : Option Addr) (n2 c2 : Nat) (vs : List Vv) (s : Int) (A3 : Option Addr) (n3 c3 : Nat) (pl : List Int) (A4 : Option Addr) (n4 c4 : Nat) (cs : List Int) (w : World) (ha : Rd w 4 A n (pipesV ps)) (hb : Rd w 4 A2 n2 (valvesV vs)) (hn : n ≤ 1048576) (hn2 : n2 ≤ 1048576) (hfm2 : Fm A2 n2 c2) (hv9 : GoodVal m ps vs) (hs : 1 ≤ s ∧ s ≤ m) (hp3 : Rd w 1 A3 n3 (intsV pl)) (hn3 : n3 ≤ 1000000) (hc4 : Rd w 1 A4 n4 (intsV cs)) (hn4 : n4 ≤ 1048576) (hco : custOk m cs = true) :
    Calls Try.prog 121 #[.agg #[.int .i64 m, .slice A n c], .slice A2 n2 c2, .int .i64 s, .slice A3 n3 c3, .slice A4 n4 c4] w fun e w' => e = .returned (.int .i64 (harmL ps vs s cs pl)) ∧ Below w.heap.size w w' := by
 have hl := rd_pipes_len ha
 have hl2 := rd_valves_len hb
 have hl3 := rd_ints_len hp3
 have hg := hv9.net
 have hgl := hg.lo
 have hgh := hg.hi
 have hp := hg.pipesIn
 have hlen10 := hg.len
 have hu := hv9.uniq
 have hvl := hv9.len
 have hl4 := rd_ints_len hc4
 obtain ⟨hcl, hcb⟩ := custOk_of hco
 go_enter Try.func121, Try.ntmps121
 refine F.begin 41 [(0, .agg #[.int .i64 m, .slice A n c]), (1, .slice A2 n2 c2), (2, .int .i64 s), (3, .slice A3 n3 c3), (4, .slice A4 n4 c4)] (fun U0 => ?_)
 refine wk fun K1 h1 => ?_
 refine W.region_plain (row := none) [(0, true), (1, false)] kk ?_
 have s1 := SG.self w none
 refine W.sn (fun b => .pointer (some ⟨b, 0, none⟩)) #[.int .i64 m, .slice A n c] 26 s1 rfl kk rfl (fun _ => by kernel_rfl) (fun b2 w3 hb4 k5 x6 s7 => ?_)
 apply F.nx
 have lo8 : w.heap.size ≤ b2 := Nl ((Sb (Below.refl _ _) s1 nkk)).size (Nat.le_of_eq hb4)
 refine Fa (.int .i64 0) ?_
 apply F.es
 have c9 := (Sb (Below.refl _ _) s7 nkk)
 apply h1
 refine wk fun K2 h2 => ?_
 refine W.region_sch (row := none) (Sch.of [(0, false), (1, false), (2, false), (4, false), (3, true), (5, true), (6, false), (7, false), (8, false), (9, false), (10, false)]) kk kk (fun _ d _ _ _ h => by cases d <;> exact h) kk (fun w10 e11 s12 => ?_)
 refine Fq (.agg #[.int .i64 m, .slice A n c]) (r_load2 rfl ek kk kk (sgS (blk_cell (j := 0) x6 kk) onn) (sgS (blk_cell (j := 1) x6 kk) onn)) ?_
 refine Fv (.slice A2 n2 c2) ?_
 refine Fv (.slice A3 n3 c3) ?_
 refine Fv (.int .i64 s) ?_
 refine Fc [.slice A2 n2 c2, .slice A3 n3 c3] (l5Shut_any A2 n2 c2 vs A3 n3 c3 pl _ (Rk hb (Sb c9 s12 nkk)) (by omega) hfm2 (Rk hp3 (Sb c9 s12 nkk)) (by omega)) ?_
 rintro e w22 ⟨A13, n14, c15, rfl, ho16, b21⟩
 have s23 := SG.of_below s12 b21
 refine ⟨_, rfl, s23, ?_⟩
 apply F.nx
 have rd17 := own_rd ho16
 have hl18 := rd_valves_len rd17
 have := shutV_len vs pl
 refine Fc [.agg #[.int .i64 m, .slice A n c], .slice A13 n14 c15, .int .i64 s] (l4Dry_any m A n c ps A13 n14 c15 (shutV vs pl) s _ (Rk ha (Sb c9 s23 nkk)) rd17 (by omega) (by omega) hp (by omega) (by omega) (by omega)) ?_
 rintro e w40 ⟨A25, n26, c27, A28, n29, c30, rfl, rd31, fm32, rd33, fm34, b39⟩
 have s41 := SG.of_below s23 b39
 refine ⟨_, rfl, s41, ?_⟩
 apply F.nx
 have hl37 := rd_ints_len rd31
 have hl38 := rd_ints_len rd33
 have := nodesL_len (linked ps (openQ (shutV vs pl) true)) m.toNat s false
 have := idxL_len (linked ps (openQ (shutV vs pl) true)) ps.length s false
 refine Fv (.tuple #[.slice A25 n26 c27, .slice A28 n29 c30]) ?_
 refine Fq (.slice A25 n26 c27) (r_extract (vs := #[.slice A25 n26 c27, .slice A28 n29 c30]) rfl ek kk) ?_
 refine Fq (.slice A28 n29 c30) (r_extract (vs := #[.slice A25 n26 c27, .slice A28 n29 c30]) rfl ek kk) ?_
 refine Fa (.slice A25 n26 c27) ?_
 refine Fa (.slice A28 n29 c30) ?_
 apply F.es
 have x6 := Sk s41 x6 onn
 have c43 := (Sb c9 s41 nkk)
 apply h2
 refine wk fun K3 h3 => ?_
 refine Rq 1 ?_
 refine Fa (.int .i64 0) ?_
 apply F.es
 apply h3
 refine wk fun K4 h4 => ?_
 refine wk fun K5 h5 => ?_
 refine Rq 1 ?_
 refine Fa (.int .i64 0) ?_
 apply F.es
 apply h5
 refine wp_block ?_
 refine loopK (fun am0 aa0 wl0 => ∃ (i : Nat) (u : Int) , Kn aa0 [(0, .agg #[.int .i64 m, .slice A n c]), (1, .slice A2 n2 c2), (2, .int .i64 s), (3, .slice A3 n3 c3), (4, .slice A4 n4 c4), (5, .pointer (some ⟨b2, 0, none⟩)), (10, .int .i64 0), (11, .slice A25 n26 c27), (13, .int .i64 u), (14, .int .i64 (i : Int))] 41 ∧ (am0 = n26 - i) ∧ (i ≤ n26) ∧ (u = sumAt cs ((nodesL (linked ps (openQ (shutV vs pl) true)) m.toNat s false).take i)) ∧ (wl0.heap[b2]? = some (.cells #[.int .i64 m, .slice A n c] 26 (0, 0))) ∧ (Rd wl0 1 A25 n26 (intsV (nodesL (linked ps (openQ (shutV vs pl) true)) m.toNat s false))) ∧ (Below w.heap.size w wl0)) (n26 - 0) ?_ ?_
 ·exact ⟨0, 0, Kn.of, rfl, (Nat.zero_le _), rfl, x6, rd31, c43⟩
 rintro am0 aa0 wl0 K6 h6 ⟨i, u, ⟨U0, rfl⟩, rfl, hi, hsum, x6, rd0_11, c44⟩
 have hbd := sumAt_bd hcb ((nodesL (linked ps (openQ (shutV vs pl) true)) m.toNat s false).take i)
 have htl := List.length_take_le i (nodesL (linked ps (openQ (shutV vs pl) true)) m.toNat s false)
 refine wk fun K7 h7 => ?_
 refine wk fun K8 h8 => ?_
 refine Rq 4 ?_
 refine Fv (.int .i64 (i : Int)) ?_
 refine Fv (.slice A25 n26 c27) ?_
 refine Fq (.int .i64 (n26 : Int)) (r_len (A := A25) (n := n26) (c := c27) rfl ek kk) ?_
 by_cases q45 : ((i : Int) : Int) < ((n26 : Int) : Int)
 ·refine Fq (.bool true) (r_lss (m := (i : Int)) (n := (n26 : Int)) rfl ek ek (dt q45)) ?_
  apply F.es
  apply h8
  refine wp_cond_true ek ?_
  apply wp_skip
  apply h7
  refine wk fun K9 h9 => ?_
  refine wp_block ?_
  refine Rq 11 ?_
  refine Fv (.int .i64 u) ?_
  refine Fv (.slice A4 n4 c4) ?_
  refine Fv (.slice A25 n26 c27) ?_
  refine Fv (.int .i64 (i : Int)) ?_
  obtain ⟨x46, hx47⟩ := get_of (zs := (nodesL (linked ps (openQ (shutV vs pl) true)) m.toNat s false)) (k := i) (by have := hl37; omega)
  have hnb := mem_nodesL.1 (List.mem_of_getElem? hx47)
  obtain ⟨b48, o49, hA50, hb51, hc52⟩ := Rd.elInt rd0_11 hx47
  refine Fq (.pointer (some ⟨b48, o49 + i, none⟩)) (r_idx1 (n := n26) (c := c27) (k := i) rfl ek hA50 kk kk (by have := hl37; omega)) ?_
  refine Fl (.int .i64 x46) (eqS hc52) ?_
  refine Fq (.int .i64 (x46 - 1)) (r_sub (m := x46) (n := 1) (z := x46 - 1) rfl ek ek (rfl) (by omega)) ?_
  obtain ⟨c953, hc954⟩ := get_of (zs := cs) (k := (x46 - 1).toNat) (by omega)
  have hcx := hcb c953 (List.mem_of_getElem? hc954)
  obtain ⟨b55, o56, hA57, hb58, hc59⟩ := Rd.elInt hc4 hc954
  refine Fq (.pointer (some ⟨b55, o56 + ((x46 - 1).toNat), none⟩)) (r_idx1 (n := n4) (c := c4) (k := (x46 - 1).toNat) rfl ek hA57 (evk (z := x46 - 1) kk (by omega)) kk (by have := hl4; omega)) ?_
  refine Fl (.int .i64 c953) (eqS (later c44 hc59)) ?_
  refine Fq (.int .i64 (u + c953)) (r_add (m := u) (n := c953) (z := u + c953) rfl ek ek (rfl) (by omega)) ?_
  refine Fa (.int .i64 (u + c953)) ?_
  apply F.es
  apply h9
  refine Rq 3 ?_
  refine Fv (.int .i64 (i : Int)) ?_
  refine Fq (.int .i64 ((i + 1 : Nat) : Int)) (r_add (m := (i : Int)) (n := 1) (z := ((i + 1 : Nat) : Int)) rfl ek ek (by omega) (by omega)) ?_
  refine Fa (.int .i64 ((i + 1 : Nat) : Int)) ?_
  apply F.es
  exact h6 _ _ _ (by omega : (n26 - (i + 1)) < _) ⟨i + 1, u + c953, Kn.of, rfl, (by omega), (by rw [hsum, sumAt_next hx47 hc954]), x6, rd0_11, c44⟩
 refine Fq (.bool false) (r_lss (m := (i : Int)) (n := (n26 : Int)) rfl ek ek (df q45)) ?_
 apply F.es
 apply h8
 refine wp_cond_false ek ?_
 refine wp_exit ?_
 apply h4
 refine wk fun K10 h10 => ?_
 refine Rq 2 ?_
 refine Fv (.int .i64 u) ?_
 refine Fa (.int .i64 u) ?_
 apply F.es
 apply h10
 refine wp_ret ?_
 try simp only [Exit.then]
 refine ret1 (v := .int .i64 u) rfl kk ?_
 exact ⟨by unfold harmL; rw [hsum, List.take_of_length_le (by omega), sumAt_harm, show cs.length = m.toNat by omega], c44⟩
end Go.Proofs.Ytdbgfejeleafgaa
namespace Go.Proofs.Ytdbgfejeleafgaa
open Go.RowKit
set_option linter.unusedVariables false
set_option linter.unusedSimpArgs false
end Go.Proofs.Ytdbgfejeleafgaa
namespace Go.Proofs.Ytdbgfejeleafgaa
open Go.RowKit
set_option linter.unusedVariables false
set_option linter.unusedSimpArgs false
section
variable {P : Program} {S : World → Prop} {o : Oper} {a : Act}
theorem r_shr {t u : TypeId} {x y : Operand} {q k : Nat} {yk : IntKind} (ho : o.op = .binOp .shr t x y u) (hx : a.eval x = .int .i64 (q : Int)) (hy : a.eval y = .int yk (k : Int)) (hk : k ≤ 64) :
    ∀ w, S w → (execOp a.eval o).run P w = .ok (.value (.int .i64 ((q / 2 ^ k : Nat) : Int))) w := fun w _ => by
  have hs := shift_shr .i64 yk (q : Int) (k : Int) (by omega) (by show (k : Int) ≤ ((64 : Nat) : Int); omega)
  rw [Int.toNat_natCast, show ((q : Int) / 2 ^ k) = ((q / 2 ^ k : Nat) : Int) by simp] at hs
  simp [execOp, ho, hx, hy, eqGuard, binOp, hs]
theorem r_shl {t u : TypeId} {x y : Operand} {k : Nat} {yk : IntKind} (ho : o.op = .binOp .shl t x y u) (hx : a.eval x = .int .i64 1) (hy : a.eval y = .int yk (k : Int)) (hk : k ≤ 20) :
    ∀ w, S w → (execOp a.eval o).run P w = .ok (.value (.int .i64 ((2 ^ k : Nat) : Int))) w := fun w _ => by
  have h2 : (2 : Nat) ^ k ≤ 2 ^ 20 := Nat.pow_le_pow_right (by omega) hk
  have hw : IntKind.i64.wrap (1 * 2 ^ k) = ((2 ^ k : Nat) : Int) := by
    rw [Int.one_mul, show ((2 : Int) ^ k) = ((2 ^ k : Nat) : Int) by simp]; exact IntWalk.i64_in _ ⟨Int.le_trans (by decide) (Int.natCast_nonneg _), Int.le_trans (Int.ofNat_le.2 h2) (by decide)⟩
  have hs : binOp .shl t (.int .i64 1) (.int yk (k : Int)) = pure (.int .i64 ((2 ^ k : Nat) : Int)) := by
    show Op.shift .shl .i64 1 yk (k : Int) = _
    rw [shift_shl .i64 yk 1 (k : Int) (by omega) (by show (k : Int) ≤ ((64 : Nat) : Int); omega), Int.toNat_natCast, hw]
  generalize ((2 ^ k : Nat) : Int) = z at hs ⊢
  simp [execOp, ho, hx, hy, eqGuard, hs]
theorem r_and1 {t u : TypeId} {x y : Operand} {q : Nat} (ho : o.op = .binOp .and t x y u) (hx : a.eval x = .int .i64 (q : Int)) (hy : a.eval y = .int .i64 1) (hq : q < 9223372036854775808) :
    ∀ w, S w → (execOp a.eval o).run P w = .ok (.value (.int .i64 ((q % 2 : Nat) : Int))) w := fun w _ => by
  have hs : Op.intBits .and .i64 (q : Int) 1 = pure (.int .i64 ((q % 2 : Nat) : Int)) := by
    unfold Op.intBits
    have e1 : (BitVec.ofInt IntKind.i64.bits (q : Int) &&& BitVec.ofInt IntKind.i64.bits 1).toNat = q % 2 := by
      rw [show (1 : Int) = ((1 : Nat) : Int) from rfl, BitVec.ofInt_natCast, BitVec.ofInt_natCast, BitVec.toNat_and, BitVec.toNat_ofNat, BitVec.toNat_ofNat]
      show q % 2 ^ 64 &&& 1 % 2 ^ 64 = q % 2
      rw [Nat.mod_eq_of_lt (by omega : q < 2 ^ 64), show 1 % 2 ^ 64 = 1 from rfl, Nat.and_one_is_mod]
    simp only [e1]
    rw [IntWalk.i64_in _ (by omega)]
  simp [execOp, ho, hx, hy, eqGuard, binOp, hs]
theorem r_convU {src dst : TypeId} {x : Operand} {k : Nat} (ho : o.op = .convert src dst x) (hx : a.eval x = .int .i64 (k : Int)) (hs : (P.underlying src).isSome = true) (hd : P.underlying dst = some (.int .u64)) (hk : k < 9223372036854775808) :
    ∀ w, S w → (execOp a.eval o).run P w = .ok (.value (.int .u64 (k : Int))) w := fun w _ => by
  have hw : IntKind.u64.wrap (k : Int) = (k : Int) := IntWalk.u64_in _ (by omega)
  obtain ⟨s, hs'⟩ := Option.isSome_iff_exists.1 hs
  simp [execOp, ho, hx, convert, underlying, hs', hd, Conv.intToInt, hw]
end
theorem sp_of_nbr {A : Option Addr} {n n' c : Nat} {u : Value} (h : NbR (.slice A n' c) u) : Sp A n u.ownBlock := fun _ b off e e2 => h b (by rw [e]; simp [Value.ownBlock]) e2.symm
end Go.Proofs.Ytdbgfejeleafgaa
