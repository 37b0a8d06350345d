/- Drawn texts and numbers. -/
import Derived.Test.YtdlcldaogcbnlaaDoorCur
import Derived.Test.YtdlcldaogcbnlaaDoorSmZ
import Derived.Test.YtdlcldaogcbnlaaDoorNum1
import Derived.Test.YtdlcldaogcbnlaaDoorFr2
namespace Go.Proofs.YtdlcldaogcbnlaaDoor
open Go.RowKit
set_option linter.unusedVariables false
set_option linter.unusedSimpArgs false

theorem small_of {zs : List ByteArray} {s : ByteArray} (m : Nat) (hx : s ∈ zs) (h : zs.all (fun s => decide (s.size ≤ m)) = true) : s.size ≤ m := of_decide_eq_true (List.all_eq_true.1 h s hx)
theorem all_snoc {zs : List ByteArray} {x : ByteArray} {m : Nat} (h : ∀ y ∈ zs, y.size ≤ m) (hx : x.size ≤ m) : ∀ y ∈ zs ++ [x], y.size ≤ m := fun y hy => by
  rcases List.mem_append.1 hy with h1 | h1
  · exact h y h1
  · obtain rfl : y = x := by simpa using h1
    exact hx


set_option maxRecDepth 100000 in
set_option maxHeartbeats 8000000 in
theorem any1_any (B N k : Nat)  (w : World) (hc : Cur w B N k) (hk : k ≤ 1000000000000)  :
    Calls Tryd.prog 72 #[.pointer (some ⟨B, 0, none⟩)] w fun e w' => ∃ s, e = .returned (.string s) ∧ (s.size ≤ 10) ∧ Cur w' B N (k + 2) ∧ w.grownBy w' (some B) := by
 have hN := Cur.hN hc
 go_enter Tryd.func72, Tryd.ntmps72
 refine F.begin 6 [(0, .pointer (some ⟨B, 0, none⟩))] (fun U0 => ?_)
 refine wk fun K1 h1 => ?_
 refine W.region_quiet [(0, false)] kk ?_
 refine Fa (.string (⟨#[]⟩ : ByteArray)) ?_
 refine F.es ?_
 refine h1 _ _ ?_
 refine wk fun K2 h2 => ?_
 refine W.region_plain (row := (some B)) [(0, false), (1, true), (2, true), (3, false)] kk ?_
 have s1 := SG.self w (some B)
 refine Fv (.pointer (some ⟨B, 0, none⟩)) ?_
 refine W.sn (fun b => .slice (some ⟨b, 0, none⟩) 9 9) #[.string (⟨#[]⟩ : ByteArray), .string (⟨#[97]⟩ : ByteArray), .string (⟨#[97, 44, 98]⟩ : ByteArray), .string (⟨#[115, 111, 109, 101, 32, 119, 111, 114, 100, 115]⟩ : ByteArray), .string (⟨#[120, 35, 121]⟩ : ByteArray), .string (⟨#[45, 49, 50]⟩ : ByteArray), .string (⟨#[0, 255]⟩ : ByteArray), .string (⟨#[44, 44]⟩ : ByteArray), .string (⟨#[48]⟩ : ByteArray)] 9 s1 rfl kk rfl (fun _ => by kernel_rfl) (fun b2 w3 hb4 k5 x6 s7 => ?_)
 refine F.nx ?_
 have lo8 : w.heap.size ≤ b2 := Nat.le_trans ((SG.fr (B := B) (World.grownBy.refl _ _) s1 (fun kq e => .inl (by cases e; rfl)))).size (Nat.le_of_eq hb4)
 have ne9 : B ≠ b2 := Nat.ne_of_lt (Nat.lt_of_lt_of_eq (Cur.lt hc) hb4)
 have hc := Cur.below hc k5
 refine Fc [.pointer (some ⟨B, 0, none⟩), .slice (some ⟨b2, 0, none⟩) 9 9] (of_any B N k (some ⟨b2, 0, none⟩) 9 9 [(⟨#[]⟩ : ByteArray), (⟨#[97]⟩ : ByteArray), (⟨#[97, 44, 98]⟩ : ByteArray), (⟨#[115, 111, 109, 101, 32, 119, 111, 114, 100, 115]⟩ : ByteArray), (⟨#[120, 35, 121]⟩ : ByteArray), (⟨#[45, 49, 50]⟩ : ByteArray), (⟨#[0, 255]⟩ : ByteArray), (⟨#[44, 44]⟩ : ByteArray), (⟨#[48]⟩ : ByteArray)] _ hc (by omega) (rd_blk x6 rfl rfl) (sp_ne (by have := ne9; omega)) (by omega)) ?_
 rintro e w13 ⟨x10, rfl, hx11, x15, g14⟩
 have s16 := SG.of_grown s7 g14 (.inl rfl)
 refine ⟨_, rfl, s16, ?_⟩
 refine F.nx ?_
 refine Fa (.string x10) ?_
 refine F.es ?_
 have c17 := (SG.fr (B := B) (World.grownBy.refl _ _) s16 (fun kq e => .inl (by cases e; rfl)))
 refine h2 _ _ ?_
 refine wp_ret ?_
 try simp only [Exit.then]
 refine ret1 (v := .string x10) rfl kk ?_
 exact ⟨_, rfl, small_of 10 hx11 (by decide), Cur.mono x15 (by omega), c17⟩

set_option maxRecDepth 100000 in
set_option maxHeartbeats 8000000 in
theorem DrawFormatInt_any (A : Option Addr) (n c : Nat) (zs : List Int) (w : World) (hcode : Rd w 1 A n (bytesV zs)) (hz : ∀ z ∈ zs, 0 ≤ z ∧ z < 256) (hn : n ≤ 4611686018427387904) :
    Calls Tryd.prog 26 #[.slice A n c] w fun e w' => ∃ x : Int, e = .returned (.int .i64 x) ∧ Below w.heap.size w w' := by
 have hl := rd_bytes_len hcode
 go_enter Tryd.func26, Tryd.ntmps26
 refine F.begin 13 [(0, .slice A n c)] (fun U0 => ?_)
 refine wk fun K1 h1 => ?_
 refine W.region_quiet [(0, false)] kk ?_
 refine Fa (.int .i64 0) ?_
 refine F.es ?_
 refine h1 _ _ ?_
 refine wk fun K2 h2 => ?_
 refine W.region_plain (row := none) [(0, false), (1, false), (2, true), (3, false)] kk ?_
 have s1 := SG.self w none
 refine Fv (.slice A n c) ?_
 refine Fq (.agg #[.slice A n c, .int .i64 0, .int .u64 0]) (r_build rfl (vs := [(0, .slice A n c)]) kk kk) ?_
 refine W.sn (fun b => .pointer (some ⟨b, 0, none⟩)) #[.slice A n c, .int .i64 0, .int .u64 0] 66 s1 rfl kk rfl (fun _ => by kernel_rfl) (fun b2 w3 hb4 k5 x6 s7 => ?_)
 refine F.nx ?_
 have lo8 : w.heap.size ≤ b2 := Nat.le_trans ((SG.belowR (Below.refl _ _) s1 (fun kq e => by cases e))).size (Nat.le_of_eq hb4)
 have x9 := Cur.new x6 hcode hz hn ((SG.belowR (Below.refl _ _) s7 (fun kq e => by cases e))) lo8
 have hN : w.heap.size ≤ w.heap.size := Nat.le_refl _
 refine Fa (.pointer (some ⟨b2, 0, none⟩)) ?_
 refine F.es ?_
 have c10 := (SG.belowR (Below.refl _ _) s7 (fun kq e => by cases e))
 refine h2 _ _ ?_
 refine wk fun K3 h3 => ?_
 refine W.region_plain (row := (some b2)) [(0, false), (1, false), (2, true), (3, false), (4, true), (5, true), (6, false)] kk ?_
 have s11 := SG.self w3 (some b2)
 refine Fv (.pointer (some ⟨b2, 0, none⟩)) ?_
 refine Fv (.pointer (some ⟨b2, 0, none⟩)) ?_
 refine Fc [.pointer (some ⟨b2, 0, none⟩), .int .i64 1000] (pick_any b2 w.heap.size 0 1000 _ x9 (by omega) (by omega)) ?_
 rintro e w15 ⟨x12, rfl, hx13, x17, g16⟩
 have s18 := SG.of_grown s11 g16 (.inl rfl)
 refine ⟨_, rfl, s18, ?_⟩
 refine F.nx ?_
 refine Fq (.int .i64 (x12 - 500)) (r_sub (m := x12) (n := 500) (z := x12 - 500) rfl ek ek (rfl) (by omega)) ?_
 refine W.sn (fun b => .slice (some ⟨b, 0, none⟩) 9 9) #[.int .i64 0, .int .i64 1, .int .i64 (-1), .int .i64 10, .int .i64 999999, .int .i64 (-999999), .int .i64 1000000, .int .i64 (-1000000), .int .i64 (x12 - 500)] 3 s18 rfl kk rfl (fun _ => by kernel_rfl) (fun b19 w20 hb21 k22 x23 s24 => ?_)
 refine F.nx ?_
 have lo25 : w.heap.size ≤ b19 := Nat.le_trans ((SG.belowR c10 s18 (fun kq e => by cases e; exact lo8))).size (Nat.le_of_eq hb21)
 have ne26 : b2 ≠ b19 := Nat.ne_of_lt (Nat.lt_of_lt_of_eq (Cur.lt x17) hb21)
 have x17 := Cur.below x17 k22
 refine Fc [.pointer (some ⟨b2, 0, none⟩), .slice (some ⟨b19, 0, none⟩) 9 9] (among_any b2 w.heap.size (0 + 2) (some ⟨b19, 0, none⟩) 9 9 [0, 1, (-1), 10, 999999, (-999999), 1000000, (-1000000), x12 - 500] _ x17 (by omega) (rd_blk x23 rfl rfl) (sp_ne (by have := ne26; omega)) (by omega)) ?_
 rintro e w30 ⟨x27, rfl, hx28, x32, g31⟩
 have s33 := SG.of_grown s24 g31 (.inl rfl)
 refine ⟨_, rfl, s33, ?_⟩
 refine F.nx ?_
 refine Fa (.int .i64 x27) ?_
 refine F.es ?_
 have c34 := (SG.belowR c10 s33 (fun kq e => by cases e; exact lo8))
 refine h3 _ _ ?_
 refine wp_ret ?_
 try simp only [Exit.then]
 refine ret1 (v := .int .i64 x27) rfl kk ?_
 exact ⟨_, rfl, c34⟩

set_option maxRecDepth 100000 in
set_option maxHeartbeats 8000000 in
theorem DrawParseInt_any (A : Option Addr) (n c : Nat) (zs : List Int) (w : World) (hcode : Rd w 1 A n (bytesV zs)) (hz : ∀ z ∈ zs, 0 ≤ z ∧ z < 256) (hn : n ≤ 4611686018427387904) :
    Calls Tryd.prog 29 #[.slice A n c] w fun e w' => ∃ s : ByteArray, e = .returned (.string s) ∧ s.size ≤ 100 ∧ Below w.heap.size w w' := by
 have hl := rd_bytes_len hcode
 go_enter Tryd.func29, Tryd.ntmps29
 refine F.begin 16 [(0, .slice A n c)] (fun U0 => ?_)
 refine wk fun K1 h1 => ?_
 refine W.region_quiet [(0, false)] kk ?_
 refine Fa (.string (⟨#[]⟩ : ByteArray)) ?_
 refine F.es ?_
 refine h1 _ _ ?_
 refine wk fun K2 h2 => ?_
 refine W.region_plain (row := none) [(0, false), (1, false), (2, true), (3, false)] kk ?_
 have s1 := SG.self w none
 refine Fv (.slice A n c) ?_
 refine Fq (.agg #[.slice A n c, .int .i64 0, .int .u64 0]) (r_build rfl (vs := [(0, .slice A n c)]) kk kk) ?_
 refine W.sn (fun b => .pointer (some ⟨b, 0, none⟩)) #[.slice A n c, .int .i64 0, .int .u64 0] 66 s1 rfl kk rfl (fun _ => by kernel_rfl) (fun b2 w3 hb4 k5 x6 s7 => ?_)
 refine F.nx ?_
 have lo8 : w.heap.size ≤ b2 := Nat.le_trans ((SG.belowR (Below.refl _ _) s1 (fun kq e => by cases e))).size (Nat.le_of_eq hb4)
 have x9 := Cur.new x6 hcode hz hn ((SG.belowR (Below.refl _ _) s7 (fun kq e => by cases e))) lo8
 have hN : w.heap.size ≤ w.heap.size := Nat.le_refl _
 refine Fa (.pointer (some ⟨b2, 0, none⟩)) ?_
 refine F.es ?_
 have c10 := (SG.belowR (Below.refl _ _) s7 (fun kq e => by cases e))
 refine h2 _ _ ?_
 refine wk fun K3 h3 => ?_
 refine wk fun K4 h4 => ?_
 refine W.region_plain (row := (some b2)) [(0, false), (1, true)] kk ?_
 have s11 := SG.self w3 (some b2)
 refine Fv (.pointer (some ⟨b2, 0, none⟩)) ?_
 refine Fc [.pointer (some ⟨b2, 0, none⟩), .int .i64 2] (one_any b2 w.heap.size 0 2 _ x9 (by omega) (by omega)) ?_
 rintro e w15 ⟨b12, rfl, _, x17, g16⟩
 have s18 := SG.of_grown s11 g16 (.inl rfl)
 refine ⟨_, rfl, s18, ?_⟩
 refine F.nx ?_
 rcases Bool.eq_false_or_eq_true b12 with q19 | q19
 ·rw [q19]
  refine F.es ?_
  have c20 := (SG.belowR c10 s18 (fun kq e => by cases e; exact lo8))
  refine h4 _ _ ?_
  refine wp_cond_true ek ?_
  refine wk fun K5 h5 => ?_
  refine W.region_plain (row := (some b2)) [(0, false), (1, true), (2, true), (3, false)] kk ?_
  have s21 := SG.self w15 (some b2)
  refine Fv (.pointer (some ⟨b2, 0, none⟩)) ?_
  refine W.sn (fun b => .slice (some ⟨b, 0, none⟩) 11 11) #[.string (⟨#[]⟩ : ByteArray), .string (⟨#[45]⟩ : ByteArray), .string (⟨#[45, 48]⟩ : ByteArray), .string (⟨#[48, 48]⟩ : ByteArray), .string (⟨#[48, 49]⟩ : ByteArray), .string (⟨#[45, 45, 49]⟩ : ByteArray), .string (⟨#[49, 120]⟩ : ByteArray), .string (⟨#[57, 57, 57, 57, 57, 57]⟩ : ByteArray), .string (⟨#[49, 48, 48, 48, 48, 48, 48]⟩ : ByteArray), .string (⟨#[45, 57, 57, 57, 57, 57, 57]⟩ : ByteArray), .string (⟨#[49, 56, 52, 52, 54, 55, 52, 52, 48, 55, 51, 55, 48, 57, 53, 53, 49, 54, 49, 55]⟩ : ByteArray)] 9 s21 rfl kk rfl (fun _ => by kernel_rfl) (fun b22 w23 hb24 k25 x26 s27 => ?_)
  refine F.nx ?_
  have lo28 : w.heap.size ≤ b22 := Nat.le_trans ((SG.belowR c20 s21 (fun kq e => by cases e; exact lo8))).size (Nat.le_of_eq hb24)
  have ne29 : b2 ≠ b22 := Nat.ne_of_lt (Nat.lt_of_lt_of_eq (Cur.lt x17) hb24)
  have x17 := Cur.below x17 k25
  refine Fc [.pointer (some ⟨b2, 0, none⟩), .slice (some ⟨b22, 0, none⟩) 11 11] (of_any b2 w.heap.size (0 + 2) (some ⟨b22, 0, none⟩) 11 11 [(⟨#[]⟩ : ByteArray), (⟨#[45]⟩ : ByteArray), (⟨#[45, 48]⟩ : ByteArray), (⟨#[48, 48]⟩ : ByteArray), (⟨#[48, 49]⟩ : ByteArray), (⟨#[45, 45, 49]⟩ : ByteArray), (⟨#[49, 120]⟩ : ByteArray), (⟨#[57, 57, 57, 57, 57, 57]⟩ : ByteArray), (⟨#[49, 48, 48, 48, 48, 48, 48]⟩ : ByteArray), (⟨#[45, 57, 57, 57, 57, 57, 57]⟩ : ByteArray), (⟨#[49, 56, 52, 52, 54, 55, 52, 52, 48, 55, 51, 55, 48, 57, 53, 53, 49, 54, 49, 55]⟩ : ByteArray)] _ x17 (by omega) (rd_blk x26 rfl rfl) (sp_ne (by have := ne29; omega)) (by omega)) ?_
  rintro e w33 ⟨x30, rfl, hx31, x35, g34⟩
  have s36 := SG.of_grown s27 g34 (.inl rfl)
  refine ⟨_, rfl, s36, ?_⟩
  refine F.nx ?_
  refine Fa (.string x30) ?_
  refine F.es ?_
  have c37 := (SG.belowR c20 s36 (fun kq e => by cases e; exact lo8))
  refine h5 _ _ ?_
  refine wp_ret ?_
  try simp only [Exit.then]
  refine ret1 (v := .string x30) rfl kk ?_
  exact ⟨_, rfl, small_of 100 hx31 (by decide), c37⟩
 rw [q19]
 refine F.es ?_
 have c38 := (SG.belowR c10 s18 (fun kq e => by cases e; exact lo8))
 refine h4 _ _ ?_
 refine wp_cond_false ek ?_
 refine wp_skip ?_
 refine h3 _ _ ?_
 refine wk fun K6 h6 => ?_
 refine W.region_plain (row := (some b2)) [(0, false), (1, true), (2, false), (3, true), (4, false)] kk ?_
 have s39 := SG.self w15 (some b2)
 refine Fv (.pointer (some ⟨b2, 0, none⟩)) ?_
 refine Fc [.pointer (some ⟨b2, 0, none⟩), .int .i64 2000] (pick_any b2 w.heap.size (0 + 2) 2000 _ x17 (by omega) (by omega)) ?_
 rintro e w43 ⟨x40, rfl, hx41, x45, g44⟩
 have s46 := SG.of_grown s39 g44 (.inl rfl)
 refine ⟨_, rfl, s46, ?_⟩
 refine F.nx ?_
 refine Fq (.int .i64 (x40 - 1000)) (r_sub (m := x40) (n := 1000) (z := x40 - 1000) rfl ek ek (rfl) (by omega)) ?_
 refine Fc [.int .i64 (x40 - 1000)] (l1Num_any (x40 - 1000) (by omega) (by omega) _) ?_
 rintro e w48 ⟨rfl, b47⟩
 have s49 := SG.of_below s46 b47
 refine ⟨_, rfl, s49, ?_⟩
 refine F.nx ?_
 refine Fa (.string (itoaB (x40 - 1000))) ?_
 refine F.es ?_
 have c50 := (SG.belowR c38 s49 (fun kq e => by cases e; exact lo8))
 refine h6 _ _ ?_
 refine wp_ret ?_
 try simp only [Exit.then]
 refine ret1 (v := .string (itoaB (x40 - 1000))) rfl kk ?_
 exact ⟨_, rfl, by have := itoaB_le (n := (x40 - 1000)) (by omega) (by omega); omega, c50⟩

set_option maxRecDepth 100000 in
set_option maxHeartbeats 8000000 in
theorem DrawAppendChecksum_any (A : Option Addr) (n c : Nat) (zs : List Int) (w : World) (hcode : Rd w 1 A n (bytesV zs)) (hz : ∀ z ∈ zs, 0 ≤ z ∧ z < 256) (hn : n ≤ 4611686018427387904) :
    Calls Tryd.prog 32 #[.slice A n c] w fun e w' => ∃ s : ByteArray, e = .returned (.string s) ∧ s.size ≤ 5000 ∧ Below w.heap.size w w' := by
 have hl := rd_bytes_len hcode
 go_enter Tryd.func32, Tryd.ntmps32
 refine F.begin 16 [(0, .slice A n c)] (fun U0 => ?_)
 refine wk fun K1 h1 => ?_
 refine W.region_quiet [(0, false)] kk ?_
 refine Fa (.string (⟨#[]⟩ : ByteArray)) ?_
 refine F.es ?_
 refine h1 _ _ ?_
 refine wk fun K2 h2 => ?_
 refine W.region_plain (row := none) [(0, false), (1, false), (2, true), (3, false)] kk ?_
 have s1 := SG.self w none
 refine Fv (.slice A n c) ?_
 refine Fq (.agg #[.slice A n c, .int .i64 0, .int .u64 0]) (r_build rfl (vs := [(0, .slice A n c)]) kk kk) ?_
 refine W.sn (fun b => .pointer (some ⟨b, 0, none⟩)) #[.slice A n c, .int .i64 0, .int .u64 0] 66 s1 rfl kk rfl (fun _ => by kernel_rfl) (fun b2 w3 hb4 k5 x6 s7 => ?_)
 refine F.nx ?_
 have lo8 : w.heap.size ≤ b2 := Nat.le_trans ((SG.belowR (Below.refl _ _) s1 (fun kq e => by cases e))).size (Nat.le_of_eq hb4)
 have x9 := Cur.new x6 hcode hz hn ((SG.belowR (Below.refl _ _) s7 (fun kq e => by cases e))) lo8
 have hN : w.heap.size ≤ w.heap.size := Nat.le_refl _
 refine Fa (.pointer (some ⟨b2, 0, none⟩)) ?_
 refine F.es ?_
 have c10 := (SG.belowR (Below.refl _ _) s7 (fun kq e => by cases e))
 refine h2 _ _ ?_
 refine wk fun K3 h3 => ?_
 refine wk fun K4 h4 => ?_
 refine W.region_plain (row := (some b2)) [(0, false), (1, true)] kk ?_
 have s11 := SG.self w3 (some b2)
 refine Fv (.pointer (some ⟨b2, 0, none⟩)) ?_
 refine Fc [.pointer (some ⟨b2, 0, none⟩), .int .i64 20] (one_any b2 w.heap.size 0 20 _ x9 (by omega) (by omega)) ?_
 rintro e w15 ⟨b12, rfl, _, x17, g16⟩
 have s18 := SG.of_grown s11 g16 (.inl rfl)
 refine ⟨_, rfl, s18, ?_⟩
 refine F.nx ?_
 rcases Bool.eq_false_or_eq_true b12 with q19 | q19
 ·rw [q19]
  refine F.es ?_
  have c20 := (SG.belowR c10 s18 (fun kq e => by cases e; exact lo8))
  refine h4 _ _ ?_
  refine wp_cond_true ek ?_
  refine wk fun K5 h5 => ?_
  refine W.region_plain (row := (some b2)) [(0, false), (1, true), (2, false), (3, true), (4, true), (5, false)] kk ?_
  have s21 := SG.self w15 (some b2)
  refine Fv (.pointer (some ⟨b2, 0, none⟩)) ?_
  refine Fc [.pointer (some ⟨b2, 0, none⟩), .int .i64 10] (pick_any b2 w.heap.size (0 + 2) 10 _ x17 (by omega) (by omega)) ?_
  rintro e w25 ⟨x22, rfl, hx23, x27, g26⟩
  have s28 := SG.of_grown s21 g26 (.inl rfl)
  refine ⟨_, rfl, s28, ?_⟩
  refine F.nx ?_
  refine Fq (.int .i64 (3990 + x22)) (r_add (m := 3990) (n := x22) (z := 3990 + x22) rfl ek ek (rfl) (by omega)) ?_
  refine W.smZ (e := 5) (n := (3990 + x22).toNat) (.int .u8 0) w.heap.size s28 rfl kk rfl rfl (evk (z := 3990 + x22) kk (by omega)) (evk (z := 3990 + x22) kk (by omega)) kk ⟨_, rfl, by kernel_rfl⟩ rfl (by omega) (by have := ((SG.belowR c20 s28 (fun kq e => by cases e; exact lo8))).size; omega) (fun b29 w30 hb31 k32 ho33 s34 => ?_)
  refine F.nx ?_
  refine W.slq (v := .string (zerosB ((3990 + x22).toNat))) s34 rfl (r_bytes0 rfl kk kk kk ho33) kk rfl ?_
  refine F.nx ?_
  refine Fa (.string (zerosB ((3990 + x22).toNat))) ?_
  refine F.es ?_
  have c36 := (SG.belowR c20 s34 (fun kq e => by cases e; exact lo8))
  refine h5 _ _ ?_
  refine wp_ret ?_
  try simp only [Exit.then]
  refine ret1 (v := .string (zerosB ((3990 + x22).toNat))) rfl kk ?_
  exact ⟨_, rfl, by rw [zerosB_size]; omega, c36⟩
 rw [q19]
 refine F.es ?_
 have c37 := (SG.belowR c10 s18 (fun kq e => by cases e; exact lo8))
 refine h4 _ _ ?_
 refine wp_cond_false ek ?_
 refine wp_skip ?_
 refine h3 _ _ ?_
 refine wk fun K6 h6 => ?_
 refine W.region_plain (row := (some b2)) [(0, false), (1, true), (2, false)] kk ?_
 have s38 := SG.self w15 (some b2)
 refine Fv (.pointer (some ⟨b2, 0, none⟩)) ?_
 refine Fc [.pointer (some ⟨b2, 0, none⟩)] (any1_any b2 w.heap.size (0 + 2)  _ x17 (by omega) ) ?_
 rintro e w42 ⟨s39, rfl, hx40, x44, g43⟩
 have s45 := SG.of_grown s38 g43 (.inl rfl)
 refine ⟨_, rfl, s45, ?_⟩
 refine F.nx ?_
 refine Fa (.string s39) ?_
 refine F.es ?_
 have c46 := (SG.belowR c37 s45 (fun kq e => by cases e; exact lo8))
 refine h6 _ _ ?_
 refine wp_ret ?_
 try simp only [Exit.then]
 refine ret1 (v := .string s39) rfl kk ?_
 exact ⟨_, rfl, by omega, c46⟩

end Go.Proofs.YtdlcldaogcbnlaaDoor
