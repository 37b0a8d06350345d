/- Drawn texts and numbers. -/
import Derived.Test.YtgpallafdmjbdaaCur
import Derived.Test.YtgpallafdmjbdaaSmZ
namespace Go.Proofs.Ytgpallafdmjbdaa
open Go.RowKit
set_option linter.unusedVariables false
set_option linter.unusedSimpArgs false

theorem small_of {zs : List ByteArray} {s : ByteArray} (m : Nat) (hx : s ∈ zs) (h : zs.all (fun s => decide (s.size ≤ m)) = true) : s.size ≤ m := of_decide_eq_true (List.all_eq_true.1 h s hx)
theorem all_snoc {zs : List ByteArray} {x : ByteArray} {m : Nat} (h : ∀ y ∈ zs, y.size ≤ m) (hx : x.size ≤ m) : ∀ y ∈ zs ++ [x], y.size ≤ m := fun y hy => by
  rcases List.mem_append.1 hy with h1 | h1
  · exact h y h1
  · obtain rfl : y = x := by simpa using h1
    exact hx


set_option maxRecDepth 100000 in
set_option maxHeartbeats 1000000 in
theorem any1_any (B N k : Nat)  (w : World) (hc : Cur w B N k) (hk : k ≤ 1000000000000)  :
    Calls Try.prog 33 #[.pointer (some ⟨B, 0, none⟩)] w fun e w' => ∃ s, e = .returned (.string s) ∧ (s.size ≤ 10) ∧ Cur w' B N (k + 2) ∧ w.grownBy w' (some B) := by
  have hN := Cur.hN hc
  go_enter Try.func33, Try.ntmps33
  refine wp_seq_k (fun K1 h1 => ?_)
  refine W.region_quiet [(0, false)] (by kernel_rfl) ?_
  refine W.as (v := .string (⟨#[]⟩ : ByteArray)) (h := ?_)
  refine W.endF 6 [(0, .pointer (some ⟨B, 0, none⟩)), (2, .string (⟨#[]⟩ : ByteArray))] (fun U1 => ?_)
  refine h1 _ _ ?_
  refine wp_seq_k (fun K2 h2 => ?_)
  refine W.region_plain (row := (some B)) [(0, false), (1, true), (2, true), (3, false)] (by kernel_rfl) ?_
  have s2 := SG.self w (some B)
  refine W.mv (v := .pointer (some ⟨B, 0, none⟩)) (h := ?_)
  refine W.sn (fun b => .slice (some ⟨b, 0, none⟩) 9 9) #[.string (⟨#[]⟩ : ByteArray), .string (⟨#[97]⟩ : ByteArray), .string (⟨#[97, 44, 98]⟩ : ByteArray), .string (⟨#[115, 111, 109, 101, 32, 119, 111, 114, 100, 115]⟩ : ByteArray), .string (⟨#[120, 35, 121]⟩ : ByteArray), .string (⟨#[45, 49, 50]⟩ : ByteArray), .string (⟨#[0, 255]⟩ : ByteArray), .string (⟨#[44, 44]⟩ : ByteArray), .string (⟨#[48]⟩ : ByteArray)] 9 s2 rfl (by kernel_rfl) rfl (fun _ => by kernel_rfl) (fun b3 w4 hb5 k6 x7 s8 => ?_)
  have lo9 : w.heap.size ≤ b3 := by have := ((SG.fr (B := B) (World.grownBy.refl _ _) s2 (fun kq e => .inl (by cases e; rfl)))).size; omega
  have ne10 : B ≠ b3 := by have := Cur.lt hc; omega
  have hc := Cur.below hc k6
  refine W.sc (vs := [.pointer (some ⟨B, 0, none⟩), .slice (some ⟨b3, 0, none⟩) 9 9]) rfl rfl (by kernel_rfl) (by kernel_rfl) (by kernel_rfl) rfl (of_any B N k (some ⟨b3, 0, none⟩) 9 9 [(⟨#[]⟩ : ByteArray), (⟨#[97]⟩ : ByteArray), (⟨#[97, 44, 98]⟩ : ByteArray), (⟨#[115, 111, 109, 101, 32, 119, 111, 114, 100, 115]⟩ : ByteArray), (⟨#[120, 35, 121]⟩ : ByteArray), (⟨#[45, 49, 50]⟩ : ByteArray), (⟨#[0, 255]⟩ : ByteArray), (⟨#[44, 44]⟩ : ByteArray), (⟨#[48]⟩ : ByteArray)] _ hc (by omega) (rd_blk x7 rfl rfl) (sp_ne (by have := ne10; omega)) (by omega)) ?_
  rintro e w14 ⟨x11, rfl, hx12, x16, g15⟩
  have s17 := SG.of_grown s8 g15 (.inl rfl)
  refine ⟨_, rfl, s17, ?_⟩
  have x7 := (g15.block _ (blk_lt x7) (by have := ne10; simp; omega)).trans x7
  refine W.as (v := .string x11) (h := ?_)
  refine W.endF 6 [(0, .pointer (some ⟨B, 0, none⟩)), (2, .string x11)] (fun U18 => ?_)
  have c19 := (SG.fr (B := B) (World.grownBy.refl _ _) s17 (fun kq e => .inl (by cases e; rfl)))
  refine h2 _ _ ?_
  refine wp_ret ?_
  try simp only [Exit.then]
  refine ret1 (v := .string x11) rfl (by kernel_rfl) ?_
  exact ⟨_, rfl, small_of 10 hx12 (by decide), Cur.mono x16 (by omega), c19⟩

set_option maxRecDepth 100000 in
set_option maxHeartbeats 1000000 in
theorem DrawSplitString_any (A : Option Addr) (n c : Nat) (zs : List Int) (w : World) (hcode : Rd w 1 A n (bytesV zs)) (hz : ∀ z ∈ zs, 0 ≤ z ∧ z < 256) (hn : n ≤ 4611686018427387904) :
    Calls Try.prog 23 #[.slice A n c] w fun e w' => ∃ s sep : ByteArray, e = .returned (.tuple #[.string s, .string sep]) ∧ s.size ≤ 10 ∧ sep.size ≤ 2 ∧ Below w.heap.size w w' := by
  have hl := rd_bytes_len hcode
  go_enter Try.func23, Try.ntmps23
  refine wp_seq_k (fun K1 h1 => ?_)
  refine W.region_quiet [(0, false), (1, false)] (by kernel_rfl) ?_
  refine W.as (v := .string (⟨#[]⟩ : ByteArray)) (h := ?_)
  refine W.as (v := .string (⟨#[]⟩ : ByteArray)) (h := ?_)
  refine W.endF 15 [(0, .slice A n c), (2, .string (⟨#[]⟩ : ByteArray)), (3, .string (⟨#[]⟩ : ByteArray))] (fun U1 => ?_)
  refine h1 _ _ ?_
  refine wp_seq_k (fun K2 h2 => ?_)
  refine W.region_plain (row := none) [(0, false), (1, false), (2, true), (3, false)] (by kernel_rfl) ?_
  have s2 := SG.self w none
  refine W.mv (v := .slice A n c) (h := ?_)
  refine W.q (v := .agg #[.slice A n c, .int .i64 0, .int .u64 0]) (hr := (r_build rfl (vs := [(0, .slice A n c)]) (by kernel_rfl) (by kernel_rfl))) (h := ?_)
  refine W.sn (fun b => .pointer (some ⟨b, 0, none⟩)) #[.slice A n c, .int .i64 0, .int .u64 0] 51 s2 rfl (by kernel_rfl) rfl (fun _ => by kernel_rfl) (fun b3 w4 hb5 k6 x7 s8 => ?_)
  have lo9 : w.heap.size ≤ b3 := by have := ((SG.belowR (Below.refl _ _) s2 (fun kq e => by cases e))).size; omega
  have x10 := Cur.new x7 hcode hz hn ((SG.belowR (Below.refl _ _) s8 (fun kq e => by cases e))) lo9
  have hN : w.heap.size ≤ w.heap.size := Nat.le_refl _
  refine W.as (v := .pointer (some ⟨b3, 0, none⟩)) (h := ?_)
  refine W.endF 15 [(0, .slice A n c), (2, .string (⟨#[]⟩ : ByteArray)), (3, .string (⟨#[]⟩ : ByteArray)), (4, .pointer (some ⟨b3, 0, none⟩))] (fun U11 => ?_)
  have c12 := (SG.belowR (Below.refl _ _) s8 (fun kq e => by cases e))
  refine h2 _ _ ?_
  refine wp_seq_k (fun K3 h3 => ?_)
  refine W.region_plain (row := (some b3)) [(0, false), (1, true), (2, false)] (by kernel_rfl) ?_
  have s13 := SG.self w4 (some b3)
  refine W.mv (v := .pointer (some ⟨b3, 0, none⟩)) (h := ?_)
  refine W.sc (vs := [.pointer (some ⟨b3, 0, none⟩)]) rfl rfl (by kernel_rfl) (by kernel_rfl) (by kernel_rfl) rfl (any1_any b3 w.heap.size 0  _ x10 (by omega) ) ?_
  rintro e w17 ⟨s14, rfl, hx15, x19, g18⟩
  have s20 := SG.of_grown s13 g18 (.inl rfl)
  refine ⟨_, rfl, s20, ?_⟩
  refine W.as (v := .string s14) (h := ?_)
  refine W.endF 15 [(0, .slice A n c), (2, .string (⟨#[]⟩ : ByteArray)), (3, .string (⟨#[]⟩ : ByteArray)), (4, .pointer (some ⟨b3, 0, none⟩)), (5, .string s14)] (fun U21 => ?_)
  have c22 := (SG.belowR c12 s20 (fun kq e => by cases e; exact lo9))
  refine h3 _ _ ?_
  refine wp_seq_k (fun K4 h4 => ?_)
  refine W.region_plain (row := (some b3)) [(0, false), (1, false), (2, true), (3, true), (4, false), (5, false)] (by kernel_rfl) ?_
  have s23 := SG.self w17 (some b3)
  refine W.mv (v := .string s14) (h := ?_)
  refine W.mv (v := .pointer (some ⟨b3, 0, none⟩)) (h := ?_)
  refine W.sn (fun b => .slice (some ⟨b, 0, none⟩) 5 5) #[.string (⟨#[44]⟩ : ByteArray), .string (⟨#[44]⟩ : ByteArray), .string (⟨#[32]⟩ : ByteArray), .string (⟨#[]⟩ : ByteArray), .string (⟨#[44, 44]⟩ : ByteArray)] 9 s23 rfl (by kernel_rfl) rfl (fun _ => by kernel_rfl) (fun b24 w25 hb26 k27 x28 s29 => ?_)
  have lo30 : w.heap.size ≤ b24 := by have := ((SG.belowR c22 s23 (fun kq e => by cases e; exact lo9))).size; omega
  have ne31 : b3 ≠ b24 := by have := Cur.lt x19; omega
  have x19 := Cur.below x19 k27
  refine W.sc (vs := [.pointer (some ⟨b3, 0, none⟩), .slice (some ⟨b24, 0, none⟩) 5 5]) rfl rfl (by kernel_rfl) (by kernel_rfl) (by kernel_rfl) rfl (of_any b3 w.heap.size (0 + 2) (some ⟨b24, 0, none⟩) 5 5 [(⟨#[44]⟩ : ByteArray), (⟨#[44]⟩ : ByteArray), (⟨#[32]⟩ : ByteArray), (⟨#[]⟩ : ByteArray), (⟨#[44, 44]⟩ : ByteArray)] _ x19 (by omega) (rd_blk x28 rfl rfl) (sp_ne (by have := ne31; omega)) (by omega)) ?_
  rintro e w35 ⟨x32, rfl, hx33, x37, g36⟩
  have s38 := SG.of_grown s29 g36 (.inl rfl)
  refine ⟨_, rfl, s38, ?_⟩
  have x28 := (g36.block _ (blk_lt x28) (by have := ne31; simp; omega)).trans x28
  refine W.as (v := .string s14) (h := ?_)
  refine W.as (v := .string x32) (h := ?_)
  refine W.endF 15 [(0, .slice A n c), (2, .string s14), (3, .string x32), (4, .pointer (some ⟨b3, 0, none⟩)), (5, .string s14)] (fun U39 => ?_)
  have c40 := (SG.belowR c22 s38 (fun kq e => by cases e; exact lo9))
  refine h4 _ _ ?_
  refine wp_ret ?_
  try simp only [Exit.then]
  refine ret2 (v := .string s14) (x := .string x32) rfl (by kernel_rfl) (by kernel_rfl) ?_
  exact ⟨_, _, rfl, by omega, small_of 2 hx33 (by decide), c40⟩

set_option maxRecDepth 100000 in
set_option maxHeartbeats 1000000 in
theorem DrawLessString_any (A : Option Addr) (n c : Nat) (zs : List Int) (w : World) (hcode : Rd w 1 A n (bytesV zs)) (hz : ∀ z ∈ zs, 0 ≤ z ∧ z < 256) (hn : n ≤ 4611686018427387904) :
    Calls Try.prog 25 #[.slice A n c] w fun e w' => ∃ s r : ByteArray, e = .returned (.tuple #[.string s, .string r]) ∧ Below w.heap.size w w' := by
  have hl := rd_bytes_len hcode
  go_enter Try.func25, Try.ntmps25
  refine wp_seq_k (fun K1 h1 => ?_)
  refine W.region_quiet [(0, false), (1, false)] (by kernel_rfl) ?_
  refine W.as (v := .string (⟨#[]⟩ : ByteArray)) (h := ?_)
  refine W.as (v := .string (⟨#[]⟩ : ByteArray)) (h := ?_)
  refine W.endF 14 [(0, .slice A n c), (2, .string (⟨#[]⟩ : ByteArray)), (3, .string (⟨#[]⟩ : ByteArray))] (fun U1 => ?_)
  refine h1 _ _ ?_
  refine wp_seq_k (fun K2 h2 => ?_)
  refine W.region_plain (row := none) [(0, false), (1, false), (2, true), (3, false)] (by kernel_rfl) ?_
  have s2 := SG.self w none
  refine W.mv (v := .slice A n c) (h := ?_)
  refine W.q (v := .agg #[.slice A n c, .int .i64 0, .int .u64 0]) (hr := (r_build rfl (vs := [(0, .slice A n c)]) (by kernel_rfl) (by kernel_rfl))) (h := ?_)
  refine W.sn (fun b => .pointer (some ⟨b, 0, none⟩)) #[.slice A n c, .int .i64 0, .int .u64 0] 51 s2 rfl (by kernel_rfl) rfl (fun _ => by kernel_rfl) (fun b3 w4 hb5 k6 x7 s8 => ?_)
  have lo9 : w.heap.size ≤ b3 := by have := ((SG.belowR (Below.refl _ _) s2 (fun kq e => by cases e))).size; omega
  have x10 := Cur.new x7 hcode hz hn ((SG.belowR (Below.refl _ _) s8 (fun kq e => by cases e))) lo9
  have hN : w.heap.size ≤ w.heap.size := Nat.le_refl _
  refine W.as (v := .pointer (some ⟨b3, 0, none⟩)) (h := ?_)
  refine W.endF 14 [(0, .slice A n c), (2, .string (⟨#[]⟩ : ByteArray)), (3, .string (⟨#[]⟩ : ByteArray)), (4, .pointer (some ⟨b3, 0, none⟩))] (fun U11 => ?_)
  have c12 := (SG.belowR (Below.refl _ _) s8 (fun kq e => by cases e))
  refine h2 _ _ ?_
  refine wp_seq_k (fun K3 h3 => ?_)
  refine W.region_plain (row := (some b3)) [(0, false), (1, true), (2, false)] (by kernel_rfl) ?_
  have s13 := SG.self w4 (some b3)
  refine W.mv (v := .pointer (some ⟨b3, 0, none⟩)) (h := ?_)
  refine W.sc (vs := [.pointer (some ⟨b3, 0, none⟩)]) rfl rfl (by kernel_rfl) (by kernel_rfl) (by kernel_rfl) rfl (any1_any b3 w.heap.size 0  _ x10 (by omega) ) ?_
  rintro e w17 ⟨s14, rfl, hx15, x19, g18⟩
  have s20 := SG.of_grown s13 g18 (.inl rfl)
  refine ⟨_, rfl, s20, ?_⟩
  refine W.as (v := .string s14) (h := ?_)
  refine W.endF 14 [(0, .slice A n c), (2, .string (⟨#[]⟩ : ByteArray)), (3, .string (⟨#[]⟩ : ByteArray)), (4, .pointer (some ⟨b3, 0, none⟩)), (5, .string s14)] (fun U21 => ?_)
  have c22 := (SG.belowR c12 s20 (fun kq e => by cases e; exact lo9))
  refine h3 _ _ ?_
  refine wp_seq_k (fun K4 h4 => ?_)
  refine W.region_plain (row := (some b3)) [(0, false), (1, false), (2, true), (3, false), (4, false)] (by kernel_rfl) ?_
  have s23 := SG.self w17 (some b3)
  refine W.mv (v := .string s14) (h := ?_)
  refine W.mv (v := .pointer (some ⟨b3, 0, none⟩)) (h := ?_)
  refine W.sc (vs := [.pointer (some ⟨b3, 0, none⟩)]) rfl rfl (by kernel_rfl) (by kernel_rfl) (by kernel_rfl) rfl (any1_any b3 w.heap.size (0 + 2)  _ x19 (by omega) ) ?_
  rintro e w27 ⟨s24, rfl, hx25, x29, g28⟩
  have s30 := SG.of_grown s23 g28 (.inl rfl)
  refine ⟨_, rfl, s30, ?_⟩
  refine W.as (v := .string s14) (h := ?_)
  refine W.as (v := .string s24) (h := ?_)
  refine W.endF 14 [(0, .slice A n c), (2, .string s14), (3, .string s24), (4, .pointer (some ⟨b3, 0, none⟩)), (5, .string s14)] (fun U31 => ?_)
  have c32 := (SG.belowR c22 s30 (fun kq e => by cases e; exact lo9))
  refine h4 _ _ ?_
  refine wp_ret ?_
  try simp only [Exit.then]
  refine ret2 (v := .string s14) (x := .string s24) rfl (by kernel_rfl) (by kernel_rfl) ?_
  exact ⟨_, _, rfl, c32⟩

set_option maxRecDepth 100000 in
set_option maxHeartbeats 1000000 in
theorem DrawJoinStrings_any (A : Option Addr) (n c : Nat) (zs : List Int) (w : World) (hcode : Rd w 1 A n (bytesV zs)) (hz : ∀ z ∈ zs, 0 ≤ z ∧ z < 256) (hn : n ≤ 4611686018427387904) :
    Calls Try.prog 24 #[.slice A n c] w fun e w' => ∃ (A' : Option Addr) (n' c' : Nat) (ss : List ByteArray) (s : ByteArray), e = .returned (.tuple #[.slice A' n' c', .string s]) ∧ w'.ownsRow w.heap.size 9 1 (.slice A' n' c') n' (strsV ss) ∧ ss.length ≤ 5 ∧ (∀ y ∈ ss, y.size ≤ 5000) ∧ s.size ≤ 2 ∧ Below w.heap.size w w' := by
  have hl := rd_bytes_len hcode
  go_enter Try.func24, Try.ntmps24
  refine wp_seq_k (fun K1 h1 => ?_)
  refine W.region_quiet [(0, false), (1, false)] (by kernel_rfl) ?_
  refine W.as (v := .slice none 0 0) (h := ?_)
  refine W.as (v := .string (⟨#[]⟩ : ByteArray)) (h := ?_)
  refine W.endF 38 [(0, .slice A n c), (2, .slice none 0 0), (3, .string (⟨#[]⟩ : ByteArray))] (fun U1 => ?_)
  refine h1 _ _ ?_
  refine wp_seq_k (fun K2 h2 => ?_)
  refine W.region_plain (row := none) [(0, false), (1, false), (2, true), (3, false)] (by kernel_rfl) ?_
  have s2 := SG.self w none
  refine W.mv (v := .slice A n c) (h := ?_)
  refine W.q (v := .agg #[.slice A n c, .int .i64 0, .int .u64 0]) (hr := (r_build rfl (vs := [(0, .slice A n c)]) (by kernel_rfl) (by kernel_rfl))) (h := ?_)
  refine W.sn (fun b => .pointer (some ⟨b, 0, none⟩)) #[.slice A n c, .int .i64 0, .int .u64 0] 51 s2 rfl (by kernel_rfl) rfl (fun _ => by kernel_rfl) (fun b3 w4 hb5 k6 x7 s8 => ?_)
  have lo9 : w.heap.size ≤ b3 := by have := ((SG.belowR (Below.refl _ _) s2 (fun kq e => by cases e))).size; omega
  have x10 := Cur.new x7 hcode hz hn ((SG.belowR (Below.refl _ _) s8 (fun kq e => by cases e))) lo9
  have hN : w.heap.size ≤ w.heap.size := Nat.le_refl _
  refine W.as (v := .pointer (some ⟨b3, 0, none⟩)) (h := ?_)
  refine W.endF 38 [(0, .slice A n c), (2, .slice none 0 0), (3, .string (⟨#[]⟩ : ByteArray)), (4, .pointer (some ⟨b3, 0, none⟩))] (fun U11 => ?_)
  have c12 := (SG.belowR (Below.refl _ _) s8 (fun kq e => by cases e))
  refine h2 _ _ ?_
  refine wp_seq_k (fun K3 h3 => ?_)
  refine W.region_plain (row := none) [(0, true), (1, false)] (by kernel_rfl) ?_
  have s13 := SG.self w4 none
  refine W.sn (fun b => .slice (some ⟨b, 0, none⟩) 0 0) #[] 9 s13 rfl (by kernel_rfl) rfl (fun _ => by kernel_rfl) (fun b14 w15 hb16 k17 x18 s19 => ?_)
  have lo20 : w.heap.size ≤ b14 := by have := ((SG.belowR c12 s13 (fun kq e => by cases e))).size; omega
  have ne21 : b3 ≠ b14 := by have := Cur.lt x10; have := (s13).size; omega
  refine W.as (v := .slice (some ⟨b14, 0, none⟩) 0 0) (h := ?_)
  refine W.endF 38 [(0, .slice A n c), (2, .slice none 0 0), (3, .string (⟨#[]⟩ : ByteArray)), (4, .pointer (some ⟨b3, 0, none⟩)), (5, .slice (some ⟨b14, 0, none⟩) 0 0)] (fun U22 => ?_)
  have x10 := Cur.below x10 (SG.below s19)
  have c23 := (SG.belowR c12 s19 (fun kq e => by cases e))
  refine h3 _ _ ?_
  refine wp_seq_k (fun K4 h4 => ?_)
  refine W.region_plain (row := (some b3)) [(0, false), (1, true), (2, false)] (by kernel_rfl) ?_
  have s24 := SG.self w15 (some b3)
  refine W.mv (v := .pointer (some ⟨b3, 0, none⟩)) (h := ?_)
  refine W.sc (vs := [.pointer (some ⟨b3, 0, none⟩), .int .i64 4]) rfl rfl (by kernel_rfl) (by kernel_rfl) (by kernel_rfl) rfl (pick_any b3 w.heap.size 0 4 _ x10 (by omega) (by omega)) ?_
  rintro e w28 ⟨x25, rfl, hx26, x30, g29⟩
  have s31 := SG.of_grown s24 g29 (.inl rfl)
  refine ⟨_, rfl, s31, ?_⟩
  refine W.as (v := .int .i64 x25) (h := ?_)
  refine W.endF 38 [(0, .slice A n c), (2, .slice none 0 0), (3, .string (⟨#[]⟩ : ByteArray)), (4, .pointer (some ⟨b3, 0, none⟩)), (5, .slice (some ⟨b14, 0, none⟩) 0 0), (6, .int .i64 x25)] (fun U32 => ?_)
  have x18 := SG.blk s31 x18 (by have := ne21; simp; omega)
  have c33 := (SG.belowR c23 s31 (fun kq e => by cases e; exact lo9))
  refine h4 _ _ ?_
  refine wp_seq_k (fun K5 h5 => ?_)
  refine wp_seq_k (fun K6 h6 => ?_)
  refine W.region_quiet [(0, false)] (by kernel_rfl) ?_
  refine W.as (v := .int .i64 0) (h := ?_)
  refine W.endF 38 [(0, .slice A n c), (2, .slice none 0 0), (3, .string (⟨#[]⟩ : ByteArray)), (4, .pointer (some ⟨b3, 0, none⟩)), (5, .slice (some ⟨b14, 0, none⟩) 0 0), (6, .int .i64 x25), (7, .int .i64 0)] (fun U34 => ?_)
  refine h6 _ _ ?_
  refine wp_block ?_
  have ho35 := own_empty (base := w.heap.size) (size := 1) x18 lo20
  replace ho35 : World.ownsRow _ _ _ _ _ _ (strsV []) := ho35
  have nb36 : Nb b3 (.slice (some ⟨b14, 0, none⟩) 0 0) := nb_new (by have := ne21; omega)
  refine loopK (fun am0 aa0 wl0 => ∃ (i : Nat) (ss : List ByteArray) (A0_5 : Option Addr) (n0_5 : Nat) (c0_5 : Nat) (U0 : Nat → Value), aa0 = ⟨(fr U0 [(0, .slice A n c), (2, .slice none 0 0), (3, .string (⟨#[]⟩ : ByteArray)), (4, .pointer (some ⟨b3, 0, none⟩)), (5, .slice A0_5 n0_5 c0_5), (6, .int .i64 x25), (7, .int .i64 ((i : Nat) : Int))] 38 0).toArray, []⟩ ∧ (am0 = x25.toNat - i) ∧ (i ≤ 4) ∧ (n0_5 ≤ i) ∧ (∀ y ∈ ss, y.size ≤ 5000) ∧ (Cur wl0 b3 w.heap.size (2 + 2 * i)) ∧ (wl0.ownsRow w.heap.size 9 1 (.slice A0_5 n0_5 c0_5) n0_5 (strsV ss)) ∧ (Nb b3 (.slice A0_5 n0_5 c0_5)) ∧ (Below w.heap.size w wl0)) (x25.toNat - 0) ?_ ?_
  · exact ⟨0, [], (some ⟨b14, 0, none⟩), 0, 0, (fun iU9 => lk [(0, .slice A n c), (2, .slice none 0 0), (3, .string (⟨#[]⟩ : ByteArray)), (4, .pointer (some ⟨b3, 0, none⟩)), (5, .slice (some ⟨b14, 0, none⟩) 0 0), (6, .int .i64 x25), (7, .int .i64 0)] iU9 (U34 iU9)), (by kernel_rfl), rfl, (by omega), (by omega), (fun y hy => by cases hy), (Cur.mono x30 (by omega)), ho35, nb36, c33⟩
  rintro am0 aa0 wl0 K7 h7 ⟨i, ss, A0_5, n0_5, c0_5, U0, rfl, rfl, hi, hin, hsz9, x30, ho0_5, nb0_5_b3, c37⟩
  refine wp_seq_k (fun K8 h8 => ?_)
  refine wp_seq_k (fun K9 h9 => ?_)
  refine W.region_quiet [(0, false), (1, false), (2, false)] (by kernel_rfl) ?_
  refine W.mv (v := .int .i64 ((i : Nat) : Int)) (h := ?_)
  refine W.mv (v := .int .i64 x25) (h := ?_)
  by_cases q38 : (((i : Nat) : Int) : Int) < (x25 : Int)
  · refine W.q (v := .bool true) (hr := (r_lss (m := ((i : Nat) : Int)) (n := x25) rfl (by kernel_rfl) (by kernel_rfl) (decide_eq_true q38))) (h := ?_)
    refine W.endF 38 [(0, .slice A n c), (2, .slice none 0 0), (3, .string (⟨#[]⟩ : ByteArray)), (4, .pointer (some ⟨b3, 0, none⟩)), (5, .slice A0_5 n0_5 c0_5), (6, .int .i64 x25), (7, .int .i64 ((i : Nat) : Int)), (16, .bool true)] (fun U39 => ?_)
    refine h9 _ _ ?_
    refine wp_cond_true (by kernel_rfl) ?_
    refine wp_skip ?_
    refine h8 _ _ ?_
    refine wp_seq_k (fun K10 h10 => ?_)
    refine wp_block ?_
    refine M.region_plain (row := [(some b3), (Value.ownBlock (.slice A0_5 n0_5 c0_5))]) [(0, false), (1, false), (2, true), (3, true), (4, true), (5, false)] (by kernel_rfl) ?_
    have s40 := SM.self wl0 [(some b3), (Value.ownBlock (.slice A0_5 n0_5 c0_5))]
    refine W.mv (v := .slice A0_5 n0_5 c0_5) (h := ?_)
    refine W.mv (v := .pointer (some ⟨b3, 0, none⟩)) (h := ?_)
    refine W.sc (vs := [.pointer (some ⟨b3, 0, none⟩)]) rfl rfl (by kernel_rfl) (by kernel_rfl) (by kernel_rfl) rfl (any1_any b3 w.heap.size (2 + 2 * i)  _ x30 (by omega) ) ?_
    rintro e w44 ⟨s41, rfl, hx42, x46, g45⟩
    have s47 := SM.of_grown s40 g45 (.inl (by simp))
    refine ⟨_, rfl, s47, ?_⟩
    have ho48 := own_grown ho0_5 g45 (fun j e1 e2 => by cases e2; exact nb0_5_b3 e1.symm)
    refine M.sn (fun b => .slice (some ⟨b, 0, none⟩) 1 1) #[.string s41] 9 s47 rfl (by kernel_rfl) rfl (fun _ => by kernel_rfl) (fun b49 w50 hb51 k52 x53 s54 => ?_)
    have lo55 : w.heap.size ≤ b49 := by have := ((SM.belowR c37 s47 (in2 (fun kq e => (by cases e; exact lo9)) (fun kq e => (World.ownsRow.lt ho0_5 kq e).1)))).size; omega
    have ne56 : b3 ≠ b49 := by have := Cur.lt x46; omega
    have nb57 : Nb b49 (.slice A0_5 n0_5 c0_5) := nb_hi ho48 (Nat.le_of_eq hb51)
    have x46 := Cur.below x46 k52
    have ho58 := own_kept ho48 k52
    refine M.sap (e := 9) (size := 1) (base := w.heap.size) (m := 1) (v := .slice A0_5 n0_5 c0_5) (c := 1) s54 rfl rfl rfl rfl (by kernel_rfl) (by kernel_rfl) (by kernel_rfl) ho58 x53 (by kernel_rfl) (by kernel_rfl) (by omega) (by omega) (by have := ((SM.belowR c37 s54 (in2 (fun kq e => (by cases e; exact lo9)) (fun kq e => (World.ownsRow.lt ho0_5 kq e).1)))).size; omega) (.inl (by simp)) (fun g59 cap60 w61 ho62 hg63 hat64 hlt65 s66 => ?_)
    have nb67 : Nb b3 (.slice (some ⟨g59, 0, none⟩) (n0_5 + 1) cap60) := nb_app nb0_5_b3 (Cur.lt x46) hat64
    have x46 := Cur.grown x46 hg63 nb0_5_b3 (fun j e => Nat.le_trans hN (World.ownsRow.lt ho58 j e).1)
    have nb68 : Nb b49 (.slice (some ⟨g59, 0, none⟩) (n0_5 + 1) cap60) := nb_app nb57 (blk_lt x53) hat64
    have x53 := (hg63.block _ (blk_lt x53) nb57).trans x53
    have ho62 := own_snocS ho62
    refine W.as (v := .slice (some ⟨g59, 0, none⟩) (n0_5 + 1) cap60) (h := ?_)
    refine W.endF 38 [(0, .slice A n c), (2, .slice none 0 0), (3, .string (⟨#[]⟩ : ByteArray)), (4, .pointer (some ⟨b3, 0, none⟩)), (5, .slice (some ⟨g59, 0, none⟩) (n0_5 + 1) cap60), (6, .int .i64 x25), (7, .int .i64 ((i : Nat) : Int)), (16, .bool true)] (fun U69 => ?_)
    have c70 := (SM.belowR c37 s66 (in2 (fun kq e => (by cases e; exact lo9)) (fun kq e => (World.ownsRow.lt ho0_5 kq e).1)))
    refine h10 _ _ ?_
    refine W.region_quiet [(0, false), (1, false), (2, false)] (by kernel_rfl) ?_
    refine W.mv (v := .int .i64 ((i : Nat) : Int)) (h := ?_)
    refine W.q (v := .int .i64 ((i + 1 : Nat) : Int)) (hr := (r_add (m := ((i : Nat) : Int)) (n := 1) (z := ((i + 1 : Nat) : Int)) rfl (by kernel_rfl) (by kernel_rfl) (by omega) (by omega))) (h := ?_)
    refine W.as (v := .int .i64 ((i + 1 : Nat) : Int)) (h := ?_)
    refine W.endF 38 [(0, .slice A n c), (2, .slice none 0 0), (3, .string (⟨#[]⟩ : ByteArray)), (4, .pointer (some ⟨b3, 0, none⟩)), (5, .slice (some ⟨g59, 0, none⟩) (n0_5 + 1) cap60), (6, .int .i64 x25), (7, .int .i64 ((i + 1 : Nat) : Int)), (16, .bool true)] (fun U71 => ?_)
    exact h7 _ _ _ (by omega : (x25.toNat - (i + 1)) < _) ⟨i + 1, (ss ++ [s41]), (some ⟨g59, 0, none⟩), (n0_5 + 1), cap60, (fun iU9 => lk [(0, .slice A n c), (2, .slice none 0 0), (3, .string (⟨#[]⟩ : ByteArray)), (4, .pointer (some ⟨b3, 0, none⟩)), (5, .slice (some ⟨g59, 0, none⟩) (n0_5 + 1) cap60), (6, .int .i64 x25), (7, .int .i64 ((i + 1 : Nat) : Int)), (16, .bool true)] iU9 (U71 iU9)), (by kernel_rfl), rfl, (by omega), (by omega), (all_snoc hsz9 (by omega)), (Cur.mono x46 (by omega)), ho62, nb67, c70⟩
  · refine W.q (v := .bool false) (hr := (r_lss (m := ((i : Nat) : Int)) (n := x25) rfl (by kernel_rfl) (by kernel_rfl) (decide_eq_false q38))) (h := ?_)
    refine W.endF 38 [(0, .slice A n c), (2, .slice none 0 0), (3, .string (⟨#[]⟩ : ByteArray)), (4, .pointer (some ⟨b3, 0, none⟩)), (5, .slice A0_5 n0_5 c0_5), (6, .int .i64 x25), (7, .int .i64 ((i : Nat) : Int)), (16, .bool false)] (fun U72 => ?_)
    refine h9 _ _ ?_
    refine wp_cond_false (by kernel_rfl) ?_
    refine wp_exit ?_
    refine h5 _ _ ?_
    refine wp_seq_k (fun K11 h11 => ?_)
    refine wp_seq_k (fun K12 h12 => ?_)
    refine W.region_plain (row := (some b3)) [(0, false), (1, true)] (by kernel_rfl) ?_
    have s73 := SG.self wl0 (some b3)
    refine W.mv (v := .pointer (some ⟨b3, 0, none⟩)) (h := ?_)
    refine W.sc (vs := [.pointer (some ⟨b3, 0, none⟩), .int .i64 20]) rfl rfl (by kernel_rfl) (by kernel_rfl) (by kernel_rfl) rfl (one_any b3 w.heap.size (2 + 2 * i) 20 _ x30 (by omega) (by omega)) ?_
    rintro e w77 ⟨b74, rfl, _, x79, g78⟩
    have s80 := SG.of_grown s73 g78 (.inl rfl)
    refine ⟨_, rfl, s80, ?_⟩
    have ho81 := own_grown ho0_5 g78 (fun j e1 e2 => by cases e2; exact nb0_5_b3 e1.symm)
    rcases Bool.eq_false_or_eq_true b74 with q82 | q82
    · rw [q82]
      refine W.endF 38 [(0, .slice A n c), (2, .slice none 0 0), (3, .string (⟨#[]⟩ : ByteArray)), (4, .pointer (some ⟨b3, 0, none⟩)), (5, .slice A0_5 n0_5 c0_5), (6, .int .i64 x25), (7, .int .i64 ((i : Nat) : Int)), (16, .bool false), (25, .bool true)] (fun U83 => ?_)
      have c84 := (SG.belowR c37 s80 (fun kq e => by cases e; exact lo9))
      refine h12 _ _ ?_
      refine wp_cond_true (by kernel_rfl) ?_
      refine M.region_plain (row := [(some b3), (Value.ownBlock (.slice A0_5 n0_5 c0_5))]) [(0, false), (1, false), (2, true), (3, false), (4, true), (5, true), (6, true), (7, true), (8, false)] (by kernel_rfl) ?_
      have s85 := SM.self w77 [(some b3), (Value.ownBlock (.slice A0_5 n0_5 c0_5))]
      refine W.mv (v := .slice A0_5 n0_5 c0_5) (h := ?_)
      refine W.mv (v := .pointer (some ⟨b3, 0, none⟩)) (h := ?_)
      refine W.sc (vs := [.pointer (some ⟨b3, 0, none⟩), .int .i64 20]) rfl rfl (by kernel_rfl) (by kernel_rfl) (by kernel_rfl) rfl (pick_any b3 w.heap.size (2 + 2 * i + 2) 20 _ x79 (by omega) (by omega)) ?_
      rintro e w89 ⟨x86, rfl, hx87, x91, g90⟩
      have s92 := SM.of_grown s85 g90 (.inl (by simp))
      refine ⟨_, rfl, s92, ?_⟩
      have ho93 := own_grown ho81 g90 (fun j e1 e2 => by cases e2; exact nb0_5_b3 e1.symm)
      refine W.q (v := .int .i64 (3990 + x86)) (hr := (r_add (m := 3990) (n := x86) (z := 3990 + x86) rfl (by kernel_rfl) (by kernel_rfl) (rfl) (by omega))) (h := ?_)
      refine M.smZ (e := 5) (n := (3990 + x86).toNat) (.int .u8 0) w.heap.size s92 rfl (by kernel_rfl) rfl rfl (evk (z := 3990 + x86) (by kernel_rfl) (by omega)) (evk (z := 3990 + x86) (by kernel_rfl) (by omega)) (by kernel_rfl) ⟨_, rfl, by kernel_rfl⟩ rfl (by omega) (by have := ((SM.belowR c84 s92 (in2 (fun kq e => (by cases e; exact lo9)) (fun kq e => (World.ownsRow.lt ho81 kq e).1)))).size; omega) (fun b94 w95 hb96 k97 ho98 s99 => ?_)
      have nb100 : Nb b3 (.slice (some ⟨b94, 0, none⟩) ((3990 + x86).toNat) ((3990 + x86).toNat)) := nb_new (by have h9 := Cur.lt x91; omega)
      have nr101 : NbR (.slice (some ⟨b94, 0, none⟩) ((3990 + x86).toNat) ((3990 + x86).toNat)) (.slice A0_5 n0_5 c0_5) := nbr_new (fun e9 => by have h9 := (World.ownsRow.lt ho93 b94 e9.symm).2; omega)
      have x91 := Cur.below x91 k97
      have ho102 := own_kept ho93 k97
      refine W.slq (v := .string (zerosB ((3990 + x86).toNat))) s99 rfl (r_bytes0 rfl (by kernel_rfl) (by kernel_rfl) (by kernel_rfl) ho98) (by kernel_rfl) rfl ?_
      refine M.sn (fun b => .slice (some ⟨b, 0, none⟩) 1 1) #[.string (zerosB ((3990 + x86).toNat))] 9 s99 rfl (by kernel_rfl) rfl (fun _ => by kernel_rfl) (fun b103 w104 hb105 k106 x107 s108 => ?_)
      have lo109 : w.heap.size ≤ b103 := by have := ((SM.belowR c84 s99 (in2 (fun kq e => (by cases e; exact lo9)) (fun kq e => (World.ownsRow.lt ho81 kq e).1)))).size; omega
      have ne110 : b3 ≠ b103 := by have := Cur.lt x91; omega
      have nb111 : Nb b103 (.slice A0_5 n0_5 c0_5) := nb_hi ho102 (Nat.le_of_eq hb105)
      have nb112 : Nb b103 (.slice (some ⟨b94, 0, none⟩) ((3990 + x86).toNat) ((3990 + x86).toNat)) := nb_hi ho98 (Nat.le_of_eq hb105)
      have x91 := Cur.below x91 k106
      have ho113 := own_kept ho102 k106
      have ho114 := own_kept ho98 k106
      refine M.sap (e := 9) (size := 1) (base := w.heap.size) (m := 1) (v := .slice A0_5 n0_5 c0_5) (c := 1) s108 rfl rfl rfl rfl (by kernel_rfl) (by kernel_rfl) (by kernel_rfl) ho113 x107 (by kernel_rfl) (by kernel_rfl) (by omega) (by omega) (by have := ((SM.belowR c84 s108 (in2 (fun kq e => (by cases e; exact lo9)) (fun kq e => (World.ownsRow.lt ho81 kq e).1)))).size; omega) (.inl (by simp)) (fun g115 cap116 w117 ho118 hg119 hat120 hlt121 s122 => ?_)
      have nb123 : Nb b3 (.slice (some ⟨g115, 0, none⟩) (n0_5 + 1) cap116) := nb_app nb0_5_b3 (Cur.lt x91) hat120
      have x91 := Cur.grown x91 hg119 nb0_5_b3 (fun j e => Nat.le_trans hN (World.ownsRow.lt ho113 j e).1)
      have nb124 : Nb b103 (.slice (some ⟨g115, 0, none⟩) (n0_5 + 1) cap116) := nb_app nb111 (blk_lt x107) hat120
      have x107 := (hg119.block _ (blk_lt x107) nb111).trans x107
      have ho118 := own_snocS ho118
      have nr125 : NbR (.slice (some ⟨g115, 0, none⟩) (n0_5 + 1) cap116) (.slice (some ⟨b94, 0, none⟩) ((3990 + x86).toNat) ((3990 + x86).toNat)) := nbr_app (NbR.symm nr101) (fun j h => (World.ownsRow.lt ho114 j h).2) (hat3 (v := .slice A0_5 n0_5 c0_5) hat120)
      have ho126 := own_grown ho114 hg119 nr101
      refine W.as (v := .slice (some ⟨g115, 0, none⟩) (n0_5 + 1) cap116) (h := ?_)
      refine W.endF 38 [(0, .slice A n c), (2, .slice none 0 0), (3, .string (⟨#[]⟩ : ByteArray)), (4, .pointer (some ⟨b3, 0, none⟩)), (5, .slice (some ⟨g115, 0, none⟩) (n0_5 + 1) cap116), (6, .int .i64 x25), (7, .int .i64 ((i : Nat) : Int)), (16, .bool false), (25, .bool true)] (fun U127 => ?_)
      have c128 := (SM.belowR c84 s122 (in2 (fun kq e => (by cases e; exact lo9)) (fun kq e => (World.ownsRow.lt ho81 kq e).1)))
      refine h11 _ _ ?_
      refine wp_seq_k (fun K13 h13 => ?_)
      refine W.region_plain (row := (some b3)) [(0, false), (1, false), (2, true), (3, true), (4, false), (5, false)] (by kernel_rfl) ?_
      have s129 := SG.self w117 (some b3)
      refine W.mv (v := .slice (some ⟨g115, 0, none⟩) (n0_5 + 1) cap116) (h := ?_)
      refine W.mv (v := .pointer (some ⟨b3, 0, none⟩)) (h := ?_)
      refine W.sn (fun b => .slice (some ⟨b, 0, none⟩) 5 5) #[.string (⟨#[44]⟩ : ByteArray), .string (⟨#[59]⟩ : ByteArray), .string (⟨#[59]⟩ : ByteArray), .string (⟨#[]⟩ : ByteArray), .string (⟨#[97, 98]⟩ : ByteArray)] 9 s129 rfl (by kernel_rfl) rfl (fun _ => by kernel_rfl) (fun b130 w131 hb132 k133 x134 s135 => ?_)
      have lo136 : w.heap.size ≤ b130 := by have := ((SG.belowR c128 s129 (fun kq e => by cases e; exact lo9))).size; omega
      have ne137 : b3 ≠ b130 := by have := Cur.lt x91; omega
      have ne138 : b103 ≠ b130 := by have := blk_lt x107; have := (s129).size; omega
      have nb139 : Nb b130 (.slice (some ⟨g115, 0, none⟩) (n0_5 + 1) cap116) := nb_hi ho118 (Nat.le_of_eq hb132)
      have nb140 : Nb b130 (.slice (some ⟨b94, 0, none⟩) ((3990 + x86).toNat) ((3990 + x86).toNat)) := nb_hi ho126 (Nat.le_of_eq hb132)
      have x91 := Cur.below x91 k133
      have ho141 := own_kept ho118 k133
      have ho142 := own_kept ho126 k133
      refine W.sc (vs := [.pointer (some ⟨b3, 0, none⟩), .slice (some ⟨b130, 0, none⟩) 5 5]) rfl rfl (by kernel_rfl) (by kernel_rfl) (by kernel_rfl) rfl (of_any b3 w.heap.size ((2 + 2 * i + 2) + 2) (some ⟨b130, 0, none⟩) 5 5 [(⟨#[44]⟩ : ByteArray), (⟨#[59]⟩ : ByteArray), (⟨#[59]⟩ : ByteArray), (⟨#[]⟩ : ByteArray), (⟨#[97, 98]⟩ : ByteArray)] _ x91 (by omega) (rd_blk x134 rfl rfl) (sp_ne (by have := ne137; omega)) (by omega)) ?_
      rintro e w146 ⟨x143, rfl, hx144, x148, g147⟩
      have s149 := SG.of_grown s135 g147 (.inl rfl)
      refine ⟨_, rfl, s149, ?_⟩
      have x134 := (g147.block _ (blk_lt x134) (by have := ne137; simp; omega)).trans x134
      have ho150 := own_grown ho141 g147 (fun j e1 e2 => by cases e2; exact nb123 e1.symm)
      have ho151 := own_grown ho142 g147 (fun j e1 e2 => by cases e2; exact nb100 e1.symm)
      refine W.as (v := .slice (some ⟨g115, 0, none⟩) (n0_5 + 1) cap116) (h := ?_)
      refine W.as (v := .string x143) (h := ?_)
      refine W.endF 38 [(0, .slice A n c), (2, .slice (some ⟨g115, 0, none⟩) (n0_5 + 1) cap116), (3, .string x143), (4, .pointer (some ⟨b3, 0, none⟩)), (5, .slice (some ⟨g115, 0, none⟩) (n0_5 + 1) cap116), (6, .int .i64 x25), (7, .int .i64 ((i : Nat) : Int)), (16, .bool false), (25, .bool true)] (fun U152 => ?_)
      have x107 := SG.blk s149 x107 (by have := ne110; simp; omega)
      have c153 := (SG.belowR c128 s149 (fun kq e => by cases e; exact lo9))
      refine h13 _ _ ?_
      refine wp_ret ?_
      try simp only [Exit.then]
      refine ret2 (v := .slice (some ⟨g115, 0, none⟩) (n0_5 + 1) cap116) (x := .string x143) rfl (by kernel_rfl) (by kernel_rfl) ?_
      have hle := own_len ho150
      rw [strs_len] at hle
      exact ⟨_, _, _, (ss ++ [(zerosB ((3990 + x86).toNat))]), _, rfl, ho150, by omega, all_snoc hsz9 (by rw [zerosB_size]; omega), small_of 2 hx144 (by decide), c153⟩
    · rw [q82]
      refine W.endF 38 [(0, .slice A n c), (2, .slice none 0 0), (3, .string (⟨#[]⟩ : ByteArray)), (4, .pointer (some ⟨b3, 0, none⟩)), (5, .slice A0_5 n0_5 c0_5), (6, .int .i64 x25), (7, .int .i64 ((i : Nat) : Int)), (16, .bool false), (25, .bool false)] (fun U154 => ?_)
      have c155 := (SG.belowR c37 s80 (fun kq e => by cases e; exact lo9))
      refine h12 _ _ ?_
      refine wp_cond_false (by kernel_rfl) ?_
      refine wp_skip ?_
      refine h11 _ _ ?_
      refine wp_seq_k (fun K14 h14 => ?_)
      refine W.region_plain (row := (some b3)) [(0, false), (1, false), (2, true), (3, true), (4, false), (5, false)] (by kernel_rfl) ?_
      have s156 := SG.self w77 (some b3)
      refine W.mv (v := .slice A0_5 n0_5 c0_5) (h := ?_)
      refine W.mv (v := .pointer (some ⟨b3, 0, none⟩)) (h := ?_)
      refine W.sn (fun b => .slice (some ⟨b, 0, none⟩) 5 5) #[.string (⟨#[44]⟩ : ByteArray), .string (⟨#[59]⟩ : ByteArray), .string (⟨#[59]⟩ : ByteArray), .string (⟨#[]⟩ : ByteArray), .string (⟨#[97, 98]⟩ : ByteArray)] 9 s156 rfl (by kernel_rfl) rfl (fun _ => by kernel_rfl) (fun b157 w158 hb159 k160 x161 s162 => ?_)
      have lo163 : w.heap.size ≤ b157 := by have := ((SG.belowR c155 s156 (fun kq e => by cases e; exact lo9))).size; omega
      have ne164 : b3 ≠ b157 := by have := Cur.lt x79; omega
      have nb165 : Nb b157 (.slice A0_5 n0_5 c0_5) := nb_hi ho81 (Nat.le_of_eq hb159)
      have x79 := Cur.below x79 k160
      have ho166 := own_kept ho81 k160
      refine W.sc (vs := [.pointer (some ⟨b3, 0, none⟩), .slice (some ⟨b157, 0, none⟩) 5 5]) rfl rfl (by kernel_rfl) (by kernel_rfl) (by kernel_rfl) rfl (of_any b3 w.heap.size (2 + 2 * i + 2) (some ⟨b157, 0, none⟩) 5 5 [(⟨#[44]⟩ : ByteArray), (⟨#[59]⟩ : ByteArray), (⟨#[59]⟩ : ByteArray), (⟨#[]⟩ : ByteArray), (⟨#[97, 98]⟩ : ByteArray)] _ x79 (by omega) (rd_blk x161 rfl rfl) (sp_ne (by have := ne164; omega)) (by omega)) ?_
      rintro e w170 ⟨x167, rfl, hx168, x172, g171⟩
      have s173 := SG.of_grown s162 g171 (.inl rfl)
      refine ⟨_, rfl, s173, ?_⟩
      have x161 := (g171.block _ (blk_lt x161) (by have := ne164; simp; omega)).trans x161
      have ho174 := own_grown ho166 g171 (fun j e1 e2 => by cases e2; exact nb0_5_b3 e1.symm)
      refine W.as (v := .slice A0_5 n0_5 c0_5) (h := ?_)
      refine W.as (v := .string x167) (h := ?_)
      refine W.endF 38 [(0, .slice A n c), (2, .slice A0_5 n0_5 c0_5), (3, .string x167), (4, .pointer (some ⟨b3, 0, none⟩)), (5, .slice A0_5 n0_5 c0_5), (6, .int .i64 x25), (7, .int .i64 ((i : Nat) : Int)), (16, .bool false), (25, .bool false)] (fun U175 => ?_)
      have c176 := (SG.belowR c155 s173 (fun kq e => by cases e; exact lo9))
      refine h14 _ _ ?_
      refine wp_ret ?_
      try simp only [Exit.then]
      refine ret2 (v := .slice A0_5 n0_5 c0_5) (x := .string x167) rfl (by kernel_rfl) (by kernel_rfl) ?_
      have hle := own_len ho174
      rw [strs_len] at hle
      exact ⟨_, _, _, ss, _, rfl, ho174, by omega, fun y hy => by have := hsz9 y hy; omega, small_of 2 hx168 (by decide), c176⟩

end Go.Proofs.Ytgpallafdmjbdaa
