/- slices.Insert of one element into a row of pipes of the call's own. -/
import Derived.Test.YtmfapokolgnnhaaBlkOps
import Derived.Test.YtmfapokolgnnhaaNetC
import Derived.Lib.Overlaps
import Derived.Test.YtmfapokolgnnhaaPipes
import Derived.Test.YtmfapokolgnnhaaFr
namespace Go.Proofs.Ytmfapokolgnnhaa
open Go.RowKit
set_option linter.unusedVariables false
set_option linter.unusedSimpArgs false

def spl (L : List Value) (off : Nat) (cs : List Value) : List Value := L.take off ++ cs ++ L.drop (off + cs.length)
theorem spl_len {L : List Value} {off : Nat} {cs : List Value} (h : off + cs.length ≤ L.length) : (spl L off cs).length = L.length := by
  unfold spl; rw [List.length_append, List.length_append, List.length_take, List.length_drop]; omega
theorem ins_A {L P X R : List Value} {i n : Nat} (hL : (n + 1) * 4 ≤ L.length) (hi : i ≤ n) (hP : L.take (i * 4) = P) (hX : X.length = 4) (hR : R.length = (n - i) * 4) : (spl (spl L (i * 4) X) ((i + 1) * 4) R).take ((n + 1) * 4) = P ++ (X ++ R) := by
  have hp : P.length = i * 4 := by rw [← hP, List.length_take]; omega
  have e1 : spl L (i * 4) X = (P ++ X) ++ L.drop (i * 4 + X.length) := by unfold spl; rw [hP]
  have e2 : (spl L (i * 4) X).take ((i + 1) * 4) = P ++ X := by rw [e1]; exact List.take_left' (by rw [List.length_append, hp, hX]; omega)
  unfold spl at e2 ⊢
  rw [e2, ← List.append_assoc]
  exact List.take_left' (by rw [List.length_append, List.length_append, hp, hX, hR]; omega)
theorem ins_B {L P X R : List Value} {i n : Nat} (hL : (n + 1) * 4 ≤ L.length) (hi : i ≤ n) (hP : L.take (i * 4) = P) (hX : X.length = 4) (hR : R.length = (n - i) * 4) : (spl (spl L ((i + 1) * 4) R) (i * 4) X).take ((n + 1) * 4) = P ++ (X ++ R) := by
  have hp : P.length = i * 4 := by rw [← hP, List.length_take]; omega
  have ht : (L.take ((i + 1) * 4)).length = (i + 1) * 4 := by rw [List.length_take]; omega
  have e1 : (spl L ((i + 1) * 4) R).take (i * 4) = P := by
    unfold spl
    rw [List.append_assoc, List.take_append_of_le_length (by rw [ht]; omega), List.take_take, Nat.min_eq_left (by omega), hP]
  have e2 : (spl L ((i + 1) * 4) R).drop (i * 4 + X.length) = R ++ L.drop ((i + 1) * 4 + R.length) := by
    unfold spl
    rw [List.append_assoc]
    exact List.drop_left' (by rw [ht, hX]; omega)
  show ((spl L ((i + 1) * 4) R).take (i * 4) ++ X ++ (spl L ((i + 1) * 4) R).drop (i * 4 + X.length)).take ((n + 1) * 4) = _
  rw [e1, e2, ← List.append_assoc, List.append_assoc P X R |>.symm]
  exact List.take_left' (by rw [List.length_append, List.length_append, hp, hX, hR]; omega)
theorem own_openS {w : World} {base : Nat} {e : TypeId} {size n c g : Nat} {xs : List Value} (h : w.ownsRow base e size (.slice (some ⟨g, 0, none⟩) n c) n xs) :
    ∃ cur, base ≤ g ∧ w.heap[g]? = some (.cells cur e (0, 0)) ∧ n ≤ c ∧ c ≤ maxLen ∧ cur.size = c * size ∧ cur.toList.take (n * size) = xs := by
  rcases h.2 with ⟨hv, _⟩ | ⟨g', cap, cur, hv, hb, hh, hnc, hm, hs, ht⟩
  · simp at hv
  · simp only [Value.slice.injEq, Option.some.injEq, Addr.mk.injEq] at hv
    obtain ⟨⟨rfl, _⟩, _, rfl⟩ := hv
    exact ⟨cur, hb, hh, hnc, hm, hs, ht⟩

theorem insInfo : (Try.prog.info? 50).map (fun i => (i.zero, i.size, i.bytes)) = some (some (.agg #[.int .i64 0, .int .i64 0, .int .i64 0, .int .i64 0]), 4, 32) := by kernel_rfl
theorem ins_one (ps : List Pp) : ∀ u ∈ pipesV ps, u.oneCell' = true := pipes_one ps
theorem ins_len (ps : List Pp) : (pipesV ps).length = ps.length * 4 := by rw [pipesV_len]
theorem ins_cat (xs ys : List Pp) : pipesV (xs ++ ys) = pipesV xs ++ pipesV ys := by simp [pipesV]
theorem ins_take (ps : List Pp) : ∀ k, pipesV (ps.take k) = (pipesV ps).take (k * 4) := by
  induction ps with
  | nil => intro k; simp [pipesV]
  | cons p ps ih =>
    intro k
    cases k with
    | zero => simp [pipesV]
    | succ k =>
      have e : pipesV (p :: ps) = p.vals ++ pipesV ps := by simp [pipesV]
      rw [List.take_succ_cons, show pipesV (p :: ps.take k) = p.vals ++ pipesV (ps.take k) by simp [pipesV], e, ih k, show (k + 1) * 4 = p.vals.length + k * 4 by simp [Pp.vals]; omega, List.take_length_add_append]
theorem ins_drop (ps : List Pp) : ∀ k, pipesV (ps.drop k) = (pipesV ps).drop (k * 4) := by
  induction ps with
  | nil => intro k; simp [pipesV]
  | cons p ps ih =>
    intro k
    cases k with
    | zero => simp [pipesV]
    | succ k =>
      have e : pipesV (p :: ps) = p.vals ++ pipesV ps := by simp [pipesV]
      rw [List.drop_succ_cons, e, ih k, show (k + 1) * 4 = p.vals.length + k * 4 by simp [Pp.vals]; omega, List.drop_length_add_append]
theorem ins_fin (ps : List Pp) (x : Pp) (i : Nat) : pipesV (ps.take i) ++ (x.vals ++ pipesV (ps.drop i)) = pipesV (ps.take i ++ x :: ps.drop i) := by
  rw [ins_cat]; simp [pipesV]
theorem cells_at {w : World} {g o : Nat} {cur : Array Value} {E : TypeId} {L : List Value} {k : Nat} (hg : w.heap[g]? = some (.cells cur E (0, 0))) (h : (cur.toList.take k).drop o = L) : ∀ j u, L[j]? = some u → w.cell? (Addr.add ⟨g, o, none⟩ j) = some u := fun j u hu => by
  rw [← h, List.getElem?_drop, List.getElem?_take] at hu
  split at hu
  · simp only [Addr.add_lit, World.cell?, hg]; simpa using hu
  · cases hu
theorem r_capS {P : Program} {S : World → Prop} {o : Oper} {a : Act} {x : Operand} {t : TypeId} {A : Option Addr} {n c : Nat} (ho : o.op = .call { callee := .builtin .cap, args := #[x], argTypes := #[t] }) (hx : a.eval x = .slice A n c) (ht : (elSz P t).isSome = true) :
    ∀ w, S w → (execOp a.eval o).run P w = .ok (.value (.int .i64 (c : Int))) w := fun w _ => by
  obtain ⟨s, hs⟩ := Option.isSome_iff_exists.1 ht
  obtain ⟨e, hu, _⟩ := elSz_of hs
  simp [execOp, ho, resolve, invoke, builtin, hx, Builtin.cap_, run_underlying hu, Result.andThen, goInt]

theorem x_one (x : Pp) : ∀ u ∈ x.vals, u.oneCell' = true := fun u hu => ins_one [x] u (by simpa [pipesV] using hu)
theorem x_len (x : Pp) : x.vals.length = 1 * 4 := rfl
theorem r_sliceFrome {P : Program} {S : World → Prop} {o : Oper} {a : Act} {t : TypeId} {x y : Operand} {A A2 : Option Addr} {n c k size : Nat} (ho : o.op = .slice t x (some y) none none) (hx : a.eval x = .slice A n c) (hy : a.eval y = .int .i64 (k : Int)) (ht : elSz P t = some size) (hk : k ≤ n) (e : sFrom A c k size = A2) :
    ∀ w, S w → (execOp a.eval o).run P w = .ok (.value (.slice A2 (n - k) (c - k))) w := by
  subst e
  exact r_sliceFrom ho hx hy ht hk
theorem run_externOp {P : Program} {l : List Value} {w : World} {o : Oper} {f : FuncId} {as9 : Array Operand} {ts : Array TypeId} {vs : List Value} {v : Value} (ho : o.op = .call { callee := .value (.func f), args := as9, argTypes := ts }) (hv : as9.toList.map (Act.mk l.toArray []).eval = vs) (hr : (callFunc f vs.toArray).run P w = .ok (.value v) w) :
    (execOp (Act.mk l.toArray []).eval o).run P w = .ok (.value v) w := by
  have hv' : as9.map (Act.mk l.toArray []).eval = vs.toArray := Array.toList_inj.1 (by rw [Array.toList_map]; exact hv)
  obtain ⟨dst, op, ty, pos, after, guard⟩ := o
  simp only at ho
  subst ho
  have e : execOp (Act.mk l.toArray []).eval ⟨dst, .call { callee := .value (.func f), args := as9, argTypes := ts }, ty, pos, after, guard⟩ = callFunc f (#[] ++ as9.map (Act.mk l.toArray []).eval ++ #[]) := rfl
  rw [e, hv']
  simpa using hr
theorem ov_run (w : World) (vb g o la ca lb cb : Nat) (vc cur : Array Value) (hv : w.heap[vb]? = some (.cells vc 50 (0, 0))) (hh : w.heap[g]? = some (.cells cur 50 (0, 0))) (hne : vb ≠ g) (hk : cur.size ≠ 0) :
    (callFunc 79 #[.slice (some ⟨vb, 0, none⟩) la ca, .slice (some ⟨g, o, none⟩) lb cb]).run Try.prog w = .ok (.value (.bool false)) w := by
  rw [run_callFunc_extern Try.func79 (by kernel_rfl) (by kernel_rfl) (by kernel_rfl) (e := Extern.SlicesOverlaps.overlaps #[27, 27] #[4]) (by kernel_rfl),
    Lib.run_overlaps_apart w 27 4 50 (by kernel_rfl) 4 (run_sizeOf (by kernel_rfl)) ⟨vb, 0, none⟩ ⟨g, o, none⟩ la ca lb cb hne 50 50 vc.size cur.size (by simp [World.shape?, hv]) (by simp [World.shape?, hh]) hk (by simp [World.frozen?, hv]) (by simp [World.frozen?, hv])]
  rfl
theorem run_zeros (w : World) (tn ty : TypeId) (kn : IntKind) (htn : Try.prog.underlying tn = some (.int kn)) (g i c k : Nat) (cur : Array Value) (hg : w.heap[g]? = some (.cells cur 50 (0, 0))) (hs : cur.size = c * 4) (hi : i ≤ c) (h0 : 0 < k) (hgr : c < i + k) (hm : i + k ≤ 1000001) :
    ∃ c2 cur2, (Builtin.append_ #[27, tn] ty #[.slice (some ⟨g, 0, none⟩) i c, .int .i64 k]).run Try.prog w = .ok (.slice (some ⟨w.heap.size, 0, none⟩) (i + k) c2) (w.drew.alloc (.cells cur2 50)) ∧ cur2.size = c2 * 4 ∧ i + k ≤ c2 ∧ c2 ≤ maxLen ∧ cur2.toList.take (i * 4) = cur.toList.take (i * 4) := by
  obtain ⟨i0, hi0, hz0, hz1, hz2⟩ := info_parts insInfo
  have hl : (cur.toList.take (i * 4)).length = i * 4 := by rw [List.length_take, Array.length_toList, hs]; omega
  have hold : (Builtin.firstCells i0.size i (.slice (some ⟨g, 0, none⟩) i c)).run Try.prog w.drew = .ok (cur.toList.take (i * 4)).toArray w.drew := by
    rw [hz1]
    exact run_firstCells_some _ 4 i ⟨g, 0, none⟩ i c _ hl (fun j v hj => by
      rw [List.getElem?_take] at hj
      split at hj
      · rw [Addr.add_lit, Nat.zero_add]; exact blk_cell (W := w.drew) hg (by simpa using hj)
      · cases hj)
  have hb : (i + k) * 32 ≤ 140737488355328 := by omega
  have hf := growslice_fits (bytes := 32) hgr hb
  have hr := Lib.run_append_grow_zeros w 27 tn ty 50 i0 _ .i64 kn (by kernel_rfl) htn hi0 hz0 (some ⟨g, 0, none⟩) i c _ hold k h0 (by omega) hgr (by omega) (by rw [hz2]; omega) (by rw [hz2]; exact hf)
  have hge := grownCap_ge w (i + k) c 50
  refine ⟨_, _, hr, ?_, hge, grownCap_le_maxLen w (i + k) c 50 (by unfold maxLen; omega), ?_⟩
  · simp only [Array.size_append, size_zeroCells, List.size_toArray, hl]
    show i * 4 + k * 4 + (grownCap w (i + k) c 50 - (i + k)) * 4 = _
    omega
  · simp only [Array.toList_append, List.append_assoc]
    exact List.take_left' hl
theorem grown_da (w : World) (o : Obj) (r : Option Nat) : w.grownBy (w.drew.alloc o) r := ⟨rfl, rfl, rfl, (World.grownBy_alloc w.drew o r).size, (World.grownBy_alloc w.drew o r).block⟩
theorem da_new (w : World) (o : Obj) : (w.drew.alloc o).heap[w.heap.size]? = some o := heap_alloc_new w.drew o
theorem ins_end {ps : List Pp} {x : Pp} {n i : Nat} (hl : ps.length = n) (hi : (i : Int) = (n : Int)) : ps ++ [x] = ps.take i ++ x :: ps.drop i := by
  have e : i = ps.length := by omega
  subst e
  simp

set_option maxRecDepth 100000 in
set_option maxHeartbeats 8000000 in
theorem InsertP_some (g n c i vb base : Nat) (cur : Array Value) (ps : List Pp) (x : Pp) (w : World) (hbs : base ≤ w.heap.size) (hb : base ≤ g) (hh : w.heap[g]? = some (.cells cur 50 (0, 0))) (hnc : n ≤ c) (hcm : c ≤ maxLen) (hcs : cur.size = c * 4) (hct : cur.toList.take (n * 4) = pipesV ps) (hl : ps.length = n) (hv : w.heap[vb]? = some (.cells #[.int .i64 x.id, .int .i64 x.fr, .int .i64 x.to, .int .i64 x.sz] 50 (0, 0))) (hvg : vb ≠ g) (hi : i ≤ n) (hn : n ≤ 1000000) :
    Calls Try.prog 66 #[.slice (some ⟨g, 0, none⟩) n c, .int .i64 ((i : Nat) : Int), .slice (some ⟨vb, 0, none⟩) 1 1] w fun e w' => ∃ A' c', e = .returned (.slice A' (n + 1) c') ∧ w'.ownsRow base 50 4 (.slice A' (n + 1) c') (n + 1) (pipesV (ps.take i ++ x :: ps.drop i)) ∧ w.grownBy w' (Value.slice (some ⟨g, 0, none⟩) n c).ownBlock ∧ ((Value.slice A' (n + 1) c').ownBlock = (Value.slice (some ⟨g, 0, none⟩) n c).ownBlock ∨ ∀ k, (Value.slice A' (n + 1) c').ownBlock = some k → w.heap.size ≤ k) := by
  have how := own_shut hb hh hnc hcm hcs hct (by rw [ins_len, hl])
  have hnb : Nb vb (.slice (some ⟨g, 0, none⟩) n c) := fun e => hvg (Option.some.inj e)
  go_enter Try.func66, Try.ntmps66
  refine wp_seq_k (fun K1 h1 => ?_)
  refine W.region_quiet [(0, false)] (by kernel_rfl) ?_
  refine W.as (v := .slice none 0 0) (h := ?_)
  refine W.endF 95 [(0, .slice (some ⟨g, 0, none⟩) n c), (1, .int .i64 ((i : Nat) : Int)), (2, .slice (some ⟨vb, 0, none⟩) 1 1), (6, .slice none 0 0)] (fun U1 => ?_)
  refine h1 _ _ ?_
  refine wp_seq_k (fun K2 h2 => ?_)
  refine W.region_quiet [(0, false), (1, false), (2, false)] (by kernel_rfl) ?_
  refine F.mv (v := .slice (some ⟨g, 0, none⟩) n c) (h := ?_)
  refine F.mv (v := .int .i64 ((i : Nat) : Int)) (h := ?_)
  refine F.q (v := .slice (sFrom (some ⟨g, 0, none⟩) c i 4) (n - i) (c - i)) (hr := (r_sliceFrom (A := (some ⟨g, 0, none⟩)) (n := n) (c := c) (k := i) (size := 4) rfl (ev_any (by kernel_rfl)) (ev_any (by kernel_rfl)) (by kernel_rfl) (by omega))) (h := ?_)
  refine F.endF [(0, .slice (some ⟨g, 0, none⟩) n c), (1, .int .i64 ((i : Nat) : Int)), (2, .slice (some ⟨vb, 0, none⟩) 1 1), (6, .slice none 0 0)] (fun U2 => ?_)
  refine h2 _ _ ?_
  refine wp_seq_k (fun K3 h3 => ?_)
  refine W.region_quiet [(0, false), (1, false), (2, false)] (by kernel_rfl) ?_
  refine F.mv (v := .slice (some ⟨vb, 0, none⟩) 1 1) (h := ?_)
  refine F.q (v := .int .i64 1) (hr := (r_len (A := (some ⟨vb, 0, none⟩)) (n := 1) (c := 1) rfl (ev_any (by kernel_rfl)) (by kernel_rfl))) (h := ?_)
  refine F.as (v := .int .i64 1) (h := ?_)
  refine F.endF [(0, .slice (some ⟨g, 0, none⟩) n c), (1, .int .i64 ((i : Nat) : Int)), (2, .slice (some ⟨vb, 0, none⟩) 1 1), (6, .slice none 0 0), (7, .int .i64 1)] (fun U3 => ?_)
  refine h3 _ _ ?_
  refine wp_seq_k (fun K4 h4 => ?_)
  refine wp_seq_k (fun K5 h5 => ?_)
  refine W.region_quiet [(0, false), (1, false)] (by kernel_rfl) ?_
  refine F.mv (v := .int .i64 1) (h := ?_)
  refine F.q (v := .bool false) (hr := (r_eql (m := 1) (n := 0) rfl (ev_any (by kernel_rfl)) (ev_any (by kernel_rfl)) (decide_eq_false (by decide)))) (h := ?_)
  refine F.endF [(0, .slice (some ⟨g, 0, none⟩) n c), (1, .int .i64 ((i : Nat) : Int)), (2, .slice (some ⟨vb, 0, none⟩) 1 1), (6, .slice none 0 0), (7, .int .i64 1), (16, .bool false)] (fun U4 => ?_)
  refine h5 _ _ ?_
  refine wp_cond_false (by kernel_rfl) ?_
  refine wp_skip ?_
  refine h4 _ _ ?_
  refine wp_seq_k (fun K6 h6 => ?_)
  refine W.region_quiet [(0, false), (1, false), (2, false)] (by kernel_rfl) ?_
  refine F.mv (v := .slice (some ⟨g, 0, none⟩) n c) (h := ?_)
  refine F.q (v := .int .i64 ((n : Nat) : Int)) (hr := (r_len (A := (some ⟨g, 0, none⟩)) (n := n) (c := c) rfl (ev_any (by kernel_rfl)) (by kernel_rfl))) (h := ?_)
  refine F.as (v := .int .i64 ((n : Nat) : Int)) (h := ?_)
  refine F.endF [(0, .slice (some ⟨g, 0, none⟩) n c), (1, .int .i64 ((i : Nat) : Int)), (2, .slice (some ⟨vb, 0, none⟩) 1 1), (6, .slice none 0 0), (7, .int .i64 1), (8, .int .i64 ((n : Nat) : Int)), (16, .bool false)] (fun U5 => ?_)
  refine h6 _ _ ?_
  refine wp_seq_k (fun K7 h7 => ?_)
  refine wp_seq_k (fun K8 h8 => ?_)
  refine W.region_quiet [(0, false), (1, false), (2, false)] (by kernel_rfl) ?_
  refine F.mv (v := .int .i64 ((i : Nat) : Int)) (h := ?_)
  refine F.mv (v := .int .i64 ((n : Nat) : Int)) (h := ?_)
  by_cases q6 : (((i : Nat) : Int) : Int) = (((n : Nat) : Int) : Int)
  · refine F.q (v := .bool true) (hr := (r_eql (m := ((i : Nat) : Int)) (n := ((n : Nat) : Int)) rfl (ev_any (by kernel_rfl)) (ev_any (by kernel_rfl)) (decide_eq_true q6))) (h := ?_)
    refine F.endF [(0, .slice (some ⟨g, 0, none⟩) n c), (1, .int .i64 ((i : Nat) : Int)), (2, .slice (some ⟨vb, 0, none⟩) 1 1), (6, .slice none 0 0), (7, .int .i64 1), (8, .int .i64 ((n : Nat) : Int)), (16, .bool false), (22, .bool true)] (fun U7 => ?_)
    refine h8 _ _ ?_
    refine wp_cond_true (by kernel_rfl) ?_
    refine wp_seq_k (fun K9 h9 => ?_)
    refine W.region_plain (row := (Value.ownBlock (.slice (some ⟨g, 0, none⟩) n c))) [(0, false), (1, false), (2, true), (3, false)] (by kernel_rfl) ?_
    have s8 := SG.self w (Value.ownBlock (.slice (some ⟨g, 0, none⟩) n c))
    refine F.mv (v := .slice (some ⟨g, 0, none⟩) n c) (h := ?_)
    refine F.mv (v := .slice (some ⟨vb, 0, none⟩) 1 1) (h := ?_)
    refine W.sap (e := 50) (size := 4) (base := base) (m := 1) (v := .slice (some ⟨g, 0, none⟩) n c) (c := 1) s8 rfl rfl rfl rfl (by kernel_rfl) (by kernel_rfl) (by kernel_rfl) how hv (by kernel_rfl) (by kernel_rfl) (by omega) (by omega) (by have := ((SG.fr (B := g) (World.grownBy.refl _ _) s8 (fun kq e => .inl (Option.some.inj e).symm))).size; omega) (.inl rfl) (fun g9 cap10 w11 ho12 hg13 hat14 hlt15 s16 => ?_)
    refine F.nx ?_
    have nb17 : Nb vb (.slice (some ⟨g9, 0, none⟩) (n + 1) cap10) := nb_app hnb (Nat.lt_of_lt_of_le (blk_lt hv) (s8).size) hat14
    have ho12 := own_snocP (x := x) ho12
    refine F.as (v := .slice (some ⟨g9, 0, none⟩) (n + 1) cap10) (h := ?_)
    refine F.endF [(0, .slice (some ⟨g, 0, none⟩) n c), (1, .int .i64 ((i : Nat) : Int)), (2, .slice (some ⟨vb, 0, none⟩) 1 1), (6, .slice (some ⟨g9, 0, none⟩) (n + 1) cap10), (7, .int .i64 1), (8, .int .i64 ((n : Nat) : Int)), (16, .bool false), (22, .bool true)] (fun U18 => ?_)
    have hv := SG.blk s16 hv hnb
    have c19 := (SG.fr (B := g) (World.grownBy.refl _ _) s16 (fun kq e => .inl (Option.some.inj e).symm))
    refine h9 _ _ ?_
    refine wp_ret ?_
    try simp only [Exit.then]
    refine ret1 (v := .slice (some ⟨g9, 0, none⟩) (n + 1) cap10) rfl (by kernel_rfl) ?_
    have hpl := ins_end (x := x) hl (by omega : (i : Int) = (n : Int))
    refine ⟨_, _, rfl, by rw [← hpl]; exact ho12, c19, ?_⟩
    first | exact hat3 (by assumption) | (rename_i hat9; exact hat3 hat9) | (show _ ∨ _; simp_all [Value.ownBlock])
  · refine F.q (v := .bool false) (hr := (r_eql (m := ((i : Nat) : Int)) (n := ((n : Nat) : Int)) rfl (ev_any (by kernel_rfl)) (ev_any (by kernel_rfl)) (decide_eq_false q6))) (h := ?_)
    refine F.endF [(0, .slice (some ⟨g, 0, none⟩) n c), (1, .int .i64 ((i : Nat) : Int)), (2, .slice (some ⟨vb, 0, none⟩) 1 1), (6, .slice none 0 0), (7, .int .i64 1), (8, .int .i64 ((n : Nat) : Int)), (16, .bool false), (22, .bool false)] (fun U20 => ?_)
    refine h8 _ _ ?_
    refine wp_cond_false (by kernel_rfl) ?_
    refine wp_skip ?_
    refine h7 _ _ ?_
    refine wp_seq_k (fun K10 h10 => ?_)
    refine wp_seq_k (fun K11 h11 => ?_)
    refine W.region_quiet [(0, false), (1, false), (2, false), (3, false), (4, false), (5, false)] (by kernel_rfl) ?_
    refine F.mv (v := .int .i64 ((n : Nat) : Int)) (h := ?_)
    refine F.mv (v := .int .i64 1) (h := ?_)
    refine F.q (v := .int .i64 ((n + 1 : Nat) : Int)) (hr := (r_add (m := ((n : Nat) : Int)) (n := 1) (z := ((n + 1 : Nat) : Int)) rfl (ev_any (by kernel_rfl)) (ev_any (by kernel_rfl)) (by omega) (by omega))) (h := ?_)
    refine F.mv (v := .slice (some ⟨g, 0, none⟩) n c) (h := ?_)
    refine F.q (v := .int .i64 ((c : Nat) : Int)) (hr := (r_capS (A := (some ⟨g, 0, none⟩)) (n := n) (c := c) rfl (ev_any (by kernel_rfl)) (by kernel_rfl))) (h := ?_)
    by_cases q21 : (((n + 1 : Nat) : Int) : Int) > (((c : Nat) : Int) : Int)
    · have hrl : (pipesV (ps.drop i)).length = (n - i) * 4 := by rw [ins_len, List.length_drop, hl]
      have htk : cur.toList.take (i * 4) = pipesV (ps.take i) := by rw [ins_take, ← hct, List.take_take, Nat.min_eq_left (by omega)]
      have hdr : (cur.toList.take (n * 4)).drop (i * 4) = pipesV (ps.drop i) := by rw [hct, ← ins_drop]
      have hin : i < n := by omega
      refine F.q (v := .bool true) (hr := (r_gtr (m := ((n + 1 : Nat) : Int)) (n := ((c : Nat) : Int)) rfl (ev_any (by kernel_rfl)) (ev_any (by kernel_rfl)) (decide_eq_true q21))) (h := ?_)
      refine F.endF [(0, .slice (some ⟨g, 0, none⟩) n c), (1, .int .i64 ((i : Nat) : Int)), (2, .slice (some ⟨vb, 0, none⟩) 1 1), (6, .slice none 0 0), (7, .int .i64 1), (8, .int .i64 ((n : Nat) : Int)), (16, .bool false), (22, .bool false), (31, .bool true)] (fun U22 => ?_)
      refine h11 _ _ ?_
      refine wp_cond_true (by kernel_rfl) ?_
      refine wp_seq_k (fun K12 h12 => ?_)
      refine W.region_plain (row := (Value.ownBlock (.slice (some ⟨g, 0, none⟩) n c))) [(0, false), (1, false), (2, false), (3, false), (4, false), (5, false), (6, false), (7, false), (8, true), (9, false)] (by kernel_rfl) ?_
      have s23 := SG.self w (Value.ownBlock (.slice (some ⟨g, 0, none⟩) n c))
      refine F.mv (v := .slice (some ⟨g, 0, none⟩) n c) (h := ?_)
      refine F.mv (v := .int .i64 ((i : Nat) : Int)) (h := ?_)
      refine F.q (v := .slice (some ⟨g, 0, none⟩) i c) (hr := (r_sliceTo (A := (some ⟨g, 0, none⟩)) (n := n) (c := c) (k := i) (size := 4) rfl (ev_any (by kernel_rfl)) (ev_any (by kernel_rfl)) (by kernel_rfl) (by omega))) (h := ?_)
      refine F.mv (v := .int .i64 ((n : Nat) : Int)) (h := ?_)
      refine F.mv (v := .int .i64 1) (h := ?_)
      refine F.q (v := .int .i64 ((n + 1 : Nat) : Int)) (hr := (r_add (m := ((n : Nat) : Int)) (n := 1) (z := ((n + 1 : Nat) : Int)) rfl (ev_any (by kernel_rfl)) (ev_any (by kernel_rfl)) (by omega) (by omega))) (h := ?_)
      refine F.mv (v := .int .i64 ((i : Nat) : Int)) (h := ?_)
      refine F.q (v := .int .i64 ((n + 1 - i : Nat) : Int)) (hr := (r_sub (m := ((n + 1 : Nat) : Int)) (n := ((i : Nat) : Int)) (z := ((n + 1 - i : Nat) : Int)) rfl (ev_any (by kernel_rfl)) (ev_any (by kernel_rfl)) (by omega) (by omega))) (h := ?_)
      obtain ⟨c9, cur9, hr9, hs9, hc9, hm9, ht9⟩ := run_zeros w 3 27 .i64 (by kernel_rfl) g i c (n + 1 - i) cur hh hcs (by omega) (by omega) (by omega) (by omega)
      have hn9 : i + (n + 1 - i) = n + 1 := by omega
      rw [hn9] at hr9 hc9
      have s25 := SG.of_grown s23 (grown_da w (.cells cur9 50) (some g)) (.inl rfl)
      refine W.lv (v := .slice (some ⟨w.heap.size, 0, none⟩) (n + 1) c9) (w' := w.drew.alloc (.cells cur9 50)) rfl (by kernel_rfl) rfl (run_appendOp (x := .slice (some ⟨g, 0, none⟩) i c) (y := .int .i64 ((n + 1 - i : Nat) : Int)) rfl (by kernel_rfl) (by kernel_rfl) hr9) s25 ?_
      refine F.nx ?_
      have hx9 := da_new w (.cells cur9 50)
      have ho9 : (w.drew.alloc (.cells cur9 50)).heap[g]? = some (.cells cur 50 (0, 0)) := (Below.heap_alloc w.drew _ g (blk_lt hh)).trans hh
      have hlg : g < w.heap.size := blk_lt hh
      have hlv : vb < w.heap.size := blk_lt hv
      have hb8 := ((SG.fr (B := g) (World.grownBy.refl _ _) s23 (fun kq e => .inl (Option.some.inj e).symm))).size
      obtain ⟨g9, hg9⟩ : ∃ g9, g9 = w.heap.size := ⟨_, rfl⟩
      have hb9 : w.heap.size ≤ g9 := by rw [hg9]; exact hb8
      rw [← hg9] at hx9 hlg hlv ⊢
      obtain ⟨w24, hw9⟩ : ∃ w2, w2 = w.drew.alloc (.cells cur9 50) := ⟨_, rfl⟩
      rw [← hw9] at hx9 ho9 s25 ⊢
      clear hw9 hr9
      have how9 := own_shut (n := n + 1) hb9 hx9 hc9 hm9 hs9 rfl (by rw [List.length_take, Array.length_toList, hs9]; omega)
      have nbv : Nb vb (.slice (some ⟨g9, 0, none⟩) (n + 1) c9) := fun e => by have := Option.some.inj e; simp only at this; omega
      have nbo : Nb g (.slice (some ⟨g9, 0, none⟩) (n + 1) c9) := fun e => by have := Option.some.inj e; simp only at this; omega
      refine F.as (v := .slice (some ⟨g9, 0, none⟩) (n + 1) c9) (h := ?_)
      refine F.endF [(0, .slice (some ⟨g, 0, none⟩) n c), (1, .int .i64 ((i : Nat) : Int)), (2, .slice (some ⟨vb, 0, none⟩) 1 1), (6, .slice none 0 0), (7, .int .i64 1), (8, .int .i64 ((n : Nat) : Int)), (9, .slice (some ⟨g9, 0, none⟩) (n + 1) c9), (16, .bool false), (22, .bool false), (31, .bool true)] (fun U26 => ?_)
      have hv := SG.blk s25 hv hnb
      have c27 := (SG.fr (B := g) (World.grownBy.refl _ _) s25 (fun kq e => .inl (Option.some.inj e).symm))
      refine h12 _ _ ?_
      refine wp_seq_k (fun K13 h13 => ?_)
      refine W.region_plain (row := (Value.ownBlock (.slice (some ⟨g9, 0, none⟩) (n + 1) c9))) [(0, false), (1, false), (2, false), (3, false), (4, true)] (by kernel_rfl) ?_
      have s28 := SG.self w24 (Value.ownBlock (.slice (some ⟨g9, 0, none⟩) (n + 1) c9))
      refine F.mv (v := .slice (some ⟨g9, 0, none⟩) (n + 1) c9) (h := ?_)
      refine F.mv (v := .int .i64 ((i : Nat) : Int)) (h := ?_)
      have hsf29 : sFrom (some ⟨g9, 0, none⟩) c9 (i) 4 = some ⟨g9, (i) * 4, none⟩ := by unfold sFrom; rw [if_neg (by omega)]; show some (Addr.add ⟨g9, 0, none⟩ ((i) * 4)) = _; rw [Addr.add_lit, Nat.zero_add]
      refine F.q (v := .slice (some ⟨g9, (i) * 4, none⟩) ((n + 1) - (i)) (c9 - (i))) (hr := (r_sliceFrome (A := (some ⟨g9, 0, none⟩)) (n := (n + 1)) (c := c9) (k := i) (size := 4) rfl (ev_any (by kernel_rfl)) (ev_any (by kernel_rfl)) (by kernel_rfl) (by omega) hsf29)) (h := ?_)
      refine F.mv (v := .slice (some ⟨vb, 0, none⟩) 1 1) (h := ?_)
      obtain ⟨cur32, hc33⟩ : ∃ cur32 : Array Value, cur32 = (spl cur9.toList ((i) * 4) (x.vals)).toArray := ⟨_, rfl⟩
      have s31 := SG.of_grown s28 (grown_row (w := w24) (g := g9) (cs := cur32)) (.inl rfl)
      refine W.lv (v := .int .i64 ((Nat.min (1) (n + 1 - (i)) : Nat) : Int)) (w' := w24.setRow g9 cur32) rfl (by kernel_rfl) rfl (run_copyOp (x := .slice (some ⟨g9, (i) * 4, none⟩) (n + 1 - (i)) (c9 - (i))) (y := .slice (some ⟨vb, 0, none⟩) (1) (1)) rfl (by kernel_rfl) (by kernel_rfl) (by rw [hc33]; exact run_copy_blk _ _ _ _ 50 g9 ((i) * 4) _ _ ⟨vb, 0, none⟩ _ _ 4 (x.vals) cur9 _ (by kernel_rfl) (by kernel_rfl) (by rw [x_len, show Nat.min (1) (n + 1 - (i)) = 1 from by show min (1) (n + 1 - (i)) = 1; rw [Nat.min_def]; split <;> omega]) (fun j u hj => by rw [Addr.add_lit, Nat.zero_add]; exact blk_cell (j := j) (SG.blk s28 hv nbv) (by simpa [Pp.vals] using hj)) hx9 (by rw [x_len, hs9]; omega) (x_one x))) s31 ?_
      refine F.nx ?_
      have hx34 : (w24.setRow g9 cur32).heap[g9]? = some (.cells cur32 50 (0, 0)) := setRow_heap w24 g9 cur9 cur32 50 (0, 0) hx9
      have hs35 : cur32.size = c9 * 4 := by rw [hc33, List.size_toArray, spl_len (by rw [x_len, Array.length_toList, hs9]; omega), Array.length_toList, hs9]
      obtain ⟨w30, hw9⟩ : ∃ w2, w2 = w24.setRow g9 cur32 := ⟨_, rfl⟩
      rw [← hw9] at hx34 s31 ⊢
      clear hw9
      have ho36 := own_shut (n := n + 1) hb9 hx34 (by omega) hm9 hs35 rfl (by rw [List.length_take, Array.length_toList, hs35]; omega)
      refine F.endF [(0, .slice (some ⟨g, 0, none⟩) n c), (1, .int .i64 ((i : Nat) : Int)), (2, .slice (some ⟨vb, 0, none⟩) 1 1), (6, .slice none 0 0), (7, .int .i64 1), (8, .int .i64 ((n : Nat) : Int)), (9, .slice (some ⟨g9, 0, none⟩) (n + 1) c9), (16, .bool false), (22, .bool false), (31, .bool true)] (fun U37 => ?_)
      have hv := SG.blk s31 hv nbv
      have ho9 := SG.blk s31 ho9 nbo
      have c38 := (SG.fr (B := g) c27 s31 (fun kq e => .inr (World.ownsRow.lt how9 kq e).1))
      refine h13 _ _ ?_
      refine wp_seq_k (fun K14 h14 => ?_)
      refine W.region_sch (row := (Value.ownBlock (.slice (some ⟨g9, 0, none⟩) (n + 1) c9))) (Sch.of [(0, false), (1, false), (2, false), (3, false), (4, false), (5, false), (6, false), (7, false), (8, true)]) (by kernel_rfl) (by kernel_rfl) (fun _ d _ _ _ h => by cases d <;> exact h) (by kernel_rfl) (fun w39 e40 s41 => ?_)
      have ho42 := own_heap ho36 e40
      refine F.mv (v := .slice (some ⟨g9, 0, none⟩) (n + 1) c9) (h := ?_)
      refine F.mv (v := .int .i64 ((i : Nat) : Int)) (h := ?_)
      refine F.mv (v := .int .i64 1) (h := ?_)
      refine F.q (v := .int .i64 ((i + 1 : Nat) : Int)) (hr := (r_add (m := ((i : Nat) : Int)) (n := 1) (z := ((i + 1 : Nat) : Int)) rfl (ev_any (by kernel_rfl)) (ev_any (by kernel_rfl)) (by omega) (by omega))) (h := ?_)
      have hsf43 : sFrom (some ⟨g9, 0, none⟩) c9 (i + 1) 4 = some ⟨g9, (i + 1) * 4, none⟩ := by unfold sFrom; rw [if_neg (by omega)]; show some (Addr.add ⟨g9, 0, none⟩ ((i + 1) * 4)) = _; rw [Addr.add_lit, Nat.zero_add]
      refine F.q (v := .slice (some ⟨g9, (i + 1) * 4, none⟩) ((n + 1) - (i + 1)) (c9 - (i + 1))) (hr := (r_sliceFrome (A := (some ⟨g9, 0, none⟩)) (n := (n + 1)) (c := c9) (k := i + 1) (size := 4) rfl (ev_any (by kernel_rfl)) (ev_any (by kernel_rfl)) (by kernel_rfl) (by omega) hsf43)) (h := ?_)
      refine F.mv (v := .slice (some ⟨g, 0, none⟩) n c) (h := ?_)
      refine F.mv (v := .int .i64 ((i : Nat) : Int)) (h := ?_)
      have hsf44 : sFrom (some ⟨g, 0, none⟩) c (i) 4 = some ⟨g, (i) * 4, none⟩ := by unfold sFrom; rw [if_neg (by omega)]; show some (Addr.add ⟨g, 0, none⟩ ((i) * 4)) = _; rw [Addr.add_lit, Nat.zero_add]
      refine F.q (v := .slice (some ⟨g, (i) * 4, none⟩) (n - (i)) (c - (i))) (hr := (r_sliceFrome (A := (some ⟨g, 0, none⟩)) (n := n) (c := c) (k := i) (size := 4) rfl (ev_any (by kernel_rfl)) (ev_any (by kernel_rfl)) (by kernel_rfl) (by omega) hsf44)) (h := ?_)
      have hk45 := heap_same e40 hx34
      obtain ⟨cur48, hc49⟩ : ∃ cur48 : Array Value, cur48 = (spl cur32.toList ((i + 1) * 4) (pipesV (ps.drop i))).toArray := ⟨_, rfl⟩
      have s47 := SG.of_grown s41 (grown_row (w := w39) (g := g9) (cs := cur48)) (.inl rfl)
      refine W.lv (v := .int .i64 ((Nat.min (n - (i)) (n + 1 - (i + 1)) : Nat) : Int)) (w' := w39.setRow g9 cur48) rfl (by kernel_rfl) rfl (run_copyOp (x := .slice (some ⟨g9, (i + 1) * 4, none⟩) (n + 1 - (i + 1)) (c9 - (i + 1))) (y := .slice (some ⟨g, (i) * 4, none⟩) (n - (i)) (c - (i))) rfl (by kernel_rfl) (by kernel_rfl) (by rw [hc49]; exact run_copy_blk _ _ _ _ 50 g9 ((i + 1) * 4) _ _ ⟨g, (i) * 4, none⟩ _ _ 4 (pipesV (ps.drop i)) cur32 _ (by kernel_rfl) (by kernel_rfl) (by rw [hrl, show Nat.min (n - (i)) (n + 1 - (i + 1)) = n - i from by show min (n - (i)) (n + 1 - (i + 1)) = n - i; rw [Nat.min_def]; split <;> omega]) (cells_at (SG.blk s41 ho9 nbo) hdr) hk45 (by rw [hrl, hs35]; omega) (ins_one _))) s47 ?_
      refine F.nx ?_
      have hx50 : (w39.setRow g9 cur48).heap[g9]? = some (.cells cur48 50 (0, 0)) := setRow_heap w39 g9 cur32 cur48 50 (0, 0) hk45
      have hs51 : cur48.size = c9 * 4 := by rw [hc49, List.size_toArray, spl_len (by rw [hrl, Array.length_toList, hs35]; omega), Array.length_toList, hs35]
      obtain ⟨w46, hw9⟩ : ∃ w2, w2 = w39.setRow g9 cur48 := ⟨_, rfl⟩
      rw [← hw9] at hx50 s47 ⊢
      clear hw9
      have ho52 := own_shut (n := n + 1) hb9 hx50 (by omega) hm9 hs51 rfl (by rw [List.length_take, Array.length_toList, hs51]; omega)
      refine F.endF [(0, .slice (some ⟨g, 0, none⟩) n c), (1, .int .i64 ((i : Nat) : Int)), (2, .slice (some ⟨vb, 0, none⟩) 1 1), (6, .slice none 0 0), (7, .int .i64 1), (8, .int .i64 ((n : Nat) : Int)), (9, .slice (some ⟨g9, 0, none⟩) (n + 1) c9), (16, .bool false), (22, .bool false), (31, .bool true)] (fun U53 => ?_)
      have hv := SG.blk s47 hv nbv
      have ho9 := SG.blk s47 ho9 nbo
      have c54 := (SG.fr (B := g) c38 s47 (fun kq e => .inr (World.ownsRow.lt ho36 kq e).1))
      refine h14 _ _ ?_
      refine wp_seq_k (fun K15 h15 => ?_)
      refine W.region_quiet [(0, false), (1, false)] (by kernel_rfl) ?_
      refine F.mv (v := .slice (some ⟨g9, 0, none⟩) (n + 1) c9) (h := ?_)
      refine F.as (v := .slice (some ⟨g9, 0, none⟩) (n + 1) c9) (h := ?_)
      refine F.endF [(0, .slice (some ⟨g, 0, none⟩) n c), (1, .int .i64 ((i : Nat) : Int)), (2, .slice (some ⟨vb, 0, none⟩) 1 1), (6, .slice (some ⟨g9, 0, none⟩) (n + 1) c9), (7, .int .i64 1), (8, .int .i64 ((n : Nat) : Int)), (9, .slice (some ⟨g9, 0, none⟩) (n + 1) c9), (16, .bool false), (22, .bool false), (31, .bool true)] (fun U55 => ?_)
      refine h15 _ _ ?_
      refine wp_ret ?_
      try simp only [Exit.then]
      refine ret1 (v := .slice (some ⟨g9, 0, none⟩) (n + 1) c9) rfl (by kernel_rfl) ?_
      have hfin : cur48.toList.take ((n + 1) * 4) = pipesV (ps.take i ++ x :: ps.drop i) := by rw [hc49, hc33]; exact (ins_A (L := cur9.toList) (X := x.vals) (by rw [Array.length_toList, hs9]; omega) (Nat.le_of_lt hin) (ht9.trans htk) rfl hrl).trans (ins_fin ps x i)
      exact ⟨_, _, rfl, own_shut (Nat.le_trans hbs hb9) hx50 (by omega) hm9 hs51 hfin (by rw [ins_len, List.length_append, List.length_cons, List.length_take, List.length_drop, hl]; omega), c54, (.inr (fun k e => by have := Option.some.inj e; simp only at this; omega))⟩
    · have hrl : (pipesV (ps.drop i)).length = (n - i) * 4 := by rw [ins_len, List.length_drop, hl]
      have htk : cur.toList.take (i * 4) = pipesV (ps.take i) := by rw [ins_take, ← hct, List.take_take, Nat.min_eq_left (by omega)]
      have hdr : (cur.toList.take (n * 4)).drop (i * 4) = pipesV (ps.drop i) := by rw [hct, ← ins_drop]
      have hin : i < n := by omega
      refine F.q (v := .bool false) (hr := (r_gtr (m := ((n + 1 : Nat) : Int)) (n := ((c : Nat) : Int)) rfl (ev_any (by kernel_rfl)) (ev_any (by kernel_rfl)) (decide_eq_false q21))) (h := ?_)
      refine F.endF [(0, .slice (some ⟨g, 0, none⟩) n c), (1, .int .i64 ((i : Nat) : Int)), (2, .slice (some ⟨vb, 0, none⟩) 1 1), (6, .slice none 0 0), (7, .int .i64 1), (8, .int .i64 ((n : Nat) : Int)), (16, .bool false), (22, .bool false), (31, .bool false)] (fun U56 => ?_)
      refine h11 _ _ ?_
      refine wp_cond_false (by kernel_rfl) ?_
      refine wp_skip ?_
      refine h10 _ _ ?_
      refine wp_seq_k (fun K16 h16 => ?_)
      refine W.region_quiet [(0, false), (1, false), (2, false), (3, false), (4, false), (5, false)] (by kernel_rfl) ?_
      refine F.mv (v := .slice (some ⟨g, 0, none⟩) n c) (h := ?_)
      refine F.mv (v := .int .i64 ((n : Nat) : Int)) (h := ?_)
      refine F.mv (v := .int .i64 1) (h := ?_)
      refine F.q (v := .int .i64 ((n + 1 : Nat) : Int)) (hr := (r_add (m := ((n : Nat) : Int)) (n := 1) (z := ((n + 1 : Nat) : Int)) rfl (ev_any (by kernel_rfl)) (ev_any (by kernel_rfl)) (by omega) (by omega))) (h := ?_)
      refine F.q (v := .slice (some ⟨g, 0, none⟩) (n + 1) c) (hr := (r_sliceTo (A := (some ⟨g, 0, none⟩)) (n := n) (c := c) (k := (n + 1)) (size := 4) rfl (ev_any (by kernel_rfl)) (ev_any (by kernel_rfl)) (by kernel_rfl) (by omega))) (h := ?_)
      refine F.as (v := .slice (some ⟨g, 0, none⟩) (n + 1) c) (h := ?_)
      refine F.endF [(0, .slice (some ⟨g, 0, none⟩) (n + 1) c), (1, .int .i64 ((i : Nat) : Int)), (2, .slice (some ⟨vb, 0, none⟩) 1 1), (6, .slice none 0 0), (7, .int .i64 1), (8, .int .i64 ((n : Nat) : Int)), (16, .bool false), (22, .bool false), (31, .bool false)] (fun U57 => ?_)
      refine h16 _ _ ?_
      refine wp_seq_k (fun K17 h17 => ?_)
      refine wp_seq_k (fun K18 h18 => ?_)
      refine W.region_plain (row := none) [(0, false), (1, false), (2, false), (3, false), (4, false), (5, false), (6, true), (7, false)] (by kernel_rfl) ?_
      have s58 := SG.self w none
      refine F.mv (v := .slice (some ⟨vb, 0, none⟩) 1 1) (h := ?_)
      refine F.mv (v := .slice (some ⟨g, 0, none⟩) (n + 1) c) (h := ?_)
      refine F.mv (v := .int .i64 ((i : Nat) : Int)) (h := ?_)
      refine F.mv (v := .int .i64 1) (h := ?_)
      refine F.q (v := .int .i64 ((i + 1 : Nat) : Int)) (hr := (r_add (m := ((i : Nat) : Int)) (n := 1) (z := ((i + 1 : Nat) : Int)) rfl (ev_any (by kernel_rfl)) (ev_any (by kernel_rfl)) (by omega) (by omega))) (h := ?_)
      have hsf59 : sFrom (some ⟨g, 0, none⟩) c (i + 1) 4 = some ⟨g, (i + 1) * 4, none⟩ := by unfold sFrom; rw [if_neg (by omega)]; show some (Addr.add ⟨g, 0, none⟩ ((i + 1) * 4)) = _; rw [Addr.add_lit, Nat.zero_add]
      refine F.q (v := .slice (some ⟨g, (i + 1) * 4, none⟩) ((n + 1) - (i + 1)) (c - (i + 1))) (hr := (r_sliceFrome (A := (some ⟨g, 0, none⟩)) (n := (n + 1)) (c := c) (k := i + 1) (size := 4) rfl (ev_any (by kernel_rfl)) (ev_any (by kernel_rfl)) (by kernel_rfl) (by omega) hsf59)) (h := ?_)
      refine W.lv (v := .bool false) (w' := w) rfl (by kernel_rfl) rfl (run_externOp (vs := [.slice (some ⟨vb, 0, none⟩) 1 1, .slice (some ⟨g, (i + 1) * 4, none⟩) ((n + 1) - (i + 1)) (c - (i + 1))]) rfl (by kernel_rfl) (ov_run w vb g ((i + 1) * 4) 1 1 (n + 1 - (i + 1)) (c - (i + 1)) _ cur hv hh hvg (by rw [hcs]; omega))) s58 ?_
      refine F.nx ?_
      refine F.q (v := .bool true) (hr := (r_not (b := false) rfl (ev_any (by kernel_rfl)) rfl)) (h := ?_)
      refine F.endF [(0, .slice (some ⟨g, 0, none⟩) (n + 1) c), (1, .int .i64 ((i : Nat) : Int)), (2, .slice (some ⟨vb, 0, none⟩) 1 1), (6, .slice none 0 0), (7, .int .i64 1), (8, .int .i64 ((n : Nat) : Int)), (16, .bool false), (22, .bool false), (31, .bool false), (68, .bool true)] (fun U60 => ?_)
      have hv := SG.blk s58 hv (Option.some_ne_none _)
      have c61 := (SG.fr (B := g) (World.grownBy.refl _ _) s58 (fun kq e => by cases e))
      refine h18 _ _ ?_
      refine wp_cond_true (by kernel_rfl) ?_
      refine wp_seq_k (fun K19 h19 => ?_)
      refine W.region_sch (row := (Value.ownBlock (.slice (some ⟨g, 0, none⟩) n c))) (Sch.of [(0, false), (1, false), (2, false), (3, false), (4, false), (5, false), (6, false), (7, false), (8, true)]) (by kernel_rfl) (by kernel_rfl) (fun _ d _ _ _ h => by cases d <;> exact h) (by kernel_rfl) (fun w62 e63 s64 => ?_)
      have ho65 := own_heap how e63
      refine F.mv (v := .slice (some ⟨g, 0, none⟩) (n + 1) c) (h := ?_)
      refine F.mv (v := .int .i64 ((i : Nat) : Int)) (h := ?_)
      refine F.mv (v := .int .i64 1) (h := ?_)
      refine F.q (v := .int .i64 ((i + 1 : Nat) : Int)) (hr := (r_add (m := ((i : Nat) : Int)) (n := 1) (z := ((i + 1 : Nat) : Int)) rfl (ev_any (by kernel_rfl)) (ev_any (by kernel_rfl)) (by omega) (by omega))) (h := ?_)
      have hsf66 : sFrom (some ⟨g, 0, none⟩) c (i + 1) 4 = some ⟨g, (i + 1) * 4, none⟩ := by unfold sFrom; rw [if_neg (by omega)]; show some (Addr.add ⟨g, 0, none⟩ ((i + 1) * 4)) = _; rw [Addr.add_lit, Nat.zero_add]
      refine F.q (v := .slice (some ⟨g, (i + 1) * 4, none⟩) ((n + 1) - (i + 1)) (c - (i + 1))) (hr := (r_sliceFrome (A := (some ⟨g, 0, none⟩)) (n := (n + 1)) (c := c) (k := i + 1) (size := 4) rfl (ev_any (by kernel_rfl)) (ev_any (by kernel_rfl)) (by kernel_rfl) (by omega) hsf66)) (h := ?_)
      refine F.mv (v := .slice (some ⟨g, 0, none⟩) (n + 1) c) (h := ?_)
      refine F.mv (v := .int .i64 ((i : Nat) : Int)) (h := ?_)
      have hsf67 : sFrom (some ⟨g, 0, none⟩) c (i) 4 = some ⟨g, (i) * 4, none⟩ := by unfold sFrom; rw [if_neg (by omega)]; show some (Addr.add ⟨g, 0, none⟩ ((i) * 4)) = _; rw [Addr.add_lit, Nat.zero_add]
      refine F.q (v := .slice (some ⟨g, (i) * 4, none⟩) ((n + 1) - (i)) (c - (i))) (hr := (r_sliceFrome (A := (some ⟨g, 0, none⟩)) (n := (n + 1)) (c := c) (k := i) (size := 4) rfl (ev_any (by kernel_rfl)) (ev_any (by kernel_rfl)) (by kernel_rfl) (by omega) hsf67)) (h := ?_)
      have hk68 := heap_same e63 hh
      obtain ⟨cur71, hc72⟩ : ∃ cur71 : Array Value, cur71 = (spl cur.toList ((i + 1) * 4) (pipesV (ps.drop i))).toArray := ⟨_, rfl⟩
      have s70 := SG.of_grown s64 (grown_row (w := w62) (g := g) (cs := cur71)) (.inl rfl)
      refine W.lv (v := .int .i64 ((Nat.min (n + 1 - (i)) (n + 1 - (i + 1)) : Nat) : Int)) (w' := w62.setRow g cur71) rfl (by kernel_rfl) rfl (run_copyOp (x := .slice (some ⟨g, (i + 1) * 4, none⟩) (n + 1 - (i + 1)) (c - (i + 1))) (y := .slice (some ⟨g, (i) * 4, none⟩) (n + 1 - (i)) (c - (i))) rfl (by kernel_rfl) (by kernel_rfl) (by rw [hc72]; exact run_copy_blk _ _ _ _ 50 g ((i + 1) * 4) _ _ ⟨g, (i) * 4, none⟩ _ _ 4 (pipesV (ps.drop i)) cur _ (by kernel_rfl) (by kernel_rfl) (by rw [hrl, show Nat.min (n + 1 - (i)) (n + 1 - (i + 1)) = n - i from by show min (n + 1 - (i)) (n + 1 - (i + 1)) = n - i; rw [Nat.min_def]; split <;> omega]) (cells_at hk68 hdr) hk68 (by rw [hrl, hcs]; omega) (ins_one _))) s70 ?_
      refine F.nx ?_
      have hx73 : (w62.setRow g cur71).heap[g]? = some (.cells cur71 50 (0, 0)) := setRow_heap w62 g cur cur71 50 (0, 0) hk68
      have hs74 : cur71.size = c * 4 := by rw [hc72, List.size_toArray, spl_len (by rw [hrl, Array.length_toList, hcs]; omega), Array.length_toList, hcs]
      obtain ⟨w69, hw9⟩ : ∃ w2, w2 = w62.setRow g cur71 := ⟨_, rfl⟩
      rw [← hw9] at hx73 s70 ⊢
      clear hw9
      have ho75 := own_shut (n := n + 1) hb hx73 (by omega) hcm hs74 rfl (by rw [List.length_take, Array.length_toList, hs74]; omega)
      refine F.endF [(0, .slice (some ⟨g, 0, none⟩) (n + 1) c), (1, .int .i64 ((i : Nat) : Int)), (2, .slice (some ⟨vb, 0, none⟩) 1 1), (6, .slice none 0 0), (7, .int .i64 1), (8, .int .i64 ((n : Nat) : Int)), (16, .bool false), (22, .bool false), (31, .bool false), (68, .bool true)] (fun U76 => ?_)
      have hv := SG.blk s70 hv hnb
      have c77 := (SG.fr (B := g) c61 s70 (fun kq e => .inl (Option.some.inj e).symm))
      refine h19 _ _ ?_
      refine wp_seq_k (fun K20 h20 => ?_)
      refine W.region_plain (row := (Value.ownBlock (.slice (some ⟨g, 0, none⟩) (n + 1) c))) [(0, false), (1, false), (2, false), (3, false), (4, true)] (by kernel_rfl) ?_
      have s78 := SG.self w69 (Value.ownBlock (.slice (some ⟨g, 0, none⟩) (n + 1) c))
      refine F.mv (v := .slice (some ⟨g, 0, none⟩) (n + 1) c) (h := ?_)
      refine F.mv (v := .int .i64 ((i : Nat) : Int)) (h := ?_)
      have hsf79 : sFrom (some ⟨g, 0, none⟩) c (i) 4 = some ⟨g, (i) * 4, none⟩ := by unfold sFrom; rw [if_neg (by omega)]; show some (Addr.add ⟨g, 0, none⟩ ((i) * 4)) = _; rw [Addr.add_lit, Nat.zero_add]
      refine F.q (v := .slice (some ⟨g, (i) * 4, none⟩) ((n + 1) - (i)) (c - (i))) (hr := (r_sliceFrome (A := (some ⟨g, 0, none⟩)) (n := (n + 1)) (c := c) (k := i) (size := 4) rfl (ev_any (by kernel_rfl)) (ev_any (by kernel_rfl)) (by kernel_rfl) (by omega) hsf79)) (h := ?_)
      refine F.mv (v := .slice (some ⟨vb, 0, none⟩) 1 1) (h := ?_)
      obtain ⟨cur82, hc83⟩ : ∃ cur82 : Array Value, cur82 = (spl cur71.toList ((i) * 4) (x.vals)).toArray := ⟨_, rfl⟩
      have s81 := SG.of_grown s78 (grown_row (w := w69) (g := g) (cs := cur82)) (.inl rfl)
      refine W.lv (v := .int .i64 ((Nat.min (1) (n + 1 - (i)) : Nat) : Int)) (w' := w69.setRow g cur82) rfl (by kernel_rfl) rfl (run_copyOp (x := .slice (some ⟨g, (i) * 4, none⟩) (n + 1 - (i)) (c - (i))) (y := .slice (some ⟨vb, 0, none⟩) (1) (1)) rfl (by kernel_rfl) (by kernel_rfl) (by rw [hc83]; exact run_copy_blk _ _ _ _ 50 g ((i) * 4) _ _ ⟨vb, 0, none⟩ _ _ 4 (x.vals) cur71 _ (by kernel_rfl) (by kernel_rfl) (by rw [x_len, show Nat.min (1) (n + 1 - (i)) = 1 from by show min (1) (n + 1 - (i)) = 1; rw [Nat.min_def]; split <;> omega]) (fun j u hj => by rw [Addr.add_lit, Nat.zero_add]; exact blk_cell (j := j) (SG.blk s78 hv hnb) (by simpa [Pp.vals] using hj)) hx73 (by rw [x_len, hs74]; omega) (x_one x))) s81 ?_
      refine F.nx ?_
      have hx84 : (w69.setRow g cur82).heap[g]? = some (.cells cur82 50 (0, 0)) := setRow_heap w69 g cur71 cur82 50 (0, 0) hx73
      have hs85 : cur82.size = c * 4 := by rw [hc83, List.size_toArray, spl_len (by rw [x_len, Array.length_toList, hs74]; omega), Array.length_toList, hs74]
      obtain ⟨w80, hw9⟩ : ∃ w2, w2 = w69.setRow g cur82 := ⟨_, rfl⟩
      rw [← hw9] at hx84 s81 ⊢
      clear hw9
      have ho86 := own_shut (n := n + 1) hb hx84 (by omega) hcm hs85 rfl (by rw [List.length_take, Array.length_toList, hs85]; omega)
      refine F.endF [(0, .slice (some ⟨g, 0, none⟩) (n + 1) c), (1, .int .i64 ((i : Nat) : Int)), (2, .slice (some ⟨vb, 0, none⟩) 1 1), (6, .slice none 0 0), (7, .int .i64 1), (8, .int .i64 ((n : Nat) : Int)), (16, .bool false), (22, .bool false), (31, .bool false), (68, .bool true)] (fun U87 => ?_)
      have hv := SG.blk s81 hv hnb
      have c88 := (SG.fr (B := g) c77 s81 (fun kq e => .inl (Option.some.inj e).symm))
      refine h20 _ _ ?_
      refine wp_seq_k (fun K21 h21 => ?_)
      refine W.region_quiet [(0, false), (1, false)] (by kernel_rfl) ?_
      refine F.mv (v := .slice (some ⟨g, 0, none⟩) (n + 1) c) (h := ?_)
      refine F.as (v := .slice (some ⟨g, 0, none⟩) (n + 1) c) (h := ?_)
      refine F.endF [(0, .slice (some ⟨g, 0, none⟩) (n + 1) c), (1, .int .i64 ((i : Nat) : Int)), (2, .slice (some ⟨vb, 0, none⟩) 1 1), (6, .slice (some ⟨g, 0, none⟩) (n + 1) c), (7, .int .i64 1), (8, .int .i64 ((n : Nat) : Int)), (16, .bool false), (22, .bool false), (31, .bool false), (68, .bool true)] (fun U89 => ?_)
      refine h21 _ _ ?_
      refine wp_ret ?_
      try simp only [Exit.then]
      refine ret1 (v := .slice (some ⟨g, 0, none⟩) (n + 1) c) rfl (by kernel_rfl) ?_
      have hfin : cur82.toList.take ((n + 1) * 4) = pipesV (ps.take i ++ x :: ps.drop i) := by rw [hc83, hc72]; exact (ins_B (L := cur.toList) (X := x.vals) (by rw [Array.length_toList, hcs]; omega) (Nat.le_of_lt hin) htk rfl hrl).trans (ins_fin ps x i)
      exact ⟨_, _, rfl, own_shut hb hx84 (by omega) hcm hs85 hfin (by rw [ins_len, List.length_append, List.length_cons, List.length_take, List.length_drop, hl]; omega), c88, (.inl rfl)⟩

theorem InsertP_any (A : Option Addr) (n c i vb base : Nat) (ps : List Pp) (x : Pp) (w : World) (hbs : base ≤ w.heap.size) (how : w.ownsRow base 50 4 (.slice A n c) n (pipesV ps)) (hob : (Value.slice A n c).ownBlock ≠ none) (hv : w.heap[vb]? = some (.cells #[.int .i64 x.id, .int .i64 x.fr, .int .i64 x.to, .int .i64 x.sz] 50 (0, 0))) (hnb : Nb vb (.slice A n c)) (hi : i ≤ n) (hn : n ≤ 1000000) :
    Calls Try.prog 66 #[.slice A n c, .int .i64 ((i : Nat) : Int), .slice (some ⟨vb, 0, none⟩) 1 1] w fun e w' => ∃ A' c', e = .returned (.slice A' (n + 1) c') ∧ w'.ownsRow base 50 4 (.slice A' (n + 1) c') (n + 1) (pipesV (ps.take i ++ x :: ps.drop i)) ∧ w.grownBy w' (Value.slice A n c).ownBlock ∧ ((Value.slice A' (n + 1) c').ownBlock = (Value.slice A n c).ownBlock ∨ ∀ k, (Value.slice A' (n + 1) c').ownBlock = some k → w.heap.size ≤ k) := by
  have hl : ps.length = n := by have := how.1; rw [ins_len] at this; omega
  rcases how.2 with ⟨hv0, _⟩ | ⟨g, cap, cur, hv0, hb, hh, hnc, hm, hs, ht⟩
  · exact absurd (by rw [hv0]; rfl) hob
  · simp only [Value.slice.injEq] at hv0
    obtain ⟨rfl, _, rfl⟩ := hv0
    exact InsertP_some g n c i vb base cur ps x w hbs hb hh hnc hm hs ht hl hv (fun e => hnb (by rw [e]; rfl)) hi hn

end Go.Proofs.Ytmfapokolgnnhaa
