/- Made by hand in this session (NOTES.md). -/
import Derived.Test.YtbkeihhkcaihiaaDoorA0
import Derived.Test.YtbkeihhkcaihiaaDoorA1
import Derived.Test.YtbkeihhkcaihiaaDoorA2
import Derived.Test.YtbkeihhkcaihiaaDoorA11
import Derived.WalkSpells
import Derived.Maps.AppendAt
import Derived.Test.YtbkeihhkcaihiaaDoorV
import Derived.Test.YtbkeihhkcaihiaaDoorA6
import Derived.Laws.EntriesVeiled
namespace Go.Proofs.YtbkeihhkcaihiaaDoor.FnSeatings
open Go.RowKit Go.Proofs.YtbkeihhkcaihiaaDoorW.PrintWords Go.Proofs.YtbkeihhkcaihiaaDoorW.PrintLast Go.Proofs.YtbkeihhkcaihiaaDoorW.PrintMore
attribute [local go_sem] max2_int min2_int max_two min_two max_three min_three max_four min_four
set_option linter.unusedVariables false
set_option linter.unusedSimpArgs false
set_option maxHeartbeats 1000000 in
set_option maxRecDepth 100000 in
theorem clone_nil (c : Nat) (w : World) : Calls Tryd.prog 176 #[.slice none 0 c] w fun e w' => e = .returned (.slice none 0 0) ∧ w' = w := by
  have hq := fun a l c w => Lib.run_eql_slice_nil (P := Tryd.prog) w 31 3 a l c 0 0 Tryd.underlying31
  go_enter Tryd.func176, Tryd.ntmps176
  go_wp2
  go_ret
  exact ⟨rfl, rfl⟩
set_option maxHeartbeats 2000000 in
set_option maxRecDepth 100000 in
theorem clone_some (a : Addr) (c0 : Nat) (l0 : List Int) (w : World) (hr0 : Kd.C (Kd.int .i64) w (some a) l0.length l0) (hc0 : l0.length ≤ c0) (hl : l0.length < 17592186044416) :
    Calls Tryd.prog 176 #[.slice (some a) l0.length c0] w fun e w' => ∃ v0_ : Value, e = .returned (v0_) ∧ Kd.R (Kd.int .i64) 3 w' w.heap.size (fun _ => True) v0_ l0 ∧ Below w.heap.size w w' := by
  have HR0 := Aside0.mk hr0
  have HC0 := Aside0.mk hc0
  clear hr0 hc0
  have HB := Aside0.mk (Below.refl w.heap.size w)
  have LMc2 := Aside0.mk hl
  clear hl
  have hq := fun a l c w => Lib.run_eql_slice_nil (P := Tryd.prog) w 31 3 a l c 0 0 Tryd.underlying31
  go_enter Tryd.func176, Tryd.ntmps176
  go_wp2_with (first | ((with_reducible refine gate_dst (N := 5) rfl ?_); refine Kd.R_lit (Kd.int .i64) _ 3 ?hg (N := 5) ?hd (xs := ([] : List Int)) (inner := []) (ok := fun _ => True) (okp := fun _ => True) ?hr ?hp (fun _ hk => hk) trivial (Below.refl _ _) (Nat.le_refl _) (by simp) ?_; (case hd => rfl); (case hg => rfl); (case hr => first | (go_simp; done) | (go_simp; rfl)); (case hp => exact (Reps.none _ _)); intro v144 w3 ho4 hb hg_ hnew_; clear hg_ hnew_; have n0_ := Aside0.mk (Kd.R_lower ho4 (below_size zB)); have n1_ := Aside0.mk (below_step zB hb); clear HB; have HO145 := n0_; have HB := n1_; clear n0_ n1_; clear hb ho4) | ((with_reducible refine gate_builtin (b := .append) (xs := #[.tmp 5, .tmp 6]) rfl ?_); at_builtin; refine Kd.R_append_rows (Kd.int .i64) (w0 := w) w.heap.size rfl (.tmp 5) (.tmp 6) 31 3 (.int .i64 0) 8 rfl Tryd.underlying31 info3 rfl (by decide) (by omega) v144 [] l0 _ _ _ (fun _ => True) (fun _ => False) rfl rfl ?aO ?aR (fun _ _ h => h) (fun _ h => h.elim) ?aF ?aB ?aS ?aL ?_; (case aR => repeat (first | exact (Kd.C_below HR0.out HB.out) | (with_reducible refine Kd.C_alloc ?_ _) | (with_reducible refine Kd.C_drewN ?_ _) | (with_reducible refine Kd.C_drew ?_))); (case aB => exact zB); (case aF => exact (fun _ _ => trivial)); (case aO => exact (zR HO145.out)); (case aS => exact (below_size zB)); (case aL => have := LMc2.out; simp; omega); intro v147 w5 ho hb hg hat; have n0_ := Aside0.mk (hb); have n1_ := Aside0.mk (ho); clear HB; clear HO145; have HB := n0_; have HO148 := n1_; clear n0_ n1_; clear ho hb hg hat))
  go_ret
  exact ⟨_, by first | rfl | (simp [errW_none, errW_some] <;> rfl) | (simp [*, errW_none, errW_some] <;> rfl), by (with_reducible repeat (first | apply Kd.R_alloc | apply Kd.R_drewN | apply Kd.R_drew)); simpa using HO148.out, zB⟩
theorem clone_calls (A : Option Addr) (c0 : Nat) (l0 : List Int) (w : World) (hr0 : Kd.C (Kd.int .i64) w A l0.length l0) (hc0 : l0.length ≤ c0) (hl : l0.length < 17592186044416) :
    Calls Tryd.prog 176 #[.slice A l0.length c0] w fun e w' => ∃ v0_ : Value, e = .returned (v0_) ∧ Kd.R (Kd.int .i64) 3 w' w.heap.size (fun _ => True) v0_ l0 ∧ Below w.heap.size w w' := by
  cases A with
  | some a => exact clone_some a c0 l0 w hr0 hc0 hl
  | none =>
    have h0 : l0 = [] := by
      rcases Nat.eq_zero_or_pos l0.length with h | h
      · exact List.eq_nil_of_length_eq_zero h
      · obtain ⟨ad, he, _⟩ := hr0.2.2 h
        cases he
    subst h0
    exact (clone_nil c0 w).mono fun e w' ⟨he, hw⟩ => ⟨_, he, by subst hw; exact Kd.R_nil _ _ _ _ _, by subst hw; exact Below.refl _ _⟩
end Go.Proofs.YtbkeihhkcaihiaaDoor.FnSeatings

namespace Go.Proofs.YtbkeihhkcaihiaaDoor
open Go.RowKit Go.Proofs.YtbkeihhkcaihiaaDoorW.PrintWords
section
variable {P : Program} (w : World)
theorem run_append_own_two (base : Nat) (t ty e : TypeId) (i : TypeInfo) (z : Value) (size bytes : Nat) (ht : P.underlying t = some (.slice e)) (hi : P.info? e = some i) (hz : i.zero = some z)
    (hsize : i.size = size) (hby : i.bytes = bytes) (hzs : z.cells.size = size) (hsz : 0 < size)
    (v : Value) (n : Nat) (xs : List Value) (hown : w.ownsRow base e size v n xs)
    (a : Addr) (m c : Nat) (news : List Value) (hl : news.length = m * size) (hnews : ∀ j u, news[j]? = some u → w.cell? (a.add j) = some u) (h1 : ∀ u ∈ news, u.oneCell' = true)
    (h63 : n + m ≤ maxLen) (hbytes : (n + m) * bytes ≤ 140737488355328) (hbase : base ≤ w.heap.size) :
    ∃ v' w', (Builtin.append_ #[t, t] ty #[v, .slice (some a) m c]).run P w = .ok v' w' ∧ w'.ownsRow base e size v' (n + m) (xs ++ news) ∧ w.grownBy w' v.ownBlock ∧
      (∀ v2 n2 xs2, v2.ownBlock = v.ownBlock → w.ownsRow base e size v2 n2 xs2 → n2 ≤ n → w'.ownsRow base e size v2 n2 xs2) ∧ (v'.ownBlock = v.ownBlock ∨ v'.ownBlock = some w.heap.size) := by
  subst hsize
  subst hby
  have hsmall : n + m ≤ 9223372036854775807 := by simp only [maxLen] at h63; omega
  have hlen : (xs ++ news).length = (n + m) * i.size := by rw [List.length_append, hown.1, hl, Nat.add_mul]
  have grown : ∀ (old : Nat), old < n + m → ∀ (row : Option Nat),
      (w.drew.alloc (.cells (xs.toArray ++ news.toArray ++ Builtin.zeroCells z.cells (grownCap w (n + m) old e - (n + m))) e)).ownsRow base e i.size
        (.slice (some ⟨w.heap.size, 0, none⟩) (n + m) (grownCap w (n + m) old e)) (n + m) (xs ++ news) ∧
      w.grownBy (w.drew.alloc (.cells (xs.toArray ++ news.toArray ++ Builtin.zeroCells z.cells (grownCap w (n + m) old e - (n + m))) e)) row := by
    intro old ho row
    have hge := grownCap_ge w (n + m) old e
    have hcm : grownCap w (n + m) old e ≤ maxLen := grownCap_le_maxLen w (n + m) old e h63
    refine ⟨⟨hlen, .inr ⟨w.heap.size, _, _, rfl, hbase, heap_alloc_new w.drew _, hge, hcm, ?_, ?_⟩⟩, ⟨rfl, rfl, rfl, by simp, fun k hk _ => Below.heap_alloc w.drew _ k hk⟩⟩
    · simp only [Array.size_append, List.size_toArray, size_zeroCells, hzs, hown.1, hl, ← Nat.add_mul]
      congr 1
      omega
    · simp only [Array.toList_append, List.append_assoc]
      rw [← List.append_assoc, ← hlen]
      exact List.take_left
  rcases hown.2 with ⟨rfl, rfl⟩ | ⟨g, cap, cur, rfl, hbg, hg, hnc, hcm, hcs, htake⟩
  · have hx : xs = [] := List.eq_nil_of_length_eq_zero (by simpa using hown.1)
    subst hx
    by_cases hm : m = 0
    · subst hm
      have hn : news = [] := List.eq_nil_of_length_eq_zero (by simpa using hl)
      subst hn
      refine ⟨.slice none 0 0, w, ?_, World.ownsRow_nil w base e i.size, ⟨rfl, rfl, rfl, Nat.le_refl _, fun _ _ _ => rfl⟩, fun _ _ _ _ h2 _ => h2, Or.inl rfl⟩
      simp [Builtin.append_, run_underlying ht, sizeOf, typeInfo, hi, Builtin.lenOf, Builtin.firstCells, loadCells, loadCellsFrom]
    · have hr := run_append_nil (P := P) w t ty e i z ht hi hz a m c news hl hnews (by omega) (by omega) (by have hb := hbytes; simp only [Nat.zero_add] at hb; omega)
      have hgr := grown 0 (by omega) (Value.ownBlock (.slice none 0 0))
      simp only [Nat.zero_add, List.nil_append, Array.empty_append] at hgr ⊢
      exact ⟨_, _, hr, hgr.1, hgr.2, fun v2 n2 xs2 he2 h2 _ => own_move h2 (fun k hk => by rw [he2] at hk; simp [Value.ownBlock] at hk), Or.inr rfl⟩
  · by_cases hroom : n + m ≤ cap
    · have hfit : n * i.size + news.length ≤ cur.size := by rw [hl, hcs, ← Nat.add_mul]; exact Nat.mul_le_mul_right _ hroom
      have hr := run_append_room (P := P) w t ty e i ht hi g n cap cur hg a m c news hl hnews h1 hroom hfit
      refine ⟨_, _, hr, ⟨hlen, .inr ⟨g, cap, _, rfl, hbg, setRow_heap w g cur _ e _ hg, hroom, hcm, ?_, ?_⟩⟩, ⟨rfl, rfl, rfl, by simp, fun k _ hk => setRow_other w g k _ (fun e => hk (by simp [Value.ownBlock, e]))⟩,
        fun v2 n2 xs2 he2 h2 hn2 => ?_, Or.inl rfl⟩
      · simp only [List.size_toArray, List.length_append, List.length_take, List.length_drop, Array.length_toList]
        omega
      · rw [htake, ← hlen]
        exact List.take_left
      · rcases h2.2 with ⟨rfl, h0⟩ | ⟨g2, cap2, cur2, rfl, hbg2, hg2, hnc2, hcm2, hcs2, htake2⟩
        · simp [Value.ownBlock] at he2
        · have hgg : g2 = g := by simpa [Value.ownBlock] using he2
          subst hgg
          rw [hg] at hg2
          injection hg2 with hg2
          injection hg2 with hcc _ _
          subst hcc
          have hle : n2 * i.size ≤ n * i.size := Nat.mul_le_mul_right _ hn2
          have hxl : xs.length = n * i.size := hown.1
          refine ⟨h2.1, .inr ⟨g2, cap2, _, rfl, hbg, setRow_heap w g2 cur _ e _ hg, hnc2, hcm2, ?_, ?_⟩⟩
          · simp only [List.size_toArray, List.length_append, List.length_take, List.length_drop, Array.length_toList]
            omega
          · rw [htake, List.append_assoc, List.take_append_of_le_length (by omega), ← htake, List.take_take, Nat.min_eq_left hle]
            exact htake2
    · have holds : ∀ j u, xs[j]? = some u → w.cell? ((⟨g, 0, none⟩ : Addr).add j) = some u := hown.cells (g := g) rfl
      have hr := run_append_grow (P := P) w t ty e i z ht hi hz ⟨g, 0, none⟩ n cap xs hown.1 holds a m c news hl hnews (by omega) (by omega) (growslice_fits (by omega) hbytes)
      have hgr := grown cap (by omega) (Value.ownBlock (.slice (some ⟨g, 0, none⟩) n cap))
      refine ⟨_, _, hr, hgr.1, hgr.2, fun v2 n2 xs2 he2 h2 _ => own_move h2 (fun k hk => ?_), Or.inr rfl⟩
      have hkl := own_lt h2 k hk
      exact Below.heap_alloc w.drew _ k hkl
end
section
variable {P : Program} {ops : Array Oper} {o : Oper} {a : Act} {Q : Exit → Act → World → Prop} {K : Act → World → Prop}
/-- Such an append of one number, in a region whose order is drawn. -/
theorem append_two_step {w0 W : World} (base : Nat) (hw : Region.wanted o (yielded ops a.tmps) = true) (s x : Operand) (t e : TypeId) (z : Value) (bytes : Nat)
    (ho : o.op = .call { callee := .builtin .append, args := #[s, x], argTypes := #[t, t] })
    (ht : P.underlying t = some (.slice e)) (hinfo : (P.info? e).map (fun i => (i.zero, i.size, i.bytes)) = some (some z, 1, bytes)) (hz : z.cells.size = 1) (hb0 : 0 < bytes)
    (v : Value) (xs : List Int) (p : Int) (hs : a.eval s = v) (hx : a.eval x = .slice (some ⟨W.heap.size, 0, none⟩) 1 1)
    (HO : W.ownsRow base e 1 v xs.length (xs.map (Value.int .i64))) (HB : Below base w0 W) (hbase : base ≤ W.heap.size) (hl : (xs.length + 1) * bytes ≤ 140737488355328)
    (h : ∀ v1 w1, w1.ownsRow base e 1 v1 (xs ++ [p]).length ((xs ++ [p]).map (Value.int .i64)) → (∀ v2 n2 xs2, v2.ownBlock = v.ownBlock → W.ownsRow base e 1 v2 n2 xs2 → n2 ≤ xs.length → w1.ownsRow base e 1 v2 n2 xs2) → Below base w0 w1 → W.grownBy w1 v.ownBlock → (v1.ownBlock = v.ownBlock ∨ ∃ b, v1.ownBlock = some b ∧ W.heap.size ≤ b) → K (a.put o.dst v1) w1) :
    if Region.wanted o (yielded ops a.tmps) = true then Oper.wp P o a (W.alloc (.cells #[.int .i64 p] e)) K Q else K (a.put o.dst undef) (W.alloc (.cells #[.int .i64 p] e)) := by
  obtain ⟨i0, hi, hzz⟩ := Option.map_eq_some_iff.1 hinfo
  simp only [Prod.mk.injEq] at hzz
  obtain ⟨hz0, hz1, hz2⟩ := hzz
  have hlen : xs.length + 1 ≤ 140737488355328 := Nat.le_trans (Nat.le_mul_of_pos_right _ hb0) hl
  rw [if_pos hw]
  obtain ⟨v1, w1, hr, hown, hg, hold, hat⟩ := run_append_own_two (P := P) (W.alloc (.cells #[.int .i64 p] e)) base t o.type e i0 z 1 bytes ht hi hz0 hz1 hz2 hz (by omega) v xs.length (xs.map (Value.int .i64)) (HO.alloc _) ⟨W.heap.size, 0, none⟩ 1 1 [.int .i64 p] (by simp)
    (by simpa using World.news_of_block (cs := #[.int .i64 p]) (t := e) (fr := (0, 0)) (heap_alloc_new W (.cells #[.int .i64 p] e))) (by simp [Value.oneCell']) (by simp only [maxLen]; omega) hl (by simp; omega)
  unfold Oper.wp execOp
  simp only [ho, resolve, invoke, builtin, Sem.run_bind, Sem.run_pure, Result.andThen_ok, List.map_toArray, List.map_cons, List.map_nil, hs, hx, hr]
  refine h v1 w1 (by simpa using hown) (fun v2 n2 xs2 he2 h2 hn2 => hold v2 n2 xs2 he2 (h2.alloc _) hn2) ((HB.alloc hbase _).grown hg (by simp; omega) (own_base HO)) (World.grownBy.trans (World.grownBy_alloc W _ _) hg) ?_
  rcases hat with hat | hat
  · exact .inl hat
  · exact .inr ⟨_, hat, by simp⟩
end
end Go.Proofs.YtbkeihhkcaihiaaDoor

namespace Go.Proofs.YtbkeihhkcaihiaaDoor.FnSeatings
open Go.RowKit Go.Proofs.YtbkeihhkcaihiaaDoorW.PrintWords Go.Proofs.YtbkeihhkcaihiaaDoorW.PrintLast Go.Proofs.YtbkeihhkcaihiaaDoorW.PrintMore
attribute [local go_sem] max2_int min2_int max_two min_two max_three min_three max_four min_four
set_option linter.unusedVariables false
set_option linter.unusedSimpArgs false
mutual
/-- What the closure appends to its list. -/
def fill.f : Nat → Int → Int → List Int → Int → Option (List (List Int))
  | 0, _, _, _, _ => none
  | m + 1, n, k, seats, free => if (seats.length : Int) = n then some [seats] else if (seats.length : Int) ≥ k then
      (impl_set_has.f free (seats.length : Int)).bind fun t => (impl_set_list.f 40 (if t = true then shl .u32 1 (seats.length : Int) else free)).bind fun vl => fill.l0 m n k seats free vl 0
      else (impl_set_list.f 40 free).bind fun vl => fill.l0 m n k seats free vl 0
def fill.l0 : Nat → Int → Int → List Int → Int → List Int → Int → Option (List (List Int))
  | 0, _, _, _, _, _, _ => none
  | m + 1, n, k, seats, free, vl, x => if x < (vl.length : Int) then (if 0 ≤ x then (if 0 ≤ rd vl x then ((fill.f m n k (seats ++ [rd vl x]) (Go.bits .andNot .u32 free (shl .u32 1 (rd vl x)))).bind fun a =>
      (fill.l0 m n k seats free vl (wrap64 (x + 1))).bind fun b => some (a ++ b)) else none) else none) else some []
end
def fillV (bn bo bk bf : Nat) : Value := .func (.func 175) #[] #[.pointer (some ⟨bn, 0, none⟩), .pointer (some ⟨bo, 0, none⟩), .pointer (some ⟨bk, 0, none⟩), .pointer (some ⟨bf, 0, none⟩)]
structure Boxes (w : World) (n k : Int) (bn bo bk bf : Nat) : Prop where
  hn : w.heap[bn]? = some (.cells #[.int .i64 n] 3 (0, 0))
  hk : w.heap[bk]? = some (.cells #[.int .i64 k] 3 (0, 0))
  hf : w.heap[bf]? = some (.cells #[fillV bn bo bk bf] 137 (0, 0))
theorem Boxes.kept {w w' : World} {n k : Int} {bn bo bk bf : Nat} {S : Nat → Prop} (h : Boxes w n k bn bo bk bf) (hk : Kept w w' S) (hS : ∀ j, S j → j ≠ bn ∧ j ≠ bk ∧ j ≠ bf) : Boxes w' n k bn bo bk bf :=
  ⟨blk_kept h.hn hk (fun hs => (hS _ hs).1 rfl), blk_kept h.hk hk (fun hs => (hS _ hs).2.1 rfl), blk_kept h.hf hk (fun hs => (hS _ hs).2.2 rfl)⟩
/-- What holds when the closure is called and when it comes back: the boxes, the list so far, the row of seats. -/
structure Fit (w0 : World) (n k : Int) (bn bo bk bf : Nat) (P : Nat → Prop) (vs vo : Value) (seats : List Int) (out : List (List Int)) (w : World) : Prop where
  box : Boxes w n k bn bo bk bf
  hgo : w.heap[bo]? = some (.cells #[vo] 26 (0, 0))
  row : w.ownsRow w0.heap.size 3 1 vs seats.length (seats.map (Value.int .i64))
  ho : Kd.R (Kd.slice 3 (Kd.int .i64)) 31 w w0.heap.size P vo out
  hb : Below w0.heap.size w0 w
theorem Fit.keep {w0 w w' : World} {n k : Int} {bn bo bk bf : Nat} {P S : Nat → Prop} {vs vo : Value} {seats : List Int} {out : List (List Int)} (h : Fit w0 n k bn bo bk bf P vs vo seats out w) (hk : Kept w w' S)
    (hS : ∀ j, S j → j ≠ bn ∧ j ≠ bk ∧ j ≠ bf ∧ j ≠ bo ∧ some j ≠ vs.ownBlock ∧ ¬ P j) (hb : Below w0.heap.size w0 w') : Fit w0 n k bn bo bk bf P vs vo seats out w' :=
  ⟨h.box.kept hk (fun j hj => ⟨(hS j hj).1, (hS j hj).2.1, (hS j hj).2.2.1⟩), blk_kept h.hgo hk (fun hs => (hS _ hs).2.2.2.1 rfl),
    own_move h.row (fun j hj => hk.2 j (own_lt h.row j hj) (fun hs => (hS j hs).2.2.2.2.1 hj.symm)), Kd.R_kept h.ho hk (fun j hj hs => (hS j hs).2.2.2.2.2 hj), hb⟩
theorem Fit.below {w0 w w' : World} {n k : Int} {bn bo bk bf : Nat} {P : Nat → Prop} {vs vo : Value} {seats : List Int} {out : List (List Int)} (h : Fit w0 n k bn bo bk bf P vs vo seats out w) (hb : Below w.heap.size w w') : Fit w0 n k bn bo bk bf P vs vo seats out w' :=
  h.keep (S := fun _ => False) (Kept.of_below hb _) (fun _ hj => hj.elim) (below_step h.hb hb)
theorem Fit.cell {w0 w : World} {n k : Int} {bn bo bk bf : Nat} {P : Nat → Prop} {vs vo : Value} {seats : List Int} {out : List (List Int)} (h : Fit w0 n k bn bo bk bf P vs vo seats out w) : w.cell? ⟨bo, 0, none⟩ = some vo := (blk_cell h.hgo 0).trans rfl
def FillSays (n k : Int) (bn bo bk bf : Nat) (w0 : World) (m : Nat) : Prop :=
  ∀ (seats : List Int) (free : Int) (r out : List (List Int)) (vs vo : Value) (P : Nat → Prop) (w : World),
    fill.f m n k seats free = some r → Fit w0 n k bn bo bk bf P vs vo seats out w →
    (∀ j, P j → j ≠ bn ∧ j ≠ bo ∧ j ≠ bk ∧ j ≠ bf ∧ some j ≠ vs.ownBlock) → (∀ j, vs.ownBlock = some j → j ≠ bn ∧ j ≠ bo ∧ j ≠ bk ∧ j ≠ bf) →
    out.length + r.length < 5864062014805 → seats.length + m < 17592186044416 →
    Calls Tryd.prog 175 #[vs, .int .u32 free, .pointer (some ⟨bn, 0, none⟩), .pointer (some ⟨bo, 0, none⟩), .pointer (some ⟨bk, 0, none⟩), .pointer (some ⟨bf, 0, none⟩)] w fun e w' =>
      e = .returned (.tuple #[]) ∧ ∃ vo', Fit w0 n k bn bo bk bf (fun j => P j ∨ w.heap.size ≤ j) vs vo' seats (out ++ r) w' ∧ Kept w w' (fun j => j = bo ∨ some j = vs.ownBlock ∨ P j) ∧
        (∀ v2 n2 xs2, v2.ownBlock = vs.ownBlock → w.ownsRow w0.heap.size 3 1 v2 n2 xs2 → n2 ≤ seats.length → w'.ownsRow w0.heap.size 3 1 v2 n2 xs2)
set_option maxHeartbeats 2000000 in
set_option maxRecDepth 100000 in
theorem fill_full (n k : Int) (bn bo bk bf : Nat) (w0 : World) (hge : w0.heap.size ≤ bo) (hd : bn ≠ bo ∧ bk ≠ bo ∧ bf ≠ bo) (seats : List Int) (free : Int) (out : List (List Int)) (A : Option Addr) (c : Nat) (vo : Value) (P : Nat → Prop) (w : World)
    (hn : (seats.length : Int) = n) (hfit : Fit w0 n k bn bo bk bf P (.slice A seats.length c) vo seats out w)
    (hP : ∀ j, P j → j ≠ bn ∧ j ≠ bo ∧ j ≠ bk ∧ j ≠ bf ∧ some j ≠ (Value.slice A seats.length c).ownBlock) (hv : ∀ j, (Value.slice A seats.length c).ownBlock = some j → j ≠ bn ∧ j ≠ bo ∧ j ≠ bk ∧ j ≠ bf)
    (hl1 : out.length + 1 < 5864062014805) (hl2 : seats.length < 17592186044416) :
    Calls Tryd.prog 175 #[.slice A seats.length c, .int .u32 free, .pointer (some ⟨bn, 0, none⟩), .pointer (some ⟨bo, 0, none⟩), .pointer (some ⟨bk, 0, none⟩), .pointer (some ⟨bf, 0, none⟩)] w fun e w' =>
      e = .returned (.tuple #[]) ∧ ∃ vo', Fit w0 n k bn bo bk bf (fun j => P j ∨ w.heap.size ≤ j) (.slice A seats.length c) vo' seats (out ++ [seats]) w' ∧ Kept w w' (fun j => j = bo ∨ some j = (Value.slice A seats.length c).ownBlock ∨ P j) ∧
        (∀ v2 n2 xs2, v2.ownBlock = (Value.slice A seats.length c).ownBlock → w.ownsRow w0.heap.size 3 1 v2 n2 xs2 → n2 ≤ seats.length → w'.ownsRow w0.heap.size 3 1 v2 n2 xs2) := by
  have hc1 : w.cell? ⟨bn, 0, none⟩ = some (.int .i64 n) := (blk_cell hfit.box.hn 0).trans rfl
  have hc2 : w.cell? ⟨bo, 0, none⟩ = some vo := (blk_cell hfit.hgo 0).trans rfl
  have HF := Aside0.mk hfit
  have HP := Aside0.mk hP
  have HV := Aside0.mk hv
  have HD := Aside0.mk hd
  have HG := Aside0.mk hge
  have L1 := Aside0.mk hl1
  have L2 := Aside0.mk hl2
  clear hfit hP hv hd hge hl1 hl2
  subst hn
  go_enter Tryd.func175, Tryd.ntmps175
  go_wp2
  have HF1 : Aside0 (Fit w0 (↑seats.length) k bn bo bk bf P (.slice A seats.length c) vo seats out w.drew) := ⟨⟨⟨HF.out.box.hn, HF.out.box.hk, HF.out.box.hf⟩, HF.out.hgo, own_move HF.out.row (fun _ _ => rfl), Kd.R_drew HF.out.ho, below_drew1 HF.out.hb⟩⟩
  have HK1 : Aside0 (Kept w w.drew (fun j => j = bo ∨ some j = (Value.slice A seats.length c).ownBlock ∨ P j)) := ⟨Kept.refl w _⟩
  have HQ1 : Aside0 (∀ v2 n2 xs2, v2.ownBlock = (Value.slice A seats.length c).ownBlock → w.ownsRow w0.heap.size 3 1 v2 n2 xs2 → w.drew.ownsRow w0.heap.size 3 1 v2 n2 xs2) := ⟨fun _ _ _ _ h2 => own_move h2 (fun _ _ => rfl)⟩
  refine start_ (n := 6) (S := fun w' => w'.cell? ⟨bo, 0, none⟩ = some vo) (ds := [5]) #[false, false, false, false, false, false] (by kernel_rfl) rfl rfl hc2 (fun hHeld => ?_)
  generalize w.drew = w1 at hHeld HF1 HK1 HQ1 ⊢
  refine pure_ (i := 1) (N := some 18) (v := ?_) (a' := ?_) #[false, true, false, false, false, false] rfl rfl (by kernel_rfl) (fun _ _ _ h => h) (Or.inl ⟨by rfl, ?_⟩) ?_ ?_
  rotate_left
  · intro w'
    go_simp
    with_reducible rfl
  rotate_left
  · simp only [Act.put, List.setIfInBounds_toArray, List.set_cons_zero, List.set_cons_succ, i64_w, i32_w]
    rfl
  refine take_ (i := 0) (N := some 17) (v := ?_) (a' := ?_) #[true, true, false, false, false, false] rfl rfl (by kernel_rfl) (fun _ _ _ h => h) (Or.inl ⟨by rfl, ?_⟩) hHeld ?_ ?_
  rotate_left
  · intro w' s0
    go_simp
    with_reducible rfl
  rotate_left
  · simp only [Act.put, List.setIfInBounds_toArray, List.set_cons_zero, List.set_cons_succ, i64_w, i32_w]
    rfl
  refine one_ (i := 2) (N := some 19) #[true, true, true, false, false, false] rfl rfl (by kernel_rfl) (by decide) (fun K hK => ?_)
  refine goes_ Tryd.func176 (by kernel_rfl) rfl #[.slice A seats.length c] (by rfl) rfl rfl (by (try simp only [List.map_toArray, List.map_cons, List.map_nil]); first | done | rfl) ?_
  have hro : Kd.R (Kd.int .i64) 3 w1 w0.heap.size (fun _ => True) (.slice A seats.length c) seats := Kd.R_of_own HF1.out.row (fun _ _ => trivial)
  have hr2 := Kd.R_reads' hro
  with_reducible refine (clone_calls A c seats w1 hr2.2.2 hr2.2.1 L2.out).mono ?_
  clear hr2 hro
  rintro e w2 ⟨v0, rfl, ho0, hb⟩
  refine ⟨_, rfl, ?_⟩
  have hsz := hb.size
  have HF2 := Aside0.mk (HF1.out.below hb)
  have HK2 := Aside0.mk (HK1.out.below hb)
  have HQ2 : Aside0 (∀ v2 n2 xs2, v2.ownBlock = (Value.slice A seats.length c).ownBlock → w.ownsRow w0.heap.size 3 1 v2 n2 xs2 → w2.ownsRow w0.heap.size 3 1 v2 n2 xs2) := ⟨fun v2 n2 xs2 he h2 => own_move (HQ1.out v2 n2 xs2 he h2) (fun j hj => hb.block j (own_lt (HQ1.out v2 n2 xs2 he h2) j hj))⟩
  have HR2 : Aside0 (Kd.R (Kd.int .i64) 3 w2 w0.heap.size (fun j => w1.heap.size ≤ j) v0 seats) := ⟨Kd.R_lower (Kd.R_mono (Kd.R_bound ho0) (fun j hj => hj.2.1)) HF1.out.hb.size⟩
  obtain ⟨A0, c0, e0⟩ := Kd.R_slice HR2.out
  subst e0
  have HVO : Aside0 (∀ j, vo.ownBlock = some j → j < w1.heap.size) := ⟨fun j hj => by
    obtain ⟨inner, ho⟩ := Kd.R_own HF1.out.ho
    exact own_lt ho j hj⟩
  have HS1 : Aside0 (w.heap.size ≤ w1.heap.size) := ⟨HK1.out.1⟩
  clear HF1 HK1 HQ1 ho0 hb
  refine hK.out _ _ HF2.out.cell (fun hHeld => ?_)
  clear hK K
  refine norm_ (a' := ?_) ?_ ?_
  rotate_left
  · show Act.put _ (some 19) _ = _
    simp only [Act.put, List.setIfInBounds_toArray, List.set_cons_zero, List.set_cons_succ, i64_w, i32_w]
    rfl
  refine one_ (i := 3) (N := some 20) #[true, true, true, true, false, false] rfl rfl (by kernel_rfl) (by decide) (fun K hK => ?_)
  refine value_ (v := .slice (some ⟨w2.heap.size, 0, none⟩) 1 1) (w1 := w2.alloc (.cells #[.slice A0 seats.length c0] 31)) (by rfl) rfl (by first | (go_simp; done) | (go_simp; rfl)) ?_
  refine hK.out _ _ (Fit.cell (Fit.below HF2.out (below_alloc (Below.refl _ _) _))) (fun hHeld => ?_)
  clear hK K
  refine norm_ (a' := ?_) ?_ ?_
  rotate_left
  · show Act.put _ (some 20) _ = _
    simp only [Act.put, List.setIfInBounds_toArray, List.set_cons_zero, List.set_cons_succ, i64_w, i32_w]
    rfl
  refine one_ (i := 4) (N := some 21) #[true, true, true, true, true, false] rfl rfl (by kernel_rfl) (by decide) (fun K hK => ?_)
  refine Kd.R_append_step (Kd.slice 3 (Kd.int .i64)) (w0 := w0) w0.heap.size (by rfl) (.tmp 17) (.tmp 20) 26 31 (.slice none 0 0) 24 rfl Tryd.underlying26 info31 rfl (by decide) (by omega) vo out seats [.slice A0 seats.length c0] (fun j => P j ∨ w.heap.size ≤ j) (fun j => w1.heap.size ≤ j) (by rfl) (by rfl) ⟨_, rfl, HR2.out⟩ ?hokp ?hfr (Kd.R_mono HF2.out.ho (fun _ hk => .inl hk)) HF2.out.hb (Below.size HF2.out.hb) ?hlen ?_
  case hokp => exact fun j hj => ⟨.inr (Nat.le_trans HS1.out hj), fun he => by have h1 := HVO.out j he.symm; omega⟩
  case hfr => exact fun j hj => .inr (Nat.le_trans HK2.out.1 hj)
  case hlen => have := L1.out; omega
  intro v3 w3 ho hb hg hat
  have hpo : ∀ j, vo.ownBlock = some j → P j := HF2.out.ho.1
  have hgo3 : w3.heap[bo]? = some (.cells #[vo] 26 (0, 0)) := blk_grown HF2.out.hgo hg (fun he => (HP.out _ (hpo _ he.symm)).2.1 rfl)
  obtain ⟨A3, c3, e3⟩ := Kd.R_slice ho
  subst e3
  have hlt3 : ∀ j, (Value.slice A3 (out ++ [seats]).length c3).ownBlock = some j → P j ∨ w.heap.size ≤ j := ho.1
  have hS3 : Aside0 (Kept w w3 (fun j => j = bo ∨ some j = (Value.slice A seats.length c).ownBlock ∨ P j)) := ⟨Kept.of_grown hg HK2.out (fun j hj => .inl (.inr (.inr (hpo j hj))))⟩
  have hrow3 : Aside0 (∀ v2 n2 xs2, v2.ownBlock = (Value.slice A seats.length c).ownBlock → w.ownsRow w0.heap.size 3 1 v2 n2 xs2 → w3.ownsRow w0.heap.size 3 1 v2 n2 xs2) := ⟨fun v2 n2 xs2 he h2 =>
    own_move (HQ2.out v2 n2 xs2 he h2) (fun j hj => hg.block j (own_lt (HQ2.out v2 n2 xs2 he h2) j hj) (fun he2 => (HP.out j (hpo j he2.symm)).2.2.2.2 (by rw [← he, hj])))⟩
  have hbox3 : Aside0 (Boxes w3 (↑seats.length) k bn bo bk bf) := ⟨⟨blk_grown HF2.out.box.hn hg (fun he => (HP.out _ (hpo _ he.symm)).1 rfl), blk_grown HF2.out.box.hk hg (fun he => (HP.out _ (hpo _ he.symm)).2.2.1 rfl), blk_grown HF2.out.box.hf hg (fun he => (HP.out _ (hpo _ he.symm)).2.2.2.1 rfl)⟩⟩
  have HO3 := Aside0.mk ho
  have HB3 := Aside0.mk hb
  clear hpo hg hat ho hb HK2 HQ2 HF2 hlt3
  refine hK.out _ _ ((blk_cell hgo3 0).trans rfl) (fun hHeld => ?_)
  clear hK K
  refine norm_ (a' := ?_) ?_ ?_
  rotate_left
  · show Act.put _ (some 21) _ = _
    simp only [Act.put, List.setIfInBounds_toArray, List.set_cons_zero, List.set_cons_succ, i64_w, i32_w]
    rfl
  refine last_ (i := 5) (N := none) #[true, true, true, true, true, true] rfl rfl (by kernel_rfl) (by decide) (fun K hK => ?_)
  have hc3 : w3.cell? ⟨bo, 0, none⟩ = some vo := (blk_cell hgo3 0).trans rfl
  have hf3 : w3.frozen? ⟨bo, 0, none⟩ = false := blk_frozen hgo3 0
  refine skip_ (w1 := w3.setCell ⟨bo, 0, none⟩ (.slice A3 (out ++ [seats]).length c3)) (by rfl) rfl (by first | (go_simp; done) | (go_simp; rfl)) ?_
  refine hK.out _ _ ?_
  refine done_ (by kernel_rfl) ?_
  try go_wp2
  refine bodyPost_ret (results_none rfl _ _ _) rfl ?_
  have hne : ∀ j, j ≠ bo → (w3.setCell ⟨bo, 0, none⟩ (.slice A3 (out ++ [seats]).length c3)).heap[j]? = w3.heap[j]? := fun j hj => Below.heap_setCell w3 _ _ j hj
  have hgo0 : bo < w.heap.size := blk_lt HF.out.hgo
  have hpg : ∀ j, (P j ∨ w.heap.size ≤ j) → j ≠ bo := fun j hj => hj.elim (fun h => (HP.out j h).2.1) (fun h => by omega)
  refine ⟨rfl, _, ⟨⟨(hne bn HD.out.1).trans hbox3.out.hn, (hne bk HD.out.2.1).trans hbox3.out.hk, (hne bf HD.out.2.2).trans hbox3.out.hf⟩, blk_set hgo3 0 _,
    own_move (hrow3.out _ _ _ rfl HF.out.row) (fun j hj => hne j (HV.out j hj).2.1), Kd.R_far HO3.out (fun j hj => hpg j hj) _, Below.setCell HB3.out HG.out _⟩, hS3.out.setCell (.inl (.inl rfl)) _, ?_⟩
  intro v2 n2 xs2 he h2 _
  exact own_move (hrow3.out v2 n2 xs2 he h2) (fun j hj => hne j (HV.out j (he ▸ hj)).2.1)
end Go.Proofs.YtbkeihhkcaihiaaDoor.FnSeatings

namespace Go.Proofs.YtbkeihhkcaihiaaDoor.FnSeatings
open Go.RowKit Go.Proofs.YtbkeihhkcaihiaaDoorW.PrintWords Go.Proofs.YtbkeihhkcaihiaaDoorW.PrintLast Go.Proofs.YtbkeihhkcaihiaaDoorW.PrintMore
attribute [local go_sem] max2_int min2_int max_two min_two max_three min_three max_four min_four
set_option linter.unusedVariables false
set_option linter.unusedSimpArgs false
theorem shl_nat (i : Nat) : shl .u32 1 (i : Int) = 2 ^ min i 32 % 4294967296 := by
  show IntKind.u32.wrap (1 * 2 ^ min (Int.toNat (i : Int)) 32) = _
  rw [wrap_u32n, Int.toNat_natCast, Int.one_mul]
set_option maxHeartbeats 2000000 in
set_option maxRecDepth 100000 in
theorem fill_more (n k : Int) (bn bo bk bf : Nat) (w0 : World) (hT : TabT w0) (hge : w0.heap.size ≤ bo) (hd : bn ≠ bo ∧ bk ≠ bo ∧ bf ≠ bo) (m : Nat) (ih : FillSays n k bn bo bk bf w0 m) (hm : ∀ m', m' ≤ m → FillSays n k bn bo bk bf w0 m')
    (seats : List Int) (free : Int) (r out : List (List Int)) (A : Option Addr) (c : Nat) (vo : Value) (P : Nat → Prop) (w : World)
    (hn : ¬ (seats.length : Int) = n) (h : fill.f (m + 1) n k seats free = some r) (hfit : Fit w0 n k bn bo bk bf P (.slice A seats.length c) vo seats out w)
    (hP : ∀ j, P j → j ≠ bn ∧ j ≠ bo ∧ j ≠ bk ∧ j ≠ bf ∧ some j ≠ (Value.slice A seats.length c).ownBlock) (hv : ∀ j, (Value.slice A seats.length c).ownBlock = some j → j ≠ bn ∧ j ≠ bo ∧ j ≠ bk ∧ j ≠ bf)
    (hl1 : out.length + r.length < 5864062014805) (hl2 : seats.length + (m + 1) < 17592186044416) :
    Calls Tryd.prog 175 #[.slice A seats.length c, .int .u32 free, .pointer (some ⟨bn, 0, none⟩), .pointer (some ⟨bo, 0, none⟩), .pointer (some ⟨bk, 0, none⟩), .pointer (some ⟨bf, 0, none⟩)] w fun e w' =>
      e = .returned (.tuple #[]) ∧ ∃ vo', Fit w0 n k bn bo bk bf (fun j => P j ∨ w.heap.size ≤ j) (.slice A seats.length c) vo' seats (out ++ r) w' ∧ Kept w w' (fun j => j = bo ∨ some j = (Value.slice A seats.length c).ownBlock ∨ P j) ∧
        (∀ v2 n2 xs2, v2.ownBlock = (Value.slice A seats.length c).ownBlock → w.ownsRow w0.heap.size 3 1 v2 n2 xs2 → n2 ≤ seats.length → w'.ownsRow w0.heap.size 3 1 v2 n2 xs2) := by
  have hc1 : w.cell? ⟨bn, 0, none⟩ = some (.int .i64 n) := (blk_cell hfit.box.hn 0).trans rfl
  have hc2 : w.cell? ⟨bk, 0, none⟩ = some (.int .i64 k) := (blk_cell hfit.box.hk 0).trans rfl
  have HF := Aside0.mk hfit
  have HP := Aside0.mk hP
  have HV := Aside0.mk hv
  have HD := Aside0.mk hd
  have HG := Aside0.mk hge
  have HT := Aside0.mk hT
  have HI := Aside0.mk ih
  have HM := Aside0.mk hm
  have L1 := Aside0.mk hl1
  have L2 := Aside0.mk hl2
  clear hfit hP hv hd hge hl1 hl2 hT ih hm
  simp only [fill.f, if_neg hn] at h
  have hnb : ((seats.length : Int) == n) = false := beq_eq_false_iff_ne.mpr hn
  clear hn
  have HC := Aside0.mk h
  clear h
  go_enter Tryd.func175, Tryd.ntmps175
  go_upto_region 4 with fail
  (try simp only [Act.put, List.setIfInBounds_toArray, List.set_cons_zero, List.set_cons_succ])
  go_cut [30] (fun v30 wc => ∃ (t : Bool), v30 = .bool t ∧ Aside0 (((impl_set_list.f 40 (if t = true then shl .u32 1 (seats.length : Int) else free)).bind fun vl => fill.l0 m n k seats free vl 0) = some r) ∧ Drawn0 w wc)
  case first =>
    have H := HC.out
    clear HC
    by_cases c1 : (seats.length : Int) ≥ k
    · rw [if_pos c1] at H
      have c1b : decide ((seats.length : Int) ≥ k) = true := decide_eq_true c1
      obtain ⟨t, ht, H⟩ := Option.bind_eq_some_iff.mp H
      have Ht := Aside0.mk ht
      have H' := Aside0.mk H
      clear ht H c1
      go_wp2_with (first | (go_at_call 177; (with_reducible refine (impl_set_has.calls free (seats.length : Int) t _ Ht.out).mono ?_); rintro e w' ⟨rfl, ⟨nd, rfl⟩⟩) | ((with_reducible refine gate_callee (f := 177) rfl ?_); refine goesL_ (some 29) rfl rfl Tryd.func177 (by kernel_rfl) rfl #[.int .u32 free, .int .i64 (seats.length : Int)] rfl (by (try simp only [List.map_toArray, List.map_cons, List.map_nil]); first | done | rfl) ?_; (with_reducible refine (impl_set_has.calls free (seats.length : Int) t _ Ht.out).mono ?_); rintro e w' ⟨rfl, ⟨nd, rfl⟩⟩; refine ⟨_, rfl, ?_⟩))
      go_meet
      case rel => exact ⟨t, rfl, H', ⟨_, rfl⟩⟩
    · rw [if_neg c1] at H
      have c1b : decide ((seats.length : Int) ≥ k) = false := decide_eq_false c1
      have H' := Aside0.mk H
      clear H c1
      go_wp2
      go_meet
      case rel => exact ⟨false, rfl, H', ⟨0, rfl⟩⟩
  case rest =>
    clear HC
    obtain ⟨t, rfl, HC, ⟨nd, rfl⟩⟩ := hcut
    go_upto_if 30 with fail
    (try simp only [Act.put, List.setIfInBounds_toArray, List.set_cons_zero, List.set_cons_succ])
    go_cut [9] (fun v9 wc => ∃ (can : Int), v9 = .int .u32 can ∧ Aside0 (((impl_set_list.f 40 can).bind fun vl => fill.l0 m n k seats free vl 0) = some r) ∧ Drawn0 w wc)
    case first =>
      have H := HC.out
      clear HC
      cases t with
      | true =>
        rw [if_pos rfl, shl_nat] at H
        have H' := Aside0.mk H
        clear H
        have p1 : 0 ≤ (seats.length : Int) := Int.natCast_nonneg _
        go_wp2
        go_meet
        case rel => exact ⟨_, rfl, H', ⟨_, rfl⟩⟩
      | false =>
        rw [if_neg (by simp)] at H
        have H' := Aside0.mk H
        clear H
        go_wp2
        go_meet
        case rel => exact ⟨_, rfl, H', ⟨_, rfl⟩⟩
    case rest =>
      clear HC
      obtain ⟨can, rfl, HC, ⟨nd2, rfl⟩⟩ := hcut
      obtain ⟨vl, hvl, hl0⟩ := Option.bind_eq_some_iff.mp HC.out
      have HVL := Aside0.mk hvl
      have HL0 := Aside0.mk hl0
      clear HC hvl hl0
      have HFD : Aside0 (Fit w0 n k bn bo bk bf P (.slice A seats.length c) vo seats out (w.drewN nd2)) := ⟨⟨⟨HF.out.box.hn, HF.out.box.hk, HF.out.box.hf⟩, HF.out.hgo, own_move HF.out.row (fun _ _ => rfl), Kd.R_drewN HF.out.ho _, pw_below_drewN HF.out.hb _⟩⟩
      have HTD : Aside0 (TabT (w.drewN nd2)) := ⟨HT.out.below HFD.out.hb⟩
      have HKD : Aside0 (Kept w (w.drewN nd2) (fun j => j = bo ∨ some j = (Value.slice A seats.length c).ownBlock ∨ P j)) := ⟨Kept.refl w _⟩
      have HQD : Aside0 (∀ v2 n2 xs2, v2.ownBlock = (Value.slice A seats.length c).ownBlock → w.ownsRow w0.heap.size 3 1 v2 n2 xs2 → n2 ≤ seats.length → (w.drewN nd2).ownsRow w0.heap.size 3 1 v2 n2 xs2) := ⟨fun _ _ _ _ h2 _ => own_move h2 (fun _ _ => rfl)⟩
      have HSD : Aside0 (w.heap.size ≤ (w.drewN nd2).heap.size) := ⟨Nat.le_refl _⟩
      generalize w.drewN nd2 = wd at HFD HTD HKD HQD HSD ⊢
      go_wp2_with (first | ((with_reducible refine gate_callee (f := 178) rfl ?_); refine goesL_ (some 34) rfl rfl Tryd.func178 (by kernel_rfl) rfl #[.int .u32 can] rfl (by (try simp only [List.map_toArray, List.map_cons, List.map_nil]); first | done | rfl) ?_; (with_reducible refine (impl_set_list.calls 40 can vl _ HTD.out HVL.out).mono ?_); rintro e w1 ⟨v1, rfl, ho, hb⟩; refine ⟨_, rfl, ?_⟩; have HO := Aside0.mk ho; have HB := Aside0.mk hb; clear ho hb; obtain ⟨A1, c1, e1⟩ := Kd.R_slice HO.out; subst e1))
      have hvlge : Aside0 (∀ j, (Value.slice A1 vl.length c1).ownBlock = some j → wd.heap.size ≤ j ∧ j < w1.heap.size) := ⟨fun j hj => ⟨(Kd.R_bound HO.out).1 j hj |>.2.1, (Kd.R_bound HO.out).1 j hj |>.2.2.1⟩⟩
      have HF1 : Aside0 (Fit w0 n k bn bo bk bf (fun j => (P j ∨ w.heap.size ≤ j) ∧ some j ≠ (Value.slice A1 vl.length c1).ownBlock) (.slice A seats.length c) vo seats out w1) := ⟨by
        have h1 := HFD.out.below HB.out
        exact ⟨h1.box, h1.hgo, h1.row, Kd.R_below (Kd.R_mono (Kd.R_bound HFD.out.ho) (fun j hj => ⟨.inl hj.1, fun he => by have h2 := hvlge.out j he.symm; have h3 := hj.2.2.1; omega⟩)) HB.out, h1.hb⟩⟩
      have HO1 : Aside0 (Kd.R (Kd.int .i64) 3 w1 w0.heap.size (fun j => some j = (Value.slice A1 vl.length c1).ownBlock) (.slice A1 vl.length c1) vl) := ⟨Kd.R_lower (Kd.R_of_own (Kd.own_of_R HO.out) (fun j hj => hj.symm)) HFD.out.hb.size⟩
      have HK1 := Aside0.mk (HKD.out.below HB.out)
      have HQ1 : Aside0 (∀ v2 n2 xs2, v2.ownBlock = (Value.slice A seats.length c).ownBlock → w.ownsRow w0.heap.size 3 1 v2 n2 xs2 → n2 ≤ seats.length → w1.ownsRow w0.heap.size 3 1 v2 n2 xs2) := ⟨fun v2 n2 xs2 he h2 hl2 => own_move (HQD.out v2 n2 xs2 he h2 hl2) (fun j hj => HB.out.block j (own_lt (HQD.out v2 n2 xs2 he h2 hl2) j hj))⟩
      have HVG : Aside0 (∀ j, (Value.slice A1 vl.length c1).ownBlock = some j → w.heap.size ≤ j) := ⟨fun j hj => Nat.le_trans HSD.out (hvlge.out j hj).1⟩
      clear HO HB HFD HTD HKD HQD HSD hvlge HVL
      go_loopg [36] m (fun kq v36 W => ∃ (x : Int) (vo2 : Value) (out2 r2 : List (List Int)), v36 = .int .i64 x ∧ Aside0 (fill.l0 kq n k seats free vl x = some r2) ∧ Aside0 (out2 ++ r2 = out ++ r) ∧ Aside0 (kq ≤ m) ∧
        Aside0 (Fit w0 n k bn bo bk bf (fun j => (P j ∨ w.heap.size ≤ j) ∧ some j ≠ (Value.slice A1 vl.length c1).ownBlock) (.slice A seats.length c) vo2 seats out2 W) ∧
        Aside0 (Kd.R (Kd.int .i64) 3 W w0.heap.size (fun j => some j = (Value.slice A1 vl.length c1).ownBlock) (.slice A1 vl.length c1) vl) ∧
        Aside0 (Kept w W (fun j => j = bo ∨ some j = (Value.slice A seats.length c).ownBlock ∨ P j)) ∧
        Aside0 (∀ v2 n2 xs2, v2.ownBlock = (Value.slice A seats.length c).ownBlock → w.ownsRow w0.heap.size 3 1 v2 n2 xs2 → n2 ≤ seats.length → W.ownsRow w0.heap.size 3 1 v2 n2 xs2))
      case atStart => exact ⟨0, vo, out, r, rfl, HL0, ⟨rfl⟩, ⟨Nat.le_refl _⟩, HF1, HO1, HK1, HQ1⟩
      case round =>
        clear HF1 HO1 HK1 HQ1 HL0
        obtain ⟨x, vo2, out2, r2, rfl, HA, HE, HKQ, HF1, HO1, HK1, HQ1⟩ := hrel
        cases gk with
        | zero => exact absurd HA.out (by simp [fill.l0])
        | succ k1 =>
          have H := HA.out
          clear HA
          simp only [fill.l0] at H
          by_cases c2 : x < (vl.length : Int)
          · rw [if_pos c2] at H
            have c2b : decide (x < (vl.length : Int)) = true := decide_eq_true c2
            clear c2
            by_cases c3 : 0 ≤ x
            · rw [if_pos c3] at H
              have c3b : decide (0 ≤ x) = true := decide_eq_true c3
              clear c3
              by_cases c4 : 0 ≤ rd vl x
              · rw [if_pos c4] at H
                have c4b := eq_true c4
                have c4c : decide (0 ≤ rd vl x) = true := decide_eq_true c4
                clear c4
                obtain ⟨ya, hya, H⟩ := Option.bind_eq_some_iff.mp H
                obtain ⟨yb, hyb, H⟩ := Option.bind_eq_some_iff.mp H
                obtain rfl := Option.some.inj H
                have HYA := Aside0.mk hya
                have HYB := Aside0.mk hyb
                clear H hya hyb
                obtain ⟨ji, hji⟩ : ∃ j_ : Int, shl .u32 1 (rd vl x) = j_ := ⟨_, rfl⟩
                have hji_ : (IntKind.u32.wrap (1 * 2 ^ min (rd vl x).toNat 32)) = ji := hji
                have hjiu : (IntKind.u32.wrap (2 ^ min (rd vl x).toNat 32)) = ji := by have h_ := hji_; rw [Int.one_mul] at h_; exact h_
                rw [hji] at HYA
                have p1 : 0 ≤ (x : Int) := of_decide_eq_true (by assumption)
                have q1 : x < (vl.length : Int) := of_decide_eq_true (by assumption)
                obtain ⟨ad, e1, hx0⟩ := Kd.at_int (Kd.R_reads' HO1.out).2.2 x p1 q1
                cases e1
                replace p1 := eq_true p1
                replace q1 := eq_true q1
                go_wp2
                have HF2 : Aside0 (Fit w0 n k bn bo bk bf (fun j => (P j ∨ w.heap.size ≤ j) ∧ some j ≠ (Value.slice (some ad) vl.length c1).ownBlock) (.slice A seats.length c) vo2 seats out2 wr.drew) := ⟨⟨⟨HF1.out.box.hn, HF1.out.box.hk, HF1.out.box.hf⟩, HF1.out.hgo, own_move HF1.out.row (fun _ _ => rfl), Kd.R_drew HF1.out.ho, below_drew1 HF1.out.hb⟩⟩
                have HO2 : Aside0 (Kd.R (Kd.int .i64) 3 wr.drew w0.heap.size (fun j => some j = (Value.slice (some ad) vl.length c1).ownBlock) (.slice (some ad) vl.length c1) vl) := ⟨Kd.R_drew HO1.out⟩
                have HK2 : Aside0 (Kept w wr.drew (fun j => j = bo ∨ some j = (Value.slice A seats.length c).ownBlock ∨ P j)) := ⟨Kept.drew HK1.out⟩
                have HQ2 : Aside0 (∀ v2 n2 xs2, v2.ownBlock = (Value.slice A seats.length c).ownBlock → w.ownsRow w0.heap.size 3 1 v2 n2 xs2 → n2 ≤ seats.length → wr.drew.ownsRow w0.heap.size 3 1 v2 n2 xs2) := ⟨fun v2 n2 xs2 he h2 hl2 => own_move (HQ1.out v2 n2 xs2 he h2 hl2) (fun _ _ => rfl)⟩
                have hcf : wr.drew.cell? ⟨bf, 0, none⟩ = some (fillV bn bo bk bf) := (blk_cell HF2.out.box.hf 0).trans rfl
                clear HF1 HO1 HK1 HQ1 hx0
                refine start_ (n := 10) (S := fun w' => w'.cell? ⟨bf, 0, none⟩ = some (fillV bn bo bk bf)) (ds := [9]) #[false, false, false, false, false, false, false, false, false, false] (by kernel_rfl) rfl rfl hcf (fun hHeld => ?_)
                clear hcf
                generalize wr.drew = w2 at hHeld HF2 HO2 HK2 HQ2 ⊢
                have hcell : Aside0 (∀ W, Below w2.heap.size w2 W → W.cell? ⟨bf, 0, none⟩ = some (fillV bn bo bk bf)) := ⟨fun W hW => (blk_cell (HF2.out.below hW).box.hf 0).trans rfl⟩
                refine pure_ (i := 1) (N := some 41) (v := ?_) (a' := ?_) #[false, true, false, false, false, false, false, false, false, false] rfl rfl (by kernel_rfl) (fun _ _ _ h => h) (Or.inl ⟨by rfl, ?_⟩) ?_ ?_
                rotate_left
                · intro w'
                  go_simp
                  with_reducible rfl
                rotate_left
                · simp only [Act.put, List.setIfInBounds_toArray, List.set_cons_zero, List.set_cons_succ, i64_w, i32_w]
                  rfl
                refine pure_ (i := 2) (N := some 42) (v := ?_) (a' := ?_) #[false, true, true, false, false, false, false, false, false, false] rfl rfl (by kernel_rfl) (fun _ _ _ h => h) (Or.inl ⟨by rfl, ?_⟩) ?_ ?_
                rotate_left
                · intro w'
                  go_simp
                  with_reducible rfl
                rotate_left
                · simp only [Act.put, List.setIfInBounds_toArray, List.set_cons_zero, List.set_cons_succ, i64_w, i32_w]
                  rfl
                refine pure_ (i := 5) (N := some 45) (v := ?_) (a' := ?_) #[false, true, true, false, false, true, false, false, false, false] rfl rfl (by kernel_rfl) (fun _ _ _ h => h) (Or.inl ⟨by rfl, ?_⟩) ?_ ?_
                rotate_left
                · intro w'
                  go_simp
                  with_reducible rfl
                rotate_left
                · simp only [Act.put, List.setIfInBounds_toArray, List.set_cons_zero, List.set_cons_succ, i64_w, i32_w]
                  rfl
                refine pure_ (i := 6) (N := some 46) (v := ?_) (a' := ?_) #[false, true, true, false, false, true, true, false, false, false] rfl rfl (by kernel_rfl) (fun _ _ _ h => h) (Or.inl ⟨by rfl, ?_⟩) ?_ ?_
                rotate_left
                · intro w'
                  go_simp
                  with_reducible rfl
                rotate_left
                · simp only [Act.put, List.setIfInBounds_toArray, List.set_cons_zero, List.set_cons_succ, i64_w, i32_w]
                  rfl
                refine pure_ (i := 7) (N := some 47) (v := ?_) (a' := ?_) #[false, true, true, false, false, true, true, true, false, false] rfl rfl (by kernel_rfl) (fun _ _ _ h => h) (Or.inl ⟨by rfl, ?_⟩) ?_ ?_
                rotate_left
                · intro w'
                  go_simp
                  with_reducible rfl
                rotate_left
                · simp only [Act.put, List.setIfInBounds_toArray, List.set_cons_zero, List.set_cons_succ, i64_w, i32_w]
                  rfl
                refine pure_ (i := 8) (N := some 48) (v := ?_) (a' := ?_) #[false, true, true, false, false, true, true, true, true, false] rfl rfl (by kernel_rfl) (fun _ _ _ h => h) (Or.inl ⟨by rfl, ?_⟩) ?_ ?_
                rotate_left
                · intro w'
                  go_simp
                  with_reducible rfl
                rotate_left
                · simp only [Act.put, List.setIfInBounds_toArray, List.set_cons_zero, List.set_cons_succ, i64_w, i32_w]
                  rfl
                refine take_ (i := 0) (N := some 40) (v := ?_) (a' := ?_) #[true, true, true, false, false, true, true, true, true, false] rfl rfl (by kernel_rfl) (fun _ _ _ h => h) (Or.inl ⟨by rfl, ?_⟩) hHeld ?_ ?_
                rotate_left
                · intro w' s0
                  go_simp
                  with_reducible rfl
                rotate_left
                · simp only [Act.put, List.setIfInBounds_toArray, List.set_cons_zero, List.set_cons_succ, i64_w, i32_w]
                  rfl
                refine one_ (i := 3) (N := some 43) #[true, true, true, true, false, true, true, true, true, false] rfl rfl (by kernel_rfl) (by decide) (fun K hK => ?_)
                refine value_ (v := .slice (some ⟨w2.heap.size, 0, none⟩) 1 1) (w1 := w2.alloc (.cells #[.int .i64 (rd vl x)] 3)) (by rfl) rfl (by first | (go_simp; done) | (go_simp; rfl)) ?_
                refine hK.out _ _ (hcell.out _ (below_alloc (Below.refl _ _) _)) (fun hHeld => ?_)
                clear hK K
                refine norm_ (a' := ?_) ?_ ?_
                rotate_left
                · show Act.put _ (some 43) _ = _
                  simp only [Act.put, List.setIfInBounds_toArray, List.set_cons_zero, List.set_cons_succ, i64_w, i32_w]
                  rfl
                refine one_ (i := 4) (N := some 44) #[true, true, true, true, true, true, true, true, true, false] rfl rfl (by kernel_rfl) (by decide) (fun K hK => ?_)
                refine append_two_step (w0 := w0) w0.heap.size (by rfl) (.tmp 41) (.tmp 43) 31 3 (.int .i64 0) 8 rfl Tryd.underlying31 info3 rfl (by omega) (.slice A seats.length c) seats (rd vl x) (by rfl) (by rfl) HF2.out.row HF2.out.hb HF2.out.hb.size ?hlen ?_
                case hlen => have := L2.out; omega
                intro v3 w3 hrow3 hkeep hb3 hg3 hat3
                obtain ⟨A3, c3', e3⟩ := Kd.R_slice (Kd.R_of_own hrow3 (fun _ _ => trivial) : Kd.R (Kd.int .i64) 3 w3 w0.heap.size (fun _ => True) v3 _)
                subst e3
                have hvs : ∀ j, (Value.slice A seats.length c).ownBlock = some j → j < w.heap.size := fun j hj => own_lt HF.out.row j hj
                have hbn : bn < w.heap.size := blk_lt HF.out.box.hn
                have hbo : bo < w.heap.size := blk_lt HF.out.hgo
                have hbk : bk < w.heap.size := blk_lt HF.out.box.hk
                have hbf : bf < w.heap.size := blk_lt HF.out.box.hf
                have hsz2 : w.heap.size ≤ w2.heap.size := HK2.out.1
                have hsz3 : w2.heap.size ≤ w3.heap.size := hg3.size
                have hvl : ∀ j, (Value.slice (some ad) vl.length c1).ownBlock = some j → w.heap.size ≤ j ∧ j < w2.heap.size := fun j hj => ⟨HVG.out j hj, ((Kd.R_bound HO2.out).1 j hj).2.2.1⟩
                have hok : ∀ j, ((P j ∨ w.heap.size ≤ j) ∧ some j ≠ (Value.slice (some ad) vl.length c1).ownBlock) → j ≠ bn ∧ j ≠ bo ∧ j ≠ bk ∧ j ≠ bf ∧ some j ≠ (Value.slice A seats.length c).ownBlock := by
                  rintro j ⟨h1 | h1, _⟩
                  · exact HP.out j h1
                  · exact ⟨by omega, by omega, by omega, by omega, fun he => by have := hvs j he.symm; omega⟩
                have h3own : ∀ j, j < w2.heap.size → some j ≠ (Value.slice A seats.length c).ownBlock → some j ≠ (Value.slice A3 (seats ++ [rd vl x]).length c3').ownBlock := by
                  intro j hj hne he
                  rcases hat3 with h1 | ⟨b, h1, h2⟩
                  · exact hne (he.trans h1)
                  · rw [h1] at he
                    injection he with he
                    omega
                have HF3 : Aside0 (Fit w0 n k bn bo bk bf (fun j => ((P j ∨ w.heap.size ≤ j) ∧ some j ≠ (Value.slice (some ad) vl.length c1).ownBlock) ∧ j < w2.heap.size) (.slice A3 (seats ++ [rd vl x]).length c3') vo2 (seats ++ [rd vl x]) out2 w3) :=
                  ⟨⟨⟨blk_grown HF2.out.box.hn hg3 (fun he => (HV.out bn he.symm).1 rfl), blk_grown HF2.out.box.hk hg3 (fun he => (HV.out bk he.symm).2.2.1 rfl), blk_grown HF2.out.box.hf hg3 (fun he => (HV.out bf he.symm).2.2.2 rfl)⟩,
                    blk_grown HF2.out.hgo hg3 (fun he => (HV.out bo he.symm).2.1 rfl), hrow3, Kd.R_grown (Kd.R_mono (Kd.R_bound HF2.out.ho) (fun j hj => ⟨hj.1, hj.2.2.1⟩)) hg3 (fun j hj => (hok j hj.1).2.2.2.2), hb3⟩⟩
                have hP3 : Aside0 (∀ j, (((P j ∨ w.heap.size ≤ j) ∧ some j ≠ (Value.slice (some ad) vl.length c1).ownBlock) ∧ j < w2.heap.size) → j ≠ bn ∧ j ≠ bo ∧ j ≠ bk ∧ j ≠ bf ∧ some j ≠ (Value.slice A3 (seats ++ [rd vl x]).length c3').ownBlock) :=
                  ⟨fun j hj => ⟨(hok j hj.1).1, (hok j hj.1).2.1, (hok j hj.1).2.2.1, (hok j hj.1).2.2.2.1, h3own j hj.2 (hok j hj.1).2.2.2.2⟩⟩
                have hv3 : Aside0 (∀ j, (Value.slice A3 (seats ++ [rd vl x]).length c3').ownBlock = some j → j ≠ bn ∧ j ≠ bo ∧ j ≠ bk ∧ j ≠ bf) := ⟨by
                  intro j hj
                  rcases hat3 with h1 | ⟨b, h1, h2⟩
                  · exact HV.out j (h1 ▸ hj)
                  · rw [h1] at hj
                    injection hj with hj
                    exact ⟨by omega, by omega, by omega, by omega⟩⟩
                have hlen3 : Aside0 (out2.length + ya.length < 5864062014805) := ⟨by
                  have h1 := congrArg List.length HE.out
                  simp only [List.length_append] at h1
                  have := L1.out
                  omega⟩
                have hlen4 : Aside0 ((seats ++ [rd vl x]).length + k1 < 17592186044416) := ⟨by
                  have := L2.out
                  have := HKQ.out
                  simp only [List.length_append, List.length_singleton]
                  omega⟩
                have hcall := Aside0.mk (HM.out k1 (by have := HKQ.out; omega) (seats ++ [rd vl x]) (Go.bits .andNot .u32 free ji) ya out2 (.slice A3 (seats ++ [rd vl x]).length c3') vo2 _ w3 HYA.out HF3.out hP3.out hv3.out hlen3.out hlen4.out)
                have hK3 : Aside0 (Kept w w3 (fun j => j = bo ∨ some j = (Value.slice A seats.length c).ownBlock ∨ P j)) := ⟨Kept.of_grown hg3 HK2.out (fun j hj => .inl (.inr (.inl hj.symm)))⟩
                have hO3 : Aside0 (Kd.R (Kd.int .i64) 3 w3 w0.heap.size (fun j => some j = (Value.slice (some ad) vl.length c1).ownBlock) (.slice (some ad) vl.length c1) vl) := ⟨Kd.R_grown HO2.out hg3 (fun j hj he => by have h1 := hvl j hj.symm; have h2 := hvs j he.symm; omega)⟩
                have hall : Aside0 (∀ w4, Kept w3 w4 (fun j => j = bo ∨ some j = (Value.slice A3 (seats ++ [rd vl x]).length c3').ownBlock ∨ (((P j ∨ w.heap.size ≤ j) ∧ some j ≠ (Value.slice (some ad) vl.length c1).ownBlock) ∧ j < w2.heap.size)) →
                    (∀ v2 n2 xs2, v2.ownBlock = (Value.slice A3 (seats ++ [rd vl x]).length c3').ownBlock → w3.ownsRow w0.heap.size 3 1 v2 n2 xs2 → n2 ≤ (seats ++ [rd vl x]).length → w4.ownsRow w0.heap.size 3 1 v2 n2 xs2) →
                    (∀ v2 n2 xs2, v2.ownBlock = (Value.slice A seats.length c).ownBlock → w2.ownsRow w0.heap.size 3 1 v2 n2 xs2 → n2 ≤ seats.length → w4.ownsRow w0.heap.size 3 1 v2 n2 xs2) ∧
                    Kept w w4 (fun j => j = bo ∨ some j = (Value.slice A seats.length c).ownBlock ∨ P j) ∧
                    Kd.R (Kd.int .i64) 3 w4 w0.heap.size (fun j => some j = (Value.slice (some ad) vl.length c1).ownBlock) (.slice (some ad) vl.length c1) vl) := ⟨by
                  intro w4 hk4 hq4
                  refine ⟨fun v2 n2 xs2 he h2 hl2 => ?_, ?_, ?_⟩
                  · have h3 := hkeep v2 n2 xs2 he h2 hl2
                    by_cases hsame : (Value.slice A3 (seats ++ [rd vl x]).length c3').ownBlock = (Value.slice A seats.length c).ownBlock
                    · exact hq4 v2 n2 xs2 (he.trans hsame.symm) h3 (by simp only [List.length_append, List.length_singleton]; omega)
                    · refine own_move h3 (fun j hj => hk4.2 j (own_lt h3 j hj) ?_)
                      rw [he] at hj
                      rintro (h4 | h4 | h4)
                      · exact (HV.out j hj).2.1 h4
                      · exact hsame (h4.symm.trans hj.symm)
                      · exact (hok j h4.1).2.2.2.2 hj.symm
                  · refine hK3.out.then_ hk4 (fun j hj => ?_)
                    rcases hj with h4 | h4 | ⟨⟨h4 | h4, _⟩, _⟩
                    · exact .inl (.inl h4)
                    · rcases hat3 with h1 | ⟨b, h1, h2⟩
                      · exact .inl (.inr (.inl (h4.trans h1)))
                      · rw [h1] at h4
                        injection h4 with h4
                        exact .inr (by omega)
                    · exact .inl (.inr (.inr h4))
                    · exact .inr h4
                  · refine Kd.R_kept hO3.out hk4 (fun j hj => ?_)
                    have h1 := hvl j hj.symm
                    rintro (h4 | h4 | h4)
                    · omega
                    · exact h3own j h1.2 (fun he => by have h2 := hvs j he.symm; omega) h4
                    · exact h4.1.2 hj⟩
                have hend : Aside0 (∀ j, ((((P j ∨ w.heap.size ≤ j) ∧ some j ≠ (Value.slice (some ad) vl.length c1).ownBlock) ∧ j < w2.heap.size) ∨ w3.heap.size ≤ j) → (P j ∨ w.heap.size ≤ j) ∧ some j ≠ (Value.slice (some ad) vl.length c1).ownBlock) := ⟨by
                  rintro j (h1 | h1)
                  · exact h1.1
                  · exact ⟨.inr (by omega), fun he => by have h2 := hvl j he.symm; omega⟩⟩
                have hrow2 := Aside0.mk HF2.out.row
                have hcell3 : w3.cell? ⟨bf, 0, none⟩ = some (fillV bn bo bk bf) := (blk_cell HF3.out.box.hf 0).trans rfl
                clear hvs hbn hbo hbk hbf hsz2 hsz3 hvl hok h3own HF3 hP3 hv3 hlen3 hlen4 hK3 hO3 hat3 hkeep hb3 hg3 hrow3 HYA HF2 HO2 HK2 hcell
                refine hK.out _ _ hcell3 (fun hHeld => ?_)
                clear hK K hcell3
                refine norm_ (a' := ?_) ?_ ?_
                rotate_left
                · show Act.put _ (some 44) _ = _
                  simp only [Act.put, List.setIfInBounds_toArray, List.set_cons_zero, List.set_cons_succ, i64_w, i32_w]
                  rfl
                refine last_ (i := 9) (N := some 49) #[true, true, true, true, true, true, true, true, true, true] rfl rfl (by kernel_rfl) (by decide) (fun K hK => ?_)
                refine call_ 175 #[.slice A3 (seats ++ [rd vl x]).length c3', .int .u32 (Go.bits .andNot .u32 free ji), .pointer (some ⟨bn, 0, none⟩), .pointer (some ⟨bo, 0, none⟩), .pointer (some ⟨bk, 0, none⟩), .pointer (some ⟨bf, 0, none⟩)] (by rfl) rfl ?hrun ?_
                case hrun =>
                  have he := enters_ (P := Tryd.prog) (f := 175) Tryd.func175 (by kernel_rfl) rfl #[.slice A3 (seats ++ [rd vl x]).length c3', .int .u32 (Go.bits .andNot .u32 free ji), .pointer (some ⟨bn, 0, none⟩), .pointer (some ⟨bo, 0, none⟩), .pointer (some ⟨bk, 0, none⟩), .pointer (some ⟨bf, 0, none⟩)] w3
                  unfold execOp
                  simp [resolve, Deferred.ofValue, invoke, Act.eval, fillV, he]
                refine hcall.out.mono ?_
                rintro e w4 ⟨rfl, vo4, HF4, HK4, HQ4⟩
                obtain ⟨HQ5, HK5, HO5⟩ := hall.out w4 HK4 HQ4
                have HF6 : Aside0 (Fit w0 n k bn bo bk bf (fun j => (P j ∨ w.heap.size ≤ j) ∧ some j ≠ (Value.slice (some ad) vl.length c1).ownBlock) (.slice A seats.length c) vo4 seats (out2 ++ ya) w4) := ⟨⟨HF4.box, HF4.hgo, HQ5 _ _ _ rfl hrow2.out (Nat.le_refl _), Kd.R_mono HF4.ho hend.out, HF4.hb⟩⟩
                have HK6 := Aside0.mk HK5
                have HO6 := Aside0.mk HO5
                have HQ6 : Aside0 (∀ v2 n2 xs2, v2.ownBlock = (Value.slice A seats.length c).ownBlock → w.ownsRow w0.heap.size 3 1 v2 n2 xs2 → n2 ≤ seats.length → w4.ownsRow w0.heap.size 3 1 v2 n2 xs2) := ⟨fun v2 n2 xs2 he h2 hl2 => HQ5 v2 n2 xs2 he (HQ2.out v2 n2 xs2 he h2 hl2) hl2⟩
                clear HF4 HK4 HQ4 HQ5 HK5 HO5 hall hend hrow2 HQ2 hcall
                refine ⟨_, rfl, ?_⟩
                refine hK.out _ _ ?_
                clear hK K
                refine norm_ (a' := ?_) ?_ ?_
                rotate_left
                · show Act.put _ (some 49) _ = _
                  simp only [Act.put, List.setIfInBounds_toArray, List.set_cons_zero, List.set_cons_succ, i64_w, i32_w]
                  rfl
                refine done_ (by kernel_rfl) ?_
                try go_wp2
                go_roundg k1
                case measure => have := HKQ.out; omega
                case rel => exact ⟨wrap64 (x + 1), vo4, out2 ++ ya, yb, (by first | rfl | (simp; done) | (simp [*]; done)), HYB, ⟨by rw [List.append_assoc]; exact HE.out⟩, ⟨by have := HKQ.out; omega⟩, HF6, HO6, HK6, HQ6⟩
              · rw [if_neg c4] at H
                exact absurd H (by simp)
            · rw [if_neg c3] at H
              exact absurd H (by simp)
          · rw [if_neg c2] at H
            have c2b : decide (x < (vl.length : Int)) = false := decide_eq_false c2
            clear c2
            obtain rfl := Option.some.inj H
            go_wp2
            go_end0
            have hE : out2 = out ++ r := by have := HE.out; rwa [List.append_nil] at this
            subst hE
            exact ⟨rfl, ⟨vo2, ⟨HF1.out.box, HF1.out.hgo, HF1.out.row, Kd.R_mono HF1.out.ho (fun _ hj => hj.1), HF1.out.hb⟩⟩, HK1.out, HQ1.out⟩
end Go.Proofs.YtbkeihhkcaihiaaDoor.FnSeatings

namespace Go.Proofs.YtbkeihhkcaihiaaDoor.FnSeatings
open Go.RowKit Go.Proofs.YtbkeihhkcaihiaaDoorW.PrintWords Go.Proofs.YtbkeihhkcaihiaaDoorW.PrintLast Go.Proofs.YtbkeihhkcaihiaaDoorW.PrintMore
attribute [local go_sem] max2_int min2_int max_two min_two max_three min_three max_four min_four
set_option linter.unusedVariables false
set_option linter.unusedSimpArgs false
theorem fill_calls (n k : Int) (bn bo bk bf : Nat) (w0 : World) (hT : TabT w0) (hge : w0.heap.size ≤ bo) (hd : bn ≠ bo ∧ bk ≠ bo ∧ bf ≠ bo) (m : Nat) : FillSays n k bn bo bk bf w0 m := by
  induction m using Nat.strongRecOn with
  | _ m ih =>
  intro seats free r out vs vo P w h hfit hP hv hl1 hl2
  obtain ⟨A, c, rfl⟩ := Kd.R_slice (Kd.R_of_own hfit.row (fun _ _ => trivial) : Kd.R (Kd.int .i64) 3 w w0.heap.size (fun _ => True) vs seats)
  cases m with
  | zero => exact absurd h (by simp [fill.f])
  | succ m =>
    by_cases hn : (seats.length : Int) = n
    · have h2 := h
      simp only [fill.f, if_pos hn, Option.some.injEq] at h2
      subst h2
      exact fill_full n k bn bo bk bf w0 hge hd seats free out A c vo P w hn hfit hP hv hl1 (by omega)
    · exact fill_more n k bn bo bk bf w0 hT hge hd m (ih m (by omega)) (fun m' hm' => ih m' (by omega)) seats free r out A c vo P w hn h hfit hP hv hl1 hl2
/-! ### impl_AllSeatings: function 15 (given by hand) -/
def impl_AllSeatings.f (a0 : Int) (a1 : Int) : Option ((List (List Int)) × Bool) := (impl_isPlane.f a0 a1).bind fun t => if t = true then (if a0 > 7 then some ([], false) else if 0 ≤ a0 then
    (fill.f 100 a0 a1 [] ((shl .u32 1 a0 - 1) % 4294967296)).bind fun r => (if r.length < 5864062014805 then some (r, true) else none) else none) else some ([], false)
set_option maxHeartbeats 2000000 in
set_option maxRecDepth 100000 in
theorem impl_AllSeatings.calls (a0 : Int) (a1 : Int) (r1 : List (List Int)) (r2 : Bool) (w : World) (hT : TabT w) (h : impl_AllSeatings.f a0 a1 = some (r1, r2)) :
    Calls Tryd.prog 15 #[.int .i64 a0, .int .i64 a1] w fun e w' => ∃ v0_ : Value, e = .returned (.tuple #[v0_, .bool r2]) ∧ Kd.R (Kd.slice 3 (Kd.int .i64)) 31 w' w.heap.size (fun _ => True) v0_ r1 ∧ Below w.heap.size w w' := by
  have HT := Aside0.mk hT
  clear hT
  unfold impl_AllSeatings.f at h
  obtain ⟨t, ht, H⟩ := Option.bind_eq_some_iff.mp h
  clear h
  have hmf : ∀ (fn : Fn) (first cap : Array Value) (w : World), (Instr.makeFunc fn first cap).run Tryd.prog w = .ok (.func fn first cap) w := fun _ _ _ _ => rfl
  by_cases c1 : t = true
  · subst c1
    rw [if_pos rfl] at H
    by_cases c2 : a0 > 7
    · rw [if_pos c2] at H
      simp only [Option.some.injEq, Prod.mk.injEq] at H
      obtain ⟨rfl, rfl⟩ := H
      have c2b : decide (a0 > 7) = true := decide_eq_true c2
      have HT0 := Aside0.mk ht
      clear c2 ht
      go_enter Tryd.func15, Tryd.ntmps15
      go_wp2_with (first | ((with_reducible refine gate_dst (N := 2) rfl ?_); refine box_event ?hg (N := 2) ?hd (cs := #[.int .i64 a0]) (t := 3) ?hr ?_; (case hd => rfl); (case hg => rfl); (case hr => first | (go_simp; done) | (go_simp; rfl)); intro bn hbn w1 hb1 hw1; have B1 := Aside0.mk hb1; have W1 := Aside0.mk hw1; have hc1 : w1.cell? ⟨bn, 0, none⟩ = some (.int .i64 a0) := (blk_cell hb1 0).trans rfl; clear hbn hb1 hw1) | ((with_reducible refine gate_dst (N := 3) rfl ?_); refine box_event ?hg (N := 3) ?hd (cs := #[.int .i64 a1]) (t := 3) ?hr ?_; (case hd => rfl); (case hg => rfl); (case hr => first | (go_simp; done) | (go_simp; rfl)); intro bk hbk w2 hb2 hw2; have B2 := Aside0.mk hb2; have W2 := Aside0.mk hw2; have hc2 : w2.cell? ⟨bk, 0, none⟩ = some (.int .i64 a1) := (blk_cell hb2 0).trans rfl; have hc12 : w2.cell? ⟨bn, 0, none⟩ = some (.int .i64 a0) := (blk_cell (blk_below B1.out hw2) 0).trans rfl; clear hbk hb2 hw2 hc1) | ((with_reducible refine gate_callee (f := 174) rfl ?_); refine goesL_ (some 10) rfl rfl Tryd.func174 (by kernel_rfl) rfl #[.int .i64 a0, .int .i64 a1] rfl (by (try simp only [List.map_toArray, List.map_cons, List.map_nil]); first | done | rfl) ?_; (with_reducible refine (impl_isPlane.calls a0 a1 true _ HT0.out).mono ?_); rintro e w' ⟨rfl, ⟨nd, rfl⟩⟩; refine ⟨_, rfl, ?_⟩))
      refine bodyPost_ret (results_tmp2 rfl _ _ _) rfl ?_
      exact ⟨_, rfl, Kd.R_nil _ _ _ _ _, pw_below_drewN (below_step (below_step (Below.refl _ _) W1.out) W2.out) nd⟩
    · rw [if_neg c2] at H
      have c2b : decide (a0 > 7) = false := decide_eq_false c2
      by_cases c3 : 0 ≤ a0
      · rw [if_pos c3] at H
        have c3b := eq_true c3
        have c3c : decide (0 ≤ a0) = true := decide_eq_true c3
        obtain ⟨r, hr, H⟩ := Option.bind_eq_some_iff.mp H
        by_cases c4 : r.length < 5864062014805
        · rw [if_pos c4] at H
          simp only [Option.some.injEq, Prod.mk.injEq] at H
          obtain ⟨rfl, rfl⟩ := H
          obtain ⟨ji, hji⟩ : ∃ j_ : Int, shl .u32 1 a0 = j_ := ⟨_, rfl⟩
          have hji_ : (IntKind.u32.wrap (1 * 2 ^ min a0.toNat 32)) = ji := hji
          have hjiu : (IntKind.u32.wrap (2 ^ min a0.toNat 32)) = ji := by have h_ := hji_; rw [Int.one_mul] at h_; exact h_
          rw [hji, ← wrap_u32n] at hr
          have L4 := Aside0.mk c4
          have HT0 := Aside0.mk ht
          have HR := Aside0.mk hr
          clear c2 c3 c4 ht hr
          go_enter Tryd.func15, Tryd.ntmps15
          go_wp2_with (first | ((with_reducible refine gate_dst (N := 2) rfl ?_); refine box_event ?hg (N := 2) ?hd (cs := #[.int .i64 a0]) (t := 3) ?hr ?_; (case hd => rfl); (case hg => rfl); (case hr => first | (go_simp; done) | (go_simp; rfl)); intro bn hbn w1 hb1 hw1; have HN := Aside0.mk hbn; have B1 := Aside0.mk hb1; have W1 := Aside0.mk hw1; have hc1 : w1.cell? ⟨bn, 0, none⟩ = some (.int .i64 a0) := (blk_cell hb1 0).trans rfl; clear hbn hb1 hw1) | ((with_reducible refine gate_dst (N := 3) rfl ?_); refine box_event ?hg (N := 3) ?hd (cs := #[.int .i64 a1]) (t := 3) ?hr ?_; (case hd => rfl); (case hg => rfl); (case hr => first | (go_simp; done) | (go_simp; rfl)); intro bk hbk w2 hb2 hw2; have HK := Aside0.mk hbk; have B2 := Aside0.mk hb2; have W2 := Aside0.mk hw2; have hc2 : w2.cell? ⟨bk, 0, none⟩ = some (.int .i64 a1) := (blk_cell hb2 0).trans rfl; have hc12 : w2.cell? ⟨bn, 0, none⟩ = some (.int .i64 a0) := (blk_cell (blk_below B1.out hw2) 0).trans rfl; clear hbk hb2 hw2 hc1) | ((with_reducible refine gate_callee (f := 174) rfl ?_); refine goesL_ (some 10) rfl rfl Tryd.func174 (by kernel_rfl) rfl #[.int .i64 a0, .int .i64 a1] rfl (by (try simp only [List.map_toArray, List.map_cons, List.map_nil]); first | done | rfl) ?_; (with_reducible refine (impl_isPlane.calls a0 a1 true _ HT0.out).mono ?_); rintro e w' ⟨rfl, ⟨nd, rfl⟩⟩; refine ⟨_, rfl, ?_⟩) | ((with_reducible refine gate_dst (N := 16) rfl ?_); refine Kd.R_lit (Kd.slice 3 (Kd.int .i64)) _ 31 ?hg (N := 16) ?hd (xs := ([] : List (List Int))) (inner := []) (ok := fun _ => True) (okp := fun _ => True) ?hr ?hp (fun _ hk => hk) trivial (Below.refl _ _) (Nat.le_refl _) (by simp) ?_; (case hd => rfl); (case hg => rfl); (case hr => first | (go_simp; done) | (go_simp; rfl)); (case hp => exact (Reps.none _ _)); intro vo w3 ho hb3 hg3 hnew; have HO3 := Aside0.mk ho; have W3 := Aside0.mk hb3; clear ho hb3 hg3 hnew) | ((with_reducible refine gate_dst (N := 6) rfl ?_); refine box_event ?hg (N := 6) ?hd (cs := #[.slice none 0 0]) (t := 26) ?hr ?_; (case hd => rfl); (case hg => rfl); (case hr => first | (go_simp; done) | (go_simp; rfl)); intro bo hbo w4 hb4 hw4; have HO := Aside0.mk hbo; have B4 := Aside0.mk hb4; have W4 := Aside0.mk hw4; have hc4 : w4.cell? ⟨bo, 0, none⟩ = some (.slice none 0 0) := (blk_cell hb4 0).trans rfl; have hf4 : w4.frozen? ⟨bo, 0, none⟩ = false := blk_frozen hb4 0; obtain ⟨Ao, co, eo⟩ := Kd.R_slice HO3.out; subst eo; clear hbo hb4 hw4) | ((with_reducible refine gate_dst (N := 7) rfl ?_); refine box_event ?hg (N := 7) ?hd (cs := #[.nilFunc]) (t := 137) ?hr ?_; (case hd => rfl); (case hg => rfl); (case hr => first | (go_simp; done) | (go_simp; rfl)); intro bf hbf w5 hb5 hw5; have HBF := Aside0.mk hbf; have B5 := Aside0.mk hb5; have W5 := Aside0.mk hw5; have hc5 : w5.cell? ⟨bf, 0, none⟩ = some .nilFunc := (blk_cell hb5 0).trans rfl; have hf5 : w5.frozen? ⟨bf, 0, none⟩ = false := blk_frozen hb5 0; clear hbf hb5 hw5 hc4 hf4))
          have HFit : Aside0 (Fit w a0 a1 bn bo bk bf (fun j => j ≠ bn ∧ j ≠ bo ∧ j ≠ bk ∧ j ≠ bf) (.slice none 0 0) (.slice Ao 0 co) [] [] ((w5.setCell ⟨bf, 0, none⟩ (fillV bn bo bk bf)).drew) ∧ (bn ≠ bo ∧ bk ≠ bo ∧ bf ≠ bo) ∧ w.heap.size ≤ bo ∧ bf < (w5.setCell ⟨bf, 0, none⟩ (fillV bn bo bk bf)).heap.size) := ⟨by
            have l1 : bn < w1.heap.size := blk_lt B1.out
            have l2 : bk < w2.heap.size := blk_lt B2.out
            have l4 : bo < w4.heap.size := blk_lt B4.out
            have l5 : bf < w5.heap.size := blk_lt B5.out
            have e1 := HN.out
            have e2 := HK.out
            have e4 := HO.out
            have e5 : bf = w4.heap.size := by have := HBF.out; simpa [World.setCell] using this
            have s3 : w2.heap.size ≤ w3.heap.size := W3.out.size
            have h23 : Below w2.heap.size w2 w3 := below_step (pw_below_drewN (Below.refl _ _) nd) W3.out
            have h24 := below_step h23 W4.out
            have h24s : Below w2.heap.size w2 (w4.setCell ⟨bo, 0, none⟩ (.slice Ao 0 co)) := Below.setCell h24 (p := ⟨bo, 0, none⟩) (by show w2.heap.size ≤ bo; omega) _
            have h25 := below_step h24s W5.out
            have h26 : Below w2.heap.size w2 (w5.setCell ⟨bf, 0, none⟩ (fillV bn bo bk bf)) := Below.setCell h25 (p := ⟨bf, 0, none⟩) (by show w2.heap.size ≤ bf; omega) _
            have h12 : Below w.heap.size w w2 := below_step (below_step (Below.refl _ _) W1.out) W2.out
            have hw6 : Below w.heap.size w (w5.setCell ⟨bf, 0, none⟩ (fillV bn bo bk bf)) := h12.trans (h26.mono h12.size)
            have ho3 := Kd.R_bound HO3.out
            have ho6 : Kd.R (Kd.slice 3 (Kd.int .i64)) 31 (w5.setCell ⟨bf, 0, none⟩ (fillV bn bo bk bf)) w.heap.size (fun j => w2.heap.size ≤ j ∧ j < w3.heap.size) (.slice Ao 0 co) [] := by
              have r3 : Kd.R (Kd.slice 3 (Kd.int .i64)) 31 w3 w.heap.size (fun j => w2.heap.size ≤ j ∧ j < w3.heap.size) (.slice Ao 0 co) [] := Kd.R_lower (Kd.R_mono ho3 (fun j hj => ⟨hj.2.1, hj.2.2.1⟩)) (by show w.heap.size ≤ w2.heap.size; exact h12.size)
              have r4 := Kd.R_far (p := ⟨bo, 0, none⟩) (Kd.R_below r3 W4.out) (fun j hj => by show j ≠ bo; have := hj.2; omega) (.slice Ao 0 co)
              exact Kd.R_far (p := ⟨bf, 0, none⟩) (Kd.R_below r4 W5.out) (fun j hj => by show j ≠ bf; have := hj.2; have := W4.out.size; omega) _
            refine ⟨⟨⟨blk_drew (blk_below (blk_below B1.out W2.out) h26), blk_drew (blk_below B2.out h26), blk_drew (blk_set B5.out 0 _)⟩, blk_drew ?_, World.ownsRow_nil _ _ _ _, Kd.R_drew (Kd.R_mono ho6 (fun j hj => ⟨by have := hj.1; have := W2.out.size; omega, by have := hj.2; omega, by have := hj.1; omega, by have := hj.2; have := W4.out.size; omega⟩)), below_drew1 hw6⟩, ⟨by have := W2.out.size; omega, by omega, by omega⟩, by have := W2.out.size; omega, by simpa [World.setCell] using l5⟩
            exact blk_far (blk_below (blk_set B4.out 0 (.slice Ao 0 co)) W5.out) (p := ⟨bf, 0, none⟩) (by show bo ≠ bf; omega) _⟩
          have hcc : ((w5.setCell ⟨bf, 0, none⟩ (fillV bn bo bk bf)).drew).cell? ⟨bf, 0, none⟩ = some (fillV bn bo bk bf) ∧ ((w5.setCell ⟨bf, 0, none⟩ (fillV bn bo bk bf)).drew).cell? ⟨bn, 0, none⟩ = some (.int .i64 a0) := ⟨(blk_cell HFit.out.1.box.hf 0).trans rfl, (blk_cell HFit.out.1.box.hn 0).trans rfl⟩
          show Code.wp Tryd.prog _ _ _ (w5.setCell ⟨bf, 0, none⟩ (fillV bn bo bk bf))
          clear HN B1 W1 HK B2 W2 hc2 hc12 HO3 W3 HO B4 W4 HBF B5 W5 hc5 hf5
          generalize w5.setCell ⟨bf, 0, none⟩ (fillV bn bo bk bf) = w6 at HFit hcc ⊢
          refine start_ (n := 5) (S := fun w' => w'.cell? ⟨bf, 0, none⟩ = some (fillV bn bo bk bf) ∧ w'.cell? ⟨bn, 0, none⟩ = some (.int .i64 a0)) (ds := [4]) #[false, false, false, false, false] (by kernel_rfl) rfl rfl hcc (fun hHeld => ?_)
          clear hcc
          have hsz6 : Aside0 (w6.heap.size = w6.drew.heap.size) := ⟨rfl⟩
          generalize w6.drew = w7 at HFit hHeld hsz6 ⊢
          refine take_ (i := 0) (N := some 18) (v := ?_) (a' := ?_) #[true, false, false, false, false] rfl rfl (by kernel_rfl) (fun _ _ _ h => h) (Or.inl ⟨by rfl, ?_⟩) hHeld ?_ ?_
          rotate_left
          · rintro w' ⟨s0, s1⟩
            go_simp
            with_reducible rfl
          rotate_left
          · simp only [Act.put, List.setIfInBounds_toArray, List.set_cons_zero, List.set_cons_succ, i64_w, i32_w]
            rfl
          refine take_ (i := 1) (N := some 19) (v := ?_) (a' := ?_) #[true, true, false, false, false] rfl rfl (by kernel_rfl) (fun _ _ _ h => h) (Or.inl ⟨by rfl, ?_⟩) hHeld ?_ ?_
          rotate_left
          · rintro w' ⟨s0, s1⟩
            go_simp
            with_reducible rfl
          rotate_left
          · simp only [Act.put, List.setIfInBounds_toArray, List.set_cons_zero, List.set_cons_succ, i64_w, i32_w]
            rfl
          refine pure_ (i := 2) (N := some 20) (v := ?_) (a' := ?_) #[true, true, true, false, false] rfl rfl (by kernel_rfl) (fun _ _ _ h => h) (Or.inl ⟨by rfl, ?_⟩) ?_ ?_
          rotate_left
          · intro w'
            go_simp
            with_reducible rfl
          rotate_left
          · simp only [Act.put, List.setIfInBounds_toArray, List.set_cons_zero, List.set_cons_succ, i64_w, i32_w]
            rfl
          refine pure_ (i := 3) (N := some 21) (v := ?_) (a' := ?_) #[true, true, true, true, false] rfl rfl (by kernel_rfl) (fun _ _ _ h => h) (Or.inl ⟨by rfl, ?_⟩) ?_ ?_
          rotate_left
          · intro w'
            go_simp
            with_reducible rfl
          rotate_left
          · simp only [Act.put, List.setIfInBounds_toArray, List.set_cons_zero, List.set_cons_succ, i64_w, i32_w]
            rfl
          obtain ⟨HF7, HD7, HG7, HL7⟩ := HFit.out
          have hcall := Aside0.mk (fill_calls a0 a1 bn bo bk bf w HT.out HG7 HD7 100 [] (IntKind.u32.wrap (ji - 1)) r [] (.slice none 0 0) (.slice Ao 0 co) _ w7 HR.out HF7 (fun j hj => ⟨hj.1, hj.2.1, hj.2.2.1, hj.2.2.2, by simp [Value.ownBlock]⟩) (fun j hj => by simp [Value.ownBlock] at hj) (by have := L4.out; simpa using this) (by decide))
          clear HF7 HD7 HG7 HL7
          refine last_ (i := 4) (N := some 22) #[true, true, true, true, true] rfl rfl (by kernel_rfl) (by decide) (fun K hK => ?_)
          refine call_ 175 #[.slice none 0 0, .int .u32 (IntKind.u32.wrap (ji - 1)), .pointer (some ⟨bn, 0, none⟩), .pointer (some ⟨bo, 0, none⟩), .pointer (some ⟨bk, 0, none⟩), .pointer (some ⟨bf, 0, none⟩)] (by rfl) rfl ?hrun ?_
          case hrun =>
            have he := enters_ (P := Tryd.prog) (f := 175) Tryd.func175 (by kernel_rfl) rfl #[.slice none 0 0, .int .u32 (IntKind.u32.wrap (ji - 1)), .pointer (some ⟨bn, 0, none⟩), .pointer (some ⟨bo, 0, none⟩), .pointer (some ⟨bk, 0, none⟩), .pointer (some ⟨bf, 0, none⟩)] w7
            unfold execOp
            simp [resolve, Deferred.ofValue, invoke, Act.eval, fillV, he]
          refine hcall.out.mono ?_
          rintro e w8 ⟨rfl, vo8, HF8, HK8, _⟩
          clear hcall
          refine ⟨_, rfl, ?_⟩
          refine hK.out _ _ ?_
          clear hK K
          refine norm_ (a' := ?_) ?_ ?_
          rotate_left
          · show Act.put _ (some 22) _ = _
            simp only [Act.put, List.setIfInBounds_toArray, List.set_cons_zero, List.set_cons_succ, i64_w, i32_w]
            rfl
          refine done_ (by kernel_rfl) ?_
          have hc8 : w8.cell? ⟨bo, 0, none⟩ = some vo8 := (blk_cell HF8.hgo 0).trans rfl
          have HF := Aside0.mk HF8
          clear HF8 HK8 HFit hHeld hsz6
          try go_wp2
          refine bodyPost_ret (results_tmp2 rfl _ _ _) rfl ?_
          exact ⟨vo8, rfl, by have h_ := Kd.R_mono HF.out.ho (ok' := fun _ => True) (fun _ _ => trivial); simpa using h_, HF.out.hb⟩
        · rw [if_neg c4] at H
          exact absurd H (by simp)
      · rw [if_neg c3] at H
        exact absurd H (by simp)
  · obtain rfl : t = false := by simpa using c1
    clear c1
    rw [if_neg (by simp)] at H
    simp only [Option.some.injEq, Prod.mk.injEq] at H
    obtain ⟨rfl, rfl⟩ := H
    have HT0 := Aside0.mk ht
    clear ht
    go_enter Tryd.func15, Tryd.ntmps15
    go_wp2_with (first | ((with_reducible refine gate_dst (N := 2) rfl ?_); refine box_event ?hg (N := 2) ?hd (cs := #[.int .i64 a0]) (t := 3) ?hr ?_; (case hd => rfl); (case hg => rfl); (case hr => first | (go_simp; done) | (go_simp; rfl)); intro bn hbn w1 hb1 hw1; have B1 := Aside0.mk hb1; have W1 := Aside0.mk hw1; have hc1 : w1.cell? ⟨bn, 0, none⟩ = some (.int .i64 a0) := (blk_cell hb1 0).trans rfl; clear hbn hb1 hw1) | ((with_reducible refine gate_dst (N := 3) rfl ?_); refine box_event ?hg (N := 3) ?hd (cs := #[.int .i64 a1]) (t := 3) ?hr ?_; (case hd => rfl); (case hg => rfl); (case hr => first | (go_simp; done) | (go_simp; rfl)); intro bk hbk w2 hb2 hw2; have B2 := Aside0.mk hb2; have W2 := Aside0.mk hw2; have hc2 : w2.cell? ⟨bk, 0, none⟩ = some (.int .i64 a1) := (blk_cell hb2 0).trans rfl; have hc12 : w2.cell? ⟨bn, 0, none⟩ = some (.int .i64 a0) := (blk_cell (blk_below B1.out hw2) 0).trans rfl; clear hbk hb2 hw2 hc1) | ((with_reducible refine gate_callee (f := 174) rfl ?_); refine goesL_ (some 10) rfl rfl Tryd.func174 (by kernel_rfl) rfl #[.int .i64 a0, .int .i64 a1] rfl (by (try simp only [List.map_toArray, List.map_cons, List.map_nil]); first | done | rfl) ?_; (with_reducible refine (impl_isPlane.calls a0 a1 false _ HT0.out).mono ?_); rintro e w' ⟨rfl, ⟨nd, rfl⟩⟩; refine ⟨_, rfl, ?_⟩))
    refine bodyPost_ret (results_tmp2 rfl _ _ _) rfl ?_
    exact ⟨_, rfl, Kd.R_nil _ _ _ _ _, pw_below_drewN (below_step (below_step (Below.refl _ _) W1.out) W2.out) nd⟩
end Go.Proofs.YtbkeihhkcaihiaaDoor.FnSeatings
