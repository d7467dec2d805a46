/- Lemmas of this proof, part 13. -/
import Derived.Test.YtlhnpbdpojcbeaaDoorZ0
import Derived.Test.YtlhnpbdpojcbeaaDoorZ1
import Derived.Test.YtlhnpbdpojcbeaaDoorZ2
import Derived.Test.YtlhnpbdpojcbeaaDoorZ3
import Derived.Test.YtlhnpbdpojcbeaaDoorZ4
import Derived.Test.YtlhnpbdpojcbeaaDoorZ5
import Derived.Test.YtlhnpbdpojcbeaaDoorZ10
import Derived.Test.YtlhnpbdpojcbeaaDoorZ11
import Derived.Test.YtlhnpbdpojcbeaaDoorZ12
import Derived.Laws.CopyOwn
import Derived.Deep.RegionLaw
import Derived.Deep.RegionHeld3
section
namespace Go.Proofs.YtlhnpbdpojcbeaaDoor.PPackAll
open Go.RowKit Go.Proofs.YtlhnpbdpojcbeaaDoorW.PrintWords Go.Proofs.YtlhnpbdpojcbeaaDoorW.PrintLast Go.Proofs.YtlhnpbdpojcbeaaDoorW.PrintMore
attribute [local go_sem] max2_int min2_int max_two min_two max_three min_three max_four min_four   -- for this text's walks alone
set_option linter.unusedVariables false
set_option linter.unusedSimpArgs false
mutual
def swingleref26_Clauses.l0 : Nat → List (S68) → List (S49) → Int → List (List (S60)) → Option ((List (S49)))
  | 0, _, _, _, _ => none
  | k + 1, x1, x5, x6, x308000 => if x6 < (x1.length : Int) then (if x5.length < 4398046511104 then (swingleref26_Clauses.l0 k x1 (x5 ++ [(⟨(-1), 0, false, x6⟩ : S49)]) (wrap64 (x6 + 1)) x308000) else (none)) else (swingleref26_Clauses.l1 k x5 0 x308000)
def swingleref26_Clauses.l1 : Nat → List (S49) → Int → List (List (S60)) → Option ((List (S49)))
  | 0, _, _, _ => none
  | k + 1, x5, x7, x308000 => if x7 < (x308000.length : Int) then (swingleref26_Clauses.l2 k x5 x7 0 x308000) else (some x5)
def swingleref26_Clauses.l2 : Nat → List (S49) → Int → Int → List (List (S60)) → Option ((List (S49)))
  | 0, _, _, _, _ => none
  | k + 1, x5, x7, x8, x308000 => if 0 ≤ x7 then (if x7 < (x308000.length : Int) then (if x8 < ((rd_L4 x308000 x7).length : Int) then (swingleref26_Clauses.l3 k x5 x7 x8 0 x308000) else (swingleref26_Clauses.l1 k x5 (wrap64 (x7 + 1)) x308000)) else (none)) else (none)
def swingleref26_Clauses.l3 : Nat → List (S49) → Int → Int → Int → List (List (S60)) → Option ((List (S49)))
  | 0, _, _, _, _, _ => none
  | k + 1, x5, x7, x8, x9, x308000 => if 0 ≤ x7 then (if x7 < (x308000.length : Int) then (if 0 ≤ x8 then (if x8 < ((rd_L4 x308000 x7).length : Int) then (if x9 < (((rd_T60 (rd_L4 x308000 x7) x8).f0).length : Int) then (if x5.length < 4398046511104 then (swingleref26_Clauses.l3 k (x5 ++ [(⟨x7, x8, false, x9⟩ : S49)]) x7 x8 (wrap64 (x9 + 1)) x308000) else (none)) else (swingleref26_Clauses.l4 k x5 x7 x8 0 x308000)) else (none)) else (none)) else (none)) else (none)
def swingleref26_Clauses.l4 : Nat → List (S49) → Int → Int → Int → List (List (S60)) → Option ((List (S49)))
  | 0, _, _, _, _, _ => none
  | k + 1, x5, x7, x8, x10, x308000 => if 0 ≤ x7 then (if x7 < (x308000.length : Int) then (if 0 ≤ x8 then (if x8 < ((rd_L4 x308000 x7).length : Int) then (if x10 < (((rd_T60 (rd_L4 x308000 x7) x8).f1).length : Int) then (if x5.length < 4398046511104 then (swingleref26_Clauses.l4 k (x5 ++ [(⟨x7, x8, true, x10⟩ : S49)]) x7 x8 (wrap64 (x10 + 1)) x308000) else (none)) else (swingleref26_Clauses.l2 k x5 x7 (wrap64 (x8 + 1)) x308000)) else (none)) else (none)) else (none)) else (none)
end
def swingleref26_Clauses.f (k : Nat) (l0_0 : List (List (S60))) (l1 : List (S68)) : Option ((List (S49))) := swingleref26_Clauses.l0 k l1 ([] : List (S49)) 0 l0_0
theorem swingleref26_Clauses.mono_l : ∀ k, (∀ y0 y1 y2 y3, LeO (swingleref26_Clauses.l0 k y0 y1 y2 y3) (swingleref26_Clauses.l0 (k + 1) y0 y1 y2 y3)) ∧ (∀ y0 y1 y2, LeO (swingleref26_Clauses.l1 k y0 y1 y2) (swingleref26_Clauses.l1 (k + 1) y0 y1 y2)) ∧ (∀ y0 y1 y2 y3, LeO (swingleref26_Clauses.l2 k y0 y1 y2 y3) (swingleref26_Clauses.l2 (k + 1) y0 y1 y2 y3)) ∧ (∀ y0 y1 y2 y3 y4, LeO (swingleref26_Clauses.l3 k y0 y1 y2 y3 y4) (swingleref26_Clauses.l3 (k + 1) y0 y1 y2 y3 y4)) ∧ (∀ y0 y1 y2 y3 y4, LeO (swingleref26_Clauses.l4 k y0 y1 y2 y3 y4) (swingleref26_Clauses.l4 (k + 1) y0 y1 y2 y3 y4))
  | 0 => ⟨fun _ _ _ _ r h => by simp [swingleref26_Clauses.l0] at h, fun _ _ _ r h => by simp [swingleref26_Clauses.l1] at h, fun _ _ _ _ r h => by simp [swingleref26_Clauses.l2] at h, fun _ _ _ _ _ r h => by simp [swingleref26_Clauses.l3] at h, fun _ _ _ _ _ r h => by simp [swingleref26_Clauses.l4] at h⟩
  | k + 1 => by
    obtain ⟨ih0, ih1, ih2, ih3, ih4⟩ := swingleref26_Clauses.mono_l k
    refine ⟨?_, ?_, ?_, ?_, ?_⟩
    · intro y0 y1 y2 y3
      unfold swingleref26_Clauses.l0
      repeat' first
      | (with_reducible exact ih0 _ _ _ _)
      | (with_reducible exact ih1 _ _ _)
      | (with_reducible exact ih2 _ _ _ _)
      | (with_reducible exact ih3 _ _ _ _ _)
      | (with_reducible exact ih4 _ _ _ _ _)
      | (with_reducible exact LeO.refl _)
      | (with_reducible exact LeO.none _)
      | (with_reducible refine LeO.ite ?_ ?_)
      | (with_reducible refine LeO.bind ?_ (fun _ => ?_))
      | exact ih0 _ _ _ _
      | exact ih1 _ _ _
      | exact ih2 _ _ _ _
      | exact ih3 _ _ _ _ _
      | exact ih4 _ _ _ _ _
      | exact LeO.none _
      | refine LeO.ite ?_ ?_
      | refine LeO.bind ?_ (fun _ => ?_)
    · intro y0 y1 y2
      unfold swingleref26_Clauses.l1
      repeat' first
      | (with_reducible exact ih0 _ _ _ _)
      | (with_reducible exact ih1 _ _ _)
      | (with_reducible exact ih2 _ _ _ _)
      | (with_reducible exact ih3 _ _ _ _ _)
      | (with_reducible exact ih4 _ _ _ _ _)
      | (with_reducible exact LeO.refl _)
      | (with_reducible exact LeO.none _)
      | (with_reducible refine LeO.ite ?_ ?_)
      | (with_reducible refine LeO.bind ?_ (fun _ => ?_))
      | exact ih0 _ _ _ _
      | exact ih1 _ _ _
      | exact ih2 _ _ _ _
      | exact ih3 _ _ _ _ _
      | exact ih4 _ _ _ _ _
      | exact LeO.none _
      | refine LeO.ite ?_ ?_
      | refine LeO.bind ?_ (fun _ => ?_)
    · intro y0 y1 y2 y3
      unfold swingleref26_Clauses.l2
      repeat' first
      | (with_reducible exact ih0 _ _ _ _)
      | (with_reducible exact ih1 _ _ _)
      | (with_reducible exact ih2 _ _ _ _)
      | (with_reducible exact ih3 _ _ _ _ _)
      | (with_reducible exact ih4 _ _ _ _ _)
      | (with_reducible exact LeO.refl _)
      | (with_reducible exact LeO.none _)
      | (with_reducible refine LeO.ite ?_ ?_)
      | (with_reducible refine LeO.bind ?_ (fun _ => ?_))
      | exact ih0 _ _ _ _
      | exact ih1 _ _ _
      | exact ih2 _ _ _ _
      | exact ih3 _ _ _ _ _
      | exact ih4 _ _ _ _ _
      | exact LeO.none _
      | refine LeO.ite ?_ ?_
      | refine LeO.bind ?_ (fun _ => ?_)
    · intro y0 y1 y2 y3 y4
      unfold swingleref26_Clauses.l3
      repeat' first
      | (with_reducible exact ih0 _ _ _ _)
      | (with_reducible exact ih1 _ _ _)
      | (with_reducible exact ih2 _ _ _ _)
      | (with_reducible exact ih3 _ _ _ _ _)
      | (with_reducible exact ih4 _ _ _ _ _)
      | (with_reducible exact LeO.refl _)
      | (with_reducible exact LeO.none _)
      | (with_reducible refine LeO.ite ?_ ?_)
      | (with_reducible refine LeO.bind ?_ (fun _ => ?_))
      | exact ih0 _ _ _ _
      | exact ih1 _ _ _
      | exact ih2 _ _ _ _
      | exact ih3 _ _ _ _ _
      | exact ih4 _ _ _ _ _
      | exact LeO.none _
      | refine LeO.ite ?_ ?_
      | refine LeO.bind ?_ (fun _ => ?_)
    · intro y0 y1 y2 y3 y4
      unfold swingleref26_Clauses.l4
      repeat' first
      | (with_reducible exact ih0 _ _ _ _)
      | (with_reducible exact ih1 _ _ _)
      | (with_reducible exact ih2 _ _ _ _)
      | (with_reducible exact ih3 _ _ _ _ _)
      | (with_reducible exact ih4 _ _ _ _ _)
      | (with_reducible exact LeO.refl _)
      | (with_reducible exact LeO.none _)
      | (with_reducible refine LeO.ite ?_ ?_)
      | (with_reducible refine LeO.bind ?_ (fun _ => ?_))
      | exact ih0 _ _ _ _
      | exact ih1 _ _ _
      | exact ih2 _ _ _ _
      | exact ih3 _ _ _ _ _
      | exact ih4 _ _ _ _ _
      | exact LeO.none _
      | refine LeO.ite ?_ ?_
      | refine LeO.bind ?_ (fun _ => ?_)
theorem swingleref26_Clauses.mono : ∀ a0 a1 k, LeO (swingleref26_Clauses.f k a0 a1) (swingleref26_Clauses.f (k + 1) a0 a1) := by
  intro a0 a1 k
  obtain ⟨ih0, ih1, ih2, ih3, ih4⟩ := swingleref26_Clauses.mono_l k
  unfold swingleref26_Clauses.f
  repeat' first
      | (with_reducible exact ih0 _ _ _ _)
      | (with_reducible exact ih1 _ _ _)
      | (with_reducible exact ih2 _ _ _ _)
      | (with_reducible exact ih3 _ _ _ _ _)
      | (with_reducible exact ih4 _ _ _ _ _)
      | (with_reducible exact LeO.refl _)
      | (with_reducible exact LeO.none _)
      | (with_reducible refine LeO.ite ?_ ?_)
      | (with_reducible refine LeO.bind ?_ (fun _ => ?_))
      | exact ih0 _ _ _ _
      | exact ih1 _ _ _
      | exact ih2 _ _ _ _
      | exact ih3 _ _ _ _ _
      | exact ih4 _ _ _ _ _
      | exact LeO.none _
      | refine LeO.ite ?_ ?_
      | refine LeO.bind ?_ (fun _ => ?_)
set_option maxHeartbeats 8000000 in
set_option maxRecDepth 100000 in
theorem swingleref26_Clauses.calls (k : Nat) (A0_0 : Option Addr) (c0_0 : Nat) (l0_0 : List (List (S60))) (A1 : Option Addr) (c1 : Nat) (l1 : List (S68)) (r : List (S49)) (w : World) (hr0_0 : Kd.C (Kd.slice 60 k60) w A0_0 l0_0.length l0_0) (hc0_0 : l0_0.length ≤ c0_0) (hr1 : Kd.C k68 w A1 l1.length l1) (hc1 : l1.length ≤ c1) (h : swingleref26_Clauses.f k l0_0 l1 = some r) :
    Calls Tryd.prog 54 #[.agg #[.slice A0_0 l0_0.length c0_0], .slice A1 l1.length c1] w fun e w' => ∃ v0_ : Value, e = .returned (v0_) ∧ Kd.R k49 49 w' w.heap.size (fun _ => True) v0_ r ∧ Below w.heap.size w w' := by
  have hu24 := Tryd.underlying24
  have hu49 := Tryd.underlying49
  have HR0_0 := Aside0.mk hr0_0
  have HC0_0 := Aside0.mk hc0_0
  clear hr0_0 hc0_0
  have HR1 := Aside0.mk hr1
  have HC1 := Aside0.mk hc1
  clear hr1 hc1
  have HB := Aside0.mk (Below.refl w.heap.size w)
  have H : (swingleref26_Clauses.l0 k l1 ([] : List (S49)) 0 l0_0) = some r := h
  clear h
  have H' := Aside0.mk H
  clear H
  go_enter Tryd.func54, Tryd.ntmps54
  go_wp2_with (first | ((with_reducible refine gate_dst (N := 2) rfl ?_); refine box_event ?hg (N := 2) ?hd (cs := #[.slice A0_0 l0_0.length c0_0]) (t := 24) ?hr ?_; (case hd => rfl); (case hg => rfl); (case hr => first | (go_simp; done) | (go_simp; rfl)); intro gb307 hg w3 hbox hb; have n0_ := Aside0.mk (below_step (by repeat (first | (with_reducible first | exact HB.out | apply below_alloc | apply pw_below_drewN | apply below_drew1) | exact HB.out)) hb); have n1_ := Aside0.mk (hbox); have n2_ := Aside0.mk ((by rw [hg]; exact (below_size (by repeat (first | (with_reducible first | exact HB.out | apply below_alloc | apply pw_below_drewN | apply below_drew1) | exact HB.out))) : w.heap.size ≤ gb307)); have n3_ := Aside0.mk ((by rw [hg]; exact (below_size (by repeat (first | (with_reducible first | exact HB.out | apply below_alloc | apply pw_below_drewN | apply below_drew1) | exact HB.out))) : w.heap.size ≤ gb307)); clear HB; have HB := n0_; have BK307 := n1_; have GW307 := n2_; have GE307 := n3_; clear n0_ n1_ n2_ n3_; clear hb hbox hg))
  go_loopg [5, 6] k (fun kq v5 v6 w' => ∃ (x5_1 : List (S49)) (x6_1 : Int), v6 = .int .i64 x6_1 ∧ Aside0 (swingleref26_Clauses.l0 kq l1 x5_1 x6_1 l0_0 = some r) ∧ Aside0 (kq ≤ k) ∧ Aside0 (Kd.R k49 49 w' w.heap.size (fun _ => True) v5 x5_1) ∧ Aside0 (w'.heap[gb307]? = some (.cells #[(.slice A0_0 l0_0.length c0_0)] 24 (0, 0))) ∧ Aside0 (Below w.heap.size w w'))
  case atStart => exact ⟨(([] : List (S49))), (0), (by first | rfl | (simp; done) | (simp [*]; done)), H', ⟨Nat.le_refl _⟩, ⟨by first | exact Kd.R_nil _ _ _ _ _ | exact Kd.N_nil _ _ _ _ _ | exact Kd.V_nil _ _ _ _ _ | exact Kd.Q_nil _ _ _ _ _ | exact Kd.S_nil _ _ _ _ _⟩, ⟨by (with_reducible repeat (first | refine blk_drewN ?_ _ | refine blk_drew ?_ | refine blk_alloc ?_ _)); exact BK307.out⟩, ⟨by repeat (first | (with_reducible first | exact HB.out | apply below_alloc | apply pw_below_drewN | apply below_drew1 | refine below_set ?_ GE307.out) | exact HB.out)⟩⟩
  case round =>
    clear H'
    try clear c1
    try clear p2
    obtain ⟨x5_1, x6_1, rfl, HA, HK1, HO_5, BK307, HB⟩ := hrel
    cases gk with
    | zero => exact absurd HA.out (by simp [swingleref26_Clauses.l0])
    | succ k1 =>
      have H := HA.out
      clear HA
      simp only [swingleref26_Clauses.l0] at H
      by_cases c4 : x6_1 < (l1.length : Int)
      · rw [if_pos c4] at H
        have c4b0 : decide (x6_1 < (l1.length : Int)) = true := decide_eq_true c4
        clear c4
        by_cases c5 : x5_1.length < 4398046511104
        · rw [if_pos c5] at H
          have LMc5 := Aside0.mk c5
          clear c5
          obtain ⟨y308, hy308⟩ : ∃ y_ : List (S49), y_ = (x5_1 ++ [(⟨(-1), 0, false, x6_1⟩ : S49)]) := ⟨_, rfl⟩
          replace H : (swingleref26_Clauses.l0 k1 l1 y308 (wrap64 (x6_1 + 1)) l0_0) = some r := by first | (rw [hy308]; with_reducible exact H) | (have H2_ := (Option.bind_some _ _).symm.trans H; rw [hy308]; with_reducible exact H2_) | (have H2_ := (Option.bind_some _ _).symm.trans H; with_reducible exact H2_) | with_reducible exact H | (rw [hy308]; exact H) | exact H
          have Ny308 := Aside0.mk hy308
          clear hy308
          have H' := Aside0.mk H
          clear H
          go_wp2_with (first | ((with_reducible refine gate_builtin (b := .append) (xs := #[.tmp 17, .tmp 20]) rfl ?_); at_builtin; refine Kd.R_append k49 (w0 := w) w.heap.size rfl (.tmp 17) (.tmp 20) 41 49 (.agg #[(.int .i64 0), (.int .i64 0), (.bool false), (.int .i64 0)]) 32 rfl Tryd.underlying41 info49 rfl (by decide) (by omega) u5 x5_1 (⟨(-1), 0, false, x6_1⟩ : S49) [.int .i64 (-1), .int .i64 0, .bool false, .int .i64 x6_1] (fun _ => True) (fun _ => False) rfl rfl ?aP (fun _ hk => hk.elim) ?aF ?aO ?aB ?aS ?aL ?_; (case aP => exact k49_mkM _ _ _ (⟨(-1), 0, false, x6_1⟩ : S49)); (case aB => exact (by repeat (first | (with_reducible first | exact HB.out | apply below_alloc | apply pw_below_drewN | apply below_drew1 | refine below_set ?_ GE307.out) | exact HB.out))); (case aF => exact (fun _ _ => trivial)); (case aO => exact (by (with_reducible repeat (first | apply Kd.R_alloc | apply Kd.R_drewN | apply Kd.R_drew)); exact HO_5.out)); (case aS => exact (below_size (by repeat (first | (with_reducible first | exact HB.out | apply below_alloc | apply pw_below_drewN | apply below_drew1 | refine below_set ?_ GE307.out) | exact HB.out)))); (case aL => have := LMc5.out; omega); intro v309 w6 ho hb hg hat; rw [← Ny308.out] at ho; have n0_ := Aside0.mk (blk_grown (g := gb307) (o := .cells #[.slice A0_0 l0_0.length c0_0] 24 (0, 0)) (by (with_reducible repeat (first | refine blk_drewN ?_ _ | refine blk_drew ?_ | refine blk_alloc ?_ _)); exact BK307.out) hg (Kd.R_ne HO_5.out BK307.out (by decide))); have n1_ := Aside0.mk (hb); have n2_ := Aside0.mk (ho); clear BK307; clear HB; clear HO_5; have BK307 := n0_; have HB := n1_; have HO310 := n2_; clear n0_ n1_ n2_; clear ho hb hg hat))
          go_roundg k1
          case measure => have := HK1.out; omega
          case rel => exact ⟨(y308), (wrap64 (x6_1 + 1)), (by first | rfl | (simp; done) | (simp [*]; done)), H', ⟨by have := HK1.out; omega⟩, ⟨by (with_reducible repeat (first | apply Kd.R_alloc | apply Kd.R_drewN | apply Kd.R_drew)); exact HO310.out⟩, ⟨by (with_reducible repeat (first | refine blk_drewN ?_ _ | refine blk_drew ?_ | refine blk_alloc ?_ _)); exact BK307.out⟩, ⟨by repeat (first | (with_reducible first | exact HB.out | apply below_alloc | apply pw_below_drewN | apply below_drew1 | refine below_set ?_ GE307.out) | exact HB.out)⟩⟩
        · rw [if_neg c5] at H
          exact absurd H (by simp)
      · rw [if_neg c4] at H
        have c4b0 : decide (x6_1 < (l1.length : Int)) = false := decide_eq_false c4
        clear c4
        have H' := Aside0.mk H
        clear H
        go_wp2
        go_loopg [5, 7] k1 (fun kq v5 v7 w' => ∃ (x5_2 : List (S49)) (x7_2 : Int), v7 = .int .i64 x7_2 ∧ Aside0 (swingleref26_Clauses.l1 kq x5_2 x7_2 l0_0 = some r) ∧ Aside0 (kq ≤ k1) ∧ Aside0 (Kd.R k49 49 w' w.heap.size (fun _ => True) v5 x5_2) ∧ Aside0 (w'.heap[gb307]? = some (.cells #[(.slice A0_0 l0_0.length c0_0)] 24 (0, 0))) ∧ Aside0 (Below w.heap.size w w'))
        case atStart => exact ⟨(x5_1), (0), (by first | rfl | (simp; done) | (simp [*]; done)), H', ⟨Nat.le_refl _⟩, ⟨by (with_reducible repeat (first | apply Kd.R_alloc | apply Kd.R_drewN | apply Kd.R_drew)); exact HO_5.out⟩, ⟨by (with_reducible repeat (first | refine blk_drewN ?_ _ | refine blk_drew ?_ | refine blk_alloc ?_ _)); exact BK307.out⟩, ⟨by repeat (first | (with_reducible first | exact HB.out | apply below_alloc | apply pw_below_drewN | apply below_drew1 | refine below_set ?_ GE307.out) | exact HB.out)⟩⟩
        case round =>
          clear H'
          try clear c1
          try clear p2
          try clear c4
          try clear c4b0
          try clear c5
          try clear p6
          try clear p2
          obtain ⟨x5_2, x7_2, rfl, HA, HK2, HO_5, BK307, HB⟩ := hrel
          cases gk with
          | zero => exact absurd HA.out (by simp [swingleref26_Clauses.l1])
          | succ k2 =>
            have H := HA.out
            clear HA
            simp only [swingleref26_Clauses.l1] at H
            by_cases c7 : x7_2 < (l0_0.length : Int)
            · rw [if_pos c7] at H
              have c7b0 : decide (x7_2 < (l0_0.length : Int)) = true := decide_eq_true c7
              clear c7
              have H' := Aside0.mk H
              clear H
              have hcz8_0 : wr.cell? ⟨gb307, 0, none⟩ = some (.slice A0_0 l0_0.length c0_0) := (blk_cell BK307.out 0).trans rfl
              have hfz8_0 := blk_frozen BK307.out 0
              go_wp2
              go_loopg [5, 8] k2 (fun kq v5 v8 w' => ∃ (x5_3 : List (S49)) (x8_3 : Int), v8 = .int .i64 x8_3 ∧ Aside0 (swingleref26_Clauses.l2 kq x5_3 x7_2 x8_3 l0_0 = some r) ∧ Aside0 (kq ≤ k2) ∧ Aside0 (Kd.R k49 49 w' w.heap.size (fun _ => True) v5 x5_3) ∧ Aside0 (w'.heap[gb307]? = some (.cells #[(.slice A0_0 l0_0.length c0_0)] 24 (0, 0))) ∧ Aside0 (Below w.heap.size w w'))
              case atStart => exact ⟨(x5_2), (0), (by first | rfl | (simp; done) | (simp [*]; done)), H', ⟨Nat.le_refl _⟩, ⟨by (with_reducible repeat (first | apply Kd.R_alloc | apply Kd.R_drewN | apply Kd.R_drew)); exact HO_5.out⟩, ⟨by (with_reducible repeat (first | refine blk_drewN ?_ _ | refine blk_drew ?_ | refine blk_alloc ?_ _)); exact BK307.out⟩, ⟨by repeat (first | (with_reducible first | exact HB.out | apply below_alloc | apply pw_below_drewN | apply below_drew1 | refine below_set ?_ GE307.out) | exact HB.out)⟩⟩
              case round =>
                clear H'
                try clear c1
                try clear p2
                try clear c4
                try clear c4b0
                try clear c5
                try clear p6
                try clear c7
                try clear c7b0
                try clear hcz8_0
                try clear hfz8_0
                try clear p2
                try clear p6
                obtain ⟨x5_3, x8_3, rfl, HA, HK3, HO_5, BK307, HB⟩ := hrel
                cases gk with
                | zero => exact absurd HA.out (by simp [swingleref26_Clauses.l2])
                | succ k3 =>
                  have H := HA.out
                  clear HA
                  simp only [swingleref26_Clauses.l2] at H
                  by_cases c9 : 0 ≤ x7_2
                  · rw [if_pos c9] at H
                    have c9b0 : decide (0 ≤ x7_2) = true := decide_eq_true c9
                    clear c9
                    by_cases c10 : x7_2 < (l0_0.length : Int)
                    · rw [if_pos c10] at H
                      have c10b0 : decide (x7_2 < (l0_0.length : Int)) = true := decide_eq_true c10
                      clear c10
                      by_cases c11 : x8_3 < ((rd_L4 l0_0 x7_2).length : Int)
                      · rw [if_pos c11] at H
                        have c11b0 : decide (x8_3 < ((rd_L4 l0_0 x7_2).length : Int)) = true := decide_eq_true c11
                        clear c11
                        have H' := Aside0.mk H
                        clear H
                        have hcz12_0 : wr.cell? ⟨gb307, 0, none⟩ = some (.slice A0_0 l0_0.length c0_0) := (blk_cell BK307.out 0).trans rfl
                        have hfz12_0 := blk_frozen BK307.out 0
                        have p311 : 0 ≤ (x7_2 : Int) := of_decide_eq_true (by first | (with_reducible assumption) | assumption)
                        have q311 : x7_2 < (l0_0.length : Int) := of_decide_eq_true (by first | (with_reducible assumption) | assumption)
                        obtain ⟨ad311, A311_0, c311_0, e311, hx311_0, hl311_0, hi311_0⟩ := at_L4 HR0_0.out x7_2 p311 q311
                        cases e311
                        replace hx311_0 := (HB.out.cell (World.block_lt_of_cell? w _ hx311_0)).trans hx311_0
                        have HR311_0 := Aside0.mk hi311_0
                        have HC311_0 := Aside0.mk hl311_0
                        clear hi311_0 hl311_0
                        replace p311 := eq_true p311
                        replace q311 := eq_true q311
                        go_wp2
                        go_loopg [5, 9] k3 (fun kq v5 v9 w' => ∃ (x5_4 : List (S49)) (x9_4 : Int), v9 = .int .i64 x9_4 ∧ Aside0 (swingleref26_Clauses.l3 kq x5_4 x7_2 x8_3 x9_4 l0_0 = some r) ∧ Aside0 (kq ≤ k3) ∧ Aside0 (Kd.R k49 49 w' w.heap.size (fun _ => True) v5 x5_4) ∧ Aside0 (w'.heap[gb307]? = some (.cells #[(.slice (some ad311) l0_0.length c0_0)] 24 (0, 0))) ∧ Aside0 (Below w.heap.size w w'))
                        case atStart => exact ⟨(x5_3), (0), (by first | rfl | (simp; done) | (simp [*]; done)), H', ⟨Nat.le_refl _⟩, ⟨by (with_reducible repeat (first | apply Kd.R_alloc | apply Kd.R_drewN | apply Kd.R_drew)); exact HO_5.out⟩, ⟨by (with_reducible repeat (first | refine blk_drewN ?_ _ | refine blk_drew ?_ | refine blk_alloc ?_ _)); exact BK307.out⟩, ⟨by repeat (first | (with_reducible first | exact HB.out | apply below_alloc | apply pw_below_drewN | apply below_drew1 | refine below_set ?_ GE307.out) | exact HB.out)⟩⟩
                        case round =>
                          clear H'
                          try clear c1
                          try clear p2
                          try clear c3
                          try clear p3
                          try clear q3
                          try clear hx3
                          try clear c4
                          try clear c4b0
                          try clear c5
                          try clear p6
                          try clear c7
                          try clear c7b0
                          try clear c9
                          try clear c9b0
                          try clear c10
                          try clear c10b0
                          try clear c11
                          try clear c11b0
                          try clear hcz12_0
                          try clear hcz8_0
                          try clear hfz12_0
                          try clear hfz8_0
                          try clear hx311_0
                          try clear p2
                          try clear p311
                          try clear p6
                          try clear q311
                          obtain ⟨x5_4, x9_4, rfl, HA, HK4, HO_5, BK307, HB⟩ := hrel
                          cases gk with
                          | zero => exact absurd HA.out (by simp [swingleref26_Clauses.l3])
                          | succ k4 =>
                            have H := HA.out
                            clear HA
                            simp only [swingleref26_Clauses.l3] at H
                            by_cases c13 : 0 ≤ x7_2
                            · rw [if_pos c13] at H
                              have c13b0 : decide (0 ≤ x7_2) = true := decide_eq_true c13
                              clear c13
                              by_cases c14 : x7_2 < (l0_0.length : Int)
                              · rw [if_pos c14] at H
                                have c14b0 : decide (x7_2 < (l0_0.length : Int)) = true := decide_eq_true c14
                                clear c14
                                by_cases c15 : 0 ≤ x8_3
                                · rw [if_pos c15] at H
                                  have c15b0 : decide (0 ≤ x8_3) = true := decide_eq_true c15
                                  clear c15
                                  by_cases c16 : x8_3 < ((rd_L4 l0_0 x7_2).length : Int)
                                  · rw [if_pos c16] at H
                                    have c16b0 : decide (x8_3 < ((rd_L4 l0_0 x7_2).length : Int)) = true := decide_eq_true c16
                                    clear c16
                                    by_cases c17 : x9_4 < (((rd_T60 (rd_L4 l0_0 x7_2) x8_3).f0).length : Int)
                                    · rw [if_pos c17] at H
                                      have c17b0 : decide (x9_4 < (((rd_T60 (rd_L4 l0_0 x7_2) x8_3).f0).length : Int)) = true := decide_eq_true c17
                                      clear c17
                                      by_cases c18 : x5_4.length < 4398046511104
                                      · rw [if_pos c18] at H
                                        have LMc18 := Aside0.mk c18
                                        clear c18
                                        obtain ⟨y314, hy314⟩ : ∃ y_ : List (S49), y_ = (x5_4 ++ [(⟨x7_2, x8_3, false, x9_4⟩ : S49)]) := ⟨_, rfl⟩
                                        replace H : (swingleref26_Clauses.l3 k4 y314 x7_2 x8_3 (wrap64 (x9_4 + 1)) l0_0) = some r := by first | (rw [hy314]; with_reducible exact H) | (have H2_ := (Option.bind_some _ _).symm.trans H; rw [hy314]; with_reducible exact H2_) | (have H2_ := (Option.bind_some _ _).symm.trans H; with_reducible exact H2_) | with_reducible exact H | (rw [hy314]; exact H) | exact H
                                        have Ny314 := Aside0.mk hy314
                                        clear hy314
                                        have H' := Aside0.mk H
                                        clear H
                                        have hcz19_0 : wr.cell? ⟨gb307, 0, none⟩ = some (.slice (some ad311) l0_0.length c0_0) := (blk_cell BK307.out 0).trans rfl
                                        have hfz19_0 := blk_frozen BK307.out 0
                                        have p312 : 0 ≤ (x7_2 : Int) := of_decide_eq_true (by first | (with_reducible assumption) | assumption)
                                        have q312 : x7_2 < (l0_0.length : Int) := of_decide_eq_true (by first | (with_reducible assumption) | assumption)
                                        obtain ⟨ad312, A312_0, c312_0, e312, hx312_0, hl312_0, hi312_0⟩ := at_L4 HR0_0.out x7_2 p312 q312
                                        obtain rfl : ad311 = ad312 := (by injection e312)
                                        replace hx312_0 := (HB.out.cell (World.block_lt_of_cell? w _ hx312_0)).trans hx312_0
                                        have HR312_0 := Aside0.mk hi312_0
                                        have HC312_0 := Aside0.mk hl312_0
                                        clear hi312_0 hl312_0
                                        replace p312 := eq_true p312
                                        replace q312 := eq_true q312
                                        have p313 : 0 ≤ (x8_3 : Int) := of_decide_eq_true (by first | (with_reducible assumption) | assumption)
                                        have q313 : x8_3 < ((rd_L4 l0_0 x7_2).length : Int) := of_decide_eq_true (by first | (with_reducible assumption) | assumption)
                                        obtain ⟨ad313, A313_0, c313_0, A313_1, c313_1, e313, hx313_0, hx313_1, hl313_0, hi313_0, hl313_1, hi313_1⟩ := at_T60 HR312_0.out x8_3 p313 q313
                                        cases e313
                                        replace hx313_0 := (HB.out.cell (World.block_lt_of_cell? w _ hx313_0)).trans hx313_0
                                        replace hx313_1 := (HB.out.cell (World.block_lt_of_cell? w _ hx313_1)).trans hx313_1
                                        have HR313_0 := Aside0.mk hi313_0
                                        have HC313_0 := Aside0.mk hl313_0
                                        clear hi313_0 hl313_0
                                        have HR313_1 := Aside0.mk hi313_1
                                        have HC313_1 := Aside0.mk hl313_1
                                        clear hi313_1 hl313_1
                                        replace p313 := eq_true p313
                                        replace q313 := eq_true q313
                                        go_wp2_with (first | ((with_reducible refine gate_builtin (b := .append) (xs := #[.tmp 53, .tmp 58]) rfl ?_); at_builtin; refine Kd.R_append k49 (w0 := w) w.heap.size rfl (.tmp 53) (.tmp 58) 41 49 (.agg #[(.int .i64 0), (.int .i64 0), (.bool false), (.int .i64 0)]) 32 rfl Tryd.underlying41 info49 rfl (by decide) (by omega) u5 x5_4 (⟨x7_2, x8_3, false, x9_4⟩ : S49) [.int .i64 x7_2, .int .i64 x8_3, .bool false, .int .i64 x9_4] (fun _ => True) (fun _ => False) rfl rfl ?aP (fun _ hk => hk.elim) ?aF ?aO ?aB ?aS ?aL ?_; (case aP => exact k49_mkM _ _ _ (⟨x7_2, x8_3, false, x9_4⟩ : S49)); (case aB => exact (by repeat (first | (with_reducible first | exact HB.out | apply below_alloc | apply pw_below_drewN | apply below_drew1 | refine below_set ?_ GE307.out) | exact HB.out))); (case aF => exact (fun _ _ => trivial)); (case aO => exact (by (with_reducible repeat (first | apply Kd.R_alloc | apply Kd.R_drewN | apply Kd.R_drew)); exact HO_5.out)); (case aS => exact (below_size (by repeat (first | (with_reducible first | exact HB.out | apply below_alloc | apply pw_below_drewN | apply below_drew1 | refine below_set ?_ GE307.out) | exact HB.out)))); (case aL => have := LMc18.out; omega); intro v315 w20 ho hb hg hat; rw [← Ny314.out] at ho; have n0_ := Aside0.mk (blk_grown (g := gb307) (o := .cells #[.slice (some ad311) l0_0.length c0_0] 24 (0, 0)) (by (with_reducible repeat (first | refine blk_drewN ?_ _ | refine blk_drew ?_ | refine blk_alloc ?_ _)); exact BK307.out) hg (Kd.R_ne HO_5.out BK307.out (by decide))); have n1_ := Aside0.mk (hb); have n2_ := Aside0.mk (ho); clear BK307; clear HB; clear HO_5; have BK307 := n0_; have HB := n1_; have HO316 := n2_; clear n0_ n1_ n2_; clear ho hb hg hat))
                                        go_roundg k4
                                        case measure => have := HK1.out; have := HK2.out; have := HK3.out; have := HK4.out; omega
                                        case rel => exact ⟨(y314), (wrap64 (x9_4 + 1)), (by first | rfl | (simp; done) | (simp [*]; done)), H', ⟨by have := HK1.out; have := HK2.out; have := HK3.out; have := HK4.out; omega⟩, ⟨by (with_reducible repeat (first | apply Kd.R_alloc | apply Kd.R_drewN | apply Kd.R_drew)); exact HO316.out⟩, ⟨by (with_reducible repeat (first | refine blk_drewN ?_ _ | refine blk_drew ?_ | refine blk_alloc ?_ _)); exact BK307.out⟩, ⟨by repeat (first | (with_reducible first | exact HB.out | apply below_alloc | apply pw_below_drewN | apply below_drew1 | refine below_set ?_ GE307.out) | exact HB.out)⟩⟩
                                      · rw [if_neg c18] at H
                                        exact absurd H (by simp)
                                    · rw [if_neg c17] at H
                                      have c17b0 : decide (x9_4 < (((rd_T60 (rd_L4 l0_0 x7_2) x8_3).f0).length : Int)) = false := decide_eq_false c17
                                      clear c17
                                      have H' := Aside0.mk H
                                      clear H
                                      have hcz21_0 : wr.cell? ⟨gb307, 0, none⟩ = some (.slice (some ad311) l0_0.length c0_0) := (blk_cell BK307.out 0).trans rfl
                                      have hfz21_0 := blk_frozen BK307.out 0
                                      have p312 : 0 ≤ (x7_2 : Int) := of_decide_eq_true (by first | (with_reducible assumption) | assumption)
                                      have q312 : x7_2 < (l0_0.length : Int) := of_decide_eq_true (by first | (with_reducible assumption) | assumption)
                                      obtain ⟨ad312, A312_0, c312_0, e312, hx312_0, hl312_0, hi312_0⟩ := at_L4 HR0_0.out x7_2 p312 q312
                                      obtain rfl : ad311 = ad312 := (by injection e312)
                                      replace hx312_0 := (HB.out.cell (World.block_lt_of_cell? w _ hx312_0)).trans hx312_0
                                      have HR312_0 := Aside0.mk hi312_0
                                      have HC312_0 := Aside0.mk hl312_0
                                      clear hi312_0 hl312_0
                                      replace p312 := eq_true p312
                                      replace q312 := eq_true q312
                                      have p313 : 0 ≤ (x8_3 : Int) := of_decide_eq_true (by first | (with_reducible assumption) | assumption)
                                      have q313 : x8_3 < ((rd_L4 l0_0 x7_2).length : Int) := of_decide_eq_true (by first | (with_reducible assumption) | assumption)
                                      obtain ⟨ad313, A313_0, c313_0, A313_1, c313_1, e313, hx313_0, hx313_1, hl313_0, hi313_0, hl313_1, hi313_1⟩ := at_T60 HR312_0.out x8_3 p313 q313
                                      cases e313
                                      replace hx313_0 := (HB.out.cell (World.block_lt_of_cell? w _ hx313_0)).trans hx313_0
                                      replace hx313_1 := (HB.out.cell (World.block_lt_of_cell? w _ hx313_1)).trans hx313_1
                                      have HR313_0 := Aside0.mk hi313_0
                                      have HC313_0 := Aside0.mk hl313_0
                                      clear hi313_0 hl313_0
                                      have HR313_1 := Aside0.mk hi313_1
                                      have HC313_1 := Aside0.mk hl313_1
                                      clear hi313_1 hl313_1
                                      replace p313 := eq_true p313
                                      replace q313 := eq_true q313
                                      go_wp2
                                      go_loopg [5, 10] k4 (fun kq v5 v10 w' => ∃ (x5_5 : List (S49)) (x10_5 : Int), v10 = .int .i64 x10_5 ∧ Aside0 (swingleref26_Clauses.l4 kq x5_5 x7_2 x8_3 x10_5 l0_0 = some r) ∧ Aside0 (kq ≤ k4) ∧ Aside0 (Kd.R k49 49 w' w.heap.size (fun _ => True) v5 x5_5) ∧ Aside0 (w'.heap[gb307]? = some (.cells #[(.slice (some ad311) l0_0.length c0_0)] 24 (0, 0))) ∧ Aside0 (Below w.heap.size w w'))
                                      case atStart => exact ⟨(x5_4), (0), (by first | rfl | (simp; done) | (simp [*]; done)), H', ⟨Nat.le_refl _⟩, ⟨by (with_reducible repeat (first | apply Kd.R_alloc | apply Kd.R_drewN | apply Kd.R_drew)); exact HO_5.out⟩, ⟨by (with_reducible repeat (first | refine blk_drewN ?_ _ | refine blk_drew ?_ | refine blk_alloc ?_ _)); exact BK307.out⟩, ⟨by repeat (first | (with_reducible first | exact HB.out | apply below_alloc | apply pw_below_drewN | apply below_drew1 | refine below_set ?_ GE307.out) | exact HB.out)⟩⟩
                                      case round =>
                                        clear H'
                                        try clear c1
                                        try clear p2
                                        try clear c3
                                        try clear p3
                                        try clear q3
                                        try clear hx3
                                        try clear c4
                                        try clear c4b0
                                        try clear c5
                                        try clear p6
                                        try clear c7
                                        try clear c7b0
                                        try clear c9
                                        try clear c9b0
                                        try clear c10
                                        try clear c10b0
                                        try clear c11
                                        try clear c11b0
                                        try clear c13
                                        try clear c13b0
                                        try clear c14
                                        try clear c14b0
                                        try clear c15
                                        try clear c15b0
                                        try clear c16
                                        try clear c16b0
                                        try clear c17
                                        try clear c17b0
                                        try clear c18
                                        try clear hcz12_0
                                        try clear hcz19_0
                                        try clear hcz21_0
                                        try clear hcz8_0
                                        try clear hfz12_0
                                        try clear hfz19_0
                                        try clear hfz21_0
                                        try clear hfz8_0
                                        try clear hx311_0
                                        try clear hx312_0
                                        try clear hx313_0
                                        try clear hx313_1
                                        try clear p2
                                        try clear p3
                                        try clear p311
                                        try clear p312
                                        try clear p313
                                        try clear p6
                                        try clear q3
                                        try clear q311
                                        try clear q312
                                        try clear q313
                                        obtain ⟨x5_5, x10_5, rfl, HA, HK5, HO_5, BK307, HB⟩ := hrel
                                        cases gk with
                                        | zero => exact absurd HA.out (by simp [swingleref26_Clauses.l4])
                                        | succ k5 =>
                                          have H := HA.out
                                          clear HA
                                          simp only [swingleref26_Clauses.l4] at H
                                          by_cases c22 : 0 ≤ x7_2
                                          · rw [if_pos c22] at H
                                            have c22b0 : decide (0 ≤ x7_2) = true := decide_eq_true c22
                                            clear c22
                                            by_cases c23 : x7_2 < (l0_0.length : Int)
                                            · rw [if_pos c23] at H
                                              have c23b0 : decide (x7_2 < (l0_0.length : Int)) = true := decide_eq_true c23
                                              clear c23
                                              by_cases c24 : 0 ≤ x8_3
                                              · rw [if_pos c24] at H
                                                have c24b0 : decide (0 ≤ x8_3) = true := decide_eq_true c24
                                                clear c24
                                                by_cases c25 : x8_3 < ((rd_L4 l0_0 x7_2).length : Int)
                                                · rw [if_pos c25] at H
                                                  have c25b0 : decide (x8_3 < ((rd_L4 l0_0 x7_2).length : Int)) = true := decide_eq_true c25
                                                  clear c25
                                                  by_cases c26 : x10_5 < (((rd_T60 (rd_L4 l0_0 x7_2) x8_3).f1).length : Int)
                                                  · rw [if_pos c26] at H
                                                    have c26b0 : decide (x10_5 < (((rd_T60 (rd_L4 l0_0 x7_2) x8_3).f1).length : Int)) = true := decide_eq_true c26
                                                    clear c26
                                                    by_cases c27 : x5_5.length < 4398046511104
                                                    · rw [if_pos c27] at H
                                                      have LMc27 := Aside0.mk c27
                                                      clear c27
                                                      obtain ⟨y319, hy319⟩ : ∃ y_ : List (S49), y_ = (x5_5 ++ [(⟨x7_2, x8_3, true, x10_5⟩ : S49)]) := ⟨_, rfl⟩
                                                      replace H : (swingleref26_Clauses.l4 k5 y319 x7_2 x8_3 (wrap64 (x10_5 + 1)) l0_0) = some r := by first | (rw [hy319]; with_reducible exact H) | (have H2_ := (Option.bind_some _ _).symm.trans H; rw [hy319]; with_reducible exact H2_) | (have H2_ := (Option.bind_some _ _).symm.trans H; with_reducible exact H2_) | with_reducible exact H | (rw [hy319]; exact H) | exact H
                                                      have Ny319 := Aside0.mk hy319
                                                      clear hy319
                                                      have H' := Aside0.mk H
                                                      clear H
                                                      have hcz28_0 : wr.cell? ⟨gb307, 0, none⟩ = some (.slice (some ad311) l0_0.length c0_0) := (blk_cell BK307.out 0).trans rfl
                                                      have hfz28_0 := blk_frozen BK307.out 0
                                                      have p317 : 0 ≤ (x7_2 : Int) := of_decide_eq_true (by first | (with_reducible assumption) | assumption)
                                                      have q317 : x7_2 < (l0_0.length : Int) := of_decide_eq_true (by first | (with_reducible assumption) | assumption)
                                                      obtain ⟨ad317, A317_0, c317_0, e317, hx317_0, hl317_0, hi317_0⟩ := at_L4 HR0_0.out x7_2 p317 q317
                                                      obtain rfl : ad311 = ad317 := (by injection e317)
                                                      replace hx317_0 := (HB.out.cell (World.block_lt_of_cell? w _ hx317_0)).trans hx317_0
                                                      have HR317_0 := Aside0.mk hi317_0
                                                      have HC317_0 := Aside0.mk hl317_0
                                                      clear hi317_0 hl317_0
                                                      replace p317 := eq_true p317
                                                      replace q317 := eq_true q317
                                                      have p318 : 0 ≤ (x8_3 : Int) := of_decide_eq_true (by first | (with_reducible assumption) | assumption)
                                                      have q318 : x8_3 < ((rd_L4 l0_0 x7_2).length : Int) := of_decide_eq_true (by first | (with_reducible assumption) | assumption)
                                                      obtain ⟨ad318, A318_0, c318_0, A318_1, c318_1, e318, hx318_0, hx318_1, hl318_0, hi318_0, hl318_1, hi318_1⟩ := at_T60 HR317_0.out x8_3 p318 q318
                                                      cases e318
                                                      replace hx318_0 := (HB.out.cell (World.block_lt_of_cell? w _ hx318_0)).trans hx318_0
                                                      replace hx318_1 := (HB.out.cell (World.block_lt_of_cell? w _ hx318_1)).trans hx318_1
                                                      have HR318_0 := Aside0.mk hi318_0
                                                      have HC318_0 := Aside0.mk hl318_0
                                                      clear hi318_0 hl318_0
                                                      have HR318_1 := Aside0.mk hi318_1
                                                      have HC318_1 := Aside0.mk hl318_1
                                                      clear hi318_1 hl318_1
                                                      replace p318 := eq_true p318
                                                      replace q318 := eq_true q318
                                                      go_wp2_with (first | ((with_reducible refine gate_builtin (b := .append) (xs := #[.tmp 74, .tmp 79]) rfl ?_); at_builtin; refine Kd.R_append k49 (w0 := w) w.heap.size rfl (.tmp 74) (.tmp 79) 41 49 (.agg #[(.int .i64 0), (.int .i64 0), (.bool false), (.int .i64 0)]) 32 rfl Tryd.underlying41 info49 rfl (by decide) (by omega) u5 x5_5 (⟨x7_2, x8_3, true, x10_5⟩ : S49) [.int .i64 x7_2, .int .i64 x8_3, .bool true, .int .i64 x10_5] (fun _ => True) (fun _ => False) rfl rfl ?aP (fun _ hk => hk.elim) ?aF ?aO ?aB ?aS ?aL ?_; (case aP => exact k49_mkM _ _ _ (⟨x7_2, x8_3, true, x10_5⟩ : S49)); (case aB => exact (by repeat (first | (with_reducible first | exact HB.out | apply below_alloc | apply pw_below_drewN | apply below_drew1 | refine below_set ?_ GE307.out) | exact HB.out))); (case aF => exact (fun _ _ => trivial)); (case aO => exact (by (with_reducible repeat (first | apply Kd.R_alloc | apply Kd.R_drewN | apply Kd.R_drew)); exact HO_5.out)); (case aS => exact (below_size (by repeat (first | (with_reducible first | exact HB.out | apply below_alloc | apply pw_below_drewN | apply below_drew1 | refine below_set ?_ GE307.out) | exact HB.out)))); (case aL => have := LMc27.out; omega); intro v320 w29 ho hb hg hat; rw [← Ny319.out] at ho; have n0_ := Aside0.mk (blk_grown (g := gb307) (o := .cells #[.slice (some ad311) l0_0.length c0_0] 24 (0, 0)) (by (with_reducible repeat (first | refine blk_drewN ?_ _ | refine blk_drew ?_ | refine blk_alloc ?_ _)); exact BK307.out) hg (Kd.R_ne HO_5.out BK307.out (by decide))); have n1_ := Aside0.mk (hb); have n2_ := Aside0.mk (ho); clear BK307; clear HB; clear HO_5; have BK307 := n0_; have HB := n1_; have HO321 := n2_; clear n0_ n1_ n2_; clear ho hb hg hat))
                                                      go_roundg k5
                                                      case measure => have := HK1.out; have := HK2.out; have := HK3.out; have := HK4.out; have := HK5.out; omega
                                                      case rel => exact ⟨(y319), (wrap64 (x10_5 + 1)), (by first | rfl | (simp; done) | (simp [*]; done)), H', ⟨by have := HK1.out; have := HK2.out; have := HK3.out; have := HK4.out; have := HK5.out; omega⟩, ⟨by (with_reducible repeat (first | apply Kd.R_alloc | apply Kd.R_drewN | apply Kd.R_drew)); exact HO321.out⟩, ⟨by (with_reducible repeat (first | refine blk_drewN ?_ _ | refine blk_drew ?_ | refine blk_alloc ?_ _)); exact BK307.out⟩, ⟨by repeat (first | (with_reducible first | exact HB.out | apply below_alloc | apply pw_below_drewN | apply below_drew1 | refine below_set ?_ GE307.out) | exact HB.out)⟩⟩
                                                    · rw [if_neg c27] at H
                                                      exact absurd H (by simp)
                                                  · rw [if_neg c26] at H
                                                    have c26b0 : decide (x10_5 < (((rd_T60 (rd_L4 l0_0 x7_2) x8_3).f1).length : Int)) = false := decide_eq_false c26
                                                    clear c26
                                                    have H' := Aside0.mk H
                                                    clear H
                                                    have hcz30_0 : wr.cell? ⟨gb307, 0, none⟩ = some (.slice (some ad311) l0_0.length c0_0) := (blk_cell BK307.out 0).trans rfl
                                                    have hfz30_0 := blk_frozen BK307.out 0
                                                    have p317 : 0 ≤ (x7_2 : Int) := of_decide_eq_true (by first | (with_reducible assumption) | assumption)
                                                    have q317 : x7_2 < (l0_0.length : Int) := of_decide_eq_true (by first | (with_reducible assumption) | assumption)
                                                    obtain ⟨ad317, A317_0, c317_0, e317, hx317_0, hl317_0, hi317_0⟩ := at_L4 HR0_0.out x7_2 p317 q317
                                                    obtain rfl : ad311 = ad317 := (by injection e317)
                                                    replace hx317_0 := (HB.out.cell (World.block_lt_of_cell? w _ hx317_0)).trans hx317_0
                                                    have HR317_0 := Aside0.mk hi317_0
                                                    have HC317_0 := Aside0.mk hl317_0
                                                    clear hi317_0 hl317_0
                                                    replace p317 := eq_true p317
                                                    replace q317 := eq_true q317
                                                    have p318 : 0 ≤ (x8_3 : Int) := of_decide_eq_true (by first | (with_reducible assumption) | assumption)
                                                    have q318 : x8_3 < ((rd_L4 l0_0 x7_2).length : Int) := of_decide_eq_true (by first | (with_reducible assumption) | assumption)
                                                    obtain ⟨ad318, A318_0, c318_0, A318_1, c318_1, e318, hx318_0, hx318_1, hl318_0, hi318_0, hl318_1, hi318_1⟩ := at_T60 HR317_0.out x8_3 p318 q318
                                                    cases e318
                                                    replace hx318_0 := (HB.out.cell (World.block_lt_of_cell? w _ hx318_0)).trans hx318_0
                                                    replace hx318_1 := (HB.out.cell (World.block_lt_of_cell? w _ hx318_1)).trans hx318_1
                                                    have HR318_0 := Aside0.mk hi318_0
                                                    have HC318_0 := Aside0.mk hl318_0
                                                    clear hi318_0 hl318_0
                                                    have HR318_1 := Aside0.mk hi318_1
                                                    have HC318_1 := Aside0.mk hl318_1
                                                    clear hi318_1 hl318_1
                                                    replace p318 := eq_true p318
                                                    replace q318 := eq_true q318
                                                    go_wp2
                                                    go_roundg k5
                                                    case measure => have := HK1.out; have := HK2.out; have := HK3.out; have := HK4.out; have := HK5.out; omega
                                                    case rel => exact ⟨(x5_5), (wrap64 (x8_3 + 1)), (by first | rfl | (simp; done) | (simp [*]; done)), H', ⟨by have := HK1.out; have := HK2.out; have := HK3.out; have := HK4.out; have := HK5.out; omega⟩, ⟨by (with_reducible repeat (first | apply Kd.R_alloc | apply Kd.R_drewN | apply Kd.R_drew)); exact HO_5.out⟩, ⟨by (with_reducible repeat (first | refine blk_drewN ?_ _ | refine blk_drew ?_ | refine blk_alloc ?_ _)); exact BK307.out⟩, ⟨by repeat (first | (with_reducible first | exact HB.out | apply below_alloc | apply pw_below_drewN | apply below_drew1 | refine below_set ?_ GE307.out) | exact HB.out)⟩⟩
                                                · rw [if_neg c25] at H
                                                  exact absurd H (by simp)
                                              · rw [if_neg c24] at H
                                                exact absurd H (by simp)
                                            · rw [if_neg c23] at H
                                              exact absurd H (by simp)
                                          · rw [if_neg c22] at H
                                            exact absurd H (by simp)
                                  · rw [if_neg c16] at H
                                    exact absurd H (by simp)
                                · rw [if_neg c15] at H
                                  exact absurd H (by simp)
                              · rw [if_neg c14] at H
                                exact absurd H (by simp)
                            · rw [if_neg c13] at H
                              exact absurd H (by simp)
                      · rw [if_neg c11] at H
                        have c11b0 : decide (x8_3 < ((rd_L4 l0_0 x7_2).length : Int)) = false := decide_eq_false c11
                        clear c11
                        have H' := Aside0.mk H
                        clear H
                        have hcz31_0 : wr.cell? ⟨gb307, 0, none⟩ = some (.slice A0_0 l0_0.length c0_0) := (blk_cell BK307.out 0).trans rfl
                        have hfz31_0 := blk_frozen BK307.out 0
                        have p311 : 0 ≤ (x7_2 : Int) := of_decide_eq_true (by first | (with_reducible assumption) | assumption)
                        have q311 : x7_2 < (l0_0.length : Int) := of_decide_eq_true (by first | (with_reducible assumption) | assumption)
                        obtain ⟨ad311, A311_0, c311_0, e311, hx311_0, hl311_0, hi311_0⟩ := at_L4 HR0_0.out x7_2 p311 q311
                        cases e311
                        replace hx311_0 := (HB.out.cell (World.block_lt_of_cell? w _ hx311_0)).trans hx311_0
                        have HR311_0 := Aside0.mk hi311_0
                        have HC311_0 := Aside0.mk hl311_0
                        clear hi311_0 hl311_0
                        replace p311 := eq_true p311
                        replace q311 := eq_true q311
                        go_wp2
                        go_roundg k3
                        case measure => have := HK1.out; have := HK2.out; have := HK3.out; omega
                        case rel => exact ⟨(x5_3), (wrap64 (x7_2 + 1)), (by first | rfl | (simp; done) | (simp [*]; done)), H', ⟨by have := HK1.out; have := HK2.out; have := HK3.out; omega⟩, ⟨by (with_reducible repeat (first | apply Kd.R_alloc | apply Kd.R_drewN | apply Kd.R_drew)); exact HO_5.out⟩, ⟨by (with_reducible repeat (first | refine blk_drewN ?_ _ | refine blk_drew ?_ | refine blk_alloc ?_ _)); exact BK307.out⟩, ⟨by repeat (first | (with_reducible first | exact HB.out | apply below_alloc | apply pw_below_drewN | apply below_drew1 | refine below_set ?_ GE307.out) | exact HB.out)⟩⟩
                    · rw [if_neg c10] at H
                      exact absurd H (by simp)
                  · rw [if_neg c9] at H
                    exact absurd H (by simp)
            · rw [if_neg c7] at H
              have c7b0 : decide (x7_2 < (l0_0.length : Int)) = false := decide_eq_false c7
              clear c7
              obtain rfl := Option.some.inj H
              have hcz32_0 : wr.cell? ⟨gb307, 0, none⟩ = some (.slice A0_0 l0_0.length c0_0) := (blk_cell BK307.out 0).trans rfl
              have hfz32_0 := blk_frozen BK307.out 0
              go_wp2
              go_ret
              exact ⟨_, by first | rfl | (simp [errW_none, errW_some] <;> rfl) | (simp [*, errW_none, errW_some] <;> rfl), by (with_reducible repeat (first | apply Kd.R_alloc | apply Kd.R_drewN | apply Kd.R_drew)); exact HO_5.out, by repeat (first | (with_reducible first | exact HB.out | apply below_alloc | apply pw_below_drewN | apply below_drew1 | refine below_set ?_ GE307.out) | exact HB.out)⟩
def swinglelaw26_there.f (k : Nat) (l0_0 : List (List (S60))) (l1 : List (S68)) (a2_0 : Int) (a2_1 : Int) (a2_2 : Bool) (a2_3 : Int) : Option (Bool) := (swingleref26_Clauses.f k l0_0 l1).bind fun t324 => ((api_PackClause_53.f k t324 a2_0 a2_1 a2_2 a2_3).bind fun t327 => (some t327))
theorem swinglelaw26_there.mono : ∀ a0 a1 a2 a3 a4 a5 k, LeO (swinglelaw26_there.f k a0 a1 a2 a3 a4 a5) (swinglelaw26_there.f (k + 1) a0 a1 a2 a3 a4 a5) := by
  intro a0 a1 a2 a3 a4 a5 k
  unfold swinglelaw26_there.f
  repeat' first
      | (with_reducible exact api_PackClause_53.mono _ _ _ _ _ _)
      | (with_reducible exact swingleref26_Clauses.mono _ _ _)
      | (with_reducible exact LeO.refl _)
      | (with_reducible exact LeO.none _)
      | (with_reducible refine LeO.ite ?_ ?_)
      | (with_reducible refine LeO.bind ?_ (fun _ => ?_))
      | exact api_PackClause_53.mono _ _ _ _ _ _
      | exact swingleref26_Clauses.mono _ _ _
      | exact LeO.none _
      | refine LeO.ite ?_ ?_
      | refine LeO.bind ?_ (fun _ => ?_)
set_option maxHeartbeats 8000000 in
set_option maxRecDepth 100000 in
theorem swinglelaw26_there.calls (k : Nat) (A0_0 : Option Addr) (c0_0 : Nat) (l0_0 : List (List (S60))) (A1 : Option Addr) (c1 : Nat) (l1 : List (S68)) (a2_0 : Int) (a2_1 : Int) (a2_2 : Bool) (a2_3 : Int) (r : Bool) (w : World) (hr0_0 : Kd.C (Kd.slice 60 k60) w A0_0 l0_0.length l0_0) (hc0_0 : l0_0.length ≤ c0_0) (hr1 : Kd.C k68 w A1 l1.length l1) (hc1 : l1.length ≤ c1) (h : swinglelaw26_there.f k l0_0 l1 a2_0 a2_1 a2_2 a2_3 = some r) :
    Calls Tryd.prog 16 #[.agg #[.slice A0_0 l0_0.length c0_0], .slice A1 l1.length c1, .agg #[.int .i64 a2_0, .int .i64 a2_1, .bool a2_2, .int .i64 a2_3]] w fun e w' => e = .returned (.bool r) ∧ Below w.heap.size w w' := by
  have hu24 := Tryd.underlying24
  have hu49 := Tryd.underlying49
  have HR0_0 := Aside0.mk hr0_0
  have HC0_0 := Aside0.mk hc0_0
  clear hr0_0 hc0_0
  have HR1 := Aside0.mk hr1
  have HC1 := Aside0.mk hc1
  clear hr1 hc1
  have HB := Aside0.mk (Below.refl w.heap.size w)
  have H : ((swingleref26_Clauses.f k l0_0 l1).bind fun t324 => ((api_PackClause_53.f k t324 a2_0 a2_1 a2_2 a2_3).bind fun t327 => (some t327))) = some r := h
  clear h
  replace H := Option.bind_eq_some_iff.mp H
  obtain ⟨t324, A40, H⟩ := H
  replace H : ((api_PackClause_53.f k t324 a2_0 a2_1 a2_2 a2_3).bind fun t327 => (some t327)) = some r := H
  have A4 := Aside0.mk A40
  clear A40
  replace H := Option.bind_eq_some_iff.mp H
  obtain ⟨t327, A50, H⟩ := H
  replace H : (some t327) = some r := H
  have A5 := Aside0.mk A50
  clear A50
  obtain rfl := Option.some.inj H
  go_enter Tryd.func16, Tryd.ntmps16
  try go_wp2_with (first | ((with_reducible refine gate_dst (N := 3) rfl ?_); refine box_event ?hg (N := 3) ?hd (cs := #[.slice A0_0 l0_0.length c0_0]) (t := 24) ?hr ?_; (case hd => rfl); (case hg => rfl); (case hr => first | (go_simp; done) | (go_simp; rfl)); intro gb322 hg w6 hbox hb; have n0_ := Aside0.mk (below_step (by repeat (first | (with_reducible first | exact HB.out | apply below_alloc | apply pw_below_drewN | apply below_drew1) | exact HB.out)) hb); have n1_ := Aside0.mk (hbox); have n2_ := Aside0.mk ((by rw [hg]; exact (below_size (by repeat (first | (with_reducible first | exact HB.out | apply below_alloc | apply pw_below_drewN | apply below_drew1) | exact HB.out))) : w.heap.size ≤ gb322)); have n3_ := Aside0.mk ((by rw [hg]; exact (below_size (by repeat (first | (with_reducible first | exact HB.out | apply below_alloc | apply pw_below_drewN | apply below_drew1) | exact HB.out))) : w.heap.size ≤ gb322)); clear HB; have HB := n0_; have BK322 := n1_; have GW322 := n2_; have GE322 := n3_; clear n0_ n1_ n2_ n3_; clear hb hbox hg) | ((with_reducible refine gate_dst (N := 5) rfl ?_); refine box_event ?hg (N := 5) ?hd (cs := #[.int .i64 a2_0, .int .i64 a2_1, .bool a2_2, .int .i64 a2_3]) (t := 49) ?hr ?_; (case hd => rfl); (case hg => rfl); (case hr => first | (go_simp; done) | (go_simp; rfl)); intro gb323 hg w7 hbox hb; have n0_ := Aside0.mk (blk_below (g := gb322) (o := .cells #[.slice A0_0 l0_0.length c0_0] 24 (0, 0)) (by (with_reducible repeat (first | refine blk_drewN ?_ _ | refine blk_drew ?_ | refine blk_alloc ?_ _)); exact BK322.out) hb); have n1_ := Aside0.mk (below_step (by repeat (first | (with_reducible first | exact HB.out | apply below_alloc | apply pw_below_drewN | apply below_drew1 | refine below_set ?_ GE322.out) | exact HB.out)) hb); have n2_ := Aside0.mk (hbox); have n3_ := Aside0.mk ((by rw [hg]; exact (below_size (by repeat (first | (with_reducible first | exact HB.out | apply below_alloc | apply pw_below_drewN | apply below_drew1 | refine below_set ?_ GE322.out) | exact HB.out))) : w.heap.size ≤ gb323)); have n4_ := Aside0.mk ((by rw [hg]; exact (below_size (by repeat (first | (with_reducible first | exact HB.out | apply below_alloc | apply pw_below_drewN | apply below_drew1 | refine below_set ?_ GE322.out) | exact HB.out))) : w.heap.size ≤ gb323)); have n5_ := Aside0.mk ((by rw [hg]; exact Nat.ne_of_lt (blk_lt (g := gb322) (o := .cells #[.slice A0_0 l0_0.length c0_0] 24 (0, 0)) (by (with_reducible repeat (first | refine blk_drewN ?_ _ | refine blk_drew ?_ | refine blk_alloc ?_ _)); exact BK322.out)) : gb322 ≠ gb323)); have n6_ := Aside0.mk ((by rw [hg]; exact Nat.ne_of_gt (blk_lt (g := gb322) (o := .cells #[.slice A0_0 l0_0.length c0_0] 24 (0, 0)) (by (with_reducible repeat (first | refine blk_drewN ?_ _ | refine blk_drew ?_ | refine blk_alloc ?_ _)); exact BK322.out)) : gb323 ≠ gb322)); clear BK322; clear HB; have BK322 := n0_; have HB := n1_; have BK323 := n2_; have GW323 := n3_; have GE323 := n4_; have NB322_323 := n5_; have NB323_322 := n6_; clear n0_ n1_ n2_ n3_ n4_ n5_ n6_; clear hb hbox hg))
  have n0_ := Aside0.mk (blk_drew BK322.out)
  have n1_ := Aside0.mk (blk_drew BK323.out)
  have n2_ := Aside0.mk (below_drew1 HB.out)
  clear BK322
  clear BK323
  clear HB
  have BK322 := n0_
  have BK323 := n1_
  have HB := n2_
  clear n0_ n1_ n2_
  refine start_ (n := 6) (S := fun w' => w'.cell? ⟨gb322, 0, none⟩ = some (.slice A0_0 l0_0.length c0_0) ∧ w'.cell? ⟨gb323, 0, none⟩ = some (.int .i64 a2_0) ∧ w'.cell? ⟨gb323, 1, none⟩ = some (.int .i64 a2_1) ∧ w'.cell? ⟨gb323, 2, none⟩ = some (.bool a2_2) ∧ w'.cell? ⟨gb323, 3, none⟩ = some (.int .i64 a2_3)) (ds := []) #[false, false, false, false, false, false] (by kernel_rfl) rfl rfl ⟨(blk_cell BK322.out 0).trans rfl, (blk_cell BK323.out 0).trans rfl, (blk_cell BK323.out 1).trans rfl, (blk_cell BK323.out 2).trans rfl, (blk_cell BK323.out 3).trans rfl⟩ (fun hHeld => ?_)
  generalize w7.drew = w8 at BK322 BK323 HB hHeld ⊢
  refine pure_ (i := 1) (N := some 8) (v := ?_) (a' := ?_) #[false, true, false, false, false, false] rfl rfl (by kernel_rfl) (fun _ _ _ h => h) (Or.inl ⟨by rfl, ?_⟩) ?_ ?_
  rotate_left
  · intro w'
    go_simp
    with_reducible rfl
  rotate_left
  · simp only [Act.put, List.setIfInBounds_toArray, List.set_cons_zero, List.set_cons_succ, i64_w, i32_w]
    rfl
  refine take_ (i := 0) (N := some 7) (v := ?_) (a' := ?_) #[true, true, false, false, false, false] rfl rfl (by kernel_rfl) (fun _ _ _ h => h) (Or.inl ⟨by rfl, ?_⟩) hHeld ?_ ?_
  rotate_left
  · rintro w' ⟨s0, s1, s2, s3, s4⟩
    go_simp
    with_reducible rfl
  rotate_left
  · simp only [Act.put, List.setIfInBounds_toArray, List.set_cons_zero, List.set_cons_succ, i64_w, i32_w]
    rfl
  refine take_ (i := 3) (N := some 10) (v := ?_) (a' := ?_) #[true, true, false, true, false, false] rfl rfl (by kernel_rfl) (fun _ _ _ h => h) (Or.inl ⟨by rfl, ?_⟩) hHeld ?_ ?_
  rotate_left
  · rintro w' ⟨s0, s1, s2, s3, s4⟩
    go_simp
    with_reducible rfl
  rotate_left
  · simp only [Act.put, List.setIfInBounds_toArray, List.set_cons_zero, List.set_cons_succ, i64_w, i32_w]
    rfl
  refine one_ (i := 2) (N := some 9) #[true, true, true, true, false, false] rfl rfl (by kernel_rfl) (by decide) (fun K hK => ?_)
  refine goes_ Tryd.func54 (by kernel_rfl) rfl #[.agg #[.slice A0_0 l0_0.length c0_0], .slice A1 l1.length c1] (by rfl) rfl rfl (by (try simp only [List.map_toArray, List.map_cons, List.map_nil]); first | done | rfl | (simp only [List.length_drop, List.length_take]; rfl)) ?_
  with_reducible refine (swingleref26_Clauses.calls k _ _ l0_0 _ _ l1 t324 _ ?side1 ?side2 ?side3 ?side4 A4.out).mono ?_
  (case side1 => repeat (first | exact (Kd.C_below HR0_0.out HB.out) | (with_reducible refine Kd.C_alloc ?_ _) | (with_reducible refine Kd.C_drewN ?_ _) | (with_reducible refine Kd.C_drew ?_)))
  (case side2 => exact HC0_0.out)
  (case side3 => repeat (first | exact (Kd.C_below HR1.out HB.out) | (with_reducible refine Kd.C_alloc ?_ _) | (with_reducible refine Kd.C_drewN ?_ _) | (with_reducible refine Kd.C_drew ?_)))
  (case side4 => exact HC1.out)
  rintro e w9 ⟨v325, rfl, ho0, hb⟩
  refine ⟨_, rfl, ?_⟩
  have n0_ := Aside0.mk (Kd.R_lower (Kd.R_newB ho0 (g := gb323) (o := .cells #[.int .i64 a2_0, .int .i64 a2_1, .bool a2_2, .int .i64 a2_3] 49 (0, 0)) (by (with_reducible repeat (first | refine blk_drewN ?_ _ | refine blk_drew ?_ | refine blk_alloc ?_ _)); exact BK323.out)) (below_size (by repeat (first | (with_reducible first | exact HB.out | apply below_alloc | apply pw_below_drewN | apply below_drew1 | refine below_set ?_ GE322.out | refine below_set ?_ GE323.out) | exact HB.out))))
  have n1_ := Aside0.mk (blk_below (g := gb322) (o := .cells #[.slice A0_0 l0_0.length c0_0] 24 (0, 0)) (by (with_reducible repeat (first | refine blk_drewN ?_ _ | refine blk_drew ?_ | refine blk_alloc ?_ _)); exact BK322.out) hb)
  have n2_ := Aside0.mk (blk_below (g := gb323) (o := .cells #[.int .i64 a2_0, .int .i64 a2_1, .bool a2_2, .int .i64 a2_3] 49 (0, 0)) (by (with_reducible repeat (first | refine blk_drewN ?_ _ | refine blk_drew ?_ | refine blk_alloc ?_ _)); exact BK323.out) hb)
  have n3_ := Aside0.mk (below_step (by repeat (first | (with_reducible first | exact HB.out | apply below_alloc | apply pw_below_drewN | apply below_drew1 | refine below_set ?_ GE322.out | refine below_set ?_ GE323.out) | exact HB.out)) hb)
  clear BK322
  clear BK323
  clear HB
  have HO326 := n0_
  have BK322 := n1_
  have BK323 := n2_
  have HB := n3_
  clear n0_ n1_ n2_ n3_
  (try clear hb)
  (try clear hb2)
  (try clear hk)
  (try clear hi)
  (try clear ho0)
  obtain ⟨Ao10, co10, eo10⟩ := Kd.R_slice HO326.out
  (first | subst eo10 | (injection eo10 with f1_ f2_ f3_; have f4_ := f1_.symm; have f5_ := f3_.symm; clear f1_ f2_ f3_; subst f4_; subst f5_))
  refine hK.out _ _ ⟨(blk_cell BK322.out 0).trans rfl, (blk_cell BK323.out 0).trans rfl, (blk_cell BK323.out 1).trans rfl, (blk_cell BK323.out 2).trans rfl, (blk_cell BK323.out 3).trans rfl⟩ (fun hHeld => ?_)
  clear hK K
  refine norm_ (a' := ?_) ?_ ?_
  rotate_left
  · show Act.put _ (some 9) _ = _
    simp only [Act.put, List.setIfInBounds_toArray, List.set_cons_zero, List.set_cons_succ, i64_w, i32_w]
    rfl
  refine one_ (i := 4) (N := some 11) #[true, true, true, true, true, false] rfl rfl (by kernel_rfl) (by decide) (fun K hK => ?_)
  refine goes_ Tryd.func53 (by kernel_rfl) rfl #[.slice Ao10 t324.length co10, .agg #[.int .i64 a2_0, .int .i64 a2_1, .bool a2_2, .int .i64 a2_3]] (by rfl) rfl rfl (by (try simp only [List.map_toArray, List.map_cons, List.map_nil]); first | done | rfl | (simp only [List.length_drop, List.length_take]; rfl)) ?_
  with_reducible refine (api_PackClause_53.calls k _ _ t324 a2_0 a2_1 a2_2 a2_3 t327 _ ?side1 ?side2 A5.out).mono ?_
  (case side1 => repeat (first | exact (Kd.R_reads' HO326.out).2.2 | (with_reducible refine Kd.C_alloc ?_ _) | (with_reducible refine Kd.C_drewN ?_ _) | (with_reducible refine Kd.C_drew ?_)))
  (case side2 => exact (Kd.R_reads' HO326.out).2.1)
  rintro e w11 ⟨rfl, hb⟩
  refine ⟨_, rfl, ?_⟩
  have n0_ := Aside0.mk (Kd.R_below (by (with_reducible repeat (first | apply Kd.R_alloc | apply Kd.R_drewN | apply Kd.R_drew)); exact HO326.out) hb)
  have n1_ := Aside0.mk (blk_below (g := gb322) (o := .cells #[.slice A0_0 l0_0.length c0_0] 24 (0, 0)) (by (with_reducible repeat (first | refine blk_drewN ?_ _ | refine blk_drew ?_ | refine blk_alloc ?_ _)); exact BK322.out) hb)
  have n2_ := Aside0.mk (blk_below (g := gb323) (o := .cells #[.int .i64 a2_0, .int .i64 a2_1, .bool a2_2, .int .i64 a2_3] 49 (0, 0)) (by (with_reducible repeat (first | refine blk_drewN ?_ _ | refine blk_drew ?_ | refine blk_alloc ?_ _)); exact BK323.out) hb)
  have n3_ := Aside0.mk (below_step (by repeat (first | (with_reducible first | exact HB.out | apply below_alloc | apply pw_below_drewN | apply below_drew1 | refine below_set ?_ GE322.out | refine below_set ?_ GE323.out) | exact HB.out)) hb)
  clear HO326
  clear BK322
  clear BK323
  clear HB
  have HO326 := n0_
  have BK322 := n1_
  have BK323 := n2_
  have HB := n3_
  clear n0_ n1_ n2_ n3_
  (try clear hb)
  (try clear hb2)
  (try clear hk)
  (try clear hi)
  refine hK.out _ _ ⟨(blk_cell BK322.out 0).trans rfl, (blk_cell BK323.out 0).trans rfl, (blk_cell BK323.out 1).trans rfl, (blk_cell BK323.out 2).trans rfl, (blk_cell BK323.out 3).trans rfl⟩ (fun hHeld => ?_)
  clear hK K
  refine norm_ (a' := ?_) ?_ ?_
  rotate_left
  · show Act.put _ (some 11) _ = _
    simp only [Act.put, List.setIfInBounds_toArray, List.set_cons_zero, List.set_cons_succ, i64_w, i32_w]
    rfl
  refine pure_ (i := 5) (N := some 6) (v := ?_) (a' := ?_) #[true, true, true, true, true, true] rfl rfl (by kernel_rfl) (fun _ _ _ h => h) (Or.inl ⟨by rfl, ?_⟩) ?_ ?_
  rotate_left
  · intro w'
    go_simp
    with_reducible rfl
  rotate_left
  · simp only [Act.put, List.setIfInBounds_toArray, List.set_cons_zero, List.set_cons_succ, i64_w, i32_w]
    rfl
  refine done_ (by kernel_rfl) ?_
  try go_wp2
  go_ret
  exact ⟨by first | rfl | (simp [errW_none, errW_some] <;> rfl) | (simp [*, errW_none, errW_some] <;> rfl), by repeat (first | (with_reducible first | exact HB.out | apply below_alloc | apply pw_below_drewN | apply below_drew1 | refine below_set ?_ GE322.out | refine below_set ?_ GE323.out) | exact HB.out)⟩
def bits_Mul32.f (a0 : Int) (a1 : Int) : Option (Int × Int) := some (((IntKind.u64.wrap ((IntKind.u64.wrap (a0)) * (IntKind.u64.wrap (a1)))) / 4294967296) % 4294967296, (IntKind.u64.wrap ((IntKind.u64.wrap (a0)) * (IntKind.u64.wrap (a1)))) % 4294967296)
set_option maxHeartbeats 8000000 in
set_option maxRecDepth 100000 in
theorem bits_Mul32.calls (a0 : Int) (a1 : Int) (r1 : Int) (r2 : Int) (w : World) (h : bits_Mul32.f a0 a1 = some (r1, r2)) :
    Calls Tryd.prog 93 #[.int .u32 a0, .int .u32 a1] w fun e w' => e = .returned (.tuple #[.int .u32 r1, .int .u32 r2]) ∧ Drawn0 w w' := by
  have H : (some (((IntKind.u64.wrap ((IntKind.u64.wrap (a0)) * (IntKind.u64.wrap (a1)))) / 4294967296) % 4294967296, (IntKind.u64.wrap ((IntKind.u64.wrap (a0)) * (IntKind.u64.wrap (a1)))) % 4294967296)) = some (r1, r2) := h
  clear h
  simp only [Option.some.injEq, Prod.mk.injEq] at H
  obtain ⟨rfl, rfl⟩ := H
  go_enter Tryd.func93, Tryd.ntmps93
  go_wp2
  go_ret2
  exact ⟨by first | rfl | (simp; done) | (simp [*]; done), by repeat (first | exact Drawn0.refl _ | apply Drawn0.step)⟩
def bits_Mul64.f (a0 : Int) (a1 : Int) : Option (Int × Int) := some (IntKind.u64.wrap ((IntKind.u64.wrap ((IntKind.u64.wrap ((a0 / 4294967296) * (a1 / 4294967296))) + ((IntKind.u64.wrap ((IntKind.u64.wrap ((a0 / 4294967296) * (Go.bits .and .u64 a1 4294967295))) + ((IntKind.u64.wrap ((Go.bits .and .u64 a0 4294967295) * (Go.bits .and .u64 a1 4294967295))) / 4294967296))) / 4294967296))) + ((IntKind.u64.wrap ((Go.bits .and .u64 (IntKind.u64.wrap ((IntKind.u64.wrap ((a0 / 4294967296) * (Go.bits .and .u64 a1 4294967295))) + ((IntKind.u64.wrap ((Go.bits .and .u64 a0 4294967295) * (Go.bits .and .u64 a1 4294967295))) / 4294967296))) 4294967295) + (IntKind.u64.wrap ((Go.bits .and .u64 a0 4294967295) * (a1 / 4294967296))))) / 4294967296)), IntKind.u64.wrap (a0 * a1))
set_option maxHeartbeats 8000000 in
set_option maxRecDepth 100000 in
theorem bits_Mul64.calls (a0 : Int) (a1 : Int) (r1 : Int) (r2 : Int) (w : World) (h : bits_Mul64.f a0 a1 = some (r1, r2)) :
    Calls Tryd.prog 94 #[.int .u64 a0, .int .u64 a1] w fun e w' => e = .returned (.tuple #[.int .u64 r1, .int .u64 r2]) ∧ Drawn0 w w' := by
  have H : (some (IntKind.u64.wrap ((IntKind.u64.wrap ((IntKind.u64.wrap ((a0 / 4294967296) * (a1 / 4294967296))) + ((IntKind.u64.wrap ((IntKind.u64.wrap ((a0 / 4294967296) * (Go.bits .and .u64 a1 4294967295))) + ((IntKind.u64.wrap ((Go.bits .and .u64 a0 4294967295) * (Go.bits .and .u64 a1 4294967295))) / 4294967296))) / 4294967296))) + ((IntKind.u64.wrap ((Go.bits .and .u64 (IntKind.u64.wrap ((IntKind.u64.wrap ((a0 / 4294967296) * (Go.bits .and .u64 a1 4294967295))) + ((IntKind.u64.wrap ((Go.bits .and .u64 a0 4294967295) * (Go.bits .and .u64 a1 4294967295))) / 4294967296))) 4294967295) + (IntKind.u64.wrap ((Go.bits .and .u64 a0 4294967295) * (a1 / 4294967296))))) / 4294967296)), IntKind.u64.wrap (a0 * a1))) = some (r1, r2) := h
  clear h
  simp only [Option.some.injEq, Prod.mk.injEq] at H
  obtain ⟨rfl, rfl⟩ := H
  go_enter Tryd.func94, Tryd.ntmps94
  go_wp2
  go_ret2
  exact ⟨by first | rfl | (simp; done) | (simp [*]; done), by repeat (first | exact Drawn0.refl _ | apply Drawn0.step)⟩
def bits_Mul.f (a0 : Int) (a1 : Int) : Option (Int × Int) := (bits_Mul64.f a0 a1).bind fun bt328 => (some (bt328.1, bt328.2))
set_option maxHeartbeats 8000000 in
set_option maxRecDepth 100000 in
theorem bits_Mul.calls (a0 : Int) (a1 : Int) (r1 : Int) (r2 : Int) (w : World) (h : bits_Mul.f a0 a1 = some (r1, r2)) :
    Calls Tryd.prog 82 #[.int .u64 a0, .int .u64 a1] w fun e w' => e = .returned (.tuple #[.int .u64 r1, .int .u64 r2]) ∧ Drawn0 w w' := by
  have H : ((bits_Mul64.f a0 a1).bind fun bt328 => (some (bt328.1, bt328.2))) = some (r1, r2) := h
  clear h
  replace H := Option.bind_eq_some_iff.mp H
  obtain ⟨⟨t328, t329⟩, A30, H⟩ := H
  replace H : (some (t328, t329)) = some (r1, r2) := H
  have A3 := Aside0.mk A30
  clear A30
  simp only [Option.some.injEq, Prod.mk.injEq] at H
  obtain ⟨rfl, rfl⟩ := H
  go_enter Tryd.func82, Tryd.ntmps82
  go_wp2_with (first | ((with_reducible refine gate_callee (f := 94) rfl ?_); refine goesL_ (some 25) rfl rfl Tryd.func94 (by kernel_rfl) rfl #[.int .u64 a0, .int .u64 a1] rfl (by (try simp only [List.map_toArray, List.map_cons, List.map_nil]); first | done | rfl | (simp only [List.length_drop, List.length_take]; rfl)) ?_; (with_reducible refine (bits_Mul64.calls a0 a1 t328 t329 _ A3.out).mono ?_); rintro e w' ⟨rfl, ⟨nd, rfl⟩⟩; refine ⟨_, rfl, ?_⟩))
  go_ret2
  exact ⟨by first | rfl | (simp; done) | (simp [*]; done), by repeat (first | exact Drawn0.refl _ | apply Drawn0.step)⟩
end Go.Proofs.YtlhnpbdpojcbeaaDoor.PPackAll
end
section
open Go Go.RowKit
namespace Go.Proofs.YtlhnpbdpojcbeaaDoor
open Go.Proofs.YtlhnpbdpojcbeaaDoorW.PrintWords
open PPackAll Go.Shelf
set_option linter.unusedVariables false
set_option linter.unusedSimpArgs false
def rowM (b n : Nat) : List Value := List.replicate b (.int .i64 (-1)) ++ List.replicate (n - b) (.int .i64 0)
theorem rowM_length (b n : Nat) (h : b ≤ n) : (rowM b n).length = n := by simp [rowM]; omega
theorem rowM_splice (b n k : Nat) (h : b + k ≤ n) : (rowM b n).take b ++ (List.replicate k (Value.int .i64 (-1)) ++ (rowM b n).drop (b + k)) = rowM (b + k) n := by
  unfold rowM
  rw [List.take_left' (by simp), List.drop_append]
  simp only [List.length_replicate, List.drop_replicate]
  rw [show b - (b + k) = 0 by omega, show b + k - b = k by omega]
  simp only [List.replicate_zero, List.nil_append]
  rw [show n - b - k = n - (b + k) by omega, ← List.append_assoc, List.replicate_append_replicate]
theorem rowM_at (b n j : Nat) (h : j < b) : (rowM b n)[j]? = some (.int .i64 (-1)) := by
  unfold rowM
  rw [List.getElem?_append_left (by simpa using h)]
  simp [h]
theorem mul_one (n : Nat) (h : n ≤ 8) : bits_Mul.f 1 (n : Int) = some (0, (n : Int)) := by
  have : ∀ i : Fin 9, bits_Mul.f 1 (i.val : Int) = some (0, (i.val : Int)) := by decide +kernel
  exact this ⟨n, by omega⟩
theorem u8n (n : Nat) (h : n ≤ 8) : IntKind.u64.wrap (n : Int) = (n : Int) ∧ IntKind.i64.wrap (n : Int) = (n : Int) := by
  rw [IntKind.wrap_u64, IntKind.wrap_i64]
  omega
theorem made_rowM (n : Nat) : madeCells #[Value.int .i64 0] n = (rowM 0 n).toArray := by
  apply Array.ext'
  apply List.ext_getElem
  · simp [madeCells, rowM]
  · intro i h1 h2
    simp [madeCells, rowM, Nat.mod_one]
theorem size3 : (Tryd.prog.info? 3).map (·.size) = some 1 := by kernel_rfl
set_option maxHeartbeats 600000 in
theorem repeat_calls (n : Nat) (h1 : 1 ≤ n) (h8 : n ≤ 8) (g : Nat) (cap : Nat) (w : World) (hg : w.cell? ⟨g, 0, none⟩ = some (.int .i64 (-1))) :
    Calls Tryd.prog 55 #[.slice (some ⟨g, 0, none⟩) 1 cap, .int .i64 n] w fun e w' =>
      ∃ v, e = .returned v ∧ (Kd.int .i64).R 3 w' w.heap.size (fun _ => True) v (List.replicate n (-1)) ∧ Below w.heap.size w w' := by
  have hmul := fun W => bits_Mul.calls 1 (n : Int) 0 (n : Int) W (mul_one n h8)
  obtain ⟨u1, u2⟩ := u8n n h8
  have lg := World.block_lt_of_cell? w _ hg
  have hmk := print_make (P := Tryd.prog) 30 3 .i64 8 Tryd.underlying30 info3s (by omega) n (by omega)
  have hp : (0 : Int) ≤ n := by omega
  have hle : decide ((n : Int) > 9223372036854775807) = false := decide_eq_false (by omega)
  have Hhmul := Lib.hid hmul
  have Hhmk := Lib.hid hmk
  clear hmul hmk
  go_enter Tryd.func55, Tryd.ntmps55
  go_wp2_with fail
  refine (Hhmul.out _).mono ?_
  rintro e V ⟨rfl, hV⟩
  obtain ⟨nd, rfl⟩ := hV.out
  clear hV
  go_wp2_with (refine stop_atw 29 ?_)
  refine ⟨?_⟩
  have hmk := Hhmk.out
  go_wp2_with (refine stop_atw 33 ?_)
  refine ⟨?_⟩
  clear hmk Hhmk
  have hrow0 : ((w.drewN nd).alloc (Obj.cells (madeCells #[Value.int .i64 0] n) 3)).heap[w.heap.size]? = some (.cells (rowM 0 n).toArray 3 (0, 0)) := by
    rw [made_rowM, heap_alloc_if, if_pos (by simp)]
  have hb0 : Below w.heap.size w ((w.drewN nd).alloc (Obj.cells (madeCells #[Value.int .i64 0] n) 3)) := by (repeat (first | exact Below.refl _ _ | refine pw_below_drewN ?_ _ | refine below_drew ?_ | refine Below.alloc ?_ (by first | omega | (simp; done) | (simp; omega)) _ | refine Below.setCell ?_ (by first | omega | (simp; done) | (simp; omega)) _))
  have hg0 := pw_cell_below hb0 hg
  refine wpList_copy_own rfl (.tmp 31) (.tmp 32) 30 30 rfl 3 Tryd.underlying30 size3 w.heap.size 0 n n ⟨g, 0, none⟩ 1 cap rfl rfl (rowM 0 n).toArray 3 hrow0 [Value.int .i64 (-1)] (show 1 = min 1 n by omega) ?_ (by simp [rowM_length]; omega) (by simp [Value.oneCell']) ?_
  · intro j v hj
    cases j with
    | zero => simp at hj; subst hj; exact hg0
    | succ j => simp at hj
  obtain ⟨V1, hV1⟩ : ∃ V1, V1 = ((w.drewN nd).alloc (Obj.cells (madeCells #[Value.int .i64 0] n) 3)).setRow w.heap.size ((rowM 0 n).toArray.toList.take 0 ++ ([Value.int .i64 (-1)] ++ (rowM 0 n).toArray.toList.drop (0 + [Value.int .i64 (-1)].length))).toArray := ⟨_, rfl⟩
  rw [← hV1]
  have hr1 : V1.heap[w.heap.size]? = some (.cells (rowM 1 n).toArray 3 (0, 0)) := by
    rw [hV1, setRow_heap _ _ _ _ _ _ hrow0]
    have := rowM_splice 0 n 1 (by omega)
    simp only [List.replicate_one, Nat.zero_add] at this
    rw [← this]
    simp
  have hb1 : Below w.heap.size w V1 := by rw [hV1]; exact below_setRow hb0 (Nat.le_refl _) _
  clear hV1 hrow0 hb0 hg0
  have Hhr1 := Lib.hid hr1
  have Hhb1 := Lib.hid hb1
  clear hr1 hb1
  have hgi : goInt ([Value.int .i64 (-1)] : List Value).length = .int .i64 1 := rfl
  rw [hgi]
  clear hgi
  go_wp2
  go_loopw [8] (fun v W => ∃ b : Nat, v = .int .i64 b ∧ 1 ≤ b ∧ b ≤ n ∧ W.heap[w.heap.size]? = some (.cells (rowM b n).toArray 3 (0, 0)) ∧ Below w.heap.size w W) (fun v _ => n - (intOf v).toNat)
  case atStart => exact ⟨1, rfl, Nat.le_refl _, h1, Hhr1.out, Hhb1.out⟩
  case round =>
    obtain ⟨b, rfl, hb1', hbn, hrow, hbel⟩ := hrel
    rcases Nat.lt_or_ge b n with hlt | hge
    · have Hhrow := Lib.hid hrow
      have Hhbel := Lib.hid hbel
      clear hrow hbel
      have h0b : (0 : Int) ≤ b := by omega
      have hbi : (b : Int) ≤ n := by omega
      have hk : b + min b (n - b) ≤ n := by omega
      have hcs : ∀ j v, (List.replicate (min b (n - b)) (Value.int .i64 (-1)))[j]? = some v → wr.cell? ((⟨w.heap.size, 0, none⟩ : Addr).add j) = some v := by
        intro j v hj
        have hjl : j < min b (n - b) := by
          have := (List.getElem?_eq_some_iff.1 hj).1
          simpa using this
        rw [List.getElem?_eq_getElem (by simpa using hjl)] at hj
        simp at hj
        subst hj
        have e : ((⟨w.heap.size, 0, none⟩ : Addr).add j) = ⟨w.heap.size, j, none⟩ := by by_cases h0 : j = 0 <;> simp [Addr.add, h0]
        rw [e, cell_of_row wr w.heap.size j _ _ _ Hhrow.out]
        have := rowM_at b n j (by omega)
        simpa using this
      have hcs2 : ∀ j v, (List.replicate (min b (n - b)) (Value.int .i64 (-1)))[j]? = some v → wr.drew.cell? ((⟨w.heap.size, 0, none⟩ : Addr).add j) = some v := hcs
      have hsp := rowM_splice b n (min b (n - b)) hk
      have hone : ∀ v ∈ (List.replicate (min b (n - b)) (Value.int .i64 (-1))), v.oneCell' = true := by
        intro v hv
        rw [List.mem_replicate] at hv
        rw [hv.2]; rfl
      have hrd : wr.drew.heap[w.heap.size]? = some (.cells (rowM b n).toArray 3 (0, 0)) := Hhrow.out
      have hbd : Below w.heap.size w wr.drew := below_drew Hhbel.out
      have hwr : IntKind.i64.wrap ((b : Int) + (min b (n - b) : Nat)) = ((b + min b (n - b) : Nat) : Int) := by rw [IntKind.wrap_i64]; omega
      generalize hkk : min b (n - b) = kk at *
      have Hhcs := Lib.hid hcs
      have Hhcs2 := Lib.hid hcs2
      have Hhsp := Lib.hid hsp
      have Hhone := Lib.hid hone
      have Hhrd := Lib.hid hrd
      have Hhbd := Lib.hid hbd
      have Hhkk := Lib.hid hkk
      clear hcs hcs2 hsp hone hrd hbd hkk
      go_wp2
      have hnb : ¬ n = b := by omega
      go_region_held3 (fun W => W = wr.drew ∨ True) (exact .inr trivial) ((refine step_copy_splice rfl (.tmp 41) (.tmp 44) 30 30 rfl 3 Tryd.underlying30 size3 (some ⟨w.heap.size, b, none⟩) (some ⟨w.heap.size, 0, none⟩) (n - b) (n - b) b n (by rfl) (by rfl) w.heap.size b (rowM b n) 3 Hhrd.out (List.replicate kk (.int .i64 (-1))) ?z1 ?z2 ?z3 Hhone.out w.heap.size w Hhbd.out (Nat.le_refl _) ?z4; (case z1 => rw [List.length_replicate]; exact Hhkk.out.symm); (case z2 => exact fun _ => ⟨rfl, _, rfl, Hhcs2.out⟩); (case z3 => rw [List.length_replicate, rowM_length _ _ hbn]; exact hk); intro w4 hg4 hb4))
      have hr4 : w4.heap[w.heap.size]? = some (.cells (rowM (b + kk) n).toArray 3 (0, 0)) := by
        have h := hg4
        unfold splice at h
        rw [List.length_replicate, Hhsp.out] at h
        exact h
      have Hhr4 := Lib.hid hr4
      have Hhb4 := Lib.hid hb4
      clear hr4 hb4
      clear hg4
      have hk0 : 0 < kk := by have := Hhkk.out; omega
      go_wp2
      exact ⟨⟨b + kk, by simp, by omega, hk, Hhr4.out, Hhb4.out⟩, by simp [intOf]; omega⟩
    · obtain rfl : b = n := by omega
      have Hhrow := Lib.hid hrow
      have Hhbel := Lib.hid hbel
      clear hrow hbel
      go_wp2
      go_ret
      refine ⟨_, rfl, Kd.R_of_own (enc := .int .i64) ?_ (fun _ _ => trivial), Hhbel.out⟩
      rw [List.length_replicate]
      exact ⟨by simp [encs], .inr ⟨w.heap.size, b, _, rfl, Nat.le_refl _, Hhrow.out, Nat.le_refl _, by simp [maxLen]; omega, by simp [rowM_length], by simp [rowM, encs]⟩⟩
end Go.Proofs.YtlhnpbdpojcbeaaDoor
end
