/- Lemmas of this proof, part 15. -/
import Derived.Test.YtlhnpbdpojcbeaaDoorZ0
import Derived.Test.YtlhnpbdpojcbeaaDoorZ1
import Derived.Test.YtlhnpbdpojcbeaaDoorZ2
import Derived.Test.YtlhnpbdpojcbeaaDoorZ3
import Derived.Test.YtlhnpbdpojcbeaaDoorZ4
import Derived.Test.YtlhnpbdpojcbeaaDoorZ5
import Derived.Test.YtlhnpbdpojcbeaaDoorZ6
import Derived.Test.YtlhnpbdpojcbeaaDoorZ7
import Derived.Test.YtlhnpbdpojcbeaaDoorZ8
import Derived.Test.YtlhnpbdpojcbeaaDoorZ9
import Derived.Test.YtlhnpbdpojcbeaaDoorZ10
import Derived.Test.YtlhnpbdpojcbeaaDoorZ11
import Derived.Test.YtlhnpbdpojcbeaaDoorZ12
import Derived.Test.YtlhnpbdpojcbeaaDoorZ13
import Derived.Test.YtlhnpbdpojcbeaaDoorZ14
section
namespace Go.Proofs.YtlhnpbdpojcbeaaDoor.PPackAll
open Go.RowKit Go.Proofs.YtlhnpbdpojcbeaaDoorW.PrintWords Go.Proofs.YtlhnpbdpojcbeaaDoorW.PrintLast Go.Proofs.YtlhnpbdpojcbeaaDoorW.PrintMore
attribute [local go_sem] max2_int min2_int max_two min_two max_three min_three max_four min_four   -- for this text's walks alone
set_option linter.unusedVariables false
set_option linter.unusedSimpArgs false
def swinglelaw26_newer.l0 : Nat → List Int → List Int → Int → Int → Option (Bool)
  | 0, _, _, _, _ => none
  | k + 1, x0, x1, x7, x8 => if x8 < x7 then (if 0 ≤ x8 then (if x8 < (x0.length : Int) then (if x8 < (x1.length : Int) then (if (rd x0 x8) = (rd x1 x8) then (swinglelaw26_newer.l0 k x0 x1 x7 (wrap64 (x8 + 1))) else (if (rd x0 x8) = (-1) then (some true) else (if (rd x1 x8) = (-1) then (some false) else (some (decide ((rd x0 x8) > (rd x1 x8))))))) else (none)) else (none)) else (none)) else (some false)
def swinglelaw26_newer.f (k : Nat) (l0 : List Int) (l1 : List Int) : Option (Bool) := swinglelaw26_newer.l0 k l0 l1 (l0.length : Int) 0
theorem swinglelaw26_newer.mono_l : ∀ k, (∀ y0 y1 y2 y3, LeO (swinglelaw26_newer.l0 k y0 y1 y2 y3) (swinglelaw26_newer.l0 (k + 1) y0 y1 y2 y3))
  | 0 => fun _ _ _ _ r h => by simp [swinglelaw26_newer.l0] at h
  | k + 1 => by
    have ih0 := swinglelaw26_newer.mono_l k
    · intro y0 y1 y2 y3
      unfold swinglelaw26_newer.l0
      repeat' first
      | (with_reducible exact ih0 _ _ _ _)
      | (with_reducible exact LeO.refl _)
      | (with_reducible exact LeO.none _)
      | (with_reducible refine LeO.ite ?_ ?_)
      | (with_reducible refine LeO.bind ?_ (fun _ => ?_))
      | exact ih0 _ _ _ _
      | exact LeO.none _
      | refine LeO.ite ?_ ?_
      | refine LeO.bind ?_ (fun _ => ?_)
theorem swinglelaw26_newer.mono : ∀ a0 a1 k, LeO (swinglelaw26_newer.f k a0 a1) (swinglelaw26_newer.f (k + 1) a0 a1) := by
  intro a0 a1 k
  have ih0 := swinglelaw26_newer.mono_l k
  unfold swinglelaw26_newer.f
  repeat' first
      | (with_reducible exact ih0 _ _ _ _)
      | (with_reducible exact LeO.refl _)
      | (with_reducible exact LeO.none _)
      | (with_reducible refine LeO.ite ?_ ?_)
      | (with_reducible refine LeO.bind ?_ (fun _ => ?_))
      | exact ih0 _ _ _ _
      | exact LeO.none _
      | refine LeO.ite ?_ ?_
      | refine LeO.bind ?_ (fun _ => ?_)
set_option maxHeartbeats 8000000 in
set_option maxRecDepth 100000 in
theorem swinglelaw26_newer.calls (k : Nat) (A0 : Option Addr) (c0 : Nat) (l0 : List Int) (A1 : Option Addr) (c1 : Nat) (l1 : List Int) (r : Bool) (w : World) (hr0 : Kd.C (Kd.int .i64) w A0 l0.length l0) (hc0 : l0.length ≤ c0) (hr1 : Kd.C (Kd.int .i64) w A1 l1.length l1) (hc1 : l1.length ≤ c1) (h : swinglelaw26_newer.f k l0 l1 = some r) :
    Calls Tryd.prog 21 #[.slice A0 l0.length c0, .slice A1 l1.length c1] w fun e w' => e = .returned (.bool r) ∧ Drawn0 w w' := by
  have HR0 := Aside0.mk hr0
  have HC0 := Aside0.mk hc0
  clear hr0 hc0
  have HR1 := Aside0.mk hr1
  have HC1 := Aside0.mk hc1
  clear hr1 hc1
  have H : (swinglelaw26_newer.l0 k l0 l1 (l0.length : Int) 0) = some r := h
  clear h
  have H' := Aside0.mk H
  clear H
  go_enter Tryd.func21, Tryd.ntmps21
  go_wp2
  repeat (go_quiet (fail); try go_wp2)
  go_loopg [8] k (fun kq v8 w' => ∃ (x8_1 : Int), v8 = .int .i64 x8_1 ∧ Aside0 (swinglelaw26_newer.l0 kq l0 l1 (l0.length : Int) x8_1 = some r) ∧ Aside0 (kq ≤ k) ∧ Drawn0 w w')
  case atStart => exact ⟨(0), (by first | rfl | (simp; done) | (simp [*]; done)), H', ⟨Nat.le_refl _⟩, by repeat (first | exact Drawn0.refl _ | apply Drawn0.step)⟩
  case round =>
    clear H'
    try clear c1
    try clear c2
    try clear p2
    obtain ⟨x8_1, rfl, HA, HK1, ⟨m1, rfl⟩⟩ := hrel
    cases gk with
    | zero => exact absurd HA.out (by simp [swinglelaw26_newer.l0])
    | succ k1 =>
      have H := HA.out
      clear HA
      simp only [swinglelaw26_newer.l0] at H
      by_cases c3 : x8_1 < (l0.length : Int)
      · rw [if_pos c3] at H
        have c3b0 : decide (x8_1 < (l0.length : Int)) = true := decide_eq_true c3
        clear c3
        by_cases c4 : 0 ≤ x8_1
        · rw [if_pos c4] at H
          have c4b0 : decide (0 ≤ x8_1) = true := decide_eq_true c4
          clear c4
          by_cases c5 : x8_1 < (l0.length : Int)
          · rw [if_pos c5] at H
            have c5b0 : decide (x8_1 < (l0.length : Int)) = true := decide_eq_true c5
            clear c5
            by_cases c6 : x8_1 < (l1.length : Int)
            · rw [if_pos c6] at H
              have c6b0 : decide (x8_1 < (l1.length : Int)) = true := decide_eq_true c6
              clear c6
              by_cases c7 : (rd l0 x8_1) = (rd l1 x8_1)
              · rw [if_pos c7] at H
                have c7b0 : ((rd l0 x8_1) == (rd l1 x8_1)) = true := beq_iff_eq.mpr c7
                have c7b1 : ((rd l0 x8_1) != (rd l1 x8_1)) = false := bne_eq_false_iff_eq.mpr c7
                clear c7
                have H' := Aside0.mk H
                clear H
                have p334 : 0 ≤ (x8_1 : Int) := of_decide_eq_true (by first | (with_reducible assumption) | assumption)
                have q334 : x8_1 < (l0.length : Int) := of_decide_eq_true (by first | (with_reducible assumption) | assumption)
                obtain ⟨ad334, e334, hx334_0⟩ := Kd.at_int HR0.out x8_1 p334 q334
                cases e334
                replace p334 := eq_true p334
                replace q334 := eq_true q334
                have p335 : 0 ≤ (x8_1 : Int) := of_decide_eq_true (by first | (with_reducible assumption) | assumption)
                have q335 : x8_1 < (l1.length : Int) := of_decide_eq_true (by first | (with_reducible assumption) | assumption)
                obtain ⟨ad335, e335, hx335_0⟩ := Kd.at_int HR1.out x8_1 p335 q335
                cases e335
                replace p335 := eq_true p335
                replace q335 := eq_true q335
                go_wp2
                repeat (go_quiet (fail); try go_wp2)
                go_roundg k1
                case measure => have := HK1.out; omega
                case rel => exact ⟨(wrap64 (x8_1 + 1)), (by first | rfl | (simp; done) | (simp [*]; done)), H', ⟨by have := HK1.out; omega⟩, by repeat (first | exact Drawn0.refl _ | apply Drawn0.step)⟩
              · rw [if_neg c7] at H
                have c7b0 : ((rd l0 x8_1) == (rd l1 x8_1)) = false := beq_eq_false_iff_ne.mpr c7
                have c7b1 : ((rd l0 x8_1) != (rd l1 x8_1)) = true := bne_iff_ne.mpr c7
                by_cases c8 : (rd l0 x8_1) = (-1)
                · rw [if_pos c8] at H
                  have c8b0 : ((rd l0 x8_1) == (-1)) = true := beq_iff_eq.mpr c8
                  have c8b1 : ((rd l0 x8_1) != (-1)) = false := bne_eq_false_iff_eq.mpr c8
                  clear c8
                  obtain rfl := Option.some.inj H
                  have p334 : 0 ≤ (x8_1 : Int) := of_decide_eq_true (by first | (with_reducible assumption) | assumption)
                  have q334 : x8_1 < (l0.length : Int) := of_decide_eq_true (by first | (with_reducible assumption) | assumption)
                  obtain ⟨ad334, e334, hx334_0⟩ := Kd.at_int HR0.out x8_1 p334 q334
                  cases e334
                  replace p334 := eq_true p334
                  replace q334 := eq_true q334
                  have p335 : 0 ≤ (x8_1 : Int) := of_decide_eq_true (by first | (with_reducible assumption) | assumption)
                  have q335 : x8_1 < (l1.length : Int) := of_decide_eq_true (by first | (with_reducible assumption) | assumption)
                  obtain ⟨ad335, e335, hx335_0⟩ := Kd.at_int HR1.out x8_1 p335 q335
                  cases e335
                  replace p335 := eq_true p335
                  replace q335 := eq_true q335
                  have p336 : 0 ≤ (x8_1 : Int) := of_decide_eq_true (by first | (with_reducible assumption) | assumption)
                  have q336 : x8_1 < (l0.length : Int) := of_decide_eq_true (by first | (with_reducible assumption) | assumption)
                  obtain ⟨ad336, e336, hx336_0⟩ := Kd.at_int HR0.out x8_1 p336 q336
                  obtain rfl : ad334 = ad336 := (by injection e336)
                  replace p336 := eq_true p336
                  replace q336 := eq_true q336
                  go_wp2
                  repeat (go_quiet (fail); try go_wp2)
                  go_ret
                  exact ⟨by first | rfl | (simp; done) | (simp [*]; done), by repeat (first | exact Drawn0.refl _ | apply Drawn0.step)⟩
                · rw [if_neg c8] at H
                  have c8b0 : ((rd l0 x8_1) == (-1)) = false := beq_eq_false_iff_ne.mpr c8
                  have c8b1 : ((rd l0 x8_1) != (-1)) = true := bne_iff_ne.mpr c8
                  by_cases c9 : (rd l1 x8_1) = (-1)
                  · rw [if_pos c9] at H
                    have c9b0 : ((rd l1 x8_1) == (-1)) = true := beq_iff_eq.mpr c9
                    have c9b1 : ((rd l1 x8_1) != (-1)) = false := bne_eq_false_iff_eq.mpr c9
                    clear c9
                    obtain rfl := Option.some.inj H
                    have p334 : 0 ≤ (x8_1 : Int) := of_decide_eq_true (by first | (with_reducible assumption) | assumption)
                    have q334 : x8_1 < (l0.length : Int) := of_decide_eq_true (by first | (with_reducible assumption) | assumption)
                    obtain ⟨ad334, e334, hx334_0⟩ := Kd.at_int HR0.out x8_1 p334 q334
                    cases e334
                    replace p334 := eq_true p334
                    replace q334 := eq_true q334
                    have p335 : 0 ≤ (x8_1 : Int) := of_decide_eq_true (by first | (with_reducible assumption) | assumption)
                    have q335 : x8_1 < (l1.length : Int) := of_decide_eq_true (by first | (with_reducible assumption) | assumption)
                    obtain ⟨ad335, e335, hx335_0⟩ := Kd.at_int HR1.out x8_1 p335 q335
                    cases e335
                    replace p335 := eq_true p335
                    replace q335 := eq_true q335
                    have p336 : 0 ≤ (x8_1 : Int) := of_decide_eq_true (by first | (with_reducible assumption) | assumption)
                    have q336 : x8_1 < (l0.length : Int) := of_decide_eq_true (by first | (with_reducible assumption) | assumption)
                    obtain ⟨ad336, e336, hx336_0⟩ := Kd.at_int HR0.out x8_1 p336 q336
                    obtain rfl : ad334 = ad336 := (by injection e336)
                    replace p336 := eq_true p336
                    replace q336 := eq_true q336
                    have p337 : 0 ≤ (x8_1 : Int) := of_decide_eq_true (by first | (with_reducible assumption) | assumption)
                    have q337 : x8_1 < (l1.length : Int) := of_decide_eq_true (by first | (with_reducible assumption) | assumption)
                    obtain ⟨ad337, e337, hx337_0⟩ := Kd.at_int HR1.out x8_1 p337 q337
                    obtain rfl : ad335 = ad337 := (by injection e337)
                    replace p337 := eq_true p337
                    replace q337 := eq_true q337
                    go_wp2
                    repeat (go_quiet (fail); try go_wp2)
                    go_ret
                    exact ⟨by first | rfl | (simp; done) | (simp [*]; done), by repeat (first | exact Drawn0.refl _ | apply Drawn0.step)⟩
                  · rw [if_neg c9] at H
                    have c9b0 : ((rd l1 x8_1) == (-1)) = false := beq_eq_false_iff_ne.mpr c9
                    have c9b1 : ((rd l1 x8_1) != (-1)) = true := bne_iff_ne.mpr c9
                    obtain rfl := Option.some.inj H
                    have p334 : 0 ≤ (x8_1 : Int) := of_decide_eq_true (by first | (with_reducible assumption) | assumption)
                    have q334 : x8_1 < (l0.length : Int) := of_decide_eq_true (by first | (with_reducible assumption) | assumption)
                    obtain ⟨ad334, e334, hx334_0⟩ := Kd.at_int HR0.out x8_1 p334 q334
                    cases e334
                    replace p334 := eq_true p334
                    replace q334 := eq_true q334
                    have p335 : 0 ≤ (x8_1 : Int) := of_decide_eq_true (by first | (with_reducible assumption) | assumption)
                    have q335 : x8_1 < (l1.length : Int) := of_decide_eq_true (by first | (with_reducible assumption) | assumption)
                    obtain ⟨ad335, e335, hx335_0⟩ := Kd.at_int HR1.out x8_1 p335 q335
                    cases e335
                    replace p335 := eq_true p335
                    replace q335 := eq_true q335
                    have p336 : 0 ≤ (x8_1 : Int) := of_decide_eq_true (by first | (with_reducible assumption) | assumption)
                    have q336 : x8_1 < (l0.length : Int) := of_decide_eq_true (by first | (with_reducible assumption) | assumption)
                    obtain ⟨ad336, e336, hx336_0⟩ := Kd.at_int HR0.out x8_1 p336 q336
                    obtain rfl : ad334 = ad336 := (by injection e336)
                    replace p336 := eq_true p336
                    replace q336 := eq_true q336
                    have p337 : 0 ≤ (x8_1 : Int) := of_decide_eq_true (by first | (with_reducible assumption) | assumption)
                    have q337 : x8_1 < (l1.length : Int) := of_decide_eq_true (by first | (with_reducible assumption) | assumption)
                    obtain ⟨ad337, e337, hx337_0⟩ := Kd.at_int HR1.out x8_1 p337 q337
                    obtain rfl : ad335 = ad337 := (by injection e337)
                    replace p337 := eq_true p337
                    replace q337 := eq_true q337
                    have p338 : 0 ≤ (x8_1 : Int) := of_decide_eq_true (by first | (with_reducible assumption) | assumption)
                    have q338 : x8_1 < (l0.length : Int) := of_decide_eq_true (by first | (with_reducible assumption) | assumption)
                    obtain ⟨ad338, e338, hx338_0⟩ := Kd.at_int HR0.out x8_1 p338 q338
                    obtain rfl : ad334 = ad338 := (by injection e338)
                    replace p338 := eq_true p338
                    replace q338 := eq_true q338
                    have p339 : 0 ≤ (x8_1 : Int) := of_decide_eq_true (by first | (with_reducible assumption) | assumption)
                    have q339 : x8_1 < (l1.length : Int) := of_decide_eq_true (by first | (with_reducible assumption) | assumption)
                    obtain ⟨ad339, e339, hx339_0⟩ := Kd.at_int HR1.out x8_1 p339 q339
                    obtain rfl : ad335 = ad339 := (by injection e339)
                    replace p339 := eq_true p339
                    replace q339 := eq_true q339
                    go_wp2
                    repeat (go_quiet (fail); try go_wp2)
                    go_ret
                    exact ⟨by first | rfl | (simp; done) | (simp [*]; done), by repeat (first | exact Drawn0.refl _ | apply Drawn0.step)⟩
            · rw [if_neg c6] at H
              exact absurd H (by simp)
          · rw [if_neg c5] at H
            exact absurd H (by simp)
        · rw [if_neg c4] at H
          exact absurd H (by simp)
      · rw [if_neg c3] at H
        have c3b0 : decide (x8_1 < (l0.length : Int)) = false := decide_eq_false c3
        clear c3
        obtain rfl := Option.some.inj H
        go_wp2
        repeat (go_quiet (fail); try go_wp2)
        go_ret
        exact ⟨by first | rfl | (simp; done) | (simp [*]; done), by repeat (first | exact Drawn0.refl _ | apply Drawn0.step)⟩
def slices_Index_int_int.l0 : Nat → List Int → Int → Int → Int → Option (Int)
  | 0, _, _, _, _ => none
  | k + 1, x0, x1, x7, x8 => if x8 < x7 then (if 0 ≤ x8 then (if x8 < (x0.length : Int) then (if x1 = (rd x0 x8) then (some x8) else (slices_Index_int_int.l0 k x0 x1 x7 (wrap64 (x8 + 1)))) else (none)) else (none)) else (some (-1))
def slices_Index_int_int.f (k : Nat) (l0 : List Int) (a1 : Int) : Option (Int) := slices_Index_int_int.l0 k l0 a1 (l0.length : Int) 0
theorem slices_Index_int_int.mono_l : ∀ k, (∀ y0 y1 y2 y3, LeO (slices_Index_int_int.l0 k y0 y1 y2 y3) (slices_Index_int_int.l0 (k + 1) y0 y1 y2 y3))
  | 0 => fun _ _ _ _ r h => by simp [slices_Index_int_int.l0] at h
  | k + 1 => by
    have ih0 := slices_Index_int_int.mono_l k
    · intro y0 y1 y2 y3
      unfold slices_Index_int_int.l0
      repeat' first
      | (with_reducible exact ih0 _ _ _ _)
      | (with_reducible exact LeO.refl _)
      | (with_reducible exact LeO.none _)
      | (with_reducible refine LeO.ite ?_ ?_)
      | (with_reducible refine LeO.bind ?_ (fun _ => ?_))
      | exact ih0 _ _ _ _
      | exact LeO.none _
      | refine LeO.ite ?_ ?_
      | refine LeO.bind ?_ (fun _ => ?_)
theorem slices_Index_int_int.mono : ∀ a0 a1 k, LeO (slices_Index_int_int.f k a0 a1) (slices_Index_int_int.f (k + 1) a0 a1) := by
  intro a0 a1 k
  have ih0 := slices_Index_int_int.mono_l k
  unfold slices_Index_int_int.f
  repeat' first
      | (with_reducible exact ih0 _ _ _ _)
      | (with_reducible exact LeO.refl _)
      | (with_reducible exact LeO.none _)
      | (with_reducible refine LeO.ite ?_ ?_)
      | (with_reducible refine LeO.bind ?_ (fun _ => ?_))
      | exact ih0 _ _ _ _
      | exact LeO.none _
      | refine LeO.ite ?_ ?_
      | refine LeO.bind ?_ (fun _ => ?_)
set_option maxHeartbeats 8000000 in
set_option maxRecDepth 100000 in
theorem slices_Index_int_int.calls (k : Nat) (A0 : Option Addr) (c0 : Nat) (l0 : List Int) (a1 : Int) (r : Int) (w : World) (hr0 : Kd.C (Kd.int .i64) w A0 l0.length l0) (hc0 : l0.length ≤ c0) (h : slices_Index_int_int.f k l0 a1 = some r) :
    Calls Tryd.prog 59 #[.slice A0 l0.length c0, .int .i64 a1] w fun e w' => e = .returned (.int .i64 r) ∧ Drawn0 w w' := by
  have HR0 := Aside0.mk hr0
  have HC0 := Aside0.mk hc0
  clear hr0 hc0
  have H : (slices_Index_int_int.l0 k l0 a1 (l0.length : Int) 0) = some r := h
  clear h
  have H' := Aside0.mk H
  clear H
  go_enter Tryd.func59, Tryd.ntmps59
  go_wp2
  go_loopg [8] k (fun kq v8 w' => ∃ (x8_1 : Int), v8 = .int .i64 x8_1 ∧ Aside0 (slices_Index_int_int.l0 kq l0 a1 (l0.length : Int) x8_1 = some r) ∧ Aside0 (kq ≤ k) ∧ Drawn0 w w')
  case atStart => exact ⟨(0), (by first | rfl | (simp; done) | (simp [*]; done)), H', ⟨Nat.le_refl _⟩, by repeat (first | exact Drawn0.refl _ | apply Drawn0.step)⟩
  case round =>
    clear H'
    try clear p2
    obtain ⟨x8_1, rfl, HA, HK1, ⟨m1, rfl⟩⟩ := hrel
    cases gk with
    | zero => exact absurd HA.out (by simp [slices_Index_int_int.l0])
    | succ k1 =>
      have H := HA.out
      clear HA
      simp only [slices_Index_int_int.l0] at H
      by_cases c3 : x8_1 < (l0.length : Int)
      · rw [if_pos c3] at H
        have c3b0 : decide (x8_1 < (l0.length : Int)) = true := decide_eq_true c3
        clear c3
        by_cases c4 : 0 ≤ x8_1
        · rw [if_pos c4] at H
          have c4b0 : decide (0 ≤ x8_1) = true := decide_eq_true c4
          clear c4
          by_cases c5 : x8_1 < (l0.length : Int)
          · rw [if_pos c5] at H
            have c5b0 : decide (x8_1 < (l0.length : Int)) = true := decide_eq_true c5
            clear c5
            by_cases c6 : a1 = (rd l0 x8_1)
            · rw [if_pos c6] at H
              have c6b0 : (a1 == (rd l0 x8_1)) = true := beq_iff_eq.mpr c6
              have c6b1 : (a1 != (rd l0 x8_1)) = false := bne_eq_false_iff_eq.mpr c6
              clear c6
              obtain rfl := Option.some.inj H
              have p340 : 0 ≤ (x8_1 : Int) := of_decide_eq_true (by first | (with_reducible assumption) | assumption)
              have q340 : x8_1 < (l0.length : Int) := of_decide_eq_true (by first | (with_reducible assumption) | assumption)
              obtain ⟨ad340, e340, hx340_0⟩ := Kd.at_int HR0.out x8_1 p340 q340
              cases e340
              replace p340 := eq_true p340
              replace q340 := eq_true q340
              go_wp2
              go_ret
              exact ⟨by first | rfl | (simp; done) | (simp [*]; done), by repeat (first | exact Drawn0.refl _ | apply Drawn0.step)⟩
            · rw [if_neg c6] at H
              have c6b0 : (a1 == (rd l0 x8_1)) = false := beq_eq_false_iff_ne.mpr c6
              have c6b1 : (a1 != (rd l0 x8_1)) = true := bne_iff_ne.mpr c6
              have H' := Aside0.mk H
              clear H
              have p340 : 0 ≤ (x8_1 : Int) := of_decide_eq_true (by first | (with_reducible assumption) | assumption)
              have q340 : x8_1 < (l0.length : Int) := of_decide_eq_true (by first | (with_reducible assumption) | assumption)
              obtain ⟨ad340, e340, hx340_0⟩ := Kd.at_int HR0.out x8_1 p340 q340
              cases e340
              replace p340 := eq_true p340
              replace q340 := eq_true q340
              go_wp2
              go_roundg k1
              case measure => have := HK1.out; omega
              case rel => exact ⟨(wrap64 (x8_1 + 1)), (by first | rfl | (simp; done) | (simp [*]; done)), H', ⟨by have := HK1.out; omega⟩, by repeat (first | exact Drawn0.refl _ | apply Drawn0.step)⟩
          · rw [if_neg c5] at H
            exact absurd H (by simp)
        · rw [if_neg c4] at H
          exact absurd H (by simp)
      · rw [if_neg c3] at H
        have c3b0 : decide (x8_1 < (l0.length : Int)) = false := decide_eq_false c3
        clear c3
        obtain rfl := Option.some.inj H
        go_wp2
        go_ret
        exact ⟨by first | rfl | (simp; done) | (simp [*]; done), by repeat (first | exact Drawn0.refl _ | apply Drawn0.step)⟩
def slices_Contains_int_int.f (k : Nat) (l0 : List Int) (a1 : Int) : Option (Bool) := (slices_Index_int_int.f k l0 a1).bind fun t341 => (some (decide (t341 ≥ 0)))
theorem slices_Contains_int_int.mono : ∀ a0 a1 k, LeO (slices_Contains_int_int.f k a0 a1) (slices_Contains_int_int.f (k + 1) a0 a1) := by
  intro a0 a1 k
  unfold slices_Contains_int_int.f
  repeat' first
      | (with_reducible exact slices_Index_int_int.mono _ _ _)
      | (with_reducible exact LeO.refl _)
      | (with_reducible exact LeO.none _)
      | (with_reducible refine LeO.ite ?_ ?_)
      | (with_reducible refine LeO.bind ?_ (fun _ => ?_))
      | exact slices_Index_int_int.mono _ _ _
      | exact LeO.none _
      | refine LeO.ite ?_ ?_
      | refine LeO.bind ?_ (fun _ => ?_)
set_option maxHeartbeats 8000000 in
set_option maxRecDepth 100000 in
theorem slices_Contains_int_int.calls (k : Nat) (A0 : Option Addr) (c0 : Nat) (l0 : List Int) (a1 : Int) (r : Bool) (w : World) (hr0 : Kd.C (Kd.int .i64) w A0 l0.length l0) (hc0 : l0.length ≤ c0) (h : slices_Contains_int_int.f k l0 a1 = some r) :
    Calls Tryd.prog 22 #[.slice A0 l0.length c0, .int .i64 a1] w fun e w' => e = .returned (.bool r) ∧ Drawn0 w w' := by
  have HR0 := Aside0.mk hr0
  have HC0 := Aside0.mk hc0
  clear hr0 hc0
  have H : ((slices_Index_int_int.f k l0 a1).bind fun t341 => (some (decide (t341 ≥ 0)))) = some r := h
  clear h
  replace H := Option.bind_eq_some_iff.mp H
  obtain ⟨t341, A30, H⟩ := H
  replace H : (some (decide (t341 ≥ 0))) = some r := H
  have A3 := Aside0.mk A30
  clear A30
  obtain rfl := Option.some.inj H
  go_enter Tryd.func22, Tryd.ntmps22
  go_wp2_with (first | ((with_reducible refine gate_callee (f := 59) rfl ?_); refine goesL_ (some 7) rfl rfl Tryd.func59 (by kernel_rfl) rfl #[.slice A0 l0.length c0, .int .i64 a1] rfl (by (try simp only [List.map_toArray, List.map_cons, List.map_nil]); first | done | rfl | (simp only [List.length_drop, List.length_take]; rfl)) ?_; (with_reducible refine (slices_Index_int_int.calls k _ _ l0 a1 t341 _ ?side1 ?side2 A3.out).mono ?_); (case side1 => repeat (first | exact HR0.out | (with_reducible refine Kd.C_alloc ?_ _) | (with_reducible refine Kd.C_drewN ?_ _) | (with_reducible refine Kd.C_drew ?_))); (case side2 => exact HC0.out); rintro e w' ⟨rfl, ⟨nd, rfl⟩⟩; refine ⟨_, rfl, ?_⟩))
  go_ret
  exact ⟨by first | rfl | (simp; done) | (simp [*]; done), by repeat (first | exact Drawn0.refl _ | apply Drawn0.step)⟩
end Go.Proofs.YtlhnpbdpojcbeaaDoor.PPackAll
end
section
open Go Go.RowKit
namespace Go.Proofs.YtlhnpbdpojcbeaaDoor
open Go.Proofs.YtlhnpbdpojcbeaaDoorW.PrintWords
open PPackAll Go.Shelf
set_option linter.unusedVariables false
set_option linter.unusedSimpArgs false
def Ev {α : Type} (f : Nat → Option α) (r : α) : Prop := ∃ K, ∀ k, K ≤ k → f k = some r
theorem Ev.const {α : Type} (r : α) : Ev (fun _ => some r) r := ⟨0, fun _ _ => rfl⟩
theorem Ev.succ {α : Type} {f g : Nat → Option α} {r : α} (h : ∀ k, f (k + 1) = g k) (hg : Ev g r) : Ev f r := by
  obtain ⟨K, hK⟩ := hg
  refine ⟨K + 1, fun k hk => ?_⟩
  obtain ⟨k', rfl⟩ : ∃ k', k = k' + 1 := ⟨k - 1, by omega⟩
  rw [h, hK k' (by omega)]
theorem Ev.bind {α β : Type} {f : Nat → Option α} {g : Nat → α → Option β} {a : α} {r : β} (hf : Ev f a) (hg : Ev (fun k => g k a) r) : Ev (fun k => (f k).bind fun t => g k t) r := by
  obtain ⟨K, hK⟩ := hf
  obtain ⟨L, hL⟩ := hg
  exact ⟨K + L, fun k hk => by show ((f k).bind fun t => g k t) = some r; rw [hK k (by omega)]; exact hL k (by omega)⟩
theorem Ev.congr {α : Type} {f g : Nat → Option α} {r : α} (h : ∀ k, f k = g k) (hg : Ev g r) : Ev f r := by
  obtain ⟨K, hK⟩ := hg
  exact ⟨K, fun k hk => by rw [h, hK k hk]⟩
theorem Ev.get {α : Type} {f : Nat → Option α} {r : α} (h : Ev f r) : ∃ k, f k = some r := by
  obtain ⟨K, hK⟩ := h
  exact ⟨K, hK K (Nat.le_refl _)⟩
theorem w64 (n : Nat) (h : n ≤ 1000) : wrap64 ((n : Int) + 1) = ((n + 1 : Nat) : Int) := by unfold wrap64; omega
instance (u v : Int) : Decidable (newV u v) := by unfold newV; infer_instance
theorem newer_ev (N : Nat) (a b : List Int) (ha : a.length = N) (hb : b.length = N) (hN : N ≤ 8) : ∀ (n i : Nat), i + n = N → (∀ j : Nat, j < i → rd a j = rd b j) →
    ∃ r, Ev (fun k => swinglelaw26_newer.l0 k a b (N : Int) (i : Int)) r ∧ (r = true → ∃ i : Nat, i < N ∧ (∀ j : Nat, j < i → rd a j = rd b j) ∧ newV (rd a i) (rd b i)) := by
  intro n
  induction n with
  | zero =>
    intro i hi _
    refine ⟨false, Ev.succ (g := fun _ => some false) (fun k => ?_) (Ev.const _), fun h => by cases h⟩
    show swinglelaw26_newer.l0 (k + 1) a b N i = _
    unfold swinglelaw26_newer.l0
    rw [if_neg (by omega)]
  | succ n ih =>
    intro i hi hp
    by_cases he : rd a i = rd b i
    · obtain ⟨r, h1, h2⟩ := ih (i + 1) (by omega) (fun j hj => by
        by_cases hc : j = i
        · rw [hc]; exact he
        · exact hp j (by omega))
      refine ⟨r, Ev.succ (fun k => ?_) h1, h2⟩
      show swinglelaw26_newer.l0 (k + 1) a b N i = _
      conv => lhs; unfold swinglelaw26_newer.l0
      rw [if_pos (by omega), if_pos (by omega), if_pos (by omega), if_pos (by omega), if_pos he, w64 i (by omega)]
    · refine ⟨decide (newV (rd a i) (rd b i)), Ev.succ (g := fun _ => some (decide (newV (rd a i) (rd b i)))) (fun k => ?_) (Ev.const _), fun h => ⟨i, by omega, hp, by simpa using h⟩⟩
      show swinglelaw26_newer.l0 (k + 1) a b N i = _
      unfold swinglelaw26_newer.l0
      rw [if_pos (by omega), if_pos (by omega), if_pos (by omega), if_pos (by omega), if_neg he]
      unfold newV
      by_cases h1 : rd a i = -1
      · rw [if_pos h1]; simp [h1]; exact fun h => he (by rw [h1, h])
      · rw [if_neg h1]
        by_cases h2 : rd b i = -1
        · rw [if_pos h2]; simp [h1, h2]
        · rw [if_neg h2]; simp [h1, h2, he]
def apartN (a b : List Int) (n : Nat) : Nat := (List.range n).countP fun (i : Nat) => rd a i != rd b i
theorem apartN_succ (a b : List Int) (n : Nat) : apartN a b (n + 1) = apartN a b n + if rd a n = rd b n then 0 else 1 := by
  unfold apartN
  rw [List.range_succ, List.countP_append]
  by_cases h : rd a n = rd b n <;> simp [h]
theorem apartN_le (a b : List Int) (n : Nat) : apartN a b n ≤ n := by
  unfold apartN
  have := List.countP_le_length (p := fun (i : Nat) => rd a i != rd b i) (l := List.range n)
  simpa using this
theorem apart_ev (N : Nat) (a b : List Int) (ha : a.length = N) (hb : b.length = N) (hN : N ≤ 8) : ∀ (n i : Nat), i + n = N → Ev (fun k => swinglelaw26_apart.l0 k a b (apartN a b i : Nat) (N : Int) (i : Int)) (apartN a b N : Nat) := by
  intro n
  induction n with
  | zero =>
    intro i hi
    obtain rfl : i = N := by omega
    refine Ev.succ (g := fun _ => some _) (fun k => ?_) (Ev.const _)
    show swinglelaw26_apart.l0 (k + 1) a b _ i i = _
    unfold swinglelaw26_apart.l0
    rw [if_neg (by omega)]
  | succ n ih =>
    intro i hi
    refine Ev.succ (fun k => ?_) (ih (i + 1) (by omega))
    show swinglelaw26_apart.l0 (k + 1) a b _ N i = _
    conv => lhs; unfold swinglelaw26_apart.l0
    have hle := apartN_le a b i
    rw [if_pos (by omega), if_pos (by omega), if_pos (by omega), if_pos (by omega), apartN_succ, w64 i (by omega)]
    by_cases h : rd a i = rd b i
    · simp only [if_pos h, Nat.add_zero]
    · rw [if_neg h, if_neg h, w64 _ (by omega)]
theorem index_ev (a : List Int) (v : Int) (hN : a.length ≤ 1000) : ∀ (n i : Nat), i + n = a.length → (∃ j : Nat, i ≤ j ∧ j < a.length ∧ rd a j = v) → ∃ r : Int, 0 ≤ r ∧ Ev (fun k => slices_Index_int_int.l0 k a v (a.length : Int) (i : Int)) r := by
  intro n
  induction n with
  | zero => rintro i hi ⟨j, h1, h2, _⟩; omega
  | succ n ih =>
    rintro i hi ⟨j, h1, h2, h3⟩
    by_cases he : v = rd a i
    · refine ⟨i, by omega, Ev.succ (g := fun _ => some _) (fun k => ?_) (Ev.const _)⟩
      show slices_Index_int_int.l0 (k + 1) a v a.length i = _
      unfold slices_Index_int_int.l0
      rw [if_pos (by omega), if_pos (by omega), if_pos (by omega), if_pos he]
    · have hne : j ≠ i := fun e => he (by rw [← h3, e])
      obtain ⟨r, hr0, hr⟩ := ih (i + 1) (by omega) ⟨j, by omega, h2, h3⟩
      refine ⟨r, hr0, Ev.succ (fun k => ?_) hr⟩
      show slices_Index_int_int.l0 (k + 1) a v a.length i = _
      conv => lhs; unfold slices_Index_int_int.l0
      rw [if_pos (by omega), if_pos (by omega), if_pos (by omega), if_neg he, w64 i (by omega)]
theorem contains_ev (a : List Int) (v : Int) (hN : a.length ≤ 1000) (h : v ∈ a) : Ev (fun k => slices_Contains_int_int.f k a v) true := by
  obtain ⟨j, hj, he⟩ := List.mem_iff_getElem.1 h
  obtain ⟨r, hr0, hr⟩ := index_ev a v hN a.length 0 (by omega) ⟨j, by omega, hj, by unfold rd; rw [Int.toNat_natCast, List.getD_eq_getElem?_getD, List.getElem?_eq_getElem hj]; exact he⟩
  refine Ev.congr (g := fun k => (slices_Index_int_int.l0 k a v (a.length : Int) 0).bind fun t => some (decide (t ≥ 0))) (fun k => rfl) ?_
  refine Ev.bind (a := r) hr ?_
  rw [decide_eq_true (show r ≥ 0 by omega)]
  exact Ev.const _
theorem many_ev (x : List (List S60)) (hx : x.length ≤ 1000) : ∀ (n i : Nat) (s : Int), i + n = x.length → ∃ r, Ev (fun k => swinglelaw26_manyPlans.l0 k s x (x.length : Int) (i : Int)) r := by
  intro n
  induction n with
  | zero =>
    intro i s hi
    refine ⟨s, Ev.succ (g := fun _ => some s) (fun k => ?_) (Ev.const _)⟩
    show swinglelaw26_manyPlans.l0 (k + 1) s x x.length i = _
    unfold swinglelaw26_manyPlans.l0
    rw [if_neg (by omega)]
  | succ n ih =>
    intro i s hi
    obtain ⟨r, hr⟩ := ih (i + 1) _ (by omega)
    refine ⟨r, Ev.succ (fun k => ?_) hr⟩
    show swinglelaw26_manyPlans.l0 (k + 1) s x x.length i = _
    conv => lhs; unfold swinglelaw26_manyPlans.l0
    rw [if_pos (by omega), if_pos (by omega), if_pos (by omega), w64 i (by omega)]
theorem plan_ev (x : List (List S60)) (p : List Int) (hx : x.length ≤ 8) (h5 : ∀ i : Nat, i < x.length → (x.getD i []).length ≤ 1000) (hp : InR x p) : ∀ (n i : Nat), i + n = x.length → Ev (fun k => swingleref26_Plan.l0 k p (i : Int) x) true := by
  intro n
  induction n with
  | zero =>
    intro i hi
    refine Ev.succ (g := fun k => swingleref26_Plan.j1 k p (i : Int) false x) (fun k => ?_) (Ev.succ (g := fun _ => some true) (fun k => ?_) (Ev.const _))
    · show swingleref26_Plan.l0 (k + 1) p i x = _
      conv => lhs; unfold swingleref26_Plan.l0
      rw [if_neg (by rw [hp.1]; omega)]
    · show swingleref26_Plan.j1 (k + 1) p i false x = _
      unfold swingleref26_Plan.j1
      rw [if_neg (by simp), hp.1]
      simp
  | succ n ih =>
    intro i hi
    have hr := hp.2 i (by omega)
    have hl := h5 i (by omega)
    refine Ev.succ (g := fun k => swingleref26_Plan.j1 k p (i : Int) true x) (fun k => ?_) (Ev.succ (fun k => ?_) (ih (i + 1) (by omega)))
    · show swingleref26_Plan.l0 (k + 1) p i x = _
      conv => lhs; unfold swingleref26_Plan.l0
      rw [if_pos (by rw [hp.1]; omega), decide_eq_true (show (i : Int) < x.length by omega)]
    · show swingleref26_Plan.j1 (k + 1) p i true x = _
      conv => lhs; unfold swingleref26_Plan.j1
      have e : wrap64 (((rd_L4 x (i : Int)).length : Int) - 1) = ((x.getD i []).length : Int) - 1 := by rw [l4_len]; unfold wrap64; omega
      rw [if_pos rfl, if_pos (by omega), if_pos (by rw [hp.1]; omega), if_pos (by omega), e, in_is]
      have hw : withinF (rd p i) (-1) (((x.getD i []).length : Int) - 1) = true := by unfold withinF; exact decide_eq_true (by omega)
      rw [hw]
      simp only [Option.bind_some, if_true]
      rw [w64 i (by omega)]
def mkC (p r : Int) (b : Bool) (n : Nat) : List S49 := (List.range n).map fun (i : Nat) => (⟨p, r, b, i⟩ : S49)
theorem mkC_succ (p r : Int) (b : Bool) (n : Nat) : mkC p r b (n + 1) = mkC p r b n ++ [⟨p, r, b, n⟩] := by
  unfold mkC
  rw [List.range_succ, List.map_append]
  rfl
theorem mkC_len (p r : Int) (b : Bool) (n : Nat) : (mkC p r b n).length = n := by simp [mkC]
def relC (x : List (List S60)) (i k : Nat) : List S49 := mkC i k false (rd_T60 (rd_L4 x i) k).f0.length ++ mkC i k true (rd_T60 (rd_L4 x i) k).f1.length
def packC (x : List (List S60)) (i : Nat) : Nat → List S49
  | 0 => []
  | k + 1 => packC x i k ++ relC x i k
def idxC (x : List (List S60)) : Nat → List S49
  | 0 => []
  | i + 1 => idxC x i ++ packC x i (x.getD i []).length
def allC (x : List (List S60)) (gs : List S68) : List S49 := mkC (-1) 0 false gs.length ++ idxC x x.length
theorem range68_ev (m : Nat) (hm : m ≤ 1000) (p r : Int) (b : Bool) : ∀ (n i : Nat) (d : Int), i + n = m → Ev (fun k => api_PackRange_68.l0 k (mkC p r b i) (m : Int) (i : Int) p r b d) (mkC p r b m) := by
  intro n
  induction n with
  | zero =>
    intro i d hi
    obtain rfl : i = m := by omega
    refine Ev.succ (g := fun _ => some _) (fun k => ?_) (Ev.const _)
    show api_PackRange_68.l0 (k + 1) _ _ _ p r b d = _
    unfold api_PackRange_68.l0
    rw [if_neg (by omega)]
  | succ n ih =>
    intro i d hi
    refine Ev.succ (fun k => ?_) (ih (i + 1) i (by omega))
    show api_PackRange_68.l0 (k + 1) _ _ _ p r b d = _
    conv => lhs; unfold api_PackRange_68.l0
    rw [if_pos (by omega), if_pos (by rw [mkC_len]; omega), w64 i (by omega), ← mkC_succ]
theorem range68_f (l : List S68) (hl : l.length ≤ 1000) (p r : Int) (b : Bool) (d : Int) : Ev (fun k => api_PackRange_68.f k l p r b d) (mkC p r b l.length) :=
  range68_ev l.length hl p r b l.length 0 d (by omega)
theorem rel_bound {x : List (List S60)} (hok : OkIdx x) {i k : Nat} (hi : i < x.length) (hk : k < (x.getD i []).length) : (rd_T60 (rd_L4 x i) k).f0.length ≤ 4 ∧ (rd_T60 (rd_L4 x i) k).f1.length ≤ 4 := by
  have := (hok.2.2 i hi).2 (rd_T60 (rd_L4 x i) k) (by unfold rd_T60 rd_L4; rw [Int.toNat_natCast, Int.toNat_natCast]; exact getD_mem _ _ _ hk)
  exact ⟨this.1, this.2.1⟩
theorem packC_le {x : List (List S60)} (hok : OkIdx x) {i : Nat} (hi : i < x.length) : ∀ k, k ≤ (x.getD i []).length → (packC x i k).length ≤ 8 * k
  | 0, _ => by simp [packC]
  | k + 1, h => by
    have := packC_le hok hi k (by omega)
    have hb := rel_bound hok hi (k := k) (by omega)
    show (packC x i k ++ relC x i k).length ≤ _
    unfold relC
    rw [List.length_append, List.length_append, mkC_len, mkC_len]
    omega
theorem idxC_le {x : List (List S60)} (hok : OkIdx x) : ∀ i, i ≤ x.length → (idxC x i).length ≤ 40 * i
  | 0, _ => by simp [idxC]
  | i + 1, h => by
    have := idxC_le hok i (by omega)
    have h5 := (hok.2.2 i (by omega)).1
    have hb := packC_le hok (i := i) (by omega) _ (Nat.le_refl _)
    show (idxC x i ++ packC x i _).length ≤ _
    rw [List.length_append]
    omega
theorem allC_le {x : List (List S60)} {gs : List S68} (hok : OkIdx x) (hgo : OkGoals x gs) : (allC x gs).length ≤ 400 := by
  unfold allC
  rw [List.length_append, mkC_len]
  have := idxC_le hok x.length (Nat.le_refl _)
  have := hok.2.1
  have := hgo.1
  omega
theorem clauses_pack {x : List (List S60)} (hok : OkIdx x) (pre : List S49) (hpre : pre.length ≤ 1000) (i : Nat) (hi : i < x.length) (r : List S49)
    (hnext : Ev (fun k => pack_market_clauses.l0 k (pre ++ packC x i (x.getD i []).length) x (x.length : Int) ((i + 1 : Nat) : Int)) r) :
    ∀ (n j : Nat), j + n = (x.getD i []).length → Ev (fun k => pack_market_clauses.l1 k (pre ++ packC x i j) (i : Int) x (x.length : Int) (i : Int) (rd_L4 x i) ((x.getD i []).length : Int) (j : Int)) r := by
  have h5 := (hok.2.2 i hi).1
  have h8 := hok.2.1
  intro n
  induction n with
  | zero =>
    intro j hj
    obtain rfl : j = (x.getD i []).length := by omega
    refine Ev.succ (fun k => ?_) hnext
    show pack_market_clauses.l1 (k + 1) _ _ _ _ _ _ _ _ = _
    conv => lhs; unfold pack_market_clauses.l1
    rw [if_neg (by omega), w64 i (by omega)]
  | succ n ih =>
    intro j hj
    have hb := rel_bound hok hi (k := j) (by omega)
    have hp := packC_le hok hi j (by omega)
    refine Ev.succ (g := fun k => (api_PackRange_68.f k ((rd_T60 (rd_L4 x i) j).f0) i j false 0).bind fun t150 => (if (pre ++ packC x i j).length + t150.length < 4398046511104 then ((some (pre ++ packC x i j ++ t150 : List (S49))).bind fun y153 => ((api_PackRange_68.f k ((rd_T60 (rd_L4 x i) j).f1) i j true 0).bind fun t156 => (if y153.length + t156.length < 4398046511104 then (pack_market_clauses.l1 k (y153 ++ t156) i x (x.length : Int) i (rd_L4 x i) ((x.getD i []).length : Int) (wrap64 ((j : Int) + 1))) else (none)))) else (none))) (fun k => ?_) ?_
    · show pack_market_clauses.l1 (k + 1) _ _ _ _ _ _ _ _ = _
      conv => lhs; unfold pack_market_clauses.l1
      rw [if_pos (by omega), if_pos (by omega), if_pos (by rw [l4_len]; omega)]
    · refine Ev.bind (range68_f _ (by omega) _ _ _ _) ?_
      have hl1 : (pre ++ packC x i j).length + (mkC i j false (rd_T60 (rd_L4 x i) j).f0.length).length < 4398046511104 := by rw [List.length_append, mkC_len]; omega
      refine Ev.congr (fun k => if_pos hl1) ?_
      refine Ev.bind (Ev.const _) ?_
      refine Ev.bind (range68_f _ (by omega) _ _ _ _) ?_
      have hl2 : (pre ++ packC x i j ++ mkC i j false (rd_T60 (rd_L4 x i) j).f0.length).length + (mkC i j true (rd_T60 (rd_L4 x i) j).f1.length).length < 4398046511104 := by rw [List.length_append, List.length_append, mkC_len, mkC_len]; omega
      refine Ev.congr (fun k => if_pos hl2) ?_
      have e : pre ++ packC x i j ++ mkC i j false (rd_T60 (rd_L4 x i) j).f0.length ++ mkC i j true (rd_T60 (rd_L4 x i) j).f1.length = pre ++ packC x i (j + 1) := by
        show _ = pre ++ (packC x i j ++ relC x i j)
        unfold relC
        simp [List.append_assoc]
      rw [e, w64 j (by omega)]
      exact ih (j + 1) (by omega)
end Go.Proofs.YtlhnpbdpojcbeaaDoor
end
section
open Go Go.RowKit
namespace Go.Proofs.YtlhnpbdpojcbeaaDoor
open Go.Proofs.YtlhnpbdpojcbeaaDoorW.PrintWords
open PPackAll Go.Shelf
set_option linter.unusedVariables false
set_option linter.unusedSimpArgs false
theorem clauses_ev {x : List (List S60)} {gs : List S68} (hok : OkIdx x) (hgo : OkGoals x gs) : Ev (fun k => pack_market_clauses.f k x gs) (allC x gs) := by
  have h8 := hok.2.1
  have hg := hgo.1
  have main : ∀ (n i : Nat), i + n = x.length → Ev (fun k => pack_market_clauses.l0 k (mkC (-1) 0 false gs.length ++ idxC x i) x (x.length : Int) (i : Int)) (allC x gs) := by
    intro n
    induction n with
    | zero =>
      intro i hi
      obtain rfl : i = x.length := by omega
      refine Ev.succ (g := fun _ => some _) (fun k => ?_) (Ev.const _)
      show pack_market_clauses.l0 (k + 1) _ _ _ _ = _
      unfold pack_market_clauses.l0
      rw [if_neg (by omega)]
      rfl
    | succ n ih =>
      intro i hi
      have hl := idxC_le hok i (by omega)
      have hnext := ih (i + 1) (by omega)
      have e : mkC (-1) 0 false gs.length ++ idxC x (i + 1) = (mkC (-1) 0 false gs.length ++ idxC x i) ++ packC x i (x.getD i []).length := by
        show _ ++ (idxC x i ++ packC x i _) = _
        rw [List.append_assoc]
      rw [e] at hnext
      have h := clauses_pack hok (mkC (-1) 0 false gs.length ++ idxC x i) (by rw [List.length_append, mkC_len]; omega) i (by omega) _ hnext (x.getD i []).length 0 (by omega)
      refine Ev.succ (fun k => ?_) h
      show pack_market_clauses.l0 (k + 1) _ _ _ _ = _
      conv => lhs; unfold pack_market_clauses.l0
      rw [if_pos (by omega), if_pos (by omega), if_pos (by omega), l4_len]
      simp [packC]
  refine Ev.bind (range68_f gs (by omega) _ _ _ _) ?_
  have := main x.length 0 (by omega)
  simpa [idxC] using this
theorem ref_bars {x : List (List S60)} (hok : OkIdx x) (pre : List S49) (hpre : pre.length ≤ 2000) (i j : Nat) (hi : i < x.length) (hj : j < (x.getD i []).length) (r : List S49)
    (hnext : Ev (fun k => swingleref26_Clauses.l2 k (pre ++ mkC i j true (rd_T60 (rd_L4 x i) j).f1.length) (i : Int) ((j + 1 : Nat) : Int) x) r) :
    ∀ (n m : Nat), m + n = (rd_T60 (rd_L4 x i) j).f1.length → Ev (fun k => swingleref26_Clauses.l4 k (pre ++ mkC i j true m) (i : Int) (j : Int) (m : Int) x) r := by
  have hb := rel_bound hok hi hj
  have h5 := (hok.2.2 i hi).1
  intro n
  induction n with
  | zero =>
    intro m hm
    obtain rfl : m = (rd_T60 (rd_L4 x i) j).f1.length := by omega
    refine Ev.succ (fun k => ?_) hnext
    show swingleref26_Clauses.l4 (k + 1) _ _ _ _ _ = _
    conv => lhs; unfold swingleref26_Clauses.l4
    rw [if_pos (by omega), if_pos (by omega), if_pos (by omega), if_pos (by rw [l4_len]; omega), if_neg (by omega), w64 j (by omega)]
  | succ n ih =>
    intro m hm
    refine Ev.succ (fun k => ?_) (ih (m + 1) (by omega))
    show swingleref26_Clauses.l4 (k + 1) _ _ _ _ _ = _
    conv => lhs; unfold swingleref26_Clauses.l4
    rw [if_pos (by omega), if_pos (by omega), if_pos (by omega), if_pos (by rw [l4_len]; omega), if_pos (by omega), if_pos (by rw [List.length_append, mkC_len]; omega), w64 m (by omega), List.append_assoc, ← mkC_succ]
theorem ref_needs {x : List (List S60)} (hok : OkIdx x) (pre : List S49) (hpre : pre.length ≤ 1000) (i j : Nat) (hi : i < x.length) (hj : j < (x.getD i []).length) (r : List S49)
    (hnext : Ev (fun k => swingleref26_Clauses.l2 k (pre ++ relC x i j) (i : Int) ((j + 1 : Nat) : Int) x) r) :
    ∀ (n m : Nat), m + n = (rd_T60 (rd_L4 x i) j).f0.length → Ev (fun k => swingleref26_Clauses.l3 k (pre ++ mkC i j false m) (i : Int) (j : Int) (m : Int) x) r := by
  have hb := rel_bound hok hi hj
  have h5 := (hok.2.2 i hi).1
  intro n
  induction n with
  | zero =>
    intro m hm
    obtain rfl : m = (rd_T60 (rd_L4 x i) j).f0.length := by omega
    have h := ref_bars hok (pre ++ mkC i j false (rd_T60 (rd_L4 x i) j).f0.length) (by rw [List.length_append, mkC_len]; omega) i j hi hj r (by
      unfold relC at hnext
      rw [← List.append_assoc] at hnext
      exact hnext) _ 0 (Nat.zero_add _)
    refine Ev.succ (fun k => ?_) h
    show swingleref26_Clauses.l3 (k + 1) _ _ _ _ _ = _
    conv => lhs; unfold swingleref26_Clauses.l3
    rw [if_pos (by omega), if_pos (by omega), if_pos (by omega), if_pos (by rw [l4_len]; omega), if_neg (by omega)]
    simp [mkC]
  | succ n ih =>
    intro m hm
    refine Ev.succ (fun k => ?_) (ih (m + 1) (by omega))
    show swingleref26_Clauses.l3 (k + 1) _ _ _ _ _ = _
    conv => lhs; unfold swingleref26_Clauses.l3
    rw [if_pos (by omega), if_pos (by omega), if_pos (by omega), if_pos (by rw [l4_len]; omega), if_pos (by omega), if_pos (by rw [List.length_append, mkC_len]; omega), w64 m (by omega), List.append_assoc, ← mkC_succ]
theorem ref_pack {x : List (List S60)} (hok : OkIdx x) (pre : List S49) (hpre : pre.length ≤ 900) (i : Nat) (hi : i < x.length) (r : List S49)
    (hnext : Ev (fun k => swingleref26_Clauses.l1 k (pre ++ packC x i (x.getD i []).length) ((i + 1 : Nat) : Int) x) r) :
    ∀ (n j : Nat), j + n = (x.getD i []).length → Ev (fun k => swingleref26_Clauses.l2 k (pre ++ packC x i j) (i : Int) (j : Int) x) r := by
  have h5 := (hok.2.2 i hi).1
  have h8 := hok.2.1
  intro n
  induction n with
  | zero =>
    intro j hj
    obtain rfl : j = (x.getD i []).length := by omega
    refine Ev.succ (fun k => ?_) hnext
    show swingleref26_Clauses.l2 (k + 1) _ _ _ _ = _
    conv => lhs; unfold swingleref26_Clauses.l2
    rw [if_pos (by omega), if_pos (by omega), if_neg (by rw [l4_len]; omega), w64 i (by omega)]
  | succ n ih =>
    intro j hj
    have hp := packC_le hok hi j (by omega)
    have h := ref_needs hok (pre ++ packC x i j) (by rw [List.length_append]; omega) i j hi (by omega) r (by
      have := ih (j + 1) (by omega)
      have e : pre ++ packC x i (j + 1) = pre ++ packC x i j ++ relC x i j := by
        show _ ++ (packC x i j ++ relC x i j) = _
        rw [List.append_assoc]
      rw [e] at this
      exact this) _ 0 (Nat.zero_add _)
    refine Ev.succ (fun k => ?_) h
    show swingleref26_Clauses.l2 (k + 1) _ _ _ _ = _
    conv => lhs; unfold swingleref26_Clauses.l2
    rw [if_pos (by omega), if_pos (by omega), if_pos (by rw [l4_len]; omega)]
    simp [mkC]
theorem ref_ev {x : List (List S60)} {gs : List S68} (hok : OkIdx x) (hgo : OkGoals x gs) : Ev (fun k => swingleref26_Clauses.f k x gs) (allC x gs) := by
  have h8 := hok.2.1
  have hg := hgo.1
  have main : ∀ (n i : Nat), i + n = x.length → Ev (fun k => swingleref26_Clauses.l1 k (mkC (-1) 0 false gs.length ++ idxC x i) (i : Int) x) (allC x gs) := by
    intro n
    induction n with
    | zero =>
      intro i hi
      obtain rfl : i = x.length := by omega
      refine Ev.succ (g := fun _ => some _) (fun k => ?_) (Ev.const _)
      show swingleref26_Clauses.l1 (k + 1) _ _ _ = _
      unfold swingleref26_Clauses.l1
      rw [if_neg (by omega)]
      rfl
    | succ n ih =>
      intro i hi
      have hl := idxC_le hok i (by omega)
      have hnext := ih (i + 1) (by omega)
      have e : mkC (-1) 0 false gs.length ++ idxC x (i + 1) = (mkC (-1) 0 false gs.length ++ idxC x i) ++ packC x i (x.getD i []).length := by
        show _ ++ (idxC x i ++ packC x i _) = _
        rw [List.append_assoc]
      rw [e] at hnext
      have h := ref_pack hok (mkC (-1) 0 false gs.length ++ idxC x i) (by rw [List.length_append, mkC_len]; omega) i (by omega) _ hnext (x.getD i []).length 0 (by omega)
      refine Ev.succ (fun k => ?_) h
      show swingleref26_Clauses.l1 (k + 1) _ _ _ = _
      conv => lhs; unfold swingleref26_Clauses.l1
      rw [if_pos (by omega)]
      simp [packC]
  have goals : ∀ (n i : Nat), i + n = gs.length → Ev (fun k => swingleref26_Clauses.l0 k gs (mkC (-1) 0 false i) (i : Int) x) (allC x gs) := by
    intro n
    induction n with
    | zero =>
      intro i hi
      obtain rfl : i = gs.length := by omega
      have h := main x.length 0 (by omega)
      refine Ev.succ (fun k => ?_) h
      show swingleref26_Clauses.l0 (k + 1) _ _ _ _ = _
      conv => lhs; unfold swingleref26_Clauses.l0
      rw [if_neg (by omega)]
      simp [idxC]
    | succ n ih =>
      intro i hi
      refine Ev.succ (fun k => ?_) (ih (i + 1) (by omega))
      show swingleref26_Clauses.l0 (k + 1) _ _ _ _ = _
      conv => lhs; unfold swingleref26_Clauses.l0
      rw [if_pos (by omega), if_pos (by rw [mkC_len]; omega), w64 i (by omega), ← mkC_succ]
  have := goals gs.length 0 (by omega)
  refine Ev.congr (fun k => ?_) this
  simp [swingleref26_Clauses.f, mkC]
theorem mem_mkC {p r : Int} {b : Bool} {n : Nat} {c : S49} : c ∈ mkC p r b n ↔ c.f0 = p ∧ c.f1 = r ∧ c.f2 = b ∧ 0 ≤ c.f3 ∧ c.f3 < n := by
  unfold mkC
  constructor
  · intro h
    obtain ⟨i, hi, rfl⟩ := List.mem_map.1 h
    have : i < n := by simpa using hi
    exact ⟨rfl, rfl, rfl, show (0 : Int) ≤ i by omega, show (i : Int) < n by omega⟩
  · rintro ⟨h1, h2, h3, h4, h5⟩
    refine List.mem_map.2 ⟨c.f3.toNat, by simp; omega, ?_⟩
    obtain ⟨c0, c1, c2, c3⟩ := c
    simp only at *
    subst h1; subst h2; subst h3
    rw [Int.toNat_of_nonneg h4]
theorem mem_packC {x : List (List S60)} {i : Nat} {c : S49} : ∀ k, c ∈ packC x i k ↔ ∃ j, j < k ∧ c ∈ relC x i j
  | 0 => by simp [packC]
  | k + 1 => by
    show c ∈ packC x i k ++ relC x i k ↔ _
    rw [List.mem_append, mem_packC k]
    constructor
    · rintro (⟨j, h1, h2⟩ | h)
      · exact ⟨j, by omega, h2⟩
      · exact ⟨k, by omega, h⟩
    · rintro ⟨j, h1, h2⟩
      by_cases hc : j = k
      · exact .inr (hc ▸ h2)
      · exact .inl ⟨j, by omega, h2⟩
theorem mem_idxC {x : List (List S60)} {c : S49} : ∀ n, c ∈ idxC x n ↔ ∃ i, i < n ∧ c ∈ packC x i (x.getD i []).length
  | 0 => by simp [idxC]
  | n + 1 => by
    show c ∈ idxC x n ++ packC x n _ ↔ _
    rw [List.mem_append, mem_idxC n]
    constructor
    · rintro (⟨j, h1, h2⟩ | h)
      · exact ⟨j, by omega, h2⟩
      · exact ⟨n, by omega, h⟩
    · rintro ⟨j, h1, h2⟩
      by_cases hc : j = n
      · exact .inr (hc ▸ h2)
      · exact .inl ⟨j, by omega, h2⟩
theorem allC_ok {x : List (List S60)} {gs : List S68} : ∀ c ∈ allC x gs, OkClause x gs c := by
  intro c hc
  unfold allC at hc
  rcases List.mem_append.1 hc with h | h
  · obtain ⟨h1, _, _, h4, h5⟩ := mem_mkC.1 h
    exact .inl ⟨h1, h4, h5⟩
  · obtain ⟨i, hi, h⟩ := (mem_idxC _).1 h
    obtain ⟨j, hj, h⟩ := (mem_packC _).1 h
    unfold relC at h
    have e : ∀ (h1 : c.f0 = (i : Int)) (h2 : c.f1 = (j : Int)), relOf x c = rd_T60 (rd_L4 x i) j := fun h1 h2 => by unfold relOf; rw [h1, h2]
    rcases List.mem_append.1 h with h | h
    · obtain ⟨h1, h2, h3, h4, h5⟩ := mem_mkC.1 h
      refine .inr ⟨by omega, by omega, by omega, by rw [h1, l4_len, h2]; omega, h4, ?_⟩
      rw [h3, e h1 h2]
      simpa using h5
    · obtain ⟨h1, h2, h3, h4, h5⟩ := mem_mkC.1 h
      refine .inr ⟨by omega, by omega, by omega, by rw [h1, l4_len, h2]; omega, h4, ?_⟩
      rw [h3, e h1 h2]
      simpa using h5
theorem allC_all {x : List (List S60)} {gs : List S68} : AllIn x gs (allC x gs) := by
  intro c hc h0
  unfold allC
  rw [List.mem_append]
  rcases hc with ⟨h1, h3, h4⟩ | ⟨h1, h2, h3, h4, h5, h6⟩
  · obtain ⟨a, b⟩ := h0 h1
    exact .inl (mem_mkC.2 ⟨h1, a, b, h3, h4⟩)
  · refine .inr ((mem_idxC _).2 ⟨c.f0.toNat, by omega, (mem_packC _).2 ⟨c.f1.toNat, ?_, ?_⟩⟩)
    · have := l4_len x c.f0.toNat
      rw [Int.toNat_of_nonneg h1] at this
      omega
    · unfold relC
      rw [Int.toNat_of_nonneg h1, Int.toNat_of_nonneg h3, List.mem_append]
      have e : rd_T60 (rd_L4 x c.f0) c.f1 = relOf x c := rfl
      rw [e]
      cases hb : c.f2 with
      | true => rw [hb] at h6; exact .inr (mem_mkC.2 ⟨rfl, rfl, hb, h5, by simpa using h6⟩)
      | false => rw [hb] at h6; exact .inl (mem_mkC.2 ⟨rfl, rfl, hb, h5, by simpa using h6⟩)
theorem index49_ev (l : List S49) (c : S49) (hl : l.length ≤ 1000) : ∀ (n i : Nat), i + n = l.length → (∃ j : Nat, i ≤ j ∧ j < l.length ∧ rd_T49 l j = c) → ∃ r : Int, 0 ≤ r ∧ Ev (fun k => api_PackClause_81.l0 k l (l.length : Int) (i : Int) c.f0 c.f1 c.f2 c.f3) r := by
  intro n
  induction n with
  | zero => rintro i hi ⟨j, h1, h2, _⟩; omega
  | succ n ih =>
    rintro i hi ⟨j, h1, h2, h3⟩
    by_cases he : (c.f0 == (rd_T49 l i).f0 && (c.f1 == (rd_T49 l i).f1 && (c.f2 == (rd_T49 l i).f2 && (c.f3 == (rd_T49 l i).f3)))) = true
    · refine ⟨i, by omega, Ev.succ (g := fun _ => some _) (fun k => ?_) (Ev.const _)⟩
      show api_PackClause_81.l0 (k + 1) l _ _ _ _ _ _ = _
      unfold api_PackClause_81.l0
      rw [if_pos (by omega), if_pos (by omega), if_pos (by omega), if_pos he]
    · have hne : j ≠ i := fun e => he (by rw [← e, h3]; simp)
      obtain ⟨r, hr0, hr⟩ := ih (i + 1) (by omega) ⟨j, by omega, h2, h3⟩
      refine ⟨r, hr0, Ev.succ (fun k => ?_) hr⟩
      show api_PackClause_81.l0 (k + 1) l _ _ _ _ _ _ = _
      conv => lhs; unfold api_PackClause_81.l0
      rw [if_pos (by omega), if_pos (by omega), if_pos (by omega), if_neg he, w64 i (by omega)]
theorem there_ev {x : List (List S60)} {gs : List S68} (hok : OkIdx x) (hgo : OkGoals x gs) {c : S49} (hc : c ∈ allC x gs) : Ev (fun k => swinglelaw26_there.f k x gs c.f0 c.f1 c.f2 c.f3) true := by
  obtain ⟨j, hj, he⟩ := List.mem_iff_getElem.1 hc
  have hle := allC_le hok hgo
  obtain ⟨r, hr0, hr⟩ := index49_ev (allC x gs) c (by omega) _ 0 (Nat.zero_add _) ⟨j, by omega, hj, by unfold rd_T49; rw [Int.toNat_natCast, List.getD_eq_getElem?_getD, List.getElem?_eq_getElem hj]; exact he⟩
  refine Ev.bind (ref_ev hok hgo) ?_
  refine Ev.bind (a := true) ?_ (Ev.const _)
  refine Ev.bind (a := r) hr ?_
  rw [decide_eq_true (show r ≥ 0 by omega)]
  exact Ev.const _
end Go.Proofs.YtlhnpbdpojcbeaaDoor
end
section
open Go Go.RowKit
namespace Go.Proofs.YtlhnpbdpojcbeaaDoor
open Go.Proofs.YtlhnpbdpojcbeaaDoorW.PrintWords
open PPackAll Go.Shelf
set_option linter.unusedVariables false
set_option linter.unusedSimpArgs false
def SmallP (x : List (List S60)) (i : Nat) : Prop := (x.getD i []).length ≤ 6 ∧ ∀ j : Nat, j < (x.getD i []).length → (rd_T60 (rd_L4 x i) j).f0.length ≤ 5 ∧ (rd_T60 (rd_L4 x i) j).f1.length ≤ 5
theorem small_l1 (x : List (List S60)) (i : Nat) (hi : i < x.length) (hN : x.length ≤ 9) (h6 : (x.getD i []).length ≤ 6) (T : Prop)
    (hnext : ∃ r, Ev (fun k => swingleref26_Small.l0 k ((i + 1 : Nat) : Int) x) r ∧ (r = true → T)) : ∀ (n j : Nat), j + n = (x.getD i []).length → (∀ j', j' < j → (rd_T60 (rd_L4 x i) (j' : Nat)).f0.length ≤ 5 ∧ (rd_T60 (rd_L4 x i) (j' : Nat)).f1.length ≤ 5) →
    ∃ r, Ev (fun k => swingleref26_Small.l1 k (i : Int) (j : Int) x) r ∧ (r = true → T ∧ SmallP x i) := by
  intro n
  induction n with
  | zero =>
    intro j hj hp
    obtain ⟨r, h1, h2⟩ := hnext
    obtain rfl : j = (x.getD i []).length := by omega
    refine ⟨r, Ev.succ (fun k => ?_) h1, fun h => ⟨h2 h, h6, hp⟩⟩
    show swingleref26_Small.l1 (k + 1) _ _ x = _
    conv => lhs; unfold swingleref26_Small.l1
    rw [if_pos (by omega), if_pos (by omega), if_neg (by rw [l4_len]; omega), w64 i (by omega)]
  | succ n ih =>
    intro j hj hp
    by_cases h0 : (rd_T60 (rd_L4 x i) j).f0.length ≤ 5
    · by_cases h1 : (rd_T60 (rd_L4 x i) j).f1.length ≤ 5
      · obtain ⟨r, e1, e2⟩ := ih (j + 1) (by omega) (fun j' hj' => by
          by_cases hc : j' = j
          · rw [hc]; exact ⟨h0, h1⟩
          · exact hp j' (by omega))
        refine ⟨r, Ev.succ (fun k => ?_) e1, e2⟩
        show swingleref26_Small.l1 (k + 1) _ _ x = _
        conv => lhs; unfold swingleref26_Small.l1
        rw [if_pos (by omega), if_pos (by omega), if_pos (by rw [l4_len]; omega), if_pos (by omega), if_neg (by omega), if_neg (by omega), w64 j (by omega)]
      · refine ⟨false, Ev.succ (g := fun _ => some _) (fun k => ?_) (Ev.const _), fun h => by cases h⟩
        show swingleref26_Small.l1 (k + 1) _ _ x = _
        unfold swingleref26_Small.l1
        rw [if_pos (by omega), if_pos (by omega), if_pos (by rw [l4_len]; omega), if_pos (by omega), if_neg (by omega), if_pos (by omega)]
    · refine ⟨false, Ev.succ (g := fun _ => some _) (fun k => ?_) (Ev.const _), fun h => by cases h⟩
      show swingleref26_Small.l1 (k + 1) _ _ x = _
      unfold swingleref26_Small.l1
      rw [if_pos (by omega), if_pos (by omega), if_pos (by rw [l4_len]; omega), if_pos (by omega), if_pos (by omega)]
theorem small_l0 (x : List (List S60)) (hN : x.length ≤ 9) : ∀ (n i : Nat), i + n = x.length → ∃ r, Ev (fun k => swingleref26_Small.l0 k (i : Int) x) r ∧ (r = true → ∀ i', i ≤ i' → i' < x.length → SmallP x i') := by
  intro n
  induction n with
  | zero =>
    intro i hi
    refine ⟨true, Ev.succ (g := fun _ => some _) (fun k => ?_) (Ev.const _), fun _ i' h1 h2 => by omega⟩
    show swingleref26_Small.l0 (k + 1) _ x = _
    unfold swingleref26_Small.l0
    rw [if_neg (by omega)]
  | succ n ih =>
    intro i hi
    by_cases h6 : (x.getD i []).length ≤ 6
    · obtain ⟨r, e1, e2⟩ := small_l1 x i (by omega) hN h6 _ (ih (i + 1) (by omega)) _ 0 (Nat.zero_add _) (fun j' hj' => by omega)
      refine ⟨r, Ev.succ (fun k => ?_) e1, fun h i' h1 h2 => ?_⟩
      · show swingleref26_Small.l0 (k + 1) _ x = _
        conv => lhs; unfold swingleref26_Small.l0
        rw [if_pos (by omega), if_pos (by omega), if_neg (by rw [l4_len]; omega)]
        rfl
      · obtain ⟨t, s⟩ := e2 h
        by_cases hc : i' = i
        · rw [hc]; exact s
        · exact t i' (by omega) h2
    · refine ⟨false, Ev.succ (g := fun _ => some _) (fun k => ?_) (Ev.const _), fun h => by cases h⟩
      show swingleref26_Small.l0 (k + 1) _ x = _
      unfold swingleref26_Small.l0
      rw [if_pos (by omega), if_pos (by omega), if_pos (by rw [l4_len]; omega)]
theorem small_ev (x : List (List S60)) : ∃ r, Ev (fun k => swingleref26_Small.f k x 8) r ∧ (r = true → x.length ≤ 9 ∧ ∀ i, i < x.length → SmallP x i) := by
  have j0f : Ev (fun k => swingleref26_Small.j0 k true x) false := Ev.succ (g := fun _ => some false) (fun k => by show swingleref26_Small.j0 (k + 1) true x = _; unfold swingleref26_Small.j0; rfl) (Ev.const _)
  by_cases h9 : x.length ≤ 9
  · obtain ⟨r, e1, e2⟩ := small_l0 x h9 x.length 0 (by omega)
    have j0t : Ev (fun k => swingleref26_Small.j0 k false x) r := Ev.succ (g := fun k => swingleref26_Small.l0 k 0 x) (fun k => by simp [swingleref26_Small.j0]) e1
    have hd : decide ((x.length : Int) > 9) = false := decide_eq_false (by omega)
    refine ⟨r, Ev.congr (fun k => ?_) j0t, fun h => ⟨h9, fun i hi => e2 h i (by omega) hi⟩⟩
    unfold swingleref26_Small.f
    rw [hd]
    by_cases h8 : (x.length : Int) > 8
    · rw [if_pos h8, if_neg (by omega)]
    · rw [if_neg h8]
  · have hd : decide ((x.length : Int) > 9) = true := decide_eq_true (by omega)
    refine ⟨false, Ev.congr (fun k => ?_) j0f, fun h => by cases h⟩
    unfold swingleref26_Small.f
    rw [hd, if_pos (by omega), if_neg (by omega)]
end Go.Proofs.YtlhnpbdpojcbeaaDoor
end
section
open Go Go.RowKit
namespace Go.Proofs.YtlhnpbdpojcbeaaDoor
open Go.Proofs.YtlhnpbdpojcbeaaDoorW.PrintWords
open PPackAll Go.Shelf
set_option linter.unusedVariables false
set_option linter.unusedSimpArgs false
def exA : List (List S60) := [[⟨[], []⟩, ⟨[⟨1, 0, 1⟩], []⟩, ⟨[⟨1, 2, 2⟩, ⟨2, 0, 1⟩], []⟩], [⟨[], []⟩, ⟨[⟨2, 0, 0⟩], []⟩, ⟨[⟨2, 1, 1⟩], []⟩], [⟨[], []⟩, ⟨[], [⟨0, 2, 2⟩]⟩]]
theorem cells68 : (Tryd.prog.info? 68).map (·.size) = some 3 := by kernel_rfl
theorem cells24 : (Tryd.prog.info? 24).map (·.size) = some 1 := by kernel_rfl
theorem cells60 : (Tryd.prog.info? 60).map (·.size) = some 2 := by kernel_rfl
theorem span_is (a b c : Int) (w : World) : Calls Tryd.prog 28 #[.int .i64 a, .int .i64 b, .int .i64 c] w fun e w' => e = .returned (.agg #[.int .i64 a, .int .i64 b, .int .i64 c]) ∧ w' = w.alloc (.cells #[.int .i64 a, .int .i64 b, .int .i64 c] 68) := by
  go_enter Tryd.func28, Tryd.ntmps28
  go_wp2
  exact bodyPost_ret (results_cell_row rfl _ _ w.heap.size 68 #[.int .i64 a, .int .i64 b, .int .i64 c] (0, 0) _ rfl (by rw [heap_alloc_if, if_pos rfl]) Tryd.underlying68 rfl (by simpa using cells68)) rfl ⟨rfl, rfl⟩
theorem release_is (A : Option Addr) (n c : Nat) (w : World) : Calls Tryd.prog 61 #[.slice A n c] w fun e w' => e = .returned (.agg #[.slice A n c, .slice none 0 0]) ∧ w' = w.alloc (.cells #[.slice A n c, .slice none 0 0] 60) := by
  go_enter Tryd.func61, Tryd.ntmps61
  go_wp2
  exact bodyPost_ret (results_cell_row rfl _ _ w.heap.size 60 #[.slice A n c, .slice none 0 0] (0, 0) _ rfl (by rw [heap_alloc_if, if_pos rfl]) Tryd.underlying60 rfl (by simpa using cells60)) rfl ⟨rfl, rfl⟩
theorem bar_is (A : Option Addr) (n c : Nat) (w : World) : Calls Tryd.prog 62 #[.slice A n c] w fun e w' => e = .returned (.agg #[.slice none 0 0, .slice A n c]) ∧ w' = w.alloc (.cells #[.slice none 0 0, .slice A n c] 60) := by
  go_enter Tryd.func62, Tryd.ntmps62
  go_wp2
  exact bodyPost_ret (results_cell_row rfl _ _ w.heap.size 60 #[.slice none 0 0, .slice A n c] (0, 0) _ rfl (by rw [heap_alloc_if, if_pos rfl]) Tryd.underlying60 rfl (by simpa using cells60)) rfl ⟨rfl, rfl⟩
theorem C_of_row {α : Type} (d : Kd α) {W : World} {b t : Nat} {cs : Array Value} (xs : List α) (h : W.heap[b]? = some (.cells cs t (0, 0))) (hn : xs.length ≤ 1000)
    (hK : ∀ j (hj : j < xs.length), ∃ c, d.K W xs[j] c ∧ ∀ i u, c[i]? = some u → cs[j * d.sz + i]? = some u) : d.C W (some ⟨b, 0, none⟩) xs.length xs := by
  refine ⟨rfl, by omega, fun _ => ⟨_, rfl, ?_⟩⟩
  intro j q hq
  obtain ⟨hj, rfl⟩ := List.getElem?_eq_some_iff.1 hq
  obtain ⟨c, hc, hu⟩ := hK j hj
  refine ⟨c, d.K_len hc, hc, ?_⟩
  intro i u hi
  have e : ((⟨b, 0, none⟩ : Addr).add (j * d.sz + i)) = ⟨b, j * d.sz + i, none⟩ := by unfold Addr.add; split <;> simp_all
  rw [e, cell_of_row W b _ _ _ _ h]
  exact hu i u hi
def allocs (w : World) : List Obj → World
  | [] => w
  | o :: l => allocs (w.alloc o) l
theorem allocs_old : ∀ (l : List Obj) (w : World) (k : Nat), k < w.heap.size → (allocs w l).heap[k]? = w.heap[k]?
  | [], w, k, _ => rfl
  | o :: l, w, k, h => by
    show (allocs (w.alloc o) l).heap[k]? = _
    rw [allocs_old l _ k (by simp; omega), heap_alloc_if, if_neg (by omega)]
theorem allocs_get : ∀ (l : List Obj) (w : World) (k : Nat), k < l.length → (allocs w l).heap[w.heap.size + k]? = l[k]?
  | [], w, k, h => by simp at h
  | o :: l, w, 0, h => by
    show (allocs (w.alloc o) l).heap[w.heap.size + 0]? = _
    rw [allocs_old l _ _ (by simp), Nat.add_zero, heap_alloc_if, if_pos rfl]
    rfl
  | o :: l, w, k + 1, h => by
    show (allocs (w.alloc o) l).heap[w.heap.size + (k + 1)]? = _
    have := allocs_get l (w.alloc o) k (by simpa using h)
    rw [show (w.alloc o).heap.size = w.heap.size + 1 by simp] at this
    rw [show w.heap.size + (k + 1) = w.heap.size + 1 + k by omega, this]
    rfl
theorem allocs_below : ∀ (l : List Obj) (w0 w : World), w0.heap.size ≤ w.heap.size → Below w0.heap.size w0 w → Below w0.heap.size w0 (allocs w l)
  | [], _, _, _, h => h
  | o :: l, w0, w, hs, h => allocs_below l w0 (w.alloc o) (by simp; omega) (h.alloc hs _)
def objsA (n : Nat) : List Obj := [(.cells #[.slice (some ⟨n + 23, 0, none⟩) 3 3] 24),
  (.cells #[.slice none 0 0, .slice none 0 0] 60),
  (.cells #[.int .i64 1, .int .i64 0, .int .i64 1] 68),
  (.cells #[.int .i64 1, .int .i64 0, .int .i64 1] 68),
  (.cells #[.slice (some ⟨n + 3, 0, none⟩) 1 1, .slice none 0 0] 60),
  (.cells #[.int .i64 1, .int .i64 2, .int .i64 2] 68),
  (.cells #[.int .i64 2, .int .i64 0, .int .i64 1] 68),
  (.cells #[.int .i64 1, .int .i64 2, .int .i64 2, .int .i64 2, .int .i64 0, .int .i64 1] 68),
  (.cells #[.slice (some ⟨n + 7, 0, none⟩) 2 2, .slice none 0 0] 60),
  (.cells #[.slice none 0 0, .slice none 0 0, .slice (some ⟨n + 3, 0, none⟩) 1 1, .slice none 0 0, .slice (some ⟨n + 7, 0, none⟩) 2 2, .slice none 0 0] 60),
  (.cells #[.slice none 0 0, .slice none 0 0] 60),
  (.cells #[.int .i64 2, .int .i64 0, .int .i64 0] 68),
  (.cells #[.int .i64 2, .int .i64 0, .int .i64 0] 68),
  (.cells #[.slice (some ⟨n + 12, 0, none⟩) 1 1, .slice none 0 0] 60),
  (.cells #[.int .i64 2, .int .i64 1, .int .i64 1] 68),
  (.cells #[.int .i64 2, .int .i64 1, .int .i64 1] 68),
  (.cells #[.slice (some ⟨n + 15, 0, none⟩) 1 1, .slice none 0 0] 60),
  (.cells #[.slice none 0 0, .slice none 0 0, .slice (some ⟨n + 12, 0, none⟩) 1 1, .slice none 0 0, .slice (some ⟨n + 15, 0, none⟩) 1 1, .slice none 0 0] 60),
  (.cells #[.slice none 0 0, .slice none 0 0] 60),
  (.cells #[.int .i64 0, .int .i64 2, .int .i64 2] 68),
  (.cells #[.int .i64 0, .int .i64 2, .int .i64 2] 68),
  (.cells #[.slice none 0 0, .slice (some ⟨n + 20, 0, none⟩) 1 1] 60),
  (.cells #[.slice none 0 0, .slice none 0 0, .slice none 0 0, .slice (some ⟨n + 20, 0, none⟩) 1 1] 60),
  (.cells #[.slice (some ⟨n + 9, 0, none⟩) 3 3, .slice (some ⟨n + 17, 0, none⟩) 3 3, .slice (some ⟨n + 22, 0, none⟩) 2 2] 58)]
set_option maxHeartbeats 8000000 in
theorem A_calls (w : World) : Calls Tryd.prog 26 #[] w fun e w' => ∃ a, e = .returned (.agg #[.slice (some a) 3 3]) ∧ Kd.C (Kd.slice 60 k60) w' (some a) 3 exA ∧ Below w.heap.size w w' := by
  go_enter Tryd.func26, Tryd.ntmps26
  go_wp2_with (first | (go_at_call 28; refine (span_is _ _ _ _).mono ?_; rintro e V ⟨rfl, rfl⟩) | (go_at_call 61; refine (release_is _ _ _ _).mono ?_; rintro e V ⟨rfl, rfl⟩) | (go_at_call 62; refine (bar_is _ _ _ _).mono ?_; rintro e V ⟨rfl, rfl⟩))
  simp only [Nat.add_assoc, Nat.reduceAdd]
  refine (fun h => h _ rfl : (∀ V, V = allocs w (objsA w.heap.size) → bodyPost Tryd.prog Tryd.f26 _ .ret _ V) → _) ?_
  intro W hW
  have hr : ∀ k, k < 24 → W.heap[w.heap.size + k]? = (objsA w.heap.size)[k]? := fun k hk => by rw [hW]; exact allocs_get _ _ _ hk
  have hb : Below w.heap.size w W := by rw [hW]; exact allocs_below _ _ _ (Nat.le_refl _) (Below.refl _ _)
  clear hW
  have q3 : k68.C W (some ⟨w.heap.size + 3, 0, none⟩) 1 [⟨1, 0, 1⟩] := by
    refine C_of_row k68 [⟨1, 0, 1⟩] (hr 3 (by omega)) (by simp) ?_
    intro j hj
    rcases j with _ | _ | j
    all_goals first | (exfalso; simp only [List.length_cons, List.length_nil] at hj; omega) | skip
    all_goals refine ⟨_, k68_mk _ _, fun i u hi => ?_⟩
    all_goals rcases i with _ | _ | _ | i <;> simp_all [k68, Kd.iso, Kd.pair, Kd.int, Kd.scalar]
  have q7 : k68.C W (some ⟨w.heap.size + 7, 0, none⟩) 2 [⟨1, 2, 2⟩, ⟨2, 0, 1⟩] := by
    refine C_of_row k68 [⟨1, 2, 2⟩, ⟨2, 0, 1⟩] (hr 7 (by omega)) (by simp) ?_
    intro j hj
    rcases j with _ | _ | j
    all_goals first | (exfalso; simp only [List.length_cons, List.length_nil] at hj; omega) | skip
    all_goals refine ⟨_, k68_mk _ _, fun i u hi => ?_⟩
    all_goals rcases i with _ | _ | _ | i <;> simp_all [k68, Kd.iso, Kd.pair, Kd.int, Kd.scalar]
  have q12 : k68.C W (some ⟨w.heap.size + 12, 0, none⟩) 1 [⟨2, 0, 0⟩] := by
    refine C_of_row k68 [⟨2, 0, 0⟩] (hr 12 (by omega)) (by simp) ?_
    intro j hj
    rcases j with _ | _ | j
    all_goals first | (exfalso; simp only [List.length_cons, List.length_nil] at hj; omega) | skip
    all_goals refine ⟨_, k68_mk _ _, fun i u hi => ?_⟩
    all_goals rcases i with _ | _ | _ | i <;> simp_all [k68, Kd.iso, Kd.pair, Kd.int, Kd.scalar]
  have q15 : k68.C W (some ⟨w.heap.size + 15, 0, none⟩) 1 [⟨2, 1, 1⟩] := by
    refine C_of_row k68 [⟨2, 1, 1⟩] (hr 15 (by omega)) (by simp) ?_
    intro j hj
    rcases j with _ | _ | j
    all_goals first | (exfalso; simp only [List.length_cons, List.length_nil] at hj; omega) | skip
    all_goals refine ⟨_, k68_mk _ _, fun i u hi => ?_⟩
    all_goals rcases i with _ | _ | _ | i <;> simp_all [k68, Kd.iso, Kd.pair, Kd.int, Kd.scalar]
  have q20 : k68.C W (some ⟨w.heap.size + 20, 0, none⟩) 1 [⟨0, 2, 2⟩] := by
    refine C_of_row k68 [⟨0, 2, 2⟩] (hr 20 (by omega)) (by simp) ?_
    intro j hj
    rcases j with _ | _ | j
    all_goals first | (exfalso; simp only [List.length_cons, List.length_nil] at hj; omega) | skip
    all_goals refine ⟨_, k68_mk _ _, fun i u hi => ?_⟩
    all_goals rcases i with _ | _ | _ | i <;> simp_all [k68, Kd.iso, Kd.pair, Kd.int, Kd.scalar]
  have H3 := Lib.hid q3
  have H7 := Lib.hid q7
  have H12 := Lib.hid q12
  have H15 := Lib.hid q15
  have H20 := Lib.hid q20
  clear q3 q7 q12 q15 q20
  have q9 : k60.C W (some ⟨w.heap.size + 9, 0, none⟩) 3 [⟨[], []⟩, ⟨[⟨1, 0, 1⟩], []⟩, ⟨[⟨1, 2, 2⟩, ⟨2, 0, 1⟩], []⟩] := by
    refine C_of_row k60 [⟨[], []⟩, ⟨[⟨1, 0, 1⟩], []⟩, ⟨[⟨1, 2, 2⟩, ⟨2, 0, 1⟩], []⟩] (hr 9 (by omega)) (by simp) ?_
    intro j hj
    rcases j with _ | _ | _ | j
    · refine ⟨_, k60_mk W _ (Nat.le_refl _) (Kd.C_nil k68 W) (Nat.le_refl _) (Kd.C_nil k68 W), fun i u hi => ?_⟩
      rcases i with _ | _ | i <;> simp_all [k60, Kd.iso, Kd.pair, Kd.slice]
    · refine ⟨_, k60_mk W _ (Nat.le_refl _) H3.out (Nat.le_refl _) (Kd.C_nil k68 W), fun i u hi => ?_⟩
      rcases i with _ | _ | i <;> simp_all [k60, Kd.iso, Kd.pair, Kd.slice]
    · refine ⟨_, k60_mk W _ (Nat.le_refl _) H7.out (Nat.le_refl _) (Kd.C_nil k68 W), fun i u hi => ?_⟩
      rcases i with _ | _ | i <;> simp_all [k60, Kd.iso, Kd.pair, Kd.slice]
    · exfalso; simp only [List.length_cons, List.length_nil] at hj; omega
  have q17 : k60.C W (some ⟨w.heap.size + 17, 0, none⟩) 3 [⟨[], []⟩, ⟨[⟨2, 0, 0⟩], []⟩, ⟨[⟨2, 1, 1⟩], []⟩] := by
    refine C_of_row k60 [⟨[], []⟩, ⟨[⟨2, 0, 0⟩], []⟩, ⟨[⟨2, 1, 1⟩], []⟩] (hr 17 (by omega)) (by simp) ?_
    intro j hj
    rcases j with _ | _ | _ | j
    · refine ⟨_, k60_mk W _ (Nat.le_refl _) (Kd.C_nil k68 W) (Nat.le_refl _) (Kd.C_nil k68 W), fun i u hi => ?_⟩
      rcases i with _ | _ | i <;> simp_all [k60, Kd.iso, Kd.pair, Kd.slice]
    · refine ⟨_, k60_mk W _ (Nat.le_refl _) H12.out (Nat.le_refl _) (Kd.C_nil k68 W), fun i u hi => ?_⟩
      rcases i with _ | _ | i <;> simp_all [k60, Kd.iso, Kd.pair, Kd.slice]
    · refine ⟨_, k60_mk W _ (Nat.le_refl _) H15.out (Nat.le_refl _) (Kd.C_nil k68 W), fun i u hi => ?_⟩
      rcases i with _ | _ | i <;> simp_all [k60, Kd.iso, Kd.pair, Kd.slice]
    · exfalso; simp only [List.length_cons, List.length_nil] at hj; omega
  have q22 : k60.C W (some ⟨w.heap.size + 22, 0, none⟩) 2 [⟨[], []⟩, ⟨[], [⟨0, 2, 2⟩]⟩] := by
    refine C_of_row k60 [⟨[], []⟩, ⟨[], [⟨0, 2, 2⟩]⟩] (hr 22 (by omega)) (by simp) ?_
    intro j hj
    rcases j with _ | _ | j
    · refine ⟨_, k60_mk W _ (Nat.le_refl _) (Kd.C_nil k68 W) (Nat.le_refl _) (Kd.C_nil k68 W), fun i u hi => ?_⟩
      rcases i with _ | _ | i <;> simp_all [k60, Kd.iso, Kd.pair, Kd.slice]
    · refine ⟨_, k60_mk W _ (Nat.le_refl _) (Kd.C_nil k68 W) (Nat.le_refl _) H20.out, fun i u hi => ?_⟩
      rcases i with _ | _ | i <;> simp_all [k60, Kd.iso, Kd.pair, Kd.slice]
    · exfalso; simp only [List.length_cons, List.length_nil] at hj; omega
  have H9 := Lib.hid q9
  have H17 := Lib.hid q17
  have H22 := Lib.hid q22
  clear q9 q17 q22
  have q23 : Kd.C (Kd.slice 60 k60) W (some ⟨w.heap.size + 23, 0, none⟩) 3 exA := by
    unfold exA
    refine C_of_row (Kd.slice 60 k60) _ (hr 23 (by omega)) (by simp) ?_
    intro j hj
    rcases j with _ | _ | _ | j
    · refine ⟨_, ⟨_, _, rfl, Nat.le_refl _, H9.out⟩, fun i u hi => ?_⟩
      rcases i with _ | i <;> simp_all [Kd.slice]
    · refine ⟨_, ⟨_, _, rfl, Nat.le_refl _, H17.out⟩, fun i u hi => ?_⟩
      rcases i with _ | i <;> simp_all [Kd.slice]
    · refine ⟨_, ⟨_, _, rfl, Nat.le_refl _, H22.out⟩, fun i u hi => ?_⟩
      rcases i with _ | i <;> simp_all [Kd.slice]
    · exfalso; simp only [List.length_cons, List.length_nil] at hj; omega
  exact bodyPost_ret (results_cell_row rfl _ _ w.heap.size 24 #[.slice (some ⟨w.heap.size + 23, 0, none⟩) 3 3] (0, 0) _ rfl (hr 0 (by omega)) Tryd.underlying24 rfl (by simpa using cells24)) rfl ⟨_, rfl, q23, hb⟩
end Go.Proofs.YtlhnpbdpojcbeaaDoor
end
section
open Go Go.RowKit
namespace Go.Proofs.YtlhnpbdpojcbeaaDoor
open Go.Proofs.YtlhnpbdpojcbeaaDoorW.PrintWords
open PPackAll Go.Shelf
set_option linter.unusedVariables false
set_option linter.unusedSimpArgs false
def gA : List S68 := [⟨0, 0, 2⟩]
def gB : List S68 := [⟨0, 2, 2⟩]
def clX : List S49 := [⟨-1, 0, false, 0⟩, ⟨0, 1, false, 0⟩, ⟨0, 2, false, 0⟩, ⟨0, 2, false, 1⟩, ⟨1, 1, false, 0⟩, ⟨1, 2, false, 0⟩, ⟨2, 1, true, 0⟩]
instance (x : List (List S60)) (r : S68) : Decidable (OkRange x r) := by unfold OkRange; infer_instance
instance (x : List (List S60)) (i : Nat) (r : S60) : Decidable (OkRel x i r) := by unfold OkRel; infer_instance
instance (x : List (List S60)) : Decidable (OkIdx x) := by unfold OkIdx; infer_instance
instance (x : List (List S60)) (gs : List S68) : Decidable (OkGoals x gs) := by unfold OkGoals; infer_instance
theorem ex_ok : OkIdx exA := by decide +kernel
theorem ex_gA : OkGoals exA gA := by decide +kernel
theorem ex_gB : OkGoals exA gB := by decide +kernel
theorem ex_clA : pack_market_clauses.f 100 exA gA = some clX := by kernel_rfl
theorem ex_clB : pack_market_clauses.f 100 exA gB = some clX := by kernel_rfl
instance (x : List (List S60)) (gs : List S68) (c : S49) : Decidable (OkClause x gs c) := by unfold OkClause; infer_instance
theorem ex_okA : ∀ k ∈ clX, OkClause exA gA k := by decide +kernel
theorem ex_okB : ∀ k ∈ clX, OkClause exA gB k := by decide +kernel
theorem ex_fault : faultF exA gA (pad [2, 2, 1]) = (3, 2) := by decide +kernel
theorem ex_best : bestR exA gA clX = some [1, 1, 0] := by decide +kernel
theorem ex_near : nearR exA gA (pad [-1, 1, 0]) clX = (1, some [1, 1, 0]) := by decide +kernel
theorem ex_same : swingleref26_SameInts.f 20 [1, 1, 0] [1, 1, 0] = some true := by kernel_rfl
theorem ex_same49 : swingleref26_SameClauses.f 20 [⟨-1, 0, false, 0⟩, ⟨0, 2, false, 0⟩, ⟨1, 2, false, 0⟩, ⟨2, 1, true, 0⟩] [⟨-1, 0, false, 0⟩, ⟨0, 2, false, 0⟩, ⟨1, 2, false, 0⟩, ⟨2, 1, true, 0⟩] = some true := by kernel_rfl
theorem ex_core : coreErr exA gB clX = 0 ∧ coreRes exA gB clX = [⟨-1, 0, false, 0⟩, ⟨0, 2, false, 0⟩, ⟨1, 2, false, 0⟩, ⟨2, 1, true, 0⟩] := ⟨by decide +kernel, by kernel_rfl⟩
theorem goals_is (A : Option Addr) (n c : Nat) (w : World) : Calls Tryd.prog 27 #[.slice A n c] w fun e w' => e = .returned (.slice A n c) ∧ w' = w := by
  go_enter Tryd.func27, Tryd.ntmps27
  go_wp2
  go_ret
  exact ⟨rfl, rfl⟩
theorem C_one {W : World} {b t : Nat} (r : S68) (h : W.heap[b]? = some (.cells #[.int .i64 r.f0, .int .i64 r.f1, .int .i64 r.f2] t (0, 0))) : k68.C W (some ⟨b, 0, none⟩) 1 [r] := by
  refine C_of_row k68 [r] h (by simp) ?_
  intro j hj
  obtain rfl : j = 0 := by simpa using hj
  refine ⟨_, k68_mk _ _, fun i u hi => ?_⟩
  rcases i with _ | _ | _ | i <;> simp_all
theorem C_three {W : World} {b t : Nat} (a1 a2 a3 : Int) (h : W.heap[b]? = some (.cells #[.int .i64 a1, .int .i64 a2, .int .i64 a3] t (0, 0))) : Kd.C (Kd.int .i64) W (some ⟨b, 0, none⟩) 3 [a1, a2, a3] := by
  refine C_of_row (Kd.int .i64) [a1, a2, a3] h (by simp) ?_
  intro j hj
  rcases j with _ | _ | _ | j
  · exact ⟨_, rfl, fun i u hi => by rcases i with _ | i <;> simp_all [Kd.int, Kd.scalar]⟩
  · exact ⟨_, rfl, fun i u hi => by rcases i with _ | i <;> simp_all [Kd.int, Kd.scalar]⟩
  · exact ⟨_, rfl, fun i u hi => by rcases i with _ | i <;> simp_all [Kd.int, Kd.scalar]⟩
  · simp at hj; omega
set_option maxHeartbeats 8000000 in
theorem works_calls (w : World) : Calls Tryd.prog 6 #[] w fun e w' => e = .returned (.bool true) ∧ Below w.heap.size w w' := by
  go_enter Tryd.func6, Tryd.ntmps6
  go_wp2_with fail
  refine (A_calls _).mono ?_
  rintro e V1 ⟨a1, rfl, x1, b1⟩
  have Hx1 := Lib.hid x1
  have Hb1 := Lib.hid b1
  clear x1 b1
  go_wp2_with (first | (go_at_call 28; refine (span_is _ _ _ _).mono ?_; rintro e V ⟨rfl, rfl⟩) | (go_at_call 27; refine (goals_is _ _ _ _).mono ?_; rintro e V ⟨rfl, rfl⟩))
  refine (Fault_calls (some a1) 3 exA _ 1 gA _ 3 [2, 2, 1] _ ?_ ?_ ex_ok ex_gA ?_ rfl (by decide +kernel)).mono ?_
  · exact Kd.C_below Hx1.out (by (repeat (first | exact Below.refl _ _ | refine pw_below_drewN ?_ _ | refine below_drew ?_ | refine Below.alloc ?_ (by first | omega | (simp; done) | (simp; omega)) _ | refine Below.setCell ?_ (by first | omega | (simp; done) | (simp; omega)) _)))
  · exact C_one ⟨0, 0, 2⟩ (t := 68) (by simp only [heap_alloc_if]; simp)
  · exact C_three 2 2 1 (t := 3) (by simp only [heap_alloc_if]; simp)
  rintro e V2 ⟨rfl, b2⟩
  have b2w : Below w.heap.size w V2 := Hb1.out.trans (Below.mono (Below.trans (by (repeat (first | exact Below.refl _ _ | refine pw_below_drewN ?_ _ | refine below_drew ?_ | refine Below.alloc ?_ (by first | omega | (simp; done) | (simp; omega)) _ | refine Below.setCell ?_ (by first | omega | (simp; done) | (simp; omega)) _))) (b2.mono (by simp; omega))) Hb1.out.size)
  rw [ex_fault]
  have Hb2w := Lib.hid b2w
  clear b2w
  clear Hx1 Hb1 b2
  go_wp2_with fail
  refine (A_calls _).mono ?_
  rintro e V3 ⟨a3, rfl, x3, b3⟩
  have b3w := Hb2w.out.trans (b3.mono Hb2w.out.size)
  have Hx3 := Lib.hid x3
  have Hb3w := Lib.hid b3w
  clear x3 b3w
  clear b3
  go_wp2_with (first | (go_at_call 28; refine (span_is _ _ _ _).mono ?_; rintro e V ⟨rfl, rfl⟩) | (go_at_call 27; refine (goals_is _ _ _ _).mono ?_; rintro e V ⟨rfl, rfl⟩))
  refine (Best_calls (some a3) 3 exA _ 1 gA _ 100 clX ?_ ex_ok ?_ ex_gA (by decide) (by decide) ex_clA ex_okA).mono ?_
  · exact Kd.C_below Hx3.out (by (repeat (first | exact Below.refl _ _ | refine pw_below_drewN ?_ _ | refine below_drew ?_ | refine Below.alloc ?_ (by first | omega | (simp; done) | (simp; omega)) _ | refine Below.setCell ?_ (by first | omega | (simp; done) | (simp; omega)) _)))
  · exact C_one ⟨0, 0, 2⟩ (t := 68) (by simp only [heap_alloc_if]; simp)
  rintro e V4 ⟨v4, rfl, r4, b4⟩
  have b4w : Below w.heap.size w V4 := Hb3w.out.trans (Below.mono (Below.trans (by (repeat (first | exact Below.refl _ _ | refine pw_below_drewN ?_ _ | refine below_drew ?_ | refine Below.alloc ?_ (by first | omega | (simp; done) | (simp; omega)) _ | refine Below.setCell ?_ (by first | omega | (simp; done) | (simp; omega)) _))) (b4.mono (by simp; omega))) Hb3w.out.size)
  rw [ex_best] at r4 ⊢
  obtain ⟨A4, c4, e4, l4, k4⟩ := Kd.R_reads r4
  subst e4
  have Hk4 := Lib.hid k4
  have Hb4w := Lib.hid b4w
  have Hl4 := Lib.hid l4
  clear k4 b4w l4
  clear Hx3 Hb3w b4 r4
  go_wp2_with fail
  refine (A_calls _).mono ?_
  rintro e V5 ⟨a5, rfl, x5, b5⟩
  have b5w := Hb4w.out.trans (b5.mono Hb4w.out.size)
  have k4' := Kd.C_below Hk4.out b5
  have Hx5 := Lib.hid x5
  have Hb5w := Lib.hid b5w
  have Hk4' := Lib.hid k4'
  clear x5 b5w k4'
  clear b5 Hk4
  go_wp2_with (first | (go_at_call 28; refine (span_is _ _ _ _).mono ?_; rintro e V ⟨rfl, rfl⟩) | (go_at_call 27; refine (goals_is _ _ _ _).mono ?_; rintro e V ⟨rfl, rfl⟩))
  refine (core_calls (some a5) 3 exA _ 1 gB _ 100 clX ?_ ex_ok ?_ ex_gB (by decide) (by decide) ex_clB ex_okB (by decide)).mono ?_
  · exact Kd.C_below Hx5.out (by (repeat (first | exact Below.refl _ _ | refine pw_below_drewN ?_ _ | refine below_drew ?_ | refine Below.alloc ?_ (by first | omega | (simp; done) | (simp; omega)) _ | refine Below.setCell ?_ (by first | omega | (simp; done) | (simp; omega)) _)))
  · exact C_one ⟨0, 2, 2⟩ (t := 68) (by simp only [heap_alloc_if]; simp)
  rintro e V6 ⟨v6, rfl, r6, b6⟩
  have b6w : Below w.heap.size w V6 := Hb5w.out.trans (Below.mono (Below.trans (by (repeat (first | exact Below.refl _ _ | refine pw_below_drewN ?_ _ | refine below_drew ?_ | refine Below.alloc ?_ (by first | omega | (simp; done) | (simp; omega)) _ | refine Below.setCell ?_ (by first | omega | (simp; done) | (simp; omega)) _))) (b6.mono (by simp; omega))) Hb5w.out.size)
  have k6 := Kd.C_below Hk4'.out (Below.trans (by (repeat (first | exact Below.refl _ _ | refine pw_below_drewN ?_ _ | refine below_drew ?_ | refine Below.alloc ?_ (by first | omega | (simp; done) | (simp; omega)) _ | refine Below.setCell ?_ (by first | omega | (simp; done) | (simp; omega)) _))) (b6.mono (by simp; omega)))
  rw [ex_core.2] at r6
  rw [ex_core.1]
  obtain ⟨A6, c6, e6, l6, m6⟩ := Kd.R_reads r6
  subst e6
  have Hk6 := Lib.hid k6
  have Hb6w := Lib.hid b6w
  have Hl6 := Lib.hid l6
  have Hm6 := Lib.hid m6
  clear k6 b6w l6 m6
  clear Hx5 Hb5w b6 r6 Hk4'
  go_wp2_with fail
  refine (A_calls _).mono ?_
  rintro e V7 ⟨a7, rfl, x7, b7⟩
  have b7w := Hb6w.out.trans (b7.mono Hb6w.out.size)
  have k7 := Kd.C_below Hk6.out b7
  have m7 := Kd.C_below Hm6.out b7
  have Hx7 := Lib.hid x7
  have Hb7w := Lib.hid b7w
  have Hk7 := Lib.hid k7
  have Hm7 := Lib.hid m7
  clear x7 b7w k7 m7
  clear b7 Hk6 Hm6
  go_wp2_with (first | (go_at_call 28; refine (span_is _ _ _ _).mono ?_; rintro e V ⟨rfl, rfl⟩) | (go_at_call 27; refine (goals_is _ _ _ _).mono ?_; rintro e V ⟨rfl, rfl⟩))
  refine (Closest_calls (some a7) 3 exA _ 1 gA _ 3 [-1, 1, 0] _ 100 clX ?_ ex_ok ?_ ex_gA (by decide) (by decide) ?_ rfl (by decide +kernel) ex_clA ex_okA).mono ?_
  · exact Kd.C_below Hx7.out (by (repeat (first | exact Below.refl _ _ | refine pw_below_drewN ?_ _ | refine below_drew ?_ | refine Below.alloc ?_ (by first | omega | (simp; done) | (simp; omega)) _ | refine Below.setCell ?_ (by first | omega | (simp; done) | (simp; omega)) _)))
  · exact C_one ⟨0, 0, 2⟩ (t := 68) (by simp only [heap_alloc_if]; simp)
  · exact C_three (-1) 1 0 (t := 3) (by simp only [heap_alloc_if]; simp)
  rintro e V8 ⟨v8, rfl, r8, b8⟩
  rw [ex_near] at r8 ⊢
  have b8w : Below w.heap.size w V8 := Hb7w.out.trans (Below.mono (Below.trans (by (repeat (first | exact Below.refl _ _ | refine pw_below_drewN ?_ _ | refine below_drew ?_ | refine Below.alloc ?_ (by first | omega | (simp; done) | (simp; omega)) _ | refine Below.setCell ?_ (by first | omega | (simp; done) | (simp; omega)) _))) (b8.mono (by simp; omega))) Hb7w.out.size)
  have k8 := Kd.C_below Hk7.out (Below.trans (by (repeat (first | exact Below.refl _ _ | refine pw_below_drewN ?_ _ | refine below_drew ?_ | refine Below.alloc ?_ (by first | omega | (simp; done) | (simp; omega)) _ | refine Below.setCell ?_ (by first | omega | (simp; done) | (simp; omega)) _))) (b8.mono (by simp; omega)))
  have m8 := Kd.C_below Hm7.out (Below.trans (by (repeat (first | exact Below.refl _ _ | refine pw_below_drewN ?_ _ | refine below_drew ?_ | refine Below.alloc ?_ (by first | omega | (simp; done) | (simp; omega)) _ | refine Below.setCell ?_ (by first | omega | (simp; done) | (simp; omega)) _))) (b8.mono (by simp; omega)))
  obtain ⟨A8, c8, e8, l8, n8⟩ := Kd.R_reads r8
  subst e8
  have Hk8 := Lib.hid k8
  have Hb8w := Lib.hid b8w
  have Hm8 := Lib.hid m8
  have Hl8 := Lib.hid l8
  have Hn8 := Lib.hid n8
  clear k8 b8w m8 l8 n8
  clear Hx7 Hb7w b8 r8 Hk7 Hm7
  go_wp2_with fail
  refine (swingleref26_SameInts.calls 20 A4 c4 [1, 1, 0] _ 3 [1, 1, 0] true _ ?_ Hl4.out ?_ (by decide) ex_same).mono ?_
  · exact Kd.C_below Hk8.out (by (repeat (first | exact Below.refl _ _ | refine pw_below_drewN ?_ _ | refine below_drew ?_ | refine Below.alloc ?_ (by first | omega | (simp; done) | (simp; omega)) _ | refine Below.setCell ?_ (by first | omega | (simp; done) | (simp; omega)) _)))
  · exact C_three 1 1 0 (t := 3) (by simp only [heap_alloc_if]; simp)
  rintro e V9 ⟨rfl, hd9⟩
  obtain ⟨n9, rfl⟩ := hd9.out
  have b9w : Below w.heap.size w ((V8.alloc (Obj.cells #[Value.int IntKind.i64 1, Value.int IntKind.i64 1, Value.int IntKind.i64 0] 3)).drewN n9) := Hb8w.out.trans (Below.mono (by (repeat (first | exact Below.refl _ _ | refine pw_below_drewN ?_ _ | refine below_drew ?_ | refine Below.alloc ?_ (by first | omega | (simp; done) | (simp; omega)) _ | refine Below.setCell ?_ (by first | omega | (simp; done) | (simp; omega)) _))) Hb8w.out.size)
  have m9 := Kd.C_below (w1 := (V8.alloc (Obj.cells #[Value.int IntKind.i64 1, Value.int IntKind.i64 1, Value.int IntKind.i64 0] 3)).drewN n9) Hm8.out (by (repeat (first | exact Below.refl _ _ | refine pw_below_drewN ?_ _ | refine below_drew ?_ | refine Below.alloc ?_ (by first | omega | (simp; done) | (simp; omega)) _ | refine Below.setCell ?_ (by first | omega | (simp; done) | (simp; omega)) _)))
  have n9' := Kd.C_below (w1 := (V8.alloc (Obj.cells #[Value.int IntKind.i64 1, Value.int IntKind.i64 1, Value.int IntKind.i64 0] 3)).drewN n9) Hn8.out (by (repeat (first | exact Below.refl _ _ | refine pw_below_drewN ?_ _ | refine below_drew ?_ | refine Below.alloc ?_ (by first | omega | (simp; done) | (simp; omega)) _ | refine Below.setCell ?_ (by first | omega | (simp; done) | (simp; omega)) _)))
  generalize (V8.alloc (Obj.cells #[Value.int IntKind.i64 1, Value.int IntKind.i64 1, Value.int IntKind.i64 0] 3)).drewN n9 = V9 at *
  have Hb9w := Lib.hid b9w
  have Hm9 := Lib.hid m9
  have Hn9' := Lib.hid n9'
  clear b9w m9 n9'
  clear hd9 Hk8 Hm8 Hn8 Hb8w
  go_wp2_with fail
  refine (swingleref26_SameClauses.calls 20 A6 c6 [⟨-1, 0, false, 0⟩, ⟨0, 2, false, 0⟩, ⟨1, 2, false, 0⟩, ⟨2, 1, true, 0⟩] _ 4 [⟨-1, 0, false, 0⟩, ⟨0, 2, false, 0⟩, ⟨1, 2, false, 0⟩, ⟨2, 1, true, 0⟩] true _ ?_ Hl6.out ?_ (by decide) ex_same49).mono ?_
  · exact Kd.C_below Hm9.out (by (repeat (first | exact Below.refl _ _ | refine pw_below_drewN ?_ _ | refine below_drew ?_ | refine Below.alloc ?_ (by first | omega | (simp; done) | (simp; omega)) _ | refine Below.setCell ?_ (by first | omega | (simp; done) | (simp; omega)) _)))
  · refine C_of_row k49 [⟨-1, 0, false, 0⟩, ⟨0, 2, false, 0⟩, ⟨1, 2, false, 0⟩, ⟨2, 1, true, 0⟩] (t := 49) (by simp only [heap_alloc_if]; simp; rfl) (by simp) ?_
    intro j hj
    rcases j with _ | _ | _ | _ | j
    all_goals first | (exfalso; simp only [List.length_cons, List.length_nil] at hj; omega) | skip
    all_goals refine ⟨_, k49_mk _ _, fun i u hi => ?_⟩
    all_goals rcases i with _ | _ | _ | _ | i <;> simp_all [k49, Kd.iso, Kd.pair, Kd.int, Kd.bool, Kd.scalar]
  rintro e V10 ⟨rfl, hd10⟩
  obtain ⟨n10, rfl⟩ := hd10.out
  have b10w : Below w.heap.size w ((V9.alloc (Obj.cells #[Value.int IntKind.i64 (-1), Value.int IntKind.i64 0, Value.bool false, Value.int IntKind.i64 0, Value.int IntKind.i64 0, Value.int IntKind.i64 2, Value.bool false, Value.int IntKind.i64 0, Value.int IntKind.i64 1, Value.int IntKind.i64 2, Value.bool false, Value.int IntKind.i64 0, Value.int IntKind.i64 2, Value.int IntKind.i64 1, Value.bool true, Value.int IntKind.i64 0] 49)).drewN n10) := Hb9w.out.trans (Below.mono (by (repeat (first | exact Below.refl _ _ | refine pw_below_drewN ?_ _ | refine below_drew ?_ | refine Below.alloc ?_ (by first | omega | (simp; done) | (simp; omega)) _ | refine Below.setCell ?_ (by first | omega | (simp; done) | (simp; omega)) _))) Hb9w.out.size)
  have n10' := Kd.C_below (w1 := (V9.alloc (Obj.cells #[Value.int IntKind.i64 (-1), Value.int IntKind.i64 0, Value.bool false, Value.int IntKind.i64 0, Value.int IntKind.i64 0, Value.int IntKind.i64 2, Value.bool false, Value.int IntKind.i64 0, Value.int IntKind.i64 1, Value.int IntKind.i64 2, Value.bool false, Value.int IntKind.i64 0, Value.int IntKind.i64 2, Value.int IntKind.i64 1, Value.bool true, Value.int IntKind.i64 0] 49)).drewN n10) Hn9'.out (by (repeat (first | exact Below.refl _ _ | refine pw_below_drewN ?_ _ | refine below_drew ?_ | refine Below.alloc ?_ (by first | omega | (simp; done) | (simp; omega)) _ | refine Below.setCell ?_ (by first | omega | (simp; done) | (simp; omega)) _)))
  generalize (V9.alloc (Obj.cells #[Value.int IntKind.i64 (-1), Value.int IntKind.i64 0, Value.bool false, Value.int IntKind.i64 0, Value.int IntKind.i64 0, Value.int IntKind.i64 2, Value.bool false, Value.int IntKind.i64 0, Value.int IntKind.i64 1, Value.int IntKind.i64 2, Value.bool false, Value.int IntKind.i64 0, Value.int IntKind.i64 2, Value.int IntKind.i64 1, Value.bool true, Value.int IntKind.i64 0] 49)).drewN n10 = V10 at *
  have Hb10w := Lib.hid b10w
  have Hn10' := Lib.hid n10'
  clear b10w n10'
  clear hd10 Hm9 Hn9' Hb9w
  go_wp2_with fail
  refine (swingleref26_SameInts.calls 20 A8 c8 [1, 1, 0] _ 3 [1, 1, 0] true _ ?_ Hl8.out ?_ (by decide) ex_same).mono ?_
  · exact Kd.C_below Hn10'.out (by (repeat (first | exact Below.refl _ _ | refine pw_below_drewN ?_ _ | refine below_drew ?_ | refine Below.alloc ?_ (by first | omega | (simp; done) | (simp; omega)) _ | refine Below.setCell ?_ (by first | omega | (simp; done) | (simp; omega)) _)))
  · exact C_three 1 1 0 (t := 3) (by simp only [heap_alloc_if]; simp)
  rintro e V11 ⟨rfl, hd11⟩
  obtain ⟨n11, rfl⟩ := hd11.out
  have b11w : Below w.heap.size w ((V10.alloc (Obj.cells #[Value.int IntKind.i64 1, Value.int IntKind.i64 1, Value.int IntKind.i64 0] 3)).drewN n11) := Hb10w.out.trans (Below.mono (by (repeat (first | exact Below.refl _ _ | refine pw_below_drewN ?_ _ | refine below_drew ?_ | refine Below.alloc ?_ (by first | omega | (simp; done) | (simp; omega)) _ | refine Below.setCell ?_ (by first | omega | (simp; done) | (simp; omega)) _))) Hb10w.out.size)
  have Hb11w := Lib.hid b11w
  clear b11w
  clear hd11
  go_wp2_with fail
  go_ret
  exact ⟨rfl, Hb11w.out⟩
end Go.Proofs.YtlhnpbdpojcbeaaDoor
end
