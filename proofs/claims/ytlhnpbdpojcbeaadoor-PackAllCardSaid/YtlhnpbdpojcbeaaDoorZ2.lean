/- Lemmas of this proof, part 2. -/
import Derived.Test.YtlhnpbdpojcbeaaDoorZ0
import Derived.Test.YtlhnpbdpojcbeaaDoorZ1
import Derived.Test.YtlhnpbdpojcbeaaDoorProg
import Derived.Below
import Derived.Deep.Draws
import Derived.Deep.AppendLies
import Derived.Maps.AppendAt
import Derived.OwnWalk
import Derived.Laws.BytesArg
import Derived.Laws.MakeOwn
import Derived.Laws.OwnMore
import Derived.Deep.OwnRows
import Derived.Tactics
import Derived.Lib.ConvBytes
import Derived.Laws.Slices
import Derived.WalkKit
import Derived.KernelRfl
import Derived.RowKit3
import Derived.Deep.LoopGhost
import Derived.Deep.QuietTactic
import Derived.BigQuiet
import Derived.WideLaws
import Derived.Deep.DeepCutAuto
import Derived.Deep.CutBlock
import Derived.Deep.RegionHeld3
import Derived.Laws.Rows
import Derived.Lib.AppendStr
import Derived.ArgAppend
import Derived.Laws.IdiomCopy
import Derived.OrdersHeld
import Derived.Laws.BitsLemmas
import Derived.RowKit
import Derived.StillTailTactics
import Derived.Outline
import Derived.Lib.Hide
import Derived.Shelf.Abstract
import Derived.IntWalk
import Derived.Laws.EntriesVeiled
import Derived.RegionTactic
import Derived.ChangeAlike
import Derived.RangeFuncNested
import Derived.RangeFuncBound
import Derived.RangeFuncCalls
import Derived.RangeFuncLeaves
import Derived.Shelf.RegionOpen
import Derived.OwnWalkIn
import Derived.TacticsInMore
import Derived.LoopNIn
import Derived.LoopIn
section
namespace Go.Proofs.YtlhnpbdpojcbeaaDoor.PPackAll
open Go.RowKit Go.Proofs.YtlhnpbdpojcbeaaDoorW.PrintWords Go.Proofs.YtlhnpbdpojcbeaaDoorW.PrintLast Go.Proofs.YtlhnpbdpojcbeaaDoorW.PrintMore
attribute [local go_sem] max2_int min2_int max_two min_two max_three min_three max_four min_four   -- for this text's walks alone
set_option linter.unusedVariables false
set_option linter.unusedSimpArgs false
def errW : Option Int → Value
  | none => .nilIface
  | some c => .iface 0 (.int .i64 c)
theorem errW_none : errW none = .nilIface := rfl
theorem errW_some (c : Int) : errW (some c) = .iface 0 (.int .i64 c) := rfl
theorem info3 : (Tryd.prog.info? 3).map (fun i => (i.zero, i.size, i.bytes)) = some (some (.int .i64 0), 1, 8) := by kernel_rfl
theorem info49 : (Tryd.prog.info? 49).map (fun i => (i.zero, i.size, i.bytes)) = some (some (.agg #[(.int .i64 0), (.int .i64 0), (.bool false), (.int .i64 0)]), 4, 32) := by kernel_rfl
structure S68 where
  f0 : Int
  f1 : Int
  f2 : Int
def z68 : S68 := ⟨(0 : Int), (0 : Int), (0 : Int)⟩
def k68 : Kd S68 := Kd.iso (Kd.pair (Kd.int .i64) (Kd.pair (Kd.int .i64) (Kd.int .i64))) (fun x : S68 => (x.f0, x.f1, x.f2))
theorem k68_open {w : World} {x : S68} {cs : List Value} (h : k68.K w x cs) : cs = [.int .i64 x.f0, .int .i64 x.f1, .int .i64 x.f2] := by
  obtain ⟨_, _, rfl, rfl, ⟨_, _, rfl, rfl, rfl⟩⟩ := h
  exact rfl
theorem k68_openM {w : World} {base : Nat} {ok : Nat → Prop} {x : S68} {cs : List Value} (h : k68.M w base ok x cs) : cs = [.int .i64 x.f0, .int .i64 x.f1, .int .i64 x.f2] := by
  obtain ⟨_, _, rfl, rfl, ⟨_, _, rfl, rfl, rfl⟩⟩ := h
  exact rfl
theorem k68_mk (w : World) (x : S68)  : k68.K w x [.int .i64 x.f0, .int .i64 x.f1, .int .i64 x.f2] := ⟨[.int .i64 x.f0], [.int .i64 x.f1, .int .i64 x.f2], rfl, rfl, ⟨[.int .i64 x.f1], [.int .i64 x.f2], rfl, rfl, rfl⟩⟩
theorem k68_mkM (w : World) (base : Nat) (ok : Nat → Prop) (x : S68)  : k68.M w base ok x [.int .i64 x.f0, .int .i64 x.f1, .int .i64 x.f2] := ⟨[.int .i64 x.f0], [.int .i64 x.f1, .int .i64 x.f2], rfl, rfl, ⟨[.int .i64 x.f1], [.int .i64 x.f2], rfl, rfl, rfl⟩⟩
def rd_T68 (xs : List S68) (i : Int) : S68 := xs.getD i.toNat z68
theorem at_T68 {w : World} {A : Option Addr} {n : Nat} {xs : List S68} (h : Kd.C k68 w A n xs) (i : Int) (h0 : 0 ≤ i) (h1 : i < n) : ∃ ad , A = some ad ∧ w.cell? (ad.add (i.toNat * 3)) = some (.int .i64 (rd_T68 xs i).f0) ∧ w.cell? ⟨(ad.add (i.toNat * 3)).block, (ad.add (i.toNat * 3)).off + 1, none⟩ = some (.int .i64 (rd_T68 xs i).f1) ∧ w.cell? ⟨(ad.add (i.toNat * 3)).block, (ad.add (i.toNat * 3)).off + 2, none⟩ = some (.int .i64 (rd_T68 xs i).f2) := by
  obtain ⟨ad, c, e, _, hK, hc0⟩ := Kd.C_get h z68 i h0 h1
  have hc : ∀ j u, c[j]? = some u → w.cell? (ad.add (i.toNat * 3 + j)) = some u := hc0
  obtain rfl := k68_open hK
  exact ⟨ad, e, hc 0 _ rfl, by rw [← add_field _ _ 1 (by omega)]; exact hc 1 _ rfl, by rw [← add_field _ _ 2 (by omega)]; exact hc 2 _ rfl⟩
structure S60 where
  f0 : (List S68)
  f1 : (List S68)
def z60 : S60 := ⟨([] : List S68), ([] : List S68)⟩
def k60 : Kd S60 := Kd.iso (Kd.pair (Kd.slice 68 k68) (Kd.slice 68 k68)) (fun x : S60 => (x.f0, x.f1))
theorem k60_open {w : World} {x : S60} {cs : List Value} (h : k60.K w x cs) : ∃ A0 c0 A1 c1, cs = [.slice A0 x.f0.length c0, .slice A1 x.f1.length c1] ∧ x.f0.length ≤ c0 ∧ k68.C w A0 x.f0.length x.f0 ∧ x.f1.length ≤ c1 ∧ k68.C w A1 x.f1.length x.f1 := by
  obtain ⟨_, _, rfl, ⟨A0, c0, rfl, l0, g0⟩, ⟨A1, c1, rfl, l1, g1⟩⟩ := h
  exact ⟨A0, c0, A1, c1, rfl, l0, g0, l1, g1⟩
theorem k60_mk (w : World) (x : S60) {A0 : Option Addr} {c0 : Nat} (l0 : x.f0.length ≤ c0) (g0 : k68.C w A0 x.f0.length x.f0) {A1 : Option Addr} {c1 : Nat} (l1 : x.f1.length ≤ c1) (g1 : k68.C w A1 x.f1.length x.f1) : k60.K w x [.slice A0 x.f0.length c0, .slice A1 x.f1.length c1] := ⟨[.slice A0 x.f0.length c0], [.slice A1 x.f1.length c1], rfl, ⟨A0, c0, rfl, l0, g0⟩, ⟨A1, c1, rfl, l1, g1⟩⟩
def rd_T60 (xs : List S60) (i : Int) : S60 := xs.getD i.toNat z60
theorem at_T60 {w : World} {A : Option Addr} {n : Nat} {xs : List S60} (h : Kd.C k60 w A n xs) (i : Int) (h0 : 0 ≤ i) (h1 : i < n) : ∃ ad A0 c0 A1 c1, A = some ad ∧ w.cell? (ad.add (i.toNat * 2)) = some (.slice A0 (rd_T60 xs i).f0.length c0) ∧ w.cell? ⟨(ad.add (i.toNat * 2)).block, (ad.add (i.toNat * 2)).off + 1, none⟩ = some (.slice A1 (rd_T60 xs i).f1.length c1) ∧ (rd_T60 xs i).f0.length ≤ c0 ∧ k68.C w A0 (rd_T60 xs i).f0.length (rd_T60 xs i).f0 ∧ (rd_T60 xs i).f1.length ≤ c1 ∧ k68.C w A1 (rd_T60 xs i).f1.length (rd_T60 xs i).f1 := by
  obtain ⟨ad, c, e, _, hK, hc0⟩ := Kd.C_get h z60 i h0 h1
  have hc : ∀ j u, c[j]? = some u → w.cell? (ad.add (i.toNat * 2 + j)) = some u := hc0
  obtain ⟨A0, c0, A1, c1, rfl, l0, g0, l1, g1⟩ := k60_open hK
  exact ⟨ad, A0, c0, A1, c1, e, hc 0 _ rfl, by rw [← add_field _ _ 1 (by omega)]; exact hc 1 _ rfl, l0, g0, l1, g1⟩
def rd_L4 (xs : List (List S60)) (i : Int) : (List S60) := xs.getD i.toNat ([] : List S60)
theorem at_L4 {w : World} {A : Option Addr} {n : Nat} {xs : List (List S60)} (h : Kd.C (Kd.slice 60 k60) w A n xs) (i : Int) (h0 : 0 ≤ i) (h1 : i < n) : ∃ ad A0 c0, A = some ad ∧ w.cell? (ad.add i.toNat) = some (.slice A0 (rd_L4 xs i).length c0) ∧ (rd_L4 xs i).length ≤ c0 ∧ k60.C w A0 (rd_L4 xs i).length (rd_L4 xs i) := by
  obtain ⟨ad, c, e, _, hK, hc0⟩ := Kd.C_get h ([] : List S60) i h0 h1
  have hc : ∀ j u, c[j]? = some u → w.cell? (ad.add (i.toNat * 1 + j)) = some u := hc0
  obtain ⟨A0, c0, rfl, l0, g0⟩ := hK
  exact ⟨ad, A0, c0, e, by have hq := hc 0 _ rfl; rwa [Nat.mul_one, Nat.add_zero] at hq, l0, g0⟩
structure S49 where
  f0 : Int
  f1 : Int
  f2 : Bool
  f3 : Int
def z49 : S49 := ⟨(0 : Int), (0 : Int), false, (0 : Int)⟩
def k49 : Kd S49 := Kd.iso (Kd.pair (Kd.int .i64) (Kd.pair (Kd.int .i64) (Kd.pair Kd.bool (Kd.int .i64)))) (fun x : S49 => (x.f0, x.f1, x.f2, x.f3))
theorem k49_open {w : World} {x : S49} {cs : List Value} (h : k49.K w x cs) : cs = [.int .i64 x.f0, .int .i64 x.f1, .bool x.f2, .int .i64 x.f3] := by
  obtain ⟨_, _, rfl, rfl, ⟨_, _, rfl, rfl, ⟨_, _, rfl, rfl, rfl⟩⟩⟩ := h
  exact rfl
theorem k49_mk (w : World) (x : S49)  : k49.K w x [.int .i64 x.f0, .int .i64 x.f1, .bool x.f2, .int .i64 x.f3] := ⟨[.int .i64 x.f0], [.int .i64 x.f1, .bool x.f2, .int .i64 x.f3], rfl, rfl, ⟨[.int .i64 x.f1], [.bool x.f2, .int .i64 x.f3], rfl, rfl, ⟨[.bool x.f2], [.int .i64 x.f3], rfl, rfl, rfl⟩⟩⟩
theorem k49_mkM (w : World) (base : Nat) (ok : Nat → Prop) (x : S49)  : k49.M w base ok x [.int .i64 x.f0, .int .i64 x.f1, .bool x.f2, .int .i64 x.f3] := ⟨[.int .i64 x.f0], [.int .i64 x.f1, .bool x.f2, .int .i64 x.f3], rfl, rfl, ⟨[.int .i64 x.f1], [.bool x.f2, .int .i64 x.f3], rfl, rfl, ⟨[.bool x.f2], [.int .i64 x.f3], rfl, rfl, rfl⟩⟩⟩
def rd_T49 (xs : List S49) (i : Int) : S49 := xs.getD i.toNat z49
theorem at_T49 {w : World} {A : Option Addr} {n : Nat} {xs : List S49} (h : Kd.C k49 w A n xs) (i : Int) (h0 : 0 ≤ i) (h1 : i < n) : ∃ ad , A = some ad ∧ w.cell? (ad.add (i.toNat * 4)) = some (.int .i64 (rd_T49 xs i).f0) ∧ w.cell? ⟨(ad.add (i.toNat * 4)).block, (ad.add (i.toNat * 4)).off + 1, none⟩ = some (.int .i64 (rd_T49 xs i).f1) ∧ w.cell? ⟨(ad.add (i.toNat * 4)).block, (ad.add (i.toNat * 4)).off + 2, none⟩ = some (.bool (rd_T49 xs i).f2) ∧ w.cell? ⟨(ad.add (i.toNat * 4)).block, (ad.add (i.toNat * 4)).off + 3, none⟩ = some (.int .i64 (rd_T49 xs i).f3) := by
  obtain ⟨ad, c, e, _, hK, hc0⟩ := Kd.C_get h z49 i h0 h1
  have hc : ∀ j u, c[j]? = some u → w.cell? (ad.add (i.toNat * 4 + j)) = some u := hc0
  obtain rfl := k49_open hK
  exact ⟨ad, e, hc 0 _ rfl, by rw [← add_field _ _ 1 (by omega)]; exact hc 1 _ rfl, by rw [← add_field _ _ 2 (by omega)]; exact hc 2 _ rfl, by rw [← add_field _ _ 3 (by omega)]; exact hc 3 _ rfl⟩
end Go.Proofs.YtlhnpbdpojcbeaaDoor.PPackAll
end
section
open Go Go.RowKit
namespace Go.Proofs.YtlhnpbdpojcbeaaDoor
open Go.Proofs.YtlhnpbdpojcbeaaDoorW.PrintWords
open PPackAll Go.Shelf
def PredFn {α : Type} (d : Kd α) (W0 : World) (fv : Value) (dom : α → Prop) (f : α → Bool) : Prop :=
  ∃ g first caps, fv = .func (.func g) first caps ∧ (∀ args w, (callFunc g args).run Tryd.prog w = .ok (.enter g args) w) ∧
    ∀ W x cs, Below W0.heap.size W0 W → dom x → d.K W x cs →
      Calls Tryd.prog g (first ++ #[.agg cs.toArray] ++ caps) W fun e W' => e = .returned (.bool (f x)) ∧ Below W.heap.size W W'
theorem PredFn.later {α : Type} {d : Kd α} {W0 W1 : World} {fv : Value} {dom : α → Prop} {f : α → Bool} (h : PredFn d W0 fv dom f) (hb : Below W0.heap.size W0 W1) : PredFn d W1 fv dom f := by
  obtain ⟨g, first, caps, e, eg, hc⟩ := h
  exact ⟨g, first, caps, e, eg, fun W x cs hW hx hK => hc W x cs (hb.trans (hW.mono hb.size)) hx hK⟩
def IdxPost {α : Type} (f : α → Bool) (xs : List α) (w : World) (e : Ending) (w' : World) : Prop :=
  (∃ r : Int, e = .returned (.int .i64 r) ∧ (0 ≤ r ∧ xs.any f = true ∨ r = -1 ∧ xs.any f = false)) ∧ Below w.heap.size w w'
theorem any_at {α : Type} {xs : List α} {k : Nat} (f : α → Bool) (z : α) (hk : k < xs.length) (h : f (xs.getD k z) = true) : xs.any f = true := by
  rw [List.any_eq_true]
  exact ⟨xs[k], List.getElem_mem hk, by simpa [List.getD_eq_getElem?_getD, hk] using h⟩
theorem any_not {α : Type} {xs : List α} (f : α → Bool) (z : α) (h : ∀ j, j < xs.length → f (xs.getD j z) = false) : xs.any f = false := by
  rw [List.any_eq_false]
  intro x hx
  obtain ⟨j, hj, rfl⟩ := List.mem_iff_getElem.1 hx
  have := h j hj
  simpa [List.getD_eq_getElem?_getD, hj] using this
theorem all_of_any {α : Type} (xs : List α) (f : α → Bool) : (!xs.any fun x => !f x) = xs.all f := by
  rw [List.not_any_eq_all_not]
  simp
set_option maxHeartbeats 1000000 in
theorem idx68_calls (A : Option Addr) (c : Nat) (xs : List S68) (fv : Value) (dom : S68 → Prop) (f : S68 → Bool) (w : World)
    (hr : k68.C w A xs.length xs) (hd : ∀ x ∈ xs, dom x) (hf : PredFn k68 w fv dom f) :
    Calls Tryd.prog 92 #[.slice A xs.length c, fv] w (IdxPost f xs w) := by
  obtain ⟨g, first, caps, rfl, eg, hcall⟩ := hf
  have hlen : xs.length ≤ 9223372036854775807 := hr.2.1
  have HR := Lib.hid hr
  have HC := Lib.hid hcall
  have HD := Lib.hid hd
  clear hr hcall hd
  go_enter Tryd.func92, Tryd.ntmps92
  go_wp2
  go_loopw [8] (fun i W => ∃ k : Nat, i = .int .i64 k ∧ k ≤ xs.length ∧ (∀ j, j < k → f (xs.getD j z68) = false) ∧ Below w.heap.size w W)
    (fun i _ => xs.length - (intOf i).toNat)
  case atStart => exact ⟨0, rfl, Nat.zero_le _, fun j hj => absurd hj (by omega), Below.refl _ _⟩
  case round =>
    obtain ⟨k, rfl, hk, hno, hb⟩ := hrel
    have HN := Lib.hid hno
    have HB := Lib.hid hb
    clear hno hb
    by_cases hlt : k < xs.length
    · obtain ⟨ad, e, c0, c1, c2⟩ := at_T68 (Kd.C_below HR.out HB.out) (k : Int) (by omega) (by omega)
      rw [Int.toNat_natCast] at c0 c1 c2
      subst e
      go_wp2
      refine (HC.out wr (rd_T68 xs k) _ HB.out (HD.out _ ?_) (k68_mk wr _)).mono ?_
      · simp only [rd_T68, Int.toNat_natCast, List.getD_eq_getElem?_getD, List.getElem?_eq_getElem hlt, Option.getD_some]; exact List.getElem_mem hlt
      rintro e w' ⟨rfl, hb'⟩
      have hb2 := Below.trans HB.out (hb'.mono HB.out.size)
      have HB2 := Lib.hid hb2
      clear hb' hb2
      cases hfx : f (rd_T68 xs ↑k) with
      | true =>
        have HF := Lib.hid hfx
        clear hfx
        go_wp2
        go_ret
        refine ⟨⟨k, rfl, .inl ⟨by omega, any_at f z68 hlt ?_⟩⟩, HB2.out⟩
        have := HF.out
        simpa [rd_T68] using this
      | false =>
        have HF := Lib.hid hfx
        clear hfx
        go_wp2
        go_roundw
        case rel =>
          refine ⟨k + 1, by go_num, by omega, fun j hj => ?_, HB2.out⟩
          rcases Nat.lt_or_ge j k with h | h
          · exact HN.out j h
          · obtain rfl : j = k := by omega
            have := HF.out
            simpa [rd_T68] using this
        case measure => simp [intOf]; omega
    · go_wp2
      go_ret
      obtain rfl : k = xs.length := by omega
      exact ⟨⟨-1, rfl, .inr ⟨rfl, any_not f z68 HN.out⟩⟩, HB.out⟩
theorem has68_calls (A : Option Addr) (c : Nat) (xs : List S68) (fv : Value) (dom : S68 → Prop) (f : S68 → Bool) (w : World)
    (hr : k68.C w A xs.length xs) (hd : ∀ x ∈ xs, dom x) (hf : PredFn k68 w fv dom f) :
    Calls Tryd.prog 76 #[.slice A xs.length c, fv] w fun e w' => e = .returned (.bool (xs.any f)) ∧ Below w.heap.size w w' := by
  have hi := Lib.hid (idx68_calls A c xs fv dom f w hr hd hf)
  clear hr hd hf
  go_enter Tryd.func76, Tryd.ntmps76
  go_wp2_with fail
  refine hi.out.mono ?_
  clear hi
  rintro e w' ⟨⟨r, rfl, h | h⟩, hb⟩
  · obtain ⟨h0, h1⟩ := h
    have HB := Lib.hid hb
    have H1 := Lib.hid h1
    clear hb h1
    go_wp2
    go_ret
    exact ⟨by rw [H1.out]; rfl, HB.out⟩
  · obtain ⟨rfl, h1⟩ := h
    have HB := Lib.hid hb
    have H1 := Lib.hid h1
    clear hb h1
    go_wp2
    go_ret
    exact ⟨by rw [H1.out]; rfl, HB.out⟩
set_option maxHeartbeats 1000000 in
theorem idx60_calls (A : Option Addr) (c : Nat) (xs : List S60) (fv : Value) (dom : S60 → Prop) (f : S60 → Bool) (w : World)
    (hr : k60.C w A xs.length xs) (hd : ∀ x ∈ xs, dom x) (hf : PredFn k60 w fv dom f) :
    Calls Tryd.prog 96 #[.slice A xs.length c, fv] w (IdxPost f xs w) := by
  obtain ⟨g, first, caps, rfl, eg, hcall⟩ := hf
  have hlen : xs.length ≤ 9223372036854775807 := hr.2.1
  have HR := Lib.hid hr
  have HC := Lib.hid hcall
  have HD := Lib.hid hd
  clear hr hcall hd
  go_enter Tryd.func96, Tryd.ntmps96
  go_wp2
  go_loopw [8] (fun i W => ∃ k : Nat, i = .int .i64 k ∧ k ≤ xs.length ∧ (∀ j, j < k → f (xs.getD j z60) = false) ∧ Below w.heap.size w W)
    (fun i _ => xs.length - (intOf i).toNat)
  case atStart => exact ⟨0, rfl, Nat.zero_le _, fun j hj => absurd hj (by omega), Below.refl _ _⟩
  case round =>
    obtain ⟨k, rfl, hk, hno, hb⟩ := hrel
    have HN := Lib.hid hno
    have HB := Lib.hid hb
    clear hno hb
    by_cases hlt : k < xs.length
    · obtain ⟨ad, A0, e0, A1, e1, e, c0, c1, l0, g0, l1, g1⟩ := at_T60 (Kd.C_below HR.out HB.out) (k : Int) (by omega) (by omega)
      rw [Int.toNat_natCast] at c0 c1
      subst e
      have L0 := Lib.hid l0
      have L1 := Lib.hid l1
      have G0 := Lib.hid g0
      have G1 := Lib.hid g1
      clear l0 l1 g0 g1
      go_wp2
      refine (HC.out wr (rd_T60 xs k) _ HB.out (HD.out _ ?_) (k60_mk wr _ L0.out G0.out L1.out G1.out)).mono ?_
      · simp only [rd_T60, Int.toNat_natCast, List.getD_eq_getElem?_getD, List.getElem?_eq_getElem hlt, Option.getD_some]; exact List.getElem_mem hlt
      rintro e w' ⟨rfl, hb'⟩
      have hb2 := Below.trans HB.out (hb'.mono HB.out.size)
      have HB2 := Lib.hid hb2
      clear hb' hb2
      cases hfx : f (rd_T60 xs ↑k) with
      | true =>
        have HF := Lib.hid hfx
        clear hfx
        go_wp2
        go_ret
        refine ⟨⟨k, rfl, .inl ⟨by omega, any_at f z60 hlt ?_⟩⟩, HB2.out⟩
        have := HF.out
        simpa [rd_T60] using this
      | false =>
        have HF := Lib.hid hfx
        clear hfx
        go_wp2
        go_roundw
        case rel =>
          refine ⟨k + 1, by go_num, by omega, fun j hj => ?_, HB2.out⟩
          rcases Nat.lt_or_ge j k with h | h
          · exact HN.out j h
          · obtain rfl : j = k := by omega
            have := HF.out
            simpa [rd_T60] using this
        case measure => simp [intOf]; omega
    · go_wp2
      go_ret
      obtain rfl : k = xs.length := by omega
      exact ⟨⟨-1, rfl, .inr ⟨rfl, any_not f z60 HN.out⟩⟩, HB.out⟩
theorem has60_calls (A : Option Addr) (c : Nat) (xs : List S60) (fv : Value) (dom : S60 → Prop) (f : S60 → Bool) (w : World)
    (hr : k60.C w A xs.length xs) (hd : ∀ x ∈ xs, dom x) (hf : PredFn k60 w fv dom f) :
    Calls Tryd.prog 88 #[.slice A xs.length c, fv] w fun e w' => e = .returned (.bool (xs.any f)) ∧ Below w.heap.size w w' := by
  have hi := Lib.hid (idx60_calls A c xs fv dom f w hr hd hf)
  clear hr hd hf
  go_enter Tryd.func88, Tryd.ntmps88
  go_wp2_with fail
  refine hi.out.mono ?_
  clear hi
  rintro e w' ⟨⟨r, rfl, h | h⟩, hb⟩
  · obtain ⟨h0, h1⟩ := h
    have HB := Lib.hid hb
    have H1 := Lib.hid h1
    clear hb h1
    go_wp2
    go_ret
    exact ⟨by rw [H1.out]; rfl, HB.out⟩
  · obtain ⟨rfl, h1⟩ := h
    have HB := Lib.hid hb
    have H1 := Lib.hid h1
    clear hb h1
    go_wp2
    go_ret
    exact ⟨by rw [H1.out]; rfl, HB.out⟩
set_option maxHeartbeats 1000000 in
theorem idx49_calls (A : Option Addr) (c : Nat) (xs : List S49) (fv : Value) (dom : S49 → Prop) (f : S49 → Bool) (w : World)
    (hr : k49.C w A xs.length xs) (hd : ∀ x ∈ xs, dom x) (hf : PredFn k49 w fv dom f) :
    Calls Tryd.prog 57 #[.slice A xs.length c, fv] w (IdxPost f xs w) := by
  obtain ⟨g, first, caps, rfl, eg, hcall⟩ := hf
  have hlen : xs.length ≤ 9223372036854775807 := hr.2.1
  have HR := Lib.hid hr
  have HC := Lib.hid hcall
  have HD := Lib.hid hd
  clear hr hcall hd
  go_enter Tryd.func57, Tryd.ntmps57
  go_wp2
  go_loopw [8] (fun i W => ∃ k : Nat, i = .int .i64 k ∧ k ≤ xs.length ∧ (∀ j, j < k → f (xs.getD j z49) = false) ∧ Below w.heap.size w W)
    (fun i _ => xs.length - (intOf i).toNat)
  case atStart => exact ⟨0, rfl, Nat.zero_le _, fun j hj => absurd hj (by omega), Below.refl _ _⟩
  case round =>
    obtain ⟨k, rfl, hk, hno, hb⟩ := hrel
    have HN := Lib.hid hno
    have HB := Lib.hid hb
    clear hno hb
    by_cases hlt : k < xs.length
    · obtain ⟨ad, e, c0, c1, c2, c3⟩ := at_T49 (Kd.C_below HR.out HB.out) (k : Int) (by omega) (by omega)
      rw [Int.toNat_natCast] at c0 c1 c2 c3
      subst e
      go_wp2
      refine (HC.out wr (rd_T49 xs k) _ HB.out (HD.out _ ?_) (k49_mk wr _)).mono ?_
      · simp only [rd_T49, Int.toNat_natCast, List.getD_eq_getElem?_getD, List.getElem?_eq_getElem hlt, Option.getD_some]; exact List.getElem_mem hlt
      rintro e w' ⟨rfl, hb'⟩
      have hb2 := Below.trans HB.out (hb'.mono HB.out.size)
      have HB2 := Lib.hid hb2
      clear hb' hb2
      cases hfx : f (rd_T49 xs ↑k) with
      | true =>
        have HF := Lib.hid hfx
        clear hfx
        go_wp2
        go_ret
        refine ⟨⟨k, rfl, .inl ⟨by omega, any_at f z49 hlt ?_⟩⟩, HB2.out⟩
        have := HF.out
        simpa [rd_T49] using this
      | false =>
        have HF := Lib.hid hfx
        clear hfx
        go_wp2
        go_roundw
        case rel =>
          refine ⟨k + 1, by go_num, by omega, fun j hj => ?_, HB2.out⟩
          rcases Nat.lt_or_ge j k with h | h
          · exact HN.out j h
          · obtain rfl : j = k := by omega
            have := HF.out
            simpa [rd_T49] using this
        case measure => simp [intOf]; omega
    · go_wp2
      go_ret
      obtain rfl : k = xs.length := by omega
      exact ⟨⟨-1, rfl, .inr ⟨rfl, any_not f z49 HN.out⟩⟩, HB.out⟩
theorem has49_calls (A : Option Addr) (c : Nat) (xs : List S49) (fv : Value) (dom : S49 → Prop) (f : S49 → Bool) (w : World)
    (hr : k49.C w A xs.length xs) (hd : ∀ x ∈ xs, dom x) (hf : PredFn k49 w fv dom f) :
    Calls Tryd.prog 18 #[.slice A xs.length c, fv] w fun e w' => e = .returned (.bool (xs.any f)) ∧ Below w.heap.size w w' := by
  have hi := Lib.hid (idx49_calls A c xs fv dom f w hr hd hf)
  clear hr hd hf
  go_enter Tryd.func18, Tryd.ntmps18
  go_wp2_with fail
  refine hi.out.mono ?_
  clear hi
  rintro e w' ⟨⟨r, rfl, h | h⟩, hb⟩
  · obtain ⟨h0, h1⟩ := h
    have HB := Lib.hid hb
    have H1 := Lib.hid h1
    clear hb h1
    go_wp2
    go_ret
    exact ⟨by rw [H1.out]; rfl, HB.out⟩
  · obtain ⟨rfl, h1⟩ := h
    have HB := Lib.hid hb
    have H1 := Lib.hid h1
    clear hb h1
    go_wp2
    go_ret
    exact ⟨by rw [H1.out]; rfl, HB.out⟩
theorem every68_fn (w : World) (fv : Value) (dom : S68 → Prop) (f : S68 → Bool) (hf : PredFn k68 w fv dom f) :
    PredFn k68 (w.alloc (.cells #[fv] 92)) (.func (.func 77) #[] #[.pointer (some ⟨w.heap.size, 0, none⟩)]) dom (fun x => !f x) := by
  refine ⟨77, _, _, rfl, enters_of Tryd.func77 (by kernel_rfl) rfl, fun W x cs hW hx hK => ?_⟩
  obtain ⟨g, first, caps, rfl, eg, hcall⟩ := hf
  have hc : W.cell? ⟨w.heap.size, 0, none⟩ = some (.func (.func g) first caps) := by
    rw [hW.cell (p := ⟨w.heap.size, 0, none⟩) (by simp)]
    simp
  have hb0 : Below w.heap.size w W := ((Below.refl w.heap.size w).alloc (Nat.le_refl _) _).trans (hW.mono (by simp))
  have hlt : w.heap.size < W.heap.size := by have := hW.size; simp at this; omega
  obtain rfl := k68_open hK
  have HB := Lib.hid hb0
  have HC := Lib.hid hcall
  have HX := Lib.hid hx
  clear hb0 hcall hx hW
  show Calls Tryd.prog 77 #[.agg #[.int .i64 x.f0, .int .i64 x.f1, .int .i64 x.f2], .pointer (some ⟨w.heap.size, 0, none⟩)] W _
  go_enter Tryd.func77, Tryd.ntmps77
  go_wp2
  refine (HC.out _ x _ (HB.out.trans (((Below.refl _ _).alloc (Nat.le_refl _) _).mono HB.out.size)) HX.out (k68_mk _ x)).mono ?_
  rintro e w' ⟨rfl, hb'⟩
  have hb2 : Below W.heap.size W w' := ((Below.refl _ _).alloc (Nat.le_refl _) _).trans (hb'.mono (by simp))
  have HB2 := Lib.hid hb2
  clear hb' hb2
  go_wp2
  go_ret
  exact ⟨rfl, HB2.out⟩
theorem every68_calls (A : Option Addr) (c : Nat) (xs : List S68) (fv : Value) (dom : S68 → Prop) (f : S68 → Bool) (w : World)
    (hr : k68.C w A xs.length xs) (hd : ∀ x ∈ xs, dom x) (hf : PredFn k68 w fv dom f) :
    Calls Tryd.prog 40 #[.slice A xs.length c, fv] w fun e w' => e = .returned (.bool (xs.all f)) ∧ Below w.heap.size w w' := by
  have hi := Lib.hid (has68_calls A c xs _ dom _ _ (Kd.C_below hr ((Below.refl w.heap.size w).alloc (Nat.le_refl _) _)) hd (every68_fn w fv dom f hf))
  obtain ⟨g, first, caps, rfl, -, -⟩ := hf
  clear hr hd
  go_enter Tryd.func40, Tryd.ntmps40
  go_wp2_with fail
  refine hi.out.mono ?_
  clear hi
  rintro e w' ⟨rfl, hb⟩
  have hb2 : Below w.heap.size w w' := ((Below.refl _ _).alloc (Nat.le_refl _) _).trans (hb.mono (by simp))
  have HB2 := Lib.hid hb2
  clear hb hb2
  go_wp2
  go_ret
  refine ⟨?_, HB2.out⟩
  rw [← all_of_any]
  rfl
theorem every60_fn (w : World) (fv : Value) (dom : S60 → Prop) (f : S60 → Bool) (hf : PredFn k60 w fv dom f) :
    PredFn k60 (w.alloc (.cells #[fv] 116)) (.func (.func 89) #[] #[.pointer (some ⟨w.heap.size, 0, none⟩)]) dom (fun x => !f x) := by
  refine ⟨89, _, _, rfl, enters_of Tryd.func89 (by kernel_rfl) rfl, fun W x cs hW hx hK => ?_⟩
  obtain ⟨g, first, caps, rfl, eg, hcall⟩ := hf
  have hc : W.cell? ⟨w.heap.size, 0, none⟩ = some (.func (.func g) first caps) := by
    rw [hW.cell (p := ⟨w.heap.size, 0, none⟩) (by simp)]
    simp
  have hb0 : Below w.heap.size w W := ((Below.refl w.heap.size w).alloc (Nat.le_refl _) _).trans (hW.mono (by simp))
  have hlt : w.heap.size < W.heap.size := by have := hW.size; simp at this; omega
  obtain ⟨A0, e0, A1, e1, rfl, l0, g0, l1, g1⟩ := k60_open hK
  have HB := Lib.hid hb0
  have HC := Lib.hid hcall
  have HX := Lib.hid hx
  have L0 := Lib.hid l0
  have L1 := Lib.hid l1
  have G0 := Lib.hid g0
  have G1 := Lib.hid g1
  clear l0 l1 g0 g1
  clear hb0 hcall hx hW
  show Calls Tryd.prog 89 #[.agg #[.slice A0 x.f0.length e0, .slice A1 x.f1.length e1], .pointer (some ⟨w.heap.size, 0, none⟩)] W _
  go_enter Tryd.func89, Tryd.ntmps89
  go_wp2
  refine (HC.out _ x _ (HB.out.trans (((Below.refl _ _).alloc (Nat.le_refl _) _).mono HB.out.size)) HX.out (k60_mk _ x L0.out (Kd.C_below G0.out ((Below.refl _ _).alloc (Nat.le_refl _) _)) L1.out (Kd.C_below G1.out ((Below.refl _ _).alloc (Nat.le_refl _) _)))).mono ?_
  rintro e w' ⟨rfl, hb'⟩
  have hb2 : Below W.heap.size W w' := ((Below.refl _ _).alloc (Nat.le_refl _) _).trans (hb'.mono (by simp))
  have HB2 := Lib.hid hb2
  clear hb' hb2
  go_wp2
  go_ret
  exact ⟨rfl, HB2.out⟩
theorem every60_calls (A : Option Addr) (c : Nat) (xs : List S60) (fv : Value) (dom : S60 → Prop) (f : S60 → Bool) (w : World)
    (hr : k60.C w A xs.length xs) (hd : ∀ x ∈ xs, dom x) (hf : PredFn k60 w fv dom f) :
    Calls Tryd.prog 73 #[.slice A xs.length c, fv] w fun e w' => e = .returned (.bool (xs.all f)) ∧ Below w.heap.size w w' := by
  have hi := Lib.hid (has60_calls A c xs _ dom _ _ (Kd.C_below hr ((Below.refl w.heap.size w).alloc (Nat.le_refl _) _)) hd (every60_fn w fv dom f hf))
  obtain ⟨g, first, caps, rfl, -, -⟩ := hf
  clear hr hd
  go_enter Tryd.func73, Tryd.ntmps73
  go_wp2_with fail
  refine hi.out.mono ?_
  clear hi
  rintro e w' ⟨rfl, hb⟩
  have hb2 : Below w.heap.size w w' := ((Below.refl _ _).alloc (Nat.le_refl _) _).trans (hb.mono (by simp))
  have HB2 := Lib.hid hb2
  clear hb hb2
  go_wp2
  go_ret
  refine ⟨?_, HB2.out⟩
  rw [← all_of_any]
  rfl
end Go.Proofs.YtlhnpbdpojcbeaaDoor
end
section
open Go Go.RowKit
namespace Go.Proofs.YtlhnpbdpojcbeaaDoor
open Go.Proofs.YtlhnpbdpojcbeaaDoorW.PrintWords
open PPackAll Go.Shelf
set_option linter.unusedVariables false
set_option linter.unusedSimpArgs false
def OkRange (x : List (List S60)) (r : S68) : Prop :=
  0 ≤ r.f0 ∧ r.f0 < x.length ∧ 0 ≤ r.f1 ∧ r.f1 ≤ r.f2 ∧ r.f2 < (x.getD r.f0.toNat []).length
def OkRel (x : List (List S60)) (i : Nat) (r : S60) : Prop :=
  r.f0.length ≤ 4 ∧ r.f1.length ≤ 4 ∧ (∀ n ∈ r.f0, OkRange x n ∧ n.f0 ≠ i) ∧ (∀ n ∈ r.f1, OkRange x n ∧ n.f0 ≠ i)
def OkIdx (x : List (List S60)) : Prop :=
  1 ≤ x.length ∧ x.length ≤ 8 ∧ ∀ i, i < x.length → (x.getD i []).length ≤ 5 ∧ ∀ r ∈ x.getD i [], OkRel x i r
def OkGoals (x : List (List S60)) (gs : List S68) : Prop := gs.length ≤ 4 ∧ ∀ g ∈ gs, OkRange x g
def withinF (n lo hi : Int) : Bool := decide (lo ≤ n ∧ n ≤ hi)
theorem within_calls (n lo hi : Int) (w : World) :
    Calls Tryd.prog 42 #[.int .i64 n, .int .i64 lo, .int .i64 hi] w fun e w' => e = .returned (.bool (withinF n lo hi)) ∧ w' = w := by
  unfold withinF
  by_cases h : lo ≤ n
  · go_enter Tryd.func42, Tryd.ntmps42
    go_wp2
    go_ret
    exact ⟨by simp [h], rfl⟩
  · go_enter Tryd.func42, Tryd.ntmps42
    go_wp2
    go_ret
    exact ⟨by simp; omega, rfl⟩
theorem within_true (n lo hi : Int) (w : World) (h1 : lo ≤ n) (h2 : n ≤ hi) :
    Calls Tryd.prog 42 #[.int .i64 n, .int .i64 lo, .int .i64 hi] w fun e w' => e = .returned (.bool true) ∧ w' = w := by
  have h := within_calls n lo hi w
  have e : withinF n lo hi = true := by simp [withinF, h1, h2]
  rwa [e] at h
set_option maxHeartbeats 1000000 in
theorem ranged_calls (A : Option Addr) (c : Nat) (x : List (List S60)) (B : Option Addr) (n d : Nat) (r : S68) (w : World)
    (hx : Kd.C (Kd.slice 60 k60) w A x.length x) (h8 : x.length ≤ 8) (h5 : (x.getD r.f0.toNat []).length ≤ 5) (hr : OkRange x r) :
    Calls Tryd.prog 63 #[.agg #[.slice A x.length c, .slice B n d], .agg #[.int .i64 r.f0, .int .i64 r.f1, .int .i64 r.f2]] w fun e w' => e = .returned (.bool true) ∧ Below w.heap.size w w' := by
  obtain ⟨h1, h2, h3, h4, h6⟩ := hr
  obtain ⟨ad, A0, c0, e, hc, hl, hi⟩ := at_L4 hx r.f0 h1 h2
  subst e
  have hlt := World.block_lt_of_cell? w _ hc
  have hL : ((rd_L4 x r.f0).length : Int) ≤ 5 := by unfold rd_L4; omega
  have h7 : r.f2 < ((rd_L4 x r.f0).length : Int) := by unfold rd_L4; omega
  generalize (rd_L4 x r.f0).length = L at hc hl hi hL h7
  have e1 : IntKind.i64.wrap ((x.length : Int) - 1) = (x.length : Int) - 1 := IntWalk.i64_in _ (by omega)
  have e2 : IntKind.i64.wrap ((L : Int) - 1) = (L : Int) - 1 := IntWalk.i64_in _ (by omega)
  clear hi hl hx h6 h5
  have h3' : decide (0 ≤ r.f1) = true := by simpa using h3
  go_enter Tryd.func63, Tryd.ntmps63
  go_wp2
  go_quiet ((go_at_call 42; exact Calls.quiet_of_same (within_true _ _ _ _ (by omega) (by omega))))
  go_wp2
  go_ret
  exact ⟨rfl, by (repeat (first | exact Below.refl _ _ | refine pw_below_drewN ?_ _ | refine below_drew ?_ | refine Below.alloc ?_ (by first | omega | (simp; done) | (simp; omega)) _ | refine Below.setCell ?_ (by first | omega | (simp; done) | (simp; omega)) _))⟩
def MkC (w : World) (x : List (List S60)) (gs : List S68) (A : Option Addr) (c : Nat) (B : Option Addr) (d : Nat) : Prop :=
  Kd.C (Kd.slice 60 k60) w A x.length x ∧ k68.C w B gs.length gs
theorem MkC.later {w w1 : World} {x : List (List S60)} {gs : List S68} {A : Option Addr} {c : Nat} {B : Option Addr} {d : Nat} (h : MkC w x gs A c B d) (hb : Below w.heap.size w w1) : MkC w1 x gs A c B d :=
  ⟨Kd.C_below h.1 hb, Kd.C_below h.2 hb⟩
set_option maxHeartbeats 1000000 in
theorem formed1_fn (A : Option Addr) (c : Nat) (x : List (List S60)) (B : Option Addr) (n d : Nat) (w : World) (bm bi i : Nat)
    (hx : Kd.C (Kd.slice 60 k60) w A x.length x) (hok : OkIdx x) (hi : i < x.length)
    (c0 : w.cell? ⟨bm, 0, none⟩ = some (.slice A x.length c)) (c1 : w.cell? ⟨bm, 1, none⟩ = some (.slice B n d)) (c2 : w.cell? ⟨bi, 0, none⟩ = some (.int .i64 i)) :
    PredFn k68 w (.func (.func 71) #[] #[.pointer (some ⟨bm, 0, none⟩), .pointer (some ⟨bi, 0, none⟩)]) (fun r => OkRange x r ∧ r.f0 ≠ i) (fun _ => true) := by
  refine ⟨71, _, _, rfl, enters_of Tryd.func71 (by kernel_rfl) rfl, fun W r cs hW hd hK => ?_⟩
  obtain rfl := k68_open hK
  have d0 := pw_cell_below hW c0
  have d1 := pw_cell_below hW c1
  have d2 := pw_cell_below hW c2
  have l0 := World.block_lt_of_cell? W _ d0
  have l2 := World.block_lt_of_cell? W _ d2
  have hx' := Kd.C_below hx hW
  obtain ⟨hr, hne⟩ := hd
  have h5 := (hok.2.2 r.f0.toNat (by have := hr.1; have := hr.2.1; omega)).1
  have h8 := hok.2.1
  have hq := fun (o : Obj) => ranged_calls A c x B n d r (W.alloc o) (Kd.C_below hx' ((Below.refl _ _).alloc (Nat.le_refl _) _)) h8 h5 hr
  have hne' : (r.f0 != (i : Int)) = true := by simpa using hne
  have Hhq := Lib.hid hq
  clear hq
  clear hx hx' hr hok h5 h8 hK c0 c1 c2 hne hW
  show Calls Tryd.prog 71 #[.agg #[.int .i64 r.f0, .int .i64 r.f1, .int .i64 r.f2], .pointer (some ⟨bm, 0, none⟩), .pointer (some ⟨bi, 0, none⟩)] W _
  go_enter Tryd.func71, Tryd.ntmps71
  go_wp2_with fail
  refine (Hhq.out _).mono ?_
  rintro e w' ⟨rfl, hb⟩
  have hb2 : Below W.heap.size W w' := ((Below.refl _ _).alloc (Nat.le_refl _) _).trans (hb.mono (by simp))
  have d2' := pw_cell_below hb2 d2
  have d3 := hb.cell (p := ⟨W.heap.size, 0, none⟩) (by simp)
  simp at d3
  have Hhb2 := Lib.hid hb2
  clear hb2
  clear hb
  go_wp2
  go_ret
  exact ⟨rfl, Hhb2.out⟩
set_option maxHeartbeats 1000000 in
theorem formed2_fn (w : World) (bo : Nat) (fv : Value) (x : List (List S60)) (i : Nat)
    (hf : PredFn k68 w fv (fun r => OkRange x r ∧ r.f0 ≠ i) (fun _ => true)) (c0 : w.cell? ⟨bo, 0, none⟩ = some fv) :
    PredFn k60 w (.func (.func 72) #[] #[.pointer (some ⟨bo, 0, none⟩)]) (OkRel x i) (fun _ => true) := by
  refine ⟨72, _, _, rfl, enters_of Tryd.func72 (by kernel_rfl) rfl, fun W r cs hW hd hK => ?_⟩
  obtain ⟨A0, e0, A1, e1, rfl, l0, g0, l1, g1⟩ := k60_open hK
  have d0 := pw_cell_below hW c0
  have lt0 := World.block_lt_of_cell? W _ d0
  have n0 := hd.1
  have n1 := hd.2.1
  have hq := fun (W1 : World) (hb : Below W.heap.size W W1) => every68_calls A0 e0 r.f0 fv _ _ W1 (Kd.C_below g0 hb) hd.2.2.1 (hf.later (hW.trans (hb.mono hW.size)))
  have hq2 := fun (W1 : World) (hb : Below W.heap.size W W1) => every68_calls A1 e1 r.f1 fv _ _ W1 (Kd.C_below g1 hb) hd.2.2.2 (hf.later (hW.trans (hb.mono hW.size)))
  have ha : ∀ l : List S68, (l.all fun _ => true) = true := fun l => by simp
  rw [ha] at hq hq2
  obtain ⟨g, first, caps, rfl, -, -⟩ := hf
  have Hhq := Lib.hid hq
  have Hhq2 := Lib.hid hq2
  clear hq hq2
  clear hd hW hK c0 g0 g1 l0 l1 ha
  show Calls Tryd.prog 72 #[.agg #[.slice A0 r.f0.length e0, .slice A1 r.f1.length e1], .pointer (some ⟨bo, 0, none⟩)] W _
  go_enter Tryd.func72, Tryd.ntmps72
  go_wp2_with fail
  refine (Hhq.out _ ?_).mono ?_
  · exact ((Below.refl _ _).alloc (Nat.le_refl _) _)
  rintro e w' ⟨rfl, hb⟩
  have hb2 : Below W.heap.size W w' := ((Below.refl _ _).alloc (Nat.le_refl _) _).trans (hb.mono (by simp))
  have d2' := pw_cell_below hb2 d0
  have d3 := hb.cell (p := ⟨W.heap.size, 1, none⟩) (by simp)
  simp at d3
  have Hhb2 := Lib.hid hb2
  clear hb2
  clear hb
  go_wp2_with fail
  refine (Hhq2.out _ Hhb2.out).mono ?_
  rintro e w2 ⟨rfl, hb⟩
  have hb3 : Below W.heap.size W w2 := Hhb2.out.trans (hb.mono Hhb2.out.size)
  have Hhb3 := Lib.hid hb3
  clear hb3
  clear hb
  go_wp2
  go_ret
  exact ⟨rfl, Hhb3.out⟩
set_option maxHeartbeats 2000000 in
theorem formed_calls (A : Option Addr) (c : Nat) (x : List (List S60)) (B : Option Addr) (n d : Nat) (w : World)
    (hx : Kd.C (Kd.slice 60 k60) w A x.length x) (hok : OkIdx x) :
    Calls Tryd.prog 38 #[.agg #[.slice A x.length c, .slice B n d]] w fun e w' => e = .returned (.bool true) ∧ Below w.heap.size w w' := by
  have h1 := hok.1
  have h8 := hok.2.1
  have hw1 := fun W => within_true (x.length : Int) 1 8 W (by omega) (by omega)
  have Hhw1 := Lib.hid hw1
  have Hhx := Lib.hid hx
  have Hhok := Lib.hid hok
  clear hw1 hx hok
  go_enter Tryd.func38, Tryd.ntmps38
  go_wp2_with (go_at_call 42; refine (Hhw1.out _).mono ?_; rintro e w' ⟨rfl, rfl⟩)
  go_loopw [17] (fun i W => ∃ k : Nat, i = .int .i64 k ∧ k ≤ x.length ∧ Below w.heap.size w W ∧ W.cell? ⟨w.heap.size, 0, none⟩ = some (.slice A x.length c) ∧ W.cell? ⟨w.heap.size, 1, none⟩ = some (.slice B n d))
    (fun i _ => x.length - (intOf i).toNat)
  case atStart => exact ⟨0, rfl, Nat.zero_le _, by (repeat (first | exact Below.refl _ _ | refine pw_below_drewN ?_ _ | refine below_drew ?_ | refine Below.alloc ?_ (by first | omega | (simp; done) | (simp; omega)) _ | refine Below.setCell ?_ (by first | omega | (simp; done) | (simp; omega)) _)), by simp, by simp⟩
  case round =>
    obtain ⟨k, rfl, hk, hb, m0, m1⟩ := hrel
    have hwr := World.block_lt_of_cell? wr _ m0
    have Hhb := Lib.hid hb
    clear hb
    by_cases hlt : k < x.length
    · obtain ⟨ad, A0, e0, e, hc, hl, hi⟩ := at_L4 (Kd.C_below Hhx.out Hhb.out) (k : Int) (by omega) (by omega)
      rw [Int.toNat_natCast] at hc
      subst e
      have hclt := World.block_lt_of_cell? wr _ hc
      have hok2 := Hhok.out.2.2 k hlt
      have hn5 : ((rd_L4 x k).length : Int) ≤ 5 := by unfold rd_L4; rw [Int.toNat_natCast]; omega
      have hd : ∀ r ∈ rd_L4 x k, OkRel x k r := by unfold rd_L4; rw [Int.toNat_natCast]; exact hok2.2
      have hq : ∀ W2 : World, Below wr.heap.size wr W2 → W2.cell? ⟨wr.heap.size, 0, none⟩ = some (.int .i64 k) →
          W2.cell? ⟨wr.heap.size + 1, 0, none⟩ = some (.func (.func 71) #[] #[.pointer (some ⟨w.heap.size, 0, none⟩), .pointer (some ⟨wr.heap.size, 0, none⟩)]) →
          Calls Tryd.prog 73 #[.slice A0 (rd_L4 x k).length e0, .func (.func 72) #[] #[.pointer (some ⟨wr.heap.size + 1, 0, none⟩)]] W2 fun e w' => e = .returned (.bool true) ∧ Below W2.heap.size W2 w' := by
        intro W2 hb2 q0 q1
        have := every60_calls A0 e0 (rd_L4 x k) (.func (.func 72) #[] #[.pointer (some ⟨wr.heap.size + 1, 0, none⟩)]) _ (fun _ => true) W2 (Kd.C_below hi hb2) hd
          (formed2_fn W2 (wr.heap.size + 1) _ x k (formed1_fn (some ad) c x B n d W2 w.heap.size wr.heap.size k (Kd.C_below Hhx.out (Hhb.out.trans (hb2.mono Hhb.out.size))) Hhok.out hlt (pw_cell_below hb2 m0) (pw_cell_below hb2 m1) q0) q1)
        have ha : ∀ l : List S60, (l.all fun _ => true) = true := fun l => by simp
        rwa [ha] at this
      have Hhq := Lib.hid hq
      clear hq
      clear hi hl hok2 hd
      go_wp2_with fail
      refine (Hhq.out _ ?_ ?_ ?_).mono ?_
      · (repeat (first | exact Below.refl _ _ | refine pw_below_drewN ?_ _ | refine below_drew ?_ | refine Below.alloc ?_ (by first | omega | (simp; done) | (simp; omega)) _ | refine Below.setCell ?_ (by first | omega | (simp; done) | (simp; omega)) _))
      · simp
      · simp
      rintro e w' ⟨rfl, hb'⟩
      have hb2 : Below wr.heap.size wr w' := by
        refine Below.trans ?_ (hb'.mono ?_)
        · (repeat (first | exact Below.refl _ _ | refine pw_below_drewN ?_ _ | refine below_drew ?_ | refine Below.alloc ?_ (by first | omega | (simp; done) | (simp; omega)) _ | refine Below.setCell ?_ (by first | omega | (simp; done) | (simp; omega)) _))
        · simp; try omega
      have m0' := pw_cell_below hb2 m0
      have m1' := pw_cell_below hb2 m1
      have hb3 := Hhb.out.trans (hb2.mono Hhb.out.size)
      have Hhb3 := Lib.hid hb3
      clear hb3
      clear hb' hb2
      go_wp2
      go_roundw
      case rel => exact ⟨k + 1, by go_num, by omega, Hhb3.out, m0', m1'⟩
      case measure => simp [intOf]; omega
    · go_wp2
      go_ret
      exact ⟨rfl, Hhb.out⟩
end Go.Proofs.YtlhnpbdpojcbeaaDoor
end
section
open Go Go.RowKit
namespace Go.Proofs.YtlhnpbdpojcbeaaDoor
open Go.Proofs.YtlhnpbdpojcbeaaDoorW.PrintWords
open PPackAll Go.Shelf
set_option linter.unusedVariables false
set_option linter.unusedSimpArgs false
theorem ranged_fn (A : Option Addr) (c : Nat) (x : List (List S60)) (B : Option Addr) (n d : Nat) (w : World)
    (hx : Kd.C (Kd.slice 60 k60) w A x.length x) (hok : OkIdx x) :
    PredFn k68 w (.func (.func 63) #[.agg #[.slice A x.length c, .slice B n d]] #[]) (OkRange x) (fun _ => true) := by
  refine ⟨63, _, _, rfl, enters_of Tryd.func63 (by kernel_rfl) rfl, fun W r cs hW hd hK => ?_⟩
  obtain rfl := k68_open hK
  exact ranged_calls A c x B n d r W (Kd.C_below hx hW) hok.2.1 (hok.2.2 r.f0.toNat (by have := hd.1; have := hd.2.1; omega)).1 hd
set_option maxHeartbeats 1000000 in
theorem check_calls (A : Option Addr) (c : Nat) (x : List (List S60)) (B : Option Addr) (d : Nat) (gs : List S68) (w : World)
    (hx : Kd.C (Kd.slice 60 k60) w A x.length x) (hok : OkIdx x) (hg : k68.C w B gs.length gs) (hgo : OkGoals x gs) :
    Calls Tryd.prog 31 #[.agg #[.slice A x.length c], .slice B gs.length d] w fun e w' => e = .returned (.int .i64 0) ∧ Below w.heap.size w w' := by
  have h8 := hok.2.1
  have h4 := hgo.1
  have ha : (gs.all fun _ => true) = true := by simp
  have hq := fun (W : World) (hb : Below w.heap.size w W) => formed_calls A c x B gs.length d W (Kd.C_below hx hb) hok
  have hq2 := fun (W : World) (hb : Below w.heap.size w W) => every68_calls B d gs _ _ _ W (Kd.C_below hg hb) hgo.2 (ranged_fn A c x B gs.length d W (Kd.C_below hx hb) hok)
  rw [ha] at hq2
  have Hhq := Lib.hid hq
  have Hhq2 := Lib.hid hq2
  have Hhx := Lib.hid hx
  have Hhok := Lib.hid hok
  have Hhg := Lib.hid hg
  have Hhgo := Lib.hid hgo
  have Hha := Lib.hid ha
  clear hq hq2 hx hok hg hgo ha
  go_enter Tryd.func31, Tryd.ntmps31
  go_wp2_with fail
  refine (Hhq.out _ ?_).mono ?_
  · (repeat (first | exact Below.refl _ _ | refine pw_below_drewN ?_ _ | refine below_drew ?_ | refine Below.alloc ?_ (by first | omega | (simp; done) | (simp; omega)) _ | refine Below.setCell ?_ (by first | omega | (simp; done) | (simp; omega)) _))
  rintro e w' ⟨rfl, hb⟩
  have hb2 : Below w.heap.size w w' := by
    refine Below.trans ?_ (hb.mono ?_)
    · (repeat (first | exact Below.refl _ _ | refine pw_below_drewN ?_ _ | refine below_drew ?_ | refine Below.alloc ?_ (by first | omega | (simp; done) | (simp; omega)) _ | refine Below.setCell ?_ (by first | omega | (simp; done) | (simp; omega)) _))
    · simp; try omega
  have d0 := hb.cell (p := ⟨w.heap.size + 1, 0, none⟩) (by simp)
  have d1 := hb.cell (p := ⟨w.heap.size + 1, 1, none⟩) (by simp)
  simp at d0 d1
  have Hhb2 := Lib.hid hb2
  clear hb2
  clear hb
  go_wp2_with fail
  refine (Hhq2.out _ Hhb2.out).mono ?_
  rintro e w2 ⟨rfl, hb⟩
  have hb3 : Below w.heap.size w w2 := Hhb2.out.trans (hb.mono Hhb2.out.size)
  have Hhb3 := Lib.hid hb3
  clear hb3
  clear hb
  go_wp2
  go_ret
  exact ⟨rfl, Hhb3.out⟩
def planA (p : List Int) : Array Value := (p.map (Value.int .i64)).toArray
def planV (p : List Int) : Value := .agg (planA p)
theorem rd_get (p : List Int) (k : Int) (h : k.toNat < p.length) : p[k.toNat] = rd p k := by
  simp [rd, h]
theorem meets_calls (p : List Int) (hp : p.length = 8) (r : S68) (h0 : 0 ≤ r.f0) (h1 : r.f0 < 8) (w : World) :
    Calls Tryd.prog 84 #[planV p, .agg #[.int .i64 r.f0, .int .i64 r.f1, .int .i64 r.f2]] w fun e w' => e = .returned (.bool (withinF (rd p r.f0) r.f1 r.f2)) ∧ Below w.heap.size w w' := by
  unfold planV planA
  go_enter Tryd.func84, Tryd.ntmps84
  go_wp2
  go_quiet ((go_at_call 42; exact Calls.quiet_of_same (within_calls _ _ _ _)))
  go_wp2
  go_ret
  exact ⟨by rw [rd_get]; rfl, by (repeat (first | exact Below.refl _ _ | refine pw_below_drewN ?_ _ | refine below_drew ?_ | refine Below.alloc ?_ (by first | omega | (simp; done) | (simp; omega)) _ | refine Below.setCell ?_ (by first | omega | (simp; done) | (simp; omega)) _))⟩
end Go.Proofs.YtlhnpbdpojcbeaaDoor
end
section
open Go Go.RowKit
namespace Go.Proofs.YtlhnpbdpojcbeaaDoor
open Go.Proofs.YtlhnpbdpojcbeaaDoorW.PrintWords
open PPackAll Go.Shelf
set_option linter.unusedVariables false
set_option linter.unusedSimpArgs false
theorem planA_at (p : List Int) (k : Int) (h : k.toNat < p.length) : (planA p)[k.toNat]? = some (.int .i64 (rd p k)) := by
  unfold planA rd; simp [h, List.getD_eq_getElem?_getD]
set_option maxHeartbeats 1000000 in
theorem release_none (A : Option Addr) (c : Nat) (x : List (List S60)) (B : Option Addr) (n d : Nat) (p : List Int) (i : Int) (w : World)
    (hp : p.length = 8) (h0 : 0 ≤ i) (h1 : i < 8) (hm : rd p i = -1) :
    Calls Tryd.prog 87 #[.agg #[.slice A x.length c, .slice B n d], planV p, .int .i64 i] w fun e w' => e = .returned (.tuple #[.agg #[.slice none 0 0, .slice none 0 0], .bool false]) ∧ Below w.heap.size w w' := by
  unfold planV
  have ha := planA_at p i (by omega)
  rw [hm] at ha
  generalize planA p = C at ha
  go_enter Tryd.func87, Tryd.ntmps87
  go_wp2
  exact bodyPost_ret (v := .tuple #[.agg #[.slice none 0 0, .slice none 0 0], .bool false]) (by simp [results, Tryd.results87, go_sem]) rfl ⟨rfl, by (repeat (first | exact Below.refl _ _ | refine pw_below_drewN ?_ _ | refine below_drew ?_ | refine Below.alloc ?_ (by first | omega | (simp; done) | (simp; omega)) _ | refine Below.setCell ?_ (by first | omega | (simp; done) | (simp; omega)) _))⟩
def pad (l : List Int) : List Int := l ++ List.replicate (8 - l.length) 0
theorem pad_length (l : List Int) (h : l.length ≤ 8) : (pad l).length = 8 := by simp [pad]; omega
def padK (l : List Int) (k : Nat) : List Int := l.take k ++ List.replicate (8 - k) 0
theorem padK_zero (l : List Int) : padK l 0 = List.replicate 8 0 := by simp [padK]
theorem padK_all (l : List Int) : padK l l.length = pad l := by simp [padK, pad]
theorem padK_length (l : List Int) (k : Nat) (h : k ≤ l.length) (h8 : l.length ≤ 8) : (padK l k).length = 8 := by
  simp [padK]; omega
theorem padK_step (l : List Int) (k : Nat) (h : k < l.length) (h8 : l.length ≤ 8) : (padK l k).set k (rd l k) = padK l (k + 1) := by
  have e1 : min k l.length = k := by omega
  have e2 : min (k + 1) l.length = k + 1 := by omega
  apply List.ext_getElem?
  intro j
  simp only [padK, List.getElem?_set, List.getElem?_append, List.length_append, List.length_replicate, List.length_take, List.getElem?_take, List.getElem?_replicate, rd, Int.toNat_natCast, e1, e2]
  rcases Nat.lt_trichotomy j k with hj | hj | hj
  · rw [if_neg (by omega), if_pos (by omega), if_pos (by omega), if_pos (by omega)]
    simp; omega
  · subst hj
    simp [h, List.getD_eq_getElem?_getD]
    try omega
  · rw [if_neg (show ¬ k = j by omega), if_neg (show ¬ j < k by omega), if_neg (show ¬ j < k + 1 by omega)]
    by_cases h9 : j < 8
    · rw [if_pos (show j - k < 8 - k by omega), if_pos (show j - (k + 1) < 8 - (k + 1) by omega)]
    · rw [if_neg (show ¬ j - k < 8 - k by omega), if_neg (show ¬ j - (k + 1) < 8 - (k + 1) by omega)]
theorem planA_size (p : List Int) : (planA p).size = p.length := by simp [planA]
theorem planA_one (p : List Int) : (planA p).all (·.oneCell') = true := by
  simp only [planA, List.all_toArray, List.all_map, List.all_eq_true]
  intro a _
  rfl
theorem planA_set (p : List Int) (k : Nat) (v : Int) : (planA p).setIfInBounds k (.int .i64 v) = planA (p.set k v) := by
  simp [planA, List.map_set]
theorem planA_zero : planA (List.replicate 8 0) = #[.int .i64 0, .int .i64 0, .int .i64 0, .int .i64 0, .int .i64 0, .int .i64 0, .int .i64 0, .int .i64 0] := rfl
theorem row_cell {w : World} {g t : Nat} {p : List Int} (h : w.heap[g]? = some (.cells (planA p) t (0, 0))) (k : Nat) (hk : k < p.length) :
    w.cell? ⟨g, k, none⟩ = some (.int .i64 (rd p k)) ∧ w.frozen? ⟨g, k, none⟩ = false := by
  have := planA_at p (k : Int) (by simpa using hk)
  rw [Int.toNat_natCast] at this
  exact ⟨by rw [cell_of_row w g k _ _ _ h]; exact this, frozen_of_row w g k _ _ h⟩
theorem heap_alloc_if (w : World) (o : Obj) (k : Nat) : (w.alloc o).heap[k]? = if k = w.heap.size then some o else w.heap[k]? := by
  show (w.heap.push o)[k]? = _
  rw [Array.getElem?_push]
theorem at_int {w : World} {A : Option Addr} {n : Nat} {xs : List Int} (h : Kd.C (Kd.int .i64) w A n xs) (i : Int) (h0 : 0 ≤ i) (h1 : i < n) : ∃ ad, A = some ad ∧ w.cell? (ad.add i.toNat) = some (.int .i64 (rd xs i)) := by
  obtain ⟨ad, c, e, _, hK, hc0⟩ := Kd.C_get h 0 i h0 h1
  have hc : ∀ j u, c[j]? = some u → w.cell? (ad.add (i.toNat * 1 + j)) = some u := hc0
  obtain rfl : c = [.int .i64 (xs.getD i.toNat 0)] := hK
  exact ⟨ad, e, by have hq := hc 0 _ rfl; rwa [Nat.mul_one, Nat.add_zero] at hq⟩
theorem cells78 : (Tryd.prog.info? 78).map (·.size) = some 8 := by kernel_rfl
section
variable {ops : Array Oper} {rest : List Oper} {o : Oper} {a : Act} {w : World} {Q : Exit → Act → World → Prop}
theorem ld78 (hgd : Region.wanted o (yielded ops a.tmps) = true) (x : Operand) (ho : o.op = .load 78 x) (g : Nat) (hx : a.eval x = .pointer (some ⟨g, 0, none⟩)) (p : List Int) (t : Nat) (hp : p.length = 8)
    (hg : w.heap[g]? = some (.cells (planA p) t (0, 0))) (h : wpList Tryd.prog ops Q rest (a.put o.dst (planV p)) w) : wpList Tryd.prog ops Q (o :: rest) a w :=
  wpList_step fun K hK => by
    rw [if_pos hgd]
    exact wp_load_row 78 x ho g hx t _ _ _ hg Tryd.underlying78 rfl (by rw [planA_size, hp]; exact cells78) (hK _ _ h)
theorem st78 (hgd : o.guard = none) (x y : Operand) (ho : o.op = .store 78 x y) (g : Nat) (hx : a.eval x = .pointer (some ⟨g, 0, none⟩)) (p q : List Int) (t : Nat) (hp : p.length = 8) (hq : q.length = 8)
    (hy : a.eval y = planV q) (hg : w.heap[g]? = some (.cells (planA p) t (0, 0))) (h : wpList Tryd.prog ops Q rest (a.put o.dst undef) (w.setRow g (planA q))) : wpList Tryd.prog ops Q (o :: rest) a w :=
  wpList_store_row hgd 78 x y ho g _ hx hy t _ hg (by rw [planA_size, hq]; exact cells78) (by rw [planA_size, planA_size, hp, hq]) (planA_one q) h
end
theorem below_setRow {B : Nat} {w W : World} (h : Below B w W) {g : Nat} (hg : B ≤ g) (cs : Array Value) : Below B w (W.setRow g cs) :=
  h.trans ⟨rfl, rfl, rfl, by rw [setRow_size]; exact Nat.le_refl _, fun k hk => setRow_other _ _ _ _ (by omega)⟩
theorem setCell_row {w : World} {g t : Nat} {p : List Int} (h : w.heap[g]? = some (.cells (planA p) t (0, 0))) (k : Nat) (v : Int) :
    (w.setCell ⟨g, k, none⟩ (.int .i64 v)).heap[g]? = some (.cells (planA (p.set k v)) t (0, 0)) := by
  rw [heap_setCell_same w g k _ t _ h, planA_set]
theorem results_plan {w : World} {tmps : Array Value} {fn : Func} (hres : fn.results = #[.cell 4 78, .tmp 5]) {g : Nat} (h4 : tmps.getD 4 undef = .pointer (some ⟨g, 0, none⟩)) {p : List Int} (hp : p.length = 8) {t : Nat}
    (hg : w.heap[g]? = some (.cells (planA p) t (0, 0))) : (results fn tmps).run Tryd.prog w = .ok (.tuple #[planV p, tmps.getD 5 undef]) w := by
  have hl := run_loadVar_row (P := Tryd.prog) w g t 78 (planA p) (0, 0) _ hg Tryd.underlying78 rfl (by rw [planA_size, hp]; exact cells78)
  have h4' : tmps[4]?.getD undef = .pointer (some ⟨g, 0, none⟩) := by simpa using h4
  simp [results, hres, h4', asAddr, hl, planV]
set_option maxHeartbeats 2000000 in
theorem planned_calls (A : Option Addr) (c : Nat) (x : List (List S60)) (B : Option Addr) (n d : Nat) (L : Option Addr) (cl : Nat) (l : List Int) (w : World)
    (hx : Kd.C (Kd.slice 60 k60) w A x.length x) (hok : OkIdx x) (hl : Kd.C (Kd.int .i64) w L l.length l) (hlen : l.length = x.length)
    (hr : ∀ i, i < l.length → -1 ≤ rd l i ∧ rd l i < ((x.getD i []).length : Int)) :
    Calls Tryd.prog 46 #[.agg #[.slice A x.length c, .slice B n d], .slice L l.length cl] w fun e w' => e = .returned (.tuple #[planV (pad l), .bool true]) ∧ Below w.heap.size w w' := by
  have h8 := hok.2.1
  have hne : ((l.length : Int) != (x.length : Int)) = false := by simp; omega
  have hlx : l.length ≤ x.length := by omega
  have Hhx := Lib.hid hx
  have Hhok := Lib.hid hok
  have Hhl := Lib.hid hl
  have Hhr := Lib.hid hr
  have Hhlen := Lib.hid hlen
  clear hx hok hl hr hlen
  go_enter Tryd.func46, Tryd.ntmps46
  go_wp2
  go_loopw [19] (fun i W => ∃ k : Nat, i = .int .i64 k ∧ k ≤ l.length ∧ Below w.heap.size w W ∧ W.cell? ⟨w.heap.size, 0, none⟩ = some (.slice A x.length c) ∧
      W.heap[w.heap.size + 1]? = some (.cells (planA (List.replicate 8 0)) 78 (0, 0)) ∧ W.heap[w.heap.size + 1 + 1]? = some (.cells (planA (padK l k)) 78 (0, 0)))
    (fun i _ => l.length - (intOf i).toNat)
  case atStart =>
    refine ⟨0, rfl, Nat.zero_le _, by (repeat (first | exact Below.refl _ _ | refine pw_below_drewN ?_ _ | refine below_drew ?_ | refine Below.alloc ?_ (by first | omega | (simp; done) | (simp; omega)) _ | refine Below.setCell ?_ (by first | omega | (simp; done) | (simp; omega)) _)), by simp [go_sem], ?_, ?_⟩
    · rw [planA_zero, heap_alloc_if, if_neg (by simp), heap_alloc_if, if_pos (by simp)]
    · rw [padK_zero, planA_zero, heap_alloc_if, if_pos (by simp)]
  case round =>
    obtain ⟨k, rfl, hk, hb, m0, q1, q2⟩ := hrel
    have hwr := World.block_lt_of_cell? wr _ m0
    have Hhb := Lib.hid hb
    have Hq1 := Lib.hid q1
    have Hq2 := Lib.hid q2
    clear hb q1 q2
    by_cases hlt : k < l.length
    · obtain ⟨ad, e, hc⟩ := at_int (Kd.C_below Hhl.out Hhb.out) (k : Int) (by omega) (by omega)
      rw [Int.toNat_natCast] at hc
      subst e
      obtain ⟨ad2, A0, c0, e, hc2, hl2, hi2⟩ := at_L4 (Kd.C_below Hhx.out Hhb.out) (k : Int) (by omega) (by have := Hhlen.out; omega)
      rw [Int.toNat_natCast] at hc2
      subst e
      have hk8 : k < 8 := by omega
      have h5 := (Hhok.out.2.2 k (by omega)).1
      have hL : ((rd_L4 x k).length : Int) ≤ 5 := by unfold rd_L4; rw [Int.toNat_natCast]; omega
      have hrk := Hhr.out k hlt
      have hr1 : rd l k ≤ ((rd_L4 x k).length : Int) - 1 := by unfold rd_L4; rw [Int.toNat_natCast]; omega
      have hr0 := hrk.1
      generalize (rd_L4 x k).length = M at hc2 hl2 hi2 hL hr1
      obtain ⟨y1, y2⟩ := row_cell Hq2.out k (by rw [padK_length l k hk (by omega)]; omega)
      have s1 := Lib.hid (setCell_row Hq2.out k (rd l k))
      rw [padK_step l k hlt (by omega)] at s1
      have s2 := Lib.hid ((heap_setCell_other wr ⟨w.heap.size + 1 + 1, k, none⟩ (w.heap.size + 1) (.int .i64 (rd l k)) (by simp)).trans Hq1.out)
      have s3 : (wr.setCell ⟨w.heap.size + 1 + 1, k, none⟩ (.int .i64 (rd l k))).cell? ⟨w.heap.size, 0, none⟩ = some (.slice (some ad2) x.length c) := by
        rw [World.cell?_setCell_other _ _ _ _ (by simp)]; exact m0
      clear h5 hrk hi2 hl2
      go_wp2_with (go_at_call 42; refine (within_true _ _ _ _ (by omega) (by omega)).mono ?_; rintro e w' ⟨rfl, rfl⟩)
      go_roundw
      case rel => exact ⟨k + 1, by go_num, by omega, Hhb.out.setCell (by simp; omega) _, s3, s2.out, s1.out⟩
      case measure => simp [intOf]; omega
    · have hkl : k = l.length := by omega
      have Hhkl := Lib.hid hkl
      clear hkl
      go_wp2_with (first | (refine ld78 rfl _ rfl _ rfl _ _ (padK_length l k hk (by omega)) Hq2.out ?_) | (refine st78 rfl _ _ rfl _ rfl _ _ _ (by simp) (padK_length l k hk (by omega)) rfl Hq1.out ?_))
      refine bodyPost_ret (results_plan rfl rfl (padK_length l k hk (by omega)) (setRow_heap _ _ _ _ _ _ Hq1.out)) rfl ⟨?_, ?_⟩
      · rw [Hhkl.out, padK_all]; rfl
      · exact below_setRow Hhb.out (by omega) _
end Go.Proofs.YtlhnpbdpojcbeaaDoor
end
section
open Go Go.RowKit
namespace Go.Proofs.YtlhnpbdpojcbeaaDoor
open Go.Proofs.YtlhnpbdpojcbeaaDoorW.PrintWords
open PPackAll Go.Shelf
set_option linter.unusedVariables false
set_option linter.unusedSimpArgs false
theorem getD_mem {α : Type} (l : List α) (i : Nat) (z : α) (h : i < l.length) : l.getD i z ∈ l := by
  rw [List.getD_eq_getElem?_getD, List.getElem?_eq_getElem h]
  exact List.getElem_mem h
def relOf (x : List (List S60)) (c : S49) : S60 := rd_T60 (rd_L4 x c.f0) c.f1
def rngOf (x : List (List S60)) (gs : List S68) (c : S49) : S68 :=
  if c.f0 = -1 then rd_T68 gs c.f3 else if c.f2 then rd_T68 (relOf x c).f1 c.f3 else rd_T68 (relOf x c).f0 c.f3
def OkClause (x : List (List S60)) (gs : List S68) (c : S49) : Prop :=
  (c.f0 = -1 ∧ 0 ≤ c.f3 ∧ c.f3 < gs.length) ∨
  (0 ≤ c.f0 ∧ c.f0 < x.length ∧ 0 ≤ c.f1 ∧ c.f1 < (rd_L4 x c.f0).length ∧ 0 ≤ c.f3 ∧ c.f3 < (if c.f2 then (relOf x c).f1.length else (relOf x c).f0.length))
def meetsF (p : List Int) (r : S68) : Bool := withinF (rd p r.f0) r.f1 r.f2
def brokenF (x : List (List S60)) (gs : List S68) (c : S49) (p : List Int) (many : Int) : Bool :=
  if c.f0 = -1 then decide ((rngOf x gs c).f0 < many) && !meetsF p (rngOf x gs c)
  else if many ≤ c.f0 ∨ rd p c.f0 ≠ c.f1 then false
  else if c.f2 then decide ((rngOf x gs c).f0 < many) && meetsF p (rngOf x gs c)
  else decide ((rngOf x gs c).f0 < many) && !meetsF p (rngOf x gs c)
theorem heap3_ (w : World) (o1 o2 o : Obj) (cs : Array Value) (t : Nat) : ((((w.alloc o1).alloc o2).alloc (.cells cs t)).alloc o).heap[w.heap.size + 1 + 1]? = some (.cells cs t (0, 0)) := by
  rw [heap_alloc_if, if_neg (by simp), heap_alloc_if, if_pos (by simp)]
section
variable (A : Option Addr) (c : Nat) (x : List (List S60)) (B : Option Addr) (d : Nat) (gs : List S68) (k : S49) (p : List Int) (many : Int) (w : World)
def BrokenIs (b : Bool) : Prop := Calls Tryd.prog 66 #[.agg #[.slice A x.length c, .slice B gs.length d], .agg #[.int .i64 k.f0, .int .i64 k.f1, .bool k.f2, .int .i64 k.f3], planV p, .int .i64 many] w
  fun e w' => e = .returned (.bool b) ∧ Below w.heap.size w w'
set_option maxHeartbeats 2000000 in
theorem broken_goal (hg : k68.C w B gs.length gs) (hp : p.length = 8) (h0 : k.f0 = -1) (h1 : 0 ≤ k.f3) (h2 : k.f3 < gs.length) (h3 : 0 ≤ (rd_T68 gs k.f3).f0) (h4 : (rd_T68 gs k.f3).f0 < 8) :
    BrokenIs A c x B d gs k p many w (decide ((rd_T68 gs k.f3).f0 < many) && !meetsF p (rd_T68 gs k.f3)) := by
  unfold BrokenIs planV
  obtain ⟨ad, e, c0, c1, c2⟩ := at_T68 hg k.f3 h1 h2
  subst e
  have z1 := World.block_lt_of_cell? w _ c0
  have hm := fun W => meets_calls p hp (rd_T68 gs k.f3) h3 h4 W
  generalize rd_T68 gs k.f3 = r at c0 c1 c2 h3 h4 hm
  rw [h0]
  generalize hP : planA p = P
  have HP := Lib.hid hP
  have hb3 : Below w.heap.size w (((w.alloc (.cells #[.slice A x.length c, .slice (some ad) gs.length d] 73)).alloc (.cells #[.int .i64 (-1), .int .i64 k.f1, .bool k.f2, .int .i64 k.f3] 49)).alloc (.cells P 78)) := by (repeat (first | exact Below.refl _ _ | refine pw_below_drewN ?_ _ | refine below_drew ?_ | refine Below.alloc ?_ (by first | omega | (simp; done) | (simp; omega)) _ | refine Below.setCell ?_ (by first | omega | (simp; done) | (simp; omega)) _))
  have y0 := pw_cell_below hb3 c0
  have y1 := pw_cell_below hb3 c1
  have y2 := pw_cell_below hb3 c2
  have Hhm := Lib.hid hm
  have Hhg := Lib.hid hg
  clear hm hg
  clear h3 h4 hP h0 hb3 c0 c1 c2
  by_cases hlt : r.f0 < many
  · go_enter Tryd.func66, Tryd.ntmps66
    go_wp2_with (refine ld78 (o := ⟨some 27, _, _, _, _, _⟩) rfl _ rfl _ rfl p 78 hp (by rw [HP.out]; exact heap3_ _ _ _ _ _ _) ?_)
    refine (Hhm.out _).mono ?_
    rintro e w' ⟨rfl, hb⟩
    have hb2 : Below w.heap.size w w' := by
      refine Below.trans ?_ (hb.mono ?_)
      · (repeat (first | exact Below.refl _ _ | refine pw_below_drewN ?_ _ | refine below_drew ?_ | refine Below.alloc ?_ (by first | omega | (simp; done) | (simp; omega)) _ | refine Below.setCell ?_ (by first | omega | (simp; done) | (simp; omega)) _))
      · simp; try omega
    have Hhb2 := Lib.hid hb2
    clear hb2
    clear hb
    go_wp2
    go_ret
    exact ⟨by rw [decide_eq_true hlt, Bool.true_and]; rfl, Hhb2.out⟩
  · go_enter Tryd.func66, Tryd.ntmps66
    go_wp2
    go_ret
    exact ⟨by rw [decide_eq_false (by omega)]; rfl, by (repeat (first | exact Below.refl _ _ | refine pw_below_drewN ?_ _ | refine below_drew ?_ | refine Below.alloc ?_ (by first | omega | (simp; done) | (simp; omega)) _ | refine Below.setCell ?_ (by first | omega | (simp; done) | (simp; omega)) _))⟩
set_option maxHeartbeats 2000000 in
theorem broken_late (hp : p.length = 8) (h0 : 0 ≤ k.f0) (hm : many ≤ k.f0) : BrokenIs A c x B d gs k p many w false := by
  unfold BrokenIs planV
  generalize planA p = P
  have hne : (k.f0 == -1) = false := by rw [beq_eq_false_iff_ne]; omega
  have hge : decide (many ≤ k.f0) = true := decide_eq_true hm
  go_enter Tryd.func66, Tryd.ntmps66
  go_wp2
  go_quiet (fail)
  go_wp2
  go_ret
  exact ⟨rfl, by (repeat (first | exact Below.refl _ _ | refine pw_below_drewN ?_ _ | refine below_drew ?_ | refine Below.alloc ?_ (by first | omega | (simp; done) | (simp; omega)) _ | refine Below.setCell ?_ (by first | omega | (simp; done) | (simp; omega)) _))⟩
set_option maxHeartbeats 2000000 in
theorem broken_other (hp : p.length = 8) (h0 : 0 ≤ k.f0) (h8 : k.f0 < 8) (hm : k.f0 < many) (hr : rd p k.f0 ≠ k.f1) : BrokenIs A c x B d gs k p many w false := by
  unfold BrokenIs planV
  have ha := planA_at p k.f0 (by omega)
  have hne : (k.f0 == -1) = false := by rw [beq_eq_false_iff_ne]; omega
  have hge : decide (many ≤ k.f0) = false := decide_eq_false (by omega)
  have hr' : (rd p k.f0 != k.f1) = true := by simpa using hr
  generalize planA p = P at ha
  go_enter Tryd.func66, Tryd.ntmps66
  go_wp2
  go_quiet (fail)
  go_wp2
  go_ret
  exact ⟨rfl, by (repeat (first | exact Below.refl _ _ | refine pw_below_drewN ?_ _ | refine below_drew ?_ | refine Below.alloc ?_ (by first | omega | (simp; done) | (simp; omega)) _ | refine Below.setCell ?_ (by first | omega | (simp; done) | (simp; omega)) _))⟩
set_option maxHeartbeats 4000000 in
theorem broken_bar (hx : Kd.C (Kd.slice 60 k60) w A x.length x) (hp : p.length = 8) (h0 : 0 ≤ k.f0) (h1 : k.f0 < x.length) (h8 : k.f0 < 8) (hm : k.f0 < many) (hr : rd p k.f0 = k.f1)
    (h2 : 0 ≤ k.f1) (h3 : k.f1 < (rd_L4 x k.f0).length) (h4 : k.f2 = true) (h5 : 0 ≤ k.f3) (h6 : k.f3 < (relOf x k).f1.length) (h7 : 0 ≤ (rd_T68 (relOf x k).f1 k.f3).f0) (h9 : (rd_T68 (relOf x k).f1 k.f3).f0 < 8) :
    BrokenIs A c x B d gs k p many w (decide ((rd_T68 (relOf x k).f1 k.f3).f0 < many) && meetsF p (rd_T68 (relOf x k).f1 k.f3)) := by
  unfold BrokenIs planV
  obtain ⟨ad, A0, c0, e, hc, hl, hi⟩ := at_L4 hx k.f0 h0 h1
  subst e
  obtain ⟨ad2, B0, e0, B1, e1, e, q0, q1, l0, g0, l1, g1⟩ := at_T60 hi k.f1 h2 h3
  subst e
  obtain ⟨ad3, e, c0, c1, c2⟩ := at_T68 g1 k.f3 h5 h6
  subst e
  have ha := planA_at p k.f0 (by omega)
  have hne : (k.f0 == -1) = false := by rw [beq_eq_false_iff_ne]; omega
  have hge : decide (many ≤ k.f0) = false := decide_eq_false (by omega)
  have hr' : (rd p k.f0 != k.f1) = false := by simpa using hr
  have hm' := fun W => meets_calls p hp _ h7 h9 W
  rw [h4]
  change k.f3 < ((relOf x k).f1.length : Int) at h6
  change _ = some (Value.slice B0 (relOf x k).f0.length e0) at q0
  change _ = some (Value.slice (some ad3) (relOf x k).f1.length e1) at q1
  change _ = some (Value.int .i64 (rd_T68 (relOf x k).f1 k.f3).f0) at c0
  change _ = some (Value.int .i64 (rd_T68 (relOf x k).f1 k.f3).f1) at c1
  change _ = some (Value.int .i64 (rd_T68 (relOf x k).f1 k.f3).f2) at c2
  generalize rd_T68 (relOf x k).f1 k.f3 = r at c0 c1 c2 hm' h7 h9 ⊢
  generalize (relOf x k).f0.length = N0 at q0
  generalize (relOf x k).f1.length = N1 at q1 h6
  generalize hP : planA p = P at ha
  have HP := Lib.hid hP
  have Hhm' := Lib.hid hm'
  have Hhx := Lib.hid hx
  have Hhc := Lib.hid hc
  have Hq0 := Lib.hid q0
  have Hq1 := Lib.hid q1
  have Hc0 := Lib.hid c0
  have Hc1 := Lib.hid c1
  have Hc2 := Lib.hid c2
  clear hm' hx hc q0 q1 c0 c1 c2
  clear hl hi l0 g0 l1 g1 hP h7 h9 hr h4
  go_enter Tryd.func66, Tryd.ntmps66
  go_wp2
  go_quiet (fail)
  go_wp2
  obtain ⟨V, hV⟩ : ∃ V, V = ((((w.alloc (.cells #[.slice (some ad) x.length c, .slice B gs.length d] 73)).alloc (.cells #[.int .i64 k.f0, .int .i64 k.f1, .bool true, .int .i64 k.f3] 49)).alloc (.cells P 78)).drewN nq) := ⟨_, rfl⟩
  rw [← hV]
  have hbV : Below w.heap.size w V := by rw [hV]; (repeat (first | exact Below.refl _ _ | refine pw_below_drewN ?_ _ | refine below_drew ?_ | refine Below.alloc ?_ (by first | omega | (simp; done) | (simp; omega)) _ | refine Below.setCell ?_ (by first | omega | (simp; done) | (simp; omega)) _))
  have hsz : V.heap.size = w.heap.size + 1 + 1 + 1 := by rw [hV]; simp
  have b0 : V.cell? ⟨w.heap.size, 0, none⟩ = some (.slice (some ad) x.length c) := by rw [hV]; simp [go_sem]
  have b1 : V.cell? ⟨w.heap.size + 1, 0, none⟩ = some (.int .i64 k.f0) := by rw [hV]; simp [go_sem]
  have b2 : V.cell? ⟨w.heap.size + 1, 1, none⟩ = some (.int .i64 k.f1) := by rw [hV]; simp [go_sem]
  have b3 : V.cell? ⟨w.heap.size + 1, 2, none⟩ = some (.bool true) := by rw [hV]; simp [go_sem]
  have b4 : V.cell? ⟨w.heap.size + 1, 3, none⟩ = some (.int .i64 k.f3) := by rw [hV]; simp [go_sem]
  have b5 : ∀ W, Below V.heap.size V W → W.heap[w.heap.size + 1 + 1]? = some (.cells P 78 (0, 0)) := fun W hW => by
    rw [hW.block _ (by omega), hV]
    show (((w.alloc _).alloc _).alloc _).heap[_]? = _
    rw [heap_alloc_if, if_pos (by simp)]
  have x0 := pw_cell_below hbV Hhc.out
  have x1 := pw_cell_below hbV Hq0.out
  have x2 := pw_cell_below hbV Hq1.out
  have z0 := pw_cell_below hbV Hc0.out
  have z1 := pw_cell_below hbV Hc1.out
  have z2 := pw_cell_below hbV Hc2.out
  have w0 := World.block_lt_of_cell? V _ x0
  have w1 := World.block_lt_of_cell? V _ x1
  have w2 := World.block_lt_of_cell? V _ x2
  have w3 := World.block_lt_of_cell? V _ z0
  have ltV : w.heap.size < V.heap.size := by omega
  have ltV1 : w.heap.size + 1 < V.heap.size := by omega
  have HhbV := Lib.hid hbV
  have Hb5 := Lib.hid b5
  have Hhsz := Lib.hid hsz
  clear hbV b5 hsz
  clear hV
  go_region
  by_cases hlt : r.f0 < many
  · go_wp2_with (refine ld78 (o := ⟨some 69, _, _, _, _, _⟩) rfl _ rfl _ rfl p 78 hp (by rw [HP.out]; exact Hb5.out _ (by (repeat (first | exact Below.refl _ _ | refine pw_below_drewN ?_ _ | refine below_drew ?_ | refine Below.alloc ?_ (by first | omega | (simp; done) | (simp; omega)) _ | refine Below.setCell ?_ (by first | omega | (simp; done) | (simp; omega)) _)))) ?_)
    refine (Hhm'.out _).mono ?_
    rintro e w' ⟨rfl, hb⟩
    have hb2 : Below w.heap.size w w' := by
      refine HhbV.out.trans (Below.mono (Below.trans ?_ (hb.mono ?_)) HhbV.out.size)
      · (repeat (first | exact Below.refl _ _ | refine pw_below_drewN ?_ _ | refine below_drew ?_ | refine Below.alloc ?_ (by first | omega | (simp; done) | (simp; omega)) _ | refine Below.setCell ?_ (by first | omega | (simp; done) | (simp; omega)) _))
      · simp; try omega
    have Hhb2 := Lib.hid hb2
    clear hb2
    clear hb
    go_wp2
    go_ret
    exact ⟨by rw [decide_eq_true hlt, Bool.true_and]; rfl, Hhb2.out⟩
  · go_wp2
    go_ret
    exact ⟨by rw [decide_eq_false (by omega)]; rfl, HhbV.out.trans (Below.mono (by (repeat (first | exact Below.refl _ _ | refine pw_below_drewN ?_ _ | refine below_drew ?_ | refine Below.alloc ?_ (by first | omega | (simp; done) | (simp; omega)) _ | refine Below.setCell ?_ (by first | omega | (simp; done) | (simp; omega)) _))) HhbV.out.size)⟩
set_option maxHeartbeats 4000000 in
theorem broken_need (hx : Kd.C (Kd.slice 60 k60) w A x.length x) (hp : p.length = 8) (h0 : 0 ≤ k.f0) (h1 : k.f0 < x.length) (h8 : k.f0 < 8) (hm : k.f0 < many) (hr : rd p k.f0 = k.f1)
    (h2 : 0 ≤ k.f1) (h3 : k.f1 < (rd_L4 x k.f0).length) (h4 : k.f2 = false) (h5 : 0 ≤ k.f3) (h6 : k.f3 < (relOf x k).f0.length) (h7 : 0 ≤ (rd_T68 (relOf x k).f0 k.f3).f0) (h9 : (rd_T68 (relOf x k).f0 k.f3).f0 < 8) :
    BrokenIs A c x B d gs k p many w (decide ((rd_T68 (relOf x k).f0 k.f3).f0 < many) && !meetsF p (rd_T68 (relOf x k).f0 k.f3)) := by
  unfold BrokenIs planV
  obtain ⟨ad, A0, c0, e, hc, hl, hi⟩ := at_L4 hx k.f0 h0 h1
  subst e
  obtain ⟨ad2, B0, e0, B1, e1, e, q0, q1, l0, g0, l1, g1⟩ := at_T60 hi k.f1 h2 h3
  subst e
  obtain ⟨ad3, e, c0, c1, c2⟩ := at_T68 g0 k.f3 h5 h6
  subst e
  have ha := planA_at p k.f0 (by omega)
  have hne : (k.f0 == -1) = false := by rw [beq_eq_false_iff_ne]; omega
  have hge : decide (many ≤ k.f0) = false := decide_eq_false (by omega)
  have hr' : (rd p k.f0 != k.f1) = false := by simpa using hr
  have hm' := fun W => meets_calls p hp _ h7 h9 W
  rw [h4]
  change k.f3 < ((relOf x k).f0.length : Int) at h6
  change _ = some (Value.slice (some ad3) (relOf x k).f0.length e0) at q0
  change _ = some (Value.slice B1 (relOf x k).f1.length e1) at q1
  change _ = some (Value.int .i64 (rd_T68 (relOf x k).f0 k.f3).f0) at c0
  change _ = some (Value.int .i64 (rd_T68 (relOf x k).f0 k.f3).f1) at c1
  change _ = some (Value.int .i64 (rd_T68 (relOf x k).f0 k.f3).f2) at c2
  generalize rd_T68 (relOf x k).f0 k.f3 = r at c0 c1 c2 hm' h7 h9 ⊢
  generalize (relOf x k).f0.length = N0 at q0 h6
  generalize (relOf x k).f1.length = N1 at q1
  generalize hP : planA p = P at ha
  have HP := Lib.hid hP
  have Hhm' := Lib.hid hm'
  have Hhx := Lib.hid hx
  have Hhc := Lib.hid hc
  have Hq0 := Lib.hid q0
  have Hq1 := Lib.hid q1
  have Hc0 := Lib.hid c0
  have Hc1 := Lib.hid c1
  have Hc2 := Lib.hid c2
  clear hm' hx hc q0 q1 c0 c1 c2
  clear hl hi l0 g0 l1 g1 hP h7 h9 hr h4
  go_enter Tryd.func66, Tryd.ntmps66
  go_wp2
  go_quiet (fail)
  go_wp2
  obtain ⟨V, hV⟩ : ∃ V, V = ((((w.alloc (.cells #[.slice (some ad) x.length c, .slice B gs.length d] 73)).alloc (.cells #[.int .i64 k.f0, .int .i64 k.f1, .bool false, .int .i64 k.f3] 49)).alloc (.cells P 78)).drewN nq) := ⟨_, rfl⟩
  rw [← hV]
  have hbV : Below w.heap.size w V := by rw [hV]; (repeat (first | exact Below.refl _ _ | refine pw_below_drewN ?_ _ | refine below_drew ?_ | refine Below.alloc ?_ (by first | omega | (simp; done) | (simp; omega)) _ | refine Below.setCell ?_ (by first | omega | (simp; done) | (simp; omega)) _))
  have hsz : V.heap.size = w.heap.size + 1 + 1 + 1 := by rw [hV]; simp
  have b0 : V.cell? ⟨w.heap.size, 0, none⟩ = some (.slice (some ad) x.length c) := by rw [hV]; simp [go_sem]
  have b1 : V.cell? ⟨w.heap.size + 1, 0, none⟩ = some (.int .i64 k.f0) := by rw [hV]; simp [go_sem]
  have b2 : V.cell? ⟨w.heap.size + 1, 1, none⟩ = some (.int .i64 k.f1) := by rw [hV]; simp [go_sem]
  have b3 : V.cell? ⟨w.heap.size + 1, 2, none⟩ = some (.bool false) := by rw [hV]; simp [go_sem]
  have b4 : V.cell? ⟨w.heap.size + 1, 3, none⟩ = some (.int .i64 k.f3) := by rw [hV]; simp [go_sem]
  have b5 : ∀ W, Below V.heap.size V W → W.heap[w.heap.size + 1 + 1]? = some (.cells P 78 (0, 0)) := fun W hW => by
    rw [hW.block _ (by omega), hV]
    show (((w.alloc _).alloc _).alloc _).heap[_]? = _
    rw [heap_alloc_if, if_pos (by simp)]
  have x0 := pw_cell_below hbV Hhc.out
  have x1 := pw_cell_below hbV Hq0.out
  have x2 := pw_cell_below hbV Hq1.out
  have z0 := pw_cell_below hbV Hc0.out
  have z1 := pw_cell_below hbV Hc1.out
  have z2 := pw_cell_below hbV Hc2.out
  have w0 := World.block_lt_of_cell? V _ x0
  have w1 := World.block_lt_of_cell? V _ x1
  have w2 := World.block_lt_of_cell? V _ x2
  have w3 := World.block_lt_of_cell? V _ z0
  have ltV : w.heap.size < V.heap.size := by omega
  have ltV1 : w.heap.size + 1 < V.heap.size := by omega
  have HhbV := Lib.hid hbV
  have Hb5 := Lib.hid b5
  have Hhsz := Lib.hid hsz
  clear hbV b5 hsz
  clear hV
  go_region
  by_cases hlt : r.f0 < many
  · go_wp2_with (refine ld78 (o := ⟨some 84, _, _, _, _, _⟩) rfl _ rfl _ rfl p 78 hp (by rw [HP.out]; exact Hb5.out _ (by (repeat (first | exact Below.refl _ _ | refine pw_below_drewN ?_ _ | refine below_drew ?_ | refine Below.alloc ?_ (by first | omega | (simp; done) | (simp; omega)) _ | refine Below.setCell ?_ (by first | omega | (simp; done) | (simp; omega)) _)))) ?_)
    refine (Hhm'.out _).mono ?_
    rintro e w' ⟨rfl, hb⟩
    have hb2 : Below w.heap.size w w' := by
      refine HhbV.out.trans (Below.mono (Below.trans ?_ (hb.mono ?_)) HhbV.out.size)
      · (repeat (first | exact Below.refl _ _ | refine pw_below_drewN ?_ _ | refine below_drew ?_ | refine Below.alloc ?_ (by first | omega | (simp; done) | (simp; omega)) _ | refine Below.setCell ?_ (by first | omega | (simp; done) | (simp; omega)) _))
      · simp; try omega
    have Hhb2 := Lib.hid hb2
    clear hb2
    clear hb
    go_wp2
    go_ret
    exact ⟨by rw [decide_eq_true hlt, Bool.true_and]; rfl, Hhb2.out⟩
  · go_wp2
    go_ret
    exact ⟨by rw [decide_eq_false (by omega)]; rfl, HhbV.out.trans (Below.mono (by (repeat (first | exact Below.refl _ _ | refine pw_below_drewN ?_ _ | refine below_drew ?_ | refine Below.alloc ?_ (by first | omega | (simp; done) | (simp; omega)) _ | refine Below.setCell ?_ (by first | omega | (simp; done) | (simp; omega)) _))) HhbV.out.size)⟩
end
theorem broken_calls (A : Option Addr) (c : Nat) (x : List (List S60)) (B : Option Addr) (d : Nat) (gs : List S68) (k : S49) (p : List Int) (many : Int) (w : World)
    (hx : Kd.C (Kd.slice 60 k60) w A x.length x) (hg : k68.C w B gs.length gs) (hok : OkIdx x) (hgo : OkGoals x gs) (hk : OkClause x gs k) (hp : p.length = 8) :
    BrokenIs A c x B d gs k p many w (brokenF x gs k p many) := by
  have h8 := hok.2.1
  have hrange : ∀ l : List S68, (∀ r ∈ l, OkRange x r) → ∀ i : Int, 0 ≤ i → i < l.length → 0 ≤ (rd_T68 l i).f0 ∧ (rd_T68 l i).f0 < 8 := by
    intro l hl i h0 h1
    have hlt : i.toNat < l.length := by omega
    have : rd_T68 l i ∈ l := by
      simp only [rd_T68, List.getD_eq_getElem?_getD, List.getElem?_eq_getElem hlt, Option.getD_some]
      exact List.getElem_mem hlt
    have h := hl _ this
    exact ⟨h.1, by have := h.2.1; omega⟩
  rcases hk with ⟨h0, h1, h2⟩ | ⟨h0, h1, h2, h3, h5, h6⟩
  · have hr := hrange gs hgo.2 k.f3 h1 h2
    have := broken_goal A c x B d gs k p many w hg hp h0 h1 h2 hr.1 hr.2
    simpa only [brokenF, rngOf, if_pos h0] using this
  · have hn : k.f0 ≠ -1 := by omega
    have hrel : OkRel x k.f0.toNat (relOf x k) := by
      refine (hok.2.2 k.f0.toNat (by omega)).2 _ ?_
      have hlt : k.f1.toNat < (x.getD k.f0.toNat []).length := by unfold rd_L4 at h3; omega
      exact getD_mem _ _ _ hlt
    by_cases hm : many ≤ k.f0
    · have := broken_late A c x B d gs k p many w hp h0 hm
      simpa only [brokenF, if_neg hn, if_pos (Or.inl hm)] using this
    · by_cases hrd : rd p k.f0 = k.f1
      · have hno : ¬ (many ≤ k.f0 ∨ rd p k.f0 ≠ k.f1) := fun h => h.elim hm (fun h => h hrd)
        cases hb : k.f2 with
        | true =>
          rw [hb, if_pos rfl] at h6
          have hr := hrange _ (fun r hr => (hrel.2.2.2 r hr).1) k.f3 h5 h6
          have := broken_bar A c x B d gs k p many w hx hp h0 h1 (by omega) (by omega) hrd h2 h3 hb h5 h6 hr.1 hr.2
          simpa only [brokenF, rngOf, if_neg hn, if_neg hno, hb, if_true] using this
        | false =>
          rw [hb, if_neg (by simp)] at h6
          have hr := hrange _ (fun r hr => (hrel.2.2.1 r hr).1) k.f3 h5 h6
          have := broken_need A c x B d gs k p many w hx hp h0 h1 (by omega) (by omega) hrd h2 h3 hb h5 h6 hr.1 hr.2
          simpa only [brokenF, rngOf, if_neg hn, if_neg hno, hb, Bool.false_eq_true, if_false] using this
      · have := broken_other A c x B d gs k p many w hp h0 (by omega) (by omega) hrd
        simpa only [brokenF, if_neg hn, if_pos (Or.inr hrd)] using this
end Go.Proofs.YtlhnpbdpojcbeaaDoor
end
section
open Go Go.RowKit
namespace Go.Proofs.YtlhnpbdpojcbeaaDoor
open Go.Proofs.YtlhnpbdpojcbeaaDoorW.PrintWords
open PPackAll Go.Shelf
attribute [local go_sem] Oper.semAt_some
set_option linter.unusedVariables false
set_option linter.unusedSimpArgs false
def YieldW (l : Nat) (args : Array Value) (W : World) (R : Ending → World → Prop) : Prop :=
  ∃ fn tmps assign body, (Instr.yield l args).run Tryd.prog W = .ok (.round l fn tmps assign body) W ∧ ∀ n, RoundIn Fence.wide n Tryd.prog l fn tmps assign body W R
def choice (m k : Nat) : Int := if k = 0 then -1 else (m : Int) - k
set_option maxHeartbeats 2000000 in
theorem choices_iter (l bm bi : Nat) (A : Option Addr) (c : Nat) (x : List (List S60)) (i m : Nat) (hi : i < x.length) (hm : (rd_L4 x i).length = m) (hm5 : m ≤ 5) (h8 : x.length ≤ 8)
    (J Jx : Nat → World → Prop)
    (hJ : ∀ k W, J k W → W.cell? ⟨bm, 0, none⟩ = some (.slice A x.length c) ∧ W.cell? ⟨bi, 0, none⟩ = some (.int .i64 i) ∧ Kd.C (Kd.slice 60 k60) W A x.length x)
    (hY : ∀ k W, k ≤ m → J k W → YieldW l #[.int .i64 (choice m k)] W fun e W' => (e = .returned (.bool true) ∧ J (k + 1) W') ∨ (e = .returned (.bool false) ∧ Jx k W'))
    (W : World) (h0 : J 0 W) (n : Nat) :
    CallsIn Fence.wide n Tryd.prog 85 #[.func (.yield l) #[] #[], .pointer (some ⟨bm, 0, none⟩), .pointer (some ⟨bi, 0, none⟩)] W fun e W' =>
      e = .returned (.tuple #[]) ∧ (J (m + 1) W' ∨ ∃ k, k ≤ m ∧ Jx k W') := by
  refine callsIn_of_wp Tryd.func85 rfl trivial ?_ rfl
  simp only [Tryd.ntmps85, List.size_toArray, List.length_cons, List.length_nil, Nat.reduceAdd, Nat.reduceSub, Array.replicate_succ, Array.replicate_zero, List.push_toArray, List.append_toArray, List.nil_append, List.cons_append]
  obtain ⟨fn, tmps, assign, body, hy, hR⟩ := hY 0 W (Nat.zero_le _) h0
  have hR := Lib.hid hR
  have e0 : choice m 0 = -1 := rfl
  rw [e0] at hy
  have HhJ := Lib.hid hJ
  have HhY := Lib.hid hY
  have Hh0 := Lib.hid h0
  clear hJ hY h0
  clear e0
  have hw : ∀ k : Nat, Fence.wide.depth.isSome = true → 1 ≤ k := fun k h => by simp [Fence.wide] at h
  have Hw := Lib.hid hw
  clear hw
  gi_wp2
  refine ⟨Hw.out _, (hR.out _).mono ?_⟩
  clear hR hy
  rintro e W1 (⟨rfl, hJ1⟩ | ⟨rfl, hx1⟩)
  · obtain ⟨m0, m1, hx⟩ := HhJ.out 1 W1 hJ1
    obtain ⟨ad, A0, c0, e, hc, hl, hr⟩ := at_L4 hx (i : Int) (by omega) (by omega)
    rw [hm] at hc
    rw [Int.toNat_natCast] at hc
    subst e
    have HhJ1 := Lib.hid hJ1
    clear hJ1
    have e1 : IntKind.i64.wrap ((m : Int) - 1) = (m : Int) - 1 := IntWalk.i64_in _ (by omega)
    clear hl hr hx
    gi_wp2
    clear e1 m0 m1 hc
    gi_loopw [4] (fun v wr => ∃ k : Nat, v = .int .i64 ((m : Int) - 1 - k) ∧ k ≤ m ∧ J (k + 1) wr) (fun v _ => (intOf v + 1).toNat)
    case atStart => exact ⟨0, by simp, Nat.zero_le _, HhJ1.out⟩
    case round =>
      obtain ⟨k, rfl, hk, hj⟩ := hrel
      by_cases hlt : k < m
      · obtain ⟨fn, tmps, assign, body, hy, hR⟩ := HhY.out (k + 1) wr (by omega) hj
        have hR := Lib.hid hR
        have e2 : choice m (k + 1) = (m : Int) - 1 - k := by simp [choice]; omega
        rw [e2] at hy
        clear e2
        have hge : decide ((0 : Int) ≤ (m : Int) - 1 - k) = true := decide_eq_true (by omega)
        clear hj
        gi_wp2
        refine ⟨Hw.out _, (hR.out _).mono ?_⟩
        clear hR hy
        rintro e W2 (⟨rfl, hJ2⟩ | ⟨rfl, hx2⟩)
        · have HhJ2 := Lib.hid hJ2
          clear hJ2
          clear hge
          gi_wp2
          go_roundw
          case rel => exact ⟨k + 1, by go_num, by omega, HhJ2.out⟩
          case measure => simp [intOf]; omega
        · have Hhx2 := Lib.hid hx2
          clear hx2
          gi_wp2
          exact bodyPost_ret (results_none rfl _ _ _) rfl ⟨rfl, .inr ⟨k + 1, by omega, Hhx2.out⟩⟩
      · obtain rfl : k = m := by omega
        gi_wp2
        exact bodyPost_end (results_none rfl _ _ _) rfl ⟨rfl, .inl hj⟩
  · have Hhx1 := Lib.hid hx1
    clear hx1
    gi_wp2
    exact bodyPost_ret (results_none rfl _ _ _) rfl ⟨rfl, .inr ⟨0, Nat.zero_le _, Hhx1.out⟩⟩
end Go.Proofs.YtlhnpbdpojcbeaaDoor
end
section
open Go Go.RowKit
namespace Go.Proofs.YtlhnpbdpojcbeaaDoor
open Go.Proofs.YtlhnpbdpojcbeaaDoorW.PrintWords
open PPackAll Go.Shelf
attribute [local go_sem] Oper.semAt_some
set_option linter.unusedVariables false
set_option linter.unusedSimpArgs false
structure Keep (S : Nat → Prop) (w w' : World) : Prop where
  os : w'.os = w.os
  tape : w'.tape = w.tape
  output : w'.output = w.output
  size : w.heap.size ≤ w'.heap.size
  block : ∀ k, k < w.heap.size → ¬ S k → w'.heap[k]? = w.heap[k]?
theorem Keep.refl (S : Nat → Prop) (w : World) : Keep S w w := ⟨rfl, rfl, rfl, Nat.le_refl _, fun _ _ _ => rfl⟩
theorem Keep.trans {S : Nat → Prop} {a b c : World} (h : Keep S a b) (k : Keep S b c) : Keep S a c :=
  ⟨k.os.trans h.os, k.tape.trans h.tape, k.output.trans h.output, Nat.le_trans h.size k.size, fun i hi hS => (k.block i (Nat.lt_of_lt_of_le hi h.size) hS).trans (h.block i hi hS)⟩
theorem Keep.mono {S T : Nat → Prop} {a b : World} (h : Keep S a b) (hs : ∀ k, k < a.heap.size → S k → T k) : Keep T a b :=
  ⟨h.os, h.tape, h.output, h.size, fun i hi hT => h.block i hi (fun hS => hT (hs i hi hS))⟩
theorem Keep.ofBelow {a b : World} (h : Below a.heap.size a b) (S : Nat → Prop) : Keep S a b :=
  ⟨h.os, h.tape, h.output, h.size, fun i hi _ => h.block i hi⟩
theorem Keep.below {a b : World} (S : Nat → Prop) (h : Keep S a b) {B : Nat} (hB : B ≤ a.heap.size) (hS : ∀ k, k < a.heap.size → S k → B ≤ k) : Below B a b :=
  ⟨h.os, h.tape, h.output, h.size, fun i hi => h.block i (by omega) (fun hs => by have := hS i (by omega) hs; omega)⟩
theorem Keep.alloc {S : Nat → Prop} {a b : World} (h : Keep S a b) (o : Obj) : Keep S a (b.alloc o) :=
  ⟨h.os, h.tape, h.output, by simp; have := h.size; omega, fun i hi hS => (Below.heap_alloc b o i (by have := h.size; omega)).trans (h.block i hi hS)⟩
theorem Keep.setCell {S : Nat → Prop} {a b : World} (h : Keep S a b) {p : Addr} (hp : S p.block ∨ a.heap.size ≤ p.block) (v : Value) : Keep S a (b.setCell p v) :=
  ⟨h.os, h.tape, h.output, by have := h.size; show _ ≤ (b.heap.modify _ _).size; rw [Array.size_modify]; exact this,
   fun i hi hS => (heap_setCell_other b p i v (fun e => by rcases hp with hp | hp; · exact hS (e ▸ hp)
                                                           · omega)).trans (h.block i hi hS)⟩
theorem Keep.setRow {S : Nat → Prop} {a b : World} (h : Keep S a b) {g : Nat} (hp : S g ∨ a.heap.size ≤ g) (cs : Array Value) : Keep S a (b.setRow g cs) :=
  ⟨h.os, h.tape, h.output, by rw [setRow_size]; exact h.size,
   fun i hi hS => (setRow_other b g i cs (fun e => by rcases hp with hp | hp; · exact hS (e ▸ hp)
                                                      · omega)).trans (h.block i hi hS)⟩
theorem Keep.putObj {S : Nat → Prop} {a b : World} (h : Keep S a b) {g : Nat} (hp : S g ∨ a.heap.size ≤ g) (o : Obj) : Keep S a (b.putObj g o) :=
  ⟨h.os, h.tape, h.output, by rw [World.putObj_size]; exact h.size,
   fun i hi hS => (World.putObj_heap_other (fun e => by rcases hp with hp | hp; · exact hS (e ▸ hp)
                                                        · omega)).trans (h.block i hi hS)⟩
theorem Keep.drewN {S : Nat → Prop} {a b : World} (h : Keep S a b) (n : Nat) : Keep S a (b.drewN n) := ⟨h.os, h.tape, h.output, h.size, h.block⟩
theorem Keep.cell {S : Nat → Prop} {w w' : World} (h : Keep S w w') {p : Addr} {v : Value} (hv : w.cell? p = some v) (hS : ¬ S p.block) : w'.cell? p = some v :=
  (World.cell?_of_block (w := w) (h.block p.block (World.block_lt_of_cell? w p hv) hS)).trans hv
theorem Keep.at_ {S : Nat → Prop} {w w' : World} (h : Keep S w w') {k : Nat} {o : Obj} (hv : w.heap[k]? = some o) (hS : ¬ S k) : w'.heap[k]? = some o :=
  (h.block k (Array.getElem?_eq_some_iff.1 hv).1 hS).trans hv
theorem wideN (k : Nat) : Fence.wide.depth.isSome = true → 1 ≤ k := fun h => by simp [Fence.wide] at h
def loopRec (st : LoopState) (pend : Option Code) (fn : FuncId) (tmps : Array Value) (ps : Array Tmp) (assign body : Code) (D : Nat) : Loop :=
  { state := st, pending := pend, fn, tmps, params := ps, assign, body, defers := D }
theorem yield_wide {l : Nat} {fn : FuncId} {tmps : Array Value} {ps : Array Tmp} {assign body : Code} {D : Nat} {W : World} {args : Array Value} {R : Ending → World → Prop}
    (hrec : W.heap[l]? = some (.loop (loopRec .ready none fn tmps ps assign body D))) (hs : args.size = ps.size)
    (h : ∀ n, assign.wpIn (Fence.wide.inRound l) n Tryd.prog (Exit.then (fun a₁ w₁ => ∃ w₂, (Instr.beginRound l).run Tryd.prog w₁ = .ok () w₂ ∧ body.wpIn (Fence.wide.inRound l) n Tryd.prog (roundPost Tryd.prog l R) a₁ w₂) (fun _ _ _ => False))
      { tmps := (ps.zip args).foldl (fun t (p, v) => t.setIfInBounds p v) tmps, defers := [] } W) : YieldW l args W R :=
  ⟨_, _, _, _, run_yield hrec hs, fun n => roundIn_of_wpIn trivial (h n)⟩
theorem range_wide {n : Nat} {g : Operand} {ps : Array Tmp} {assign body : Code} {Q : Exit → Act → World → Prop} {a : Act} {w : World} {gf : Nat} {lb : Array Value}
    (hg : a.eval g = .func (.func gf) #[] lb) (eg : ∀ args w, (callFunc gf args).run Tryd.prog w = .ok (.enter gf args) w)
    (h : ∀ (fn : FuncId) (rec : LoopState → Option Code → Loop) (W1 : World), rec = (fun st pe => loopRec st pe fn a.tmps ps assign body w.heap.size) →
      W1 = (w.alloc (.deferred (some []))).alloc (.loop (rec .ready none)) →
      CallsIn Fence.wide (n - 1) Tryd.prog gf (#[.func (.yield (w.heap.size + 1)) #[] #[]] ++ lb) W1
      (rangePost Fence.wide n Tryd.prog (w.heap.size + 1) Q { a with defers := { target := .collected w.heap.size, args := #[] } :: a.defers })) :
    (Code.rangeFunc g ps assign body).wpIn Fence.wide n Tryd.prog Q a w := by
  refine wpIn_rangeFunc ?_
  intro fn hfn
  obtain ⟨rec, hrec⟩ : ∃ rec : LoopState → Option Code → Loop, rec = (fun st pe => loopRec st pe fn a.tmps ps assign body w.heap.size) := ⟨_, rfl⟩
  obtain ⟨W1, hW1⟩ : ∃ W1, (w.alloc (.deferred (some []))).alloc (.loop (rec .ready none)) = W1 := ⟨_, rfl⟩
  refine ⟨w.heap.size + 1, [{ target := .collected w.heap.size, args := #[] }], W1, { target := .fn (.func gf) lb, args := #[.func (.yield (w.heap.size + 1)) #[] #[]] }, W1, gf, #[.func (.yield (w.heap.size + 1)) #[] #[]] ++ lb, W1, ?_, ?_, ?_, ?_, wideN n, ?_⟩
  · rw [← hW1, hrec]; exact run_enterLoop_outer _ _ _ _ _
  · simp only [resolve, hg]
    simp [go_sem]
  · intro f' _; trivial
  · simp [invoke, go_sem, eg]
  · exact h fn rec W1 hrec hW1.symm
theorem choices_calls (A : Option Addr) (c : Nat) (n : Nat) (B : Option Addr) (m d : Nat) (i : Nat) (w : World) :
    Calls Tryd.prog 67 #[.agg #[.slice A n c, .slice B m d], .int .i64 i] w fun e w' =>
      e = .returned (.func (.func 85) #[] #[.pointer (some ⟨w.heap.size, 0, none⟩), .pointer (some ⟨w.heap.size + 1, 0, none⟩)]) ∧
      w' = (w.alloc (.cells #[.slice A n c, .slice B m d] 73)).alloc (.cells #[.int .i64 i] 3) := by
  go_enter Tryd.func67, Tryd.ntmps67
  go_wp2
  go_ret
  exact ⟨rfl, rfl⟩
theorem heap_two (w : World) (o1 o2 : Obj) : ((w.alloc o1).alloc o2).heap[w.heap.size]? = some o1 ∧ ((w.alloc o1).alloc o2).heap[w.heap.size + 1]? = some o2 := by
  constructor
  · rw [heap_alloc_if, if_neg (by simp), heap_alloc_if, if_pos rfl]
  · rw [heap_alloc_if, if_pos (by simp)]
set_option maxHeartbeats 1000000 in
theorem clause_fn (A : Option Addr) (c : Nat) (x : List (List S60)) (B : Option Addr) (d : Nat) (gs : List S68) (p : List Int) (many : Nat) (w : World) (bm bp bi t : Nat)
    (hx : Kd.C (Kd.slice 60 k60) w A x.length x) (hg : k68.C w B gs.length gs) (hok : OkIdx x) (hgo : OkGoals x gs) (hp : p.length = 8)
    (c0 : w.cell? ⟨bm, 0, none⟩ = some (.slice A x.length c)) (c1 : w.cell? ⟨bm, 1, none⟩ = some (.slice B gs.length d))
    (c2 : w.heap[bp]? = some (.cells (planA p) t (0, 0))) (c3 : w.cell? ⟨bi, 0, none⟩ = some (.int .i64 many)) :
    PredFn k49 w (.func (.func 65) #[] #[.pointer (some ⟨bm, 0, none⟩), .pointer (some ⟨bp, 0, none⟩), .pointer (some ⟨bi, 0, none⟩)]) (OkClause x gs) (fun k => brokenF x gs k p many) := by
  refine ⟨65, _, _, rfl, enters_of Tryd.func65 (by kernel_rfl) rfl, fun W r cs hW hd hK => ?_⟩
  obtain rfl := k49_open hK
  have d0 := pw_cell_below hW c0
  have d1 := pw_cell_below hW c1
  have d3 := pw_cell_below hW c3
  have hpl := (hW.block bp (Array.getElem?_eq_some_iff.1 c2).1).trans c2
  have l0 := World.block_lt_of_cell? W _ d0
  have l3 := World.block_lt_of_cell? W _ d3
  have lp := (Array.getElem?_eq_some_iff.1 hpl).1
  have hq := fun (o : Obj) => broken_calls A c x B d gs r p many (W.alloc o) (Kd.C_below hx (hW.trans (((Below.refl _ _).alloc (Nat.le_refl _) _).mono hW.size))) (Kd.C_below hg (hW.trans (((Below.refl _ _).alloc (Nat.le_refl _) _).mono hW.size))) hok hgo hd hp
  have hpl2 := fun (o : Obj) => (Below.heap_alloc W o bp lp).trans hpl
  unfold BrokenIs at hq
  have Hhq := Lib.hid hq
  have Hhpl2 := Lib.hid hpl2
  clear hq hpl2
  clear hx hg hok hgo hd hK c0 c1 c2 c3 hW hpl
  show Calls Tryd.prog 65 #[.agg #[.int .i64 r.f0, .int .i64 r.f1, .bool r.f2, .int .i64 r.f3], .pointer (some ⟨bm, 0, none⟩), .pointer (some ⟨bp, 0, none⟩), .pointer (some ⟨bi, 0, none⟩)] W _
  go_enter Tryd.func65, Tryd.ntmps65
  go_wp2_with (refine ld78 (o := ⟨some 8, _, _, _, _, _⟩) rfl _ rfl _ rfl p t hp (Hhpl2.out _) ?_)
  refine (Hhq.out _).mono ?_
  rintro e w' ⟨rfl, hb⟩
  have hb2 : Below W.heap.size W w' := ((Below.refl _ _).alloc (Nat.le_refl _) _).trans (hb.mono (by simp))
  have Hhb2 := Lib.hid hb2
  clear hb2
  clear hb
  go_wp2
  go_ret
  exact ⟨rfl, Hhb2.out⟩
end Go.Proofs.YtlhnpbdpojcbeaaDoor
end
