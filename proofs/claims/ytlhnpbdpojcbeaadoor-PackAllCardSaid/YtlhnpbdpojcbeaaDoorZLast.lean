/- For every index, goals and bytes the law PackAll returns true, and each argument reads behind the call as it read before.
  Condition: the tables of math/bits for counting zeros hold at the call what the program's text lays in them (the card ties them). -/
import Derived.Test.YtlhnpbdpojcbeaaDoorZ0
import Derived.Test.YtlhnpbdpojcbeaaDoorZ1
import Derived.Test.YtlhnpbdpojcbeaaDoorZ2
import Derived.Test.YtlhnpbdpojcbeaaDoorZ3
import Derived.Test.YtlhnpbdpojcbeaaDoorZ4
import Derived.Test.YtlhnpbdpojcbeaaDoorZ5
import Derived.Test.YtlhnpbdpojcbeaaDoorZ6
import Derived.Test.YtlhnpbdpojcbeaaDoorZ7
import Derived.Test.YtlhnpbdpojcbeaaDoorZ8
import Derived.Test.YtlhnpbdpojcbeaaDoorZ9
import Derived.Test.YtlhnpbdpojcbeaaDoorZ10
import Derived.Test.YtlhnpbdpojcbeaaDoorZ11
import Derived.Test.YtlhnpbdpojcbeaaDoorZ12
import Derived.Test.YtlhnpbdpojcbeaaDoorZ13
import Derived.Test.YtlhnpbdpojcbeaaDoorZ14
import Derived.Test.YtlhnpbdpojcbeaaDoorZ15
import Derived.Test.YtlhnpbdpojcbeaaDoorZ16
import Derived.Test.YtlhnpbdpojcbeaaDoorZ17
import Derived.Test.YtlhnpbdpojcbeaaDoorZ18
import Derived.Test.YtlhnpbdpojcbeaaDoorRows
import Derived.Test.YtlhnpbdpojcbeaaDoorTie
import Derived.Test.YtlhnpbdpojcbeaaDoorCards
import Derived.WalkKit
import Derived.ProofKit
import Derived.OpenShut
import Derived.ChangeOld
import Derived.Below
import Derived.SizedLaws
import Derived.LaidMore
import Derived.Lay
import Derived.SevenTiedAt
import Derived.Stop.Joined
open Go Go.RowKit
namespace Go.Proofs.YtlhnpbdpojcbeaaDoor
open Go.Proofs.YtlhnpbdpojcbeaaDoorW.PrintWords
open PPackAll Go.Shelf Go.ChangeShapes Go.WideShapes Go.ChangeAt
set_option linter.unusedVariables false
set_option linter.unusedSimpArgs false

theorem own : ownKnob Tryd.prog.godebug = none := by kernel_rfl
theorem laidOut : laidOutB Tryd.prog = true := by kernel_rfl
theorem glob64 : Tryd.prog.globalNamed "math/bits.deBruijn64tab" = some 1 := by kernel_rfl
theorem tab64_eq : (Rows.laid_math_bits_deBruijn64tab (H := Unit)) = .agg (Lib.deBruijn64tab.map fun n => .lit (.int .u8 (n : Nat))) := by kernel_rfl
theorem tab64_len : Lib.deBruijn64tab.length = 64 := by kernel_rfl
theorem ty64 : (Tryd.prog.globals[1]?).map (·.type) = some 140 := by kernel_rfl
theorem tab_of_laid {W : World} (h : laidMetH Tryd.prog Rows.packAllRow.laid W) : TabAt 1 Lib.deBruijn64tab W := by
  rw [MakeChecks.laidMetH_plain _ _ _ (by kernel_rfl)] at h
  obtain ⟨ps, ⟨g0, t0, cs0, fuel0, p0, q0, hg0, ht0, hv0, hd0, ⟨g, t, cs, fuel, p, q, hg, ht, hv, hd, _, _⟩, _⟩, _, _⟩ := h
  obtain rfl := Option.some.inj (glob64.symm.trans hg)
  obtain rfl := Option.some.inj (ty64.symm.trans ht)
  obtain ⟨xs, m, _, ex, _, hl, hel⟩ := DataW.trod_array Tryd.underlying140 hd
  intro r hr
  rw [tab64_len] at hr
  have hE := hel r hr
  rw [ccell5, Nat.mul_one, List.getElem?_eq_getElem (by omega)] at hE
  obtain ⟨z, e1, e2, _⟩ := DataW.trod_int Tryd.underlying5 hE
  have e3 : (xs.map (·.1)) = Lib.deBruijn64tab.map fun n => .lit (.int .u8 (n : Nat)) := by
    have := (Prod.mk.inj ex).1
    change Rows.laid_math_bits_deBruijn64tab = _ at this
    rw [tab64_eq] at this
    exact (DataW.agg.inj this).symm
  have e4 : (xs.map (·.1))[r]? = (Lib.deBruijn64tab.map fun n => (DataW.lit (.int .u8 (n : Nat)) : DataW Unit))[r]? := by rw [e3]
  rw [List.getElem?_map, List.getElem?_map, List.getElem?_eq_getElem (by omega : r < xs.length), List.getElem?_eq_getElem (by rw [tab64_len]; exact hr), e2] at e4
  have hz : z = ((Lib.deBruijn64tab.getD r 0 : Nat) : Int) := by
    simp only [Option.map_some, Option.some.injEq, DataW.lit.injEq, Lit.int.injEq, true_and] at e4
    rw [e4, List.getD, List.getElem?_eq_getElem (by rw [tab64_len]; exact hr)]; rfl
  rw [World.var?_cell hg hv r, ← hz]
  have : cs.toList[r]? = some (.int .u8 z) := by
    have h0 : ((cs.toList.drop r).take 1)[0]? = some (.int .u8 z) := by rw [e1]; rfl
    simpa using h0
  simpa using this

set_option maxRecDepth 100000 in
set_option maxHeartbeats 4000000 in
theorem lifted (os : Os) (started : os.Started) (H : Type) (enc : TypeId × Value → H) :
    ReturnsInHanded {} Tryd.checked os 3 .any (fun w args => (Rows.packAllSpec.pre enc Tryd.prog Tryd.f3 Rows.packAllRow.domain false w args ∧ laidMetH Tryd.prog Rows.packAllRow.laid w) ∧ sizedMet enc Tryd.prog Tryd.f3 (OpenSpec.ofChange Rows.packAllSpec) false w args)
      (Rows.packAllSpec.post enc Tryd.prog Tryd.f3 false true false false) := by
  refine returnsInHanded_of_change_and (C := Tryd.checked) (X := fun w _ => laidMetH Tryd.prog Rows.packAllRow.laid w) (fun _ _ _ hh h => h.of_heap hh) own started (by kernel_rfl) Tryd.func3
    (ChangeSpec.witness_shaped (enc := enc) (C := Tryd.checked) (os := os) (X := fun w _ => laidMetH Tryd.prog Rows.packAllRow.laid w) false (World.laidAll Tryd.prog os Rows.packAllRow.laid) #[.agg #[.slice none 0 0], .slice none 0 0, .slice none 0 0] 8 (World.laidAll_os _ _ _)
      (World.shaped_of_ZipB (by kernel_rfl) (by kernel_rfl)) (by kernel_rfl) (by kernel_rfl) (by kernel_rfl)
      (by rw [MakeChecks.laidMetH_plain _ _ _ (by kernel_rfl)]; exact laidMet_laidAll _ (by kernel_rfl) (by kernel_rfl))) ?_
  intro W base args ds gs before hval0 hW hc _ hL _
  have hval : ∀ (j : Nat) t v, Tryd.f3.params[j]? = some t → args[j]? = some v → Value.okWide Tryd.prog W .any base t v := hval0
  have hW' := hW
  obtain ⟨p, q, hA0, hV, rfl, _, _⟩ := hW
  have hA : DataW.TrodAll enc Tryd.prog W 0 (fun _ => true) true Tryd.f3.params.toList args.toList ds p := hA0
  rw [Tryd.params3] at hA hval
  obtain ⟨v0, v1, v2, d0, d1, d2, p0, p1, p2, rfl, rfl, rfl, h0, h1, h2⟩ := trodAll_three hA
  obtain ⟨rfl, rfl⟩ := trodVars_none hV
  obtain ⟨c0, rfl, hsz⟩ := okWide_struct Tryd.underlying24 (hval 0 24 v0 rfl rfl)
  obtain ⟨a1, n1, m1, rfl⟩ := okWide_slice Tryd.underlying25 (hval 1 25 v1 rfl rfl)
  obtain ⟨a2, n2, m2, rfl⟩ := okWide_slice Tryd.underlying26 (hval 2 26 v2 rfl rfl)
  have k0 := h0
  have k1 := h1
  have k2 := h2
  obtain ⟨f0, h0⟩ := h0
  obtain ⟨f1, h1⟩ := h1
  obtain ⟨f2, h2⟩ := h2
  obtain ⟨A, c, x, e0, hcx, hx⟩ := opens_24 _ _ _ h0
  obtain ⟨B, d, g, e1, hcg, hg⟩ := opens_25 _ _ _ h1
  obtain ⟨Y, yc, bs, e2, hyc, hy, hby⟩ := opens_26 _ _ _ h2
  obtain rfl : c0 = #[.slice A x.length c] := by
    simp [Value.cells] at e0
    exact Array.ext' (by simpa using e0)
  simp [Value.cells] at e1 e2
  obtain ⟨rfl, rfl, rfl⟩ := e1
  obtain ⟨rfl, rfl, rfl⟩ := e2
  have hT := tab_of_laid hL
  have hT0 : 1 < W.heap.size := World.block_lt_of_cell? W _ (hT 0 (by rw [tab64_len]; omega))
  have lt : ∀ {t : TypeId} {v : Value} {dd : DataW H} {pp : List MemPlace}, DataW.Trod enc Tryd.prog W 0 (fun _ => true) true t v dd pp → ∀ y ∈ pp, y.block < W.heap.size := by
    rintro t v dd pp ⟨m, hm⟩
    exact DataW.trod_lt m _ _ _ hm
  refine (packall_calls A c x _ _ g _ _ bs W hx hcx hg hcg hy hyc hby hT hT0).mono fun e W' ⟨he, bel⟩ => ?_
  subst he
  exact ⟨_, rfl, _, _, _, [], _, [], hW', trodAll_mk1 (shut_bool Tryd.underlying4 _),
    trodAll_cons_mk (Below.trod laidOut (by kernel_rfl) (of_decide_eq_true (by kernel_rfl)) k0 bel (lt k0)) (trodAll_cons_mk (Below.trod laidOut (by kernel_rfl) (of_decide_eq_true (by kernel_rfl)) k1 bel (lt k1)) (trodAll_cons_mk (Below.trod laidOut (by kernel_rfl) (of_decide_eq_true (by kernel_rfl)) k2 bel (lt k2)) trodAll_mk0)),
    rfl, bel.frame _, fun h => by cases h⟩

theorem packAll_row_holds : Rows.PackAllSaid :=
  OpenClaim.holds_of_wide 3 Tryd.f3 rfl rfl rfl rfl rfl rfl rfl ⟨rfl, rfl, rfl, rfl, rfl⟩ rfl rfl rfl rfl rfl (by kernel_rfl) Tryd.func3 (by kernel_rfl)
    (of_decide_eq_true (by kernel_rfl)) (by unfold Func.isWrapper; first | (rw [if_pos (by decide +kernel)]; kernel_rfl) | (rw [if_neg (by decide +kernel)]; exact ⟨rfl, rfl⟩))
    (fun os started H enc _ => lifted os started H enc)
theorem packAll_holds : Rows.PackAllCardSaid :=
  Claim7.holds_tied_plain_at .later [] [.data, .data] true (true, "a1f85b354deba903719a9e5db87931766b8b2e5d5d0be3c9b73dcf89bd0c4151") true
    packAll_row_holds (fun _ h => by cases h) (by kernel_rfl) (fun _ h => by cases h) packAll_row_tie rfl ⟨rfl, rfl⟩ (by kernel_rfl) rfl
    (fun f fn hf hfn => by
      obtain rfl : f = 3 := Option.some.inj ((show Tryd.prog.funcNamed "swingle/swinglelaw26.PackAll" = some 3 by kernel_rfl).symm.trans hf) |>.symm
      obtain rfl : fn = Tryd.f3 := (Option.some.inj (Tryd.func3.symm.trans hfn)).symm
      exact ⟨by kernel_rfl, fun j t ht => by
        rw [Tryd.params3] at ht
        have h3 : t = 24 ∨ t = 25 ∨ t = 26 := by
          rcases j with _ | _ | _ | j
          · exact .inl (by simpa using ht.symm)
          · exact .inr (.inl (by simpa using ht.symm))
          · exact .inr (.inr (by simpa using ht.symm))
          · simp at ht
        rcases h3 with rfl | rfl | rfl
        · exact (show Tryd.prog.wantsStandIn 24 = false by kernel_rfl)
        · exact (show Tryd.prog.wantsStandIn 25 = false by kernel_rfl)
        · exact (show Tryd.prog.wantsStandIn 26 = false by kernel_rfl)⟩)
    (by kernel_rfl)
#print axioms packAll_holds
end Go.Proofs.YtlhnpbdpojcbeaaDoor
