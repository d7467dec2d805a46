/- Lemmas of this proof, part 16. -/
import Derived.Test.YtlhnpbdpojcbeaaDoorZ0
import Derived.Test.YtlhnpbdpojcbeaaDoorZ1
import Derived.Test.YtlhnpbdpojcbeaaDoorZ2
import Derived.Test.YtlhnpbdpojcbeaaDoorZ3
import Derived.Test.YtlhnpbdpojcbeaaDoorZ4
import Derived.Test.YtlhnpbdpojcbeaaDoorZ5
import Derived.Test.YtlhnpbdpojcbeaaDoorZ6
import Derived.Test.YtlhnpbdpojcbeaaDoorZ7
import Derived.Test.YtlhnpbdpojcbeaaDoorZ8
import Derived.Test.YtlhnpbdpojcbeaaDoorZ9
import Derived.Test.YtlhnpbdpojcbeaaDoorZ10
import Derived.Test.YtlhnpbdpojcbeaaDoorZ11
import Derived.Test.YtlhnpbdpojcbeaaDoorZ12
import Derived.Test.YtlhnpbdpojcbeaaDoorZ13
import Derived.Test.YtlhnpbdpojcbeaaDoorZ14
import Derived.Test.YtlhnpbdpojcbeaaDoorZ15
import Derived.Laws.Tables
section
open Go Go.RowKit
namespace Go.Proofs.YtlhnpbdpojcbeaaDoor
open Go.Proofs.YtlhnpbdpojcbeaaDoorW.PrintWords
open PPackAll Go.Shelf
set_option linter.unusedVariables false
set_option linter.unusedSimpArgs false
theorem range_f (x : List (List S60)) (r : S68) (hN : x.length ≤ 9) (h6 : ∀ i, i < x.length → (x.getD i []).length ≤ 6) : swingleref26_Range.f x r.f0 r.f1 r.f2 = some (decide (OkRange x r)) := by
  unfold swingleref26_Range.f
  have e : wrap64 ((x.length : Int) - 1) = (x.length : Int) - 1 := by unfold wrap64; omega
  rw [e, in_is]
  unfold withinF
  simp only [Option.bind_some]
  by_cases h0 : 0 ≤ r.f0 ∧ r.f0 ≤ (x.length : Int) - 1
  · rw [decide_eq_true h0, if_pos rfl]
    have h6' := h6 r.f0.toNat (by omega)
    have e2 : wrap64 (((rd_L4 x r.f0).length : Int) - 1) = ((x.getD r.f0.toNat []).length : Int) - 1 := by
      have : (rd_L4 x r.f0).length = (x.getD r.f0.toNat []).length := rfl
      rw [this]; unfold wrap64; omega
    by_cases h1 : r.f1 ≥ 0
    · rw [if_pos h1]
      by_cases h2 : r.f2 ≥ r.f1
      · rw [if_pos h2, if_pos h0.1, if_pos (by omega), e2]
        congr 1
        rw [decide_eq_decide]
        unfold OkRange
        omega
      · rw [if_neg h2, decide_eq_false (by unfold OkRange; omega)]
    · rw [if_neg h1, decide_eq_false (by unfold OkRange; omega)]
  · rw [decide_eq_false h0]
    simp only [Bool.false_eq_true, if_false]
    rw [decide_eq_false (by unfold OkRange; omega)]
theorem ranges_ev (x : List (List S60)) (l : List S68) (own : Int) (hN : x.length ≤ 9) (h6 : ∀ i, i < x.length → (x.getD i []).length ≤ 6) (hl : l.length ≤ 100) : ∀ (n i : Nat), i + n = l.length → (∀ j : Nat, j < i → OkRange x (rd_T68 l j) ∧ (rd_T68 l j).f0 ≠ own) →
    ∃ r, Ev (fun k => swingleref26_ranges.l0 k l 4 own (i : Int) x) r ∧ (r = true → l.length ≤ 4 ∧ ∀ j : Nat, j < l.length → OkRange x (rd_T68 l j) ∧ (rd_T68 l j).f0 ≠ own) := by
  have hout : ∀ (i : Nat), Ev (fun k => swingleref26_ranges.j1 k l 4 own (i : Int) false x) (decide ((l.length : Int) ≤ 4)) := fun i =>
    Ev.succ (g := fun _ => some _) (fun k => by simp [swingleref26_ranges.j1]) (Ev.const _)
  intro n
  induction n with
  | zero =>
    intro i hi hp
    obtain rfl : i = l.length := by omega
    refine ⟨_, Ev.succ (fun k => ?_) (hout l.length), fun h => ⟨by have := of_decide_eq_true h; omega, hp⟩⟩
    show swingleref26_ranges.l0 (k + 1) l 4 own _ x = _
    conv => lhs; unfold swingleref26_ranges.l0
    rw [if_neg (by omega)]
  | succ n ih =>
    intro i hi hp
    by_cases h4 : i < 4
    · by_cases hr : OkRange x (rd_T68 l i) ∧ (rd_T68 l i).f0 ≠ own
      · obtain ⟨r, e1, e2⟩ := ih (i + 1) (by omega) (fun j hj => by
          by_cases hc : j = i
          · rw [hc]; exact hr
          · exact hp j (by omega))
        refine ⟨r, Ev.succ (g := fun k => swingleref26_ranges.j1 k l 4 own (i : Int) true x) (fun k => ?_) (Ev.succ (fun k => ?_) e1), e2⟩
        · show swingleref26_ranges.l0 (k + 1) l 4 own _ x = _
          conv => lhs; unfold swingleref26_ranges.l0
          rw [if_pos (by omega), decide_eq_true (show (i : Int) < 4 by omega)]
        · show swingleref26_ranges.j1 (k + 1) l 4 own _ true x = _
          conv => lhs; unfold swingleref26_ranges.j1
          rw [if_pos rfl, if_pos (by omega), if_pos (by omega), range_f x _ hN h6, decide_eq_true hr.1]
          simp only [Option.bind_some, if_true]
          rw [if_neg hr.2, w64 i (by omega)]
      · refine ⟨false, Ev.succ (g := fun k => swingleref26_ranges.j1 k l 4 own (i : Int) true x) (fun k => ?_) (Ev.succ (g := fun _ => some false) (fun k => ?_) (Ev.const _)), fun h => by cases h⟩
        · show swingleref26_ranges.l0 (k + 1) l 4 own _ x = _
          conv => lhs; unfold swingleref26_ranges.l0
          rw [if_pos (by omega), decide_eq_true (show (i : Int) < 4 by omega)]
        · show swingleref26_ranges.j1 (k + 1) l 4 own _ true x = _
          conv => lhs; unfold swingleref26_ranges.j1
          rw [if_pos rfl, if_pos (by omega), if_pos (by omega), range_f x _ hN h6]
          by_cases ho : OkRange x (rd_T68 l i)
          · rw [decide_eq_true ho]
            simp only [Option.bind_some, if_true]
            rw [if_pos (Classical.byContradiction fun h => hr ⟨ho, h⟩)]
          · rw [decide_eq_false ho]
            simp only [Option.bind_some, Bool.false_eq_true, if_false]
    · refine ⟨_, Ev.succ (fun k => ?_) (hout i), fun h => ?_⟩
      · show swingleref26_ranges.l0 (k + 1) l 4 own _ x = _
        conv => lhs; unfold swingleref26_ranges.l0
        rw [if_pos (by omega), decide_eq_false (show ¬ (i : Int) < 4 by omega)]
      · have := of_decide_eq_true h
        omega
theorem ranges_f (x : List (List S60)) (l : List S68) (own : Int) (hN : x.length ≤ 9) (h6 : ∀ i, i < x.length → (x.getD i []).length ≤ 6) (hl : l.length ≤ 100) :
    ∃ r, Ev (fun k => swingleref26_ranges.f k x l 4 own) r ∧ (r = true → l.length ≤ 4 ∧ ∀ n ∈ l, OkRange x n ∧ n.f0 ≠ own) := by
  obtain ⟨r, e1, e2⟩ := ranges_ev x l own hN h6 hl l.length 0 (by omega) (fun j hj => by omega)
  refine ⟨r, e1, fun h => ⟨(e2 h).1, fun n hn => ?_⟩⟩
  obtain ⟨j, hj, rfl⟩ := List.mem_iff_getElem.1 hn
  have := (e2 h).2 j hj
  rwa [get_T68 l j hj] at this
theorem idx_l1 (x : List (List S60)) (i : Nat) (hi : i < x.length) (hN : x.length ≤ 9) (hs : ∀ i, i < x.length → SmallP x i) (h5 : (x.getD i []).length ≤ 5) (T : Prop)
    (hnext : ∃ r, Ev (fun k => swingleref26_Index.l0 k ((i + 1 : Nat) : Int) x) r ∧ (r = true → T)) : ∀ (n j : Nat), j + n = (x.getD i []).length → (∀ j' : Nat, j' < j → OkRel x i (rd_T60 (rd_L4 x i) j')) →
    ∃ r, Ev (fun k => swingleref26_Index.l1 k (i : Int) (j : Int) x) r ∧ (r = true → T ∧ ∀ j' : Nat, j' < (x.getD i []).length → OkRel x i (rd_T60 (rd_L4 x i) j')) := by
  intro n
  induction n with
  | zero =>
    intro j hj hp
    obtain ⟨r, h1, h2⟩ := hnext
    obtain rfl : j = (x.getD i []).length := by omega
    refine ⟨r, Ev.succ (fun k => ?_) h1, fun h => ⟨h2 h, hp⟩⟩
    show swingleref26_Index.l1 (k + 1) _ _ x = _
    conv => lhs; unfold swingleref26_Index.l1
    rw [if_pos (by omega), if_pos (by omega), if_neg (by rw [l4_len]; omega), w64 i (by omega)]
  | succ n ih =>
    intro j hj hp
    have hb := (hs i hi).2 j (by omega)
    obtain ⟨r0, a1, a2⟩ := ranges_f x (rd_T60 (rd_L4 x i) j).f0 i hN (fun i hi => (hs i hi).1) (by omega)
    obtain ⟨r1, b1, b2⟩ := ranges_f x (rd_T60 (rd_L4 x i) j).f1 i hN (fun i hi => (hs i hi).1) (by omega)
    have hun : ∀ (r : Bool), Ev (fun k => (swingleref26_ranges.f k x ((rd_T60 (rd_L4 x i) j).f0) 4 i).bind fun t122 => (if t122 = true then ((swingleref26_ranges.f k x ((rd_T60 (rd_L4 x i) j).f1) 4 i).bind fun t123 => (if t123 = true then (swingleref26_Index.l1 k i (wrap64 ((j : Int) + 1)) x) else (some false))) else (some false))) r →
        Ev (fun k => swingleref26_Index.l1 k (i : Int) (j : Int) x) r := fun r h => by
      refine Ev.succ (fun k => ?_) h
      show swingleref26_Index.l1 (k + 1) _ _ x = _
      conv => lhs; unfold swingleref26_Index.l1
      rw [if_pos (by omega), if_pos (by omega), if_pos (by rw [l4_len]; omega), if_pos (by omega)]
    cases r0 with
    | false => exact ⟨false, hun _ (Ev.bind a1 (Ev.const _)), fun h => by cases h⟩
    | true =>
      cases r1 with
      | false => exact ⟨false, hun _ (Ev.bind a1 (Ev.bind b1 (Ev.const _))), fun h => by cases h⟩
      | true =>
        have hrel : OkRel x i (rd_T60 (rd_L4 x i) j) := ⟨(a2 rfl).1, (b2 rfl).1, (a2 rfl).2, (b2 rfl).2⟩
        obtain ⟨r, e1, e2⟩ := ih (j + 1) (by omega) (fun j' hj' => by
          by_cases hc : j' = j
          · rw [hc]; exact hrel
          · exact hp j' (by omega))
        refine ⟨r, hun _ (Ev.bind a1 (Ev.bind b1 ?_)), e2⟩
        rw [w64 j (by omega)]
        exact e1
theorem idx_l0 (x : List (List S60)) (hN : x.length ≤ 9) (hs : ∀ i, i < x.length → SmallP x i) : ∀ (n i : Nat), i + n = x.length →
    ∃ r, Ev (fun k => swingleref26_Index.l0 k (i : Int) x) r ∧ (r = true → ∀ i', i ≤ i' → i' < x.length → (x.getD i' []).length ≤ 5 ∧ ∀ j' : Nat, j' < (x.getD i' []).length → OkRel x i' (rd_T60 (rd_L4 x i') j')) := by
  intro n
  induction n with
  | zero =>
    intro i hi
    refine ⟨true, Ev.succ (g := fun _ => some _) (fun k => ?_) (Ev.const _), fun _ i' h1 h2 => by omega⟩
    show swingleref26_Index.l0 (k + 1) _ x = _
    unfold swingleref26_Index.l0
    rw [if_neg (by omega)]
  | succ n ih =>
    intro i hi
    by_cases h5 : (x.getD i []).length ≤ 5
    · obtain ⟨r, e1, e2⟩ := idx_l1 x i (by omega) hN hs h5 _ (ih (i + 1) (by omega)) _ 0 (Nat.zero_add _) (fun j' hj' => by omega)
      refine ⟨r, Ev.succ (fun k => ?_) e1, fun h i' h1 h2 => ?_⟩
      · show swingleref26_Index.l0 (k + 1) _ x = _
        conv => lhs; unfold swingleref26_Index.l0
        rw [if_pos (by omega), if_pos (by omega), if_neg (by rw [l4_len]; omega)]
        rfl
      · obtain ⟨t, s⟩ := e2 h
        by_cases hc : i' = i
        · subst hc; exact ⟨h5, s⟩
        · exact t i' (by omega) h2
    · refine ⟨false, Ev.succ (g := fun _ => some _) (fun k => ?_) (Ev.const _), fun h => by cases h⟩
      show swingleref26_Index.l0 (k + 1) _ x = _
      unfold swingleref26_Index.l0
      rw [if_pos (by omega), if_pos (by omega), if_pos (by rw [l4_len]; omega)]
theorem index_ok_ev (x : List (List S60)) (hN : x.length ≤ 9) (hs : ∀ i, i < x.length → SmallP x i) : ∃ r, Ev (fun k => swingleref26_Index.f k x) r ∧ (r = true → OkIdx x) := by
  obtain ⟨r, e1, e2⟩ := idx_l0 x hN hs x.length 0 (by omega)
  have hin := in_is (x.length : Int) 1 8
  by_cases h : 1 ≤ (x.length : Int) ∧ (x.length : Int) ≤ 8
  · refine ⟨r, Ev.congr (g := fun k => swingleref26_Index.l0 k 0 x) (fun k => ?_) e1, fun hr => ⟨by omega, by omega, fun i hi => ?_⟩⟩
    · unfold swingleref26_Index.f
      rw [hin]
      unfold withinF
      rw [decide_eq_true h]
      simp
    · obtain ⟨a, b⟩ := e2 hr i (by omega) hi
      refine ⟨a, fun q hq => ?_⟩
      obtain ⟨j, hj, rfl⟩ := List.mem_iff_getElem.1 hq
      have := b j hj
      have e : rd_T60 (rd_L4 x i) (j : Int) = (x.getD i [])[j] := by
        unfold rd_T60 rd_L4
        rw [Int.toNat_natCast, Int.toNat_natCast, List.getD_eq_getElem?_getD, List.getElem?_eq_getElem hj]
        rfl
      rwa [e] at this
  · refine ⟨false, Ev.congr (g := fun _ => some false) (fun k => ?_) (Ev.const _), fun h => by cases h⟩
    unfold swingleref26_Index.f
    rw [hin]
    unfold withinF
    rw [decide_eq_false h]
    simp
theorem fine_ev (x : List (List S60)) (gs : List S68) (hN : x.length ≤ 9) (hs : ∀ i, i < x.length → SmallP x i) (hg : gs.length ≤ 9) : ∃ r, Ev (fun k => swinglelaw26_fine.f k x gs) r ∧ (r = true → OkIdx x ∧ OkGoals x gs) := by
  obtain ⟨r0, a1, a2⟩ := index_ok_ev x hN hs
  obtain ⟨r1, b1, b2⟩ := ranges_f x gs (-1) hN (fun i hi => (hs i hi).1) (by omega)
  cases r0 with
  | false => exact ⟨false, Ev.bind a1 (Ev.const _), fun h => by cases h⟩
  | true => exact ⟨r1, Ev.bind a1 (Ev.bind (Ev.bind b1 (Ev.const _)) (Ev.const _)), fun h => ⟨a2 rfl, (b2 h).1, fun g hm => ((b2 h).2 g hm).1⟩⟩
theorem tmod_in {a b : Int} (ha : 0 ≤ a) (hb : 0 < b) : 0 ≤ Int.tmod a b ∧ Int.tmod a b < b := by
  rw [Int.tmod_eq_emod_of_nonneg ha]
  exact ⟨Int.emod_nonneg _ (by omega), Int.emod_lt_of_pos _ hb⟩
theorem drawn_ev (x : List (List S60)) (bs : List Int) (from_ : Nat) (h8 : x.length ≤ 8) (h5 : ∀ i, i < x.length → (x.getD i []).length ≤ 5) (hb : ∀ b ∈ bs, 0 ≤ b ∧ b < 256) (hbl : bs.length ≤ 9223372036854775807) (hf : from_ ≤ 1000) :
    ∀ (n i : Nat) (out : List Int), i + n = x.length → out.length = x.length → (∀ j : Nat, j < i → -1 ≤ rd out j ∧ rd out j < ((x.getD j []).length : Int)) →
      ∃ p, Ev (fun k => swinglelaw26_drawn.l0 k bs (from_ : Int) out x (x.length : Int) (i : Int)) p ∧ InR x p := by
  intro n
  induction n with
  | zero =>
    intro i out hi hl hp
    obtain rfl : i = x.length := by omega
    refine ⟨out, Ev.succ (g := fun _ => some _) (fun k => ?_) (Ev.const _), hl, hp⟩
    show swinglelaw26_drawn.l0 (k + 1) _ _ _ _ _ _ = _
    unfold swinglelaw26_drawn.l0
    rw [if_neg (by omega)]
  | succ n ih =>
    intro i out hi hl hp
    have hl5 := h5 i (by omega)
    have hstep : ∀ v : Int, -1 ≤ v → v < ((x.getD i []).length : Int) → ∀ out' : List Int, out'.length = x.length → (∀ j : Nat, j < i → rd out' j = rd out j) → rd out' i = v → ∀ j : Nat, j < i + 1 → -1 ≤ rd out' j ∧ rd out' j < ((x.getD j []).length : Int) := by
      intro v h0 h1 out' _ hs he j hj
      by_cases hc : j = i
      · subst hc; rw [he]; exact ⟨h0, h1⟩
      · rw [hs j (by omega)]; exact hp j (by omega)
    by_cases hz : bs.length = 0
    · obtain ⟨p, e1, e2⟩ := ih (i + 1) (out.set i (-1)) (by omega) (by rw [List.length_set]; exact hl) (hstep (-1) (by omega) (by omega) _ (by rw [List.length_set]; exact hl) (fun j hj => rd_set_ne _ _ _ _ (by omega)) (rd_set_same _ _ _ (by omega)))
      refine ⟨p, Ev.succ (fun k => ?_) e1, e2⟩
      show swinglelaw26_drawn.l0 (k + 1) _ _ _ _ _ _ = _
      conv => lhs; unfold swinglelaw26_drawn.l0
      rw [if_pos (by omega), if_pos (by omega), if_pos (by omega), if_pos (by omega)]
      simp only [Option.bind_some, Int.toNat_natCast]
      rw [if_neg (by omega), w64 i (by omega)]
    · have c0 : (0 : Int) ≤ (from_ : Int) + i := by omega
      have c1 : (0 : Int) < bs.length := by omega
      have c2 : (i : Int) < (x.length : Int) := by omega
      have c3 : (0 : Int) ≤ (i : Int) := by omega
      have c4 : (i : Int) < (out.length : Int) := by omega
      have c5 : ¬ (bs.length : Int) = 0 := by omega
      have c6 : ¬ ((x.getD i []).length : Int) + 1 = 0 := by omega
      have c7 : (0 : Int) < ((x.getD i []).length : Int) + 1 := by omega
      obtain ⟨hx0, hx1⟩ := tmod_in c0 c1
      have hkb := hb (rd bs (Int.tmod ((from_ : Int) + i) bs.length)) (by unfold rd; exact getD_mem _ _ _ (by omega))
      obtain ⟨t0, t1⟩ := tmod_in hkb.1 c7
      generalize htm : Int.tmod (rd bs (Int.tmod ((from_ : Int) + i) bs.length)) (((x.getD i []).length : Int) + 1) = tm at t0 t1
      obtain ⟨p, e1, e2⟩ := ih (i + 1) ((out.set i (-1)).set i (tm - 1)) (by omega) (by rw [List.length_set, List.length_set]; exact hl) (hstep (tm - 1) (by omega) (by omega) _ (by rw [List.length_set, List.length_set]; exact hl)
        (fun j hj => by rw [rd_set_ne _ _ _ _ (by omega), rd_set_ne _ _ _ _ (by omega)]) (rd_set_same _ _ _ (by rw [List.length_set]; omega)))
      refine ⟨p, Ev.succ (fun k => ?_) e1, e2⟩
      show swinglelaw26_drawn.l0 (k + 1) _ _ _ _ _ _ = _
      have wi := w64 i (by omega)
      have d1 : -9223372036854775808 ≤ (from_ : Int) + i ∧ (from_ : Int) + i ≤ 9223372036854775807 := by clear wi; omega
      have d2 : -9223372036854775808 ≤ ((x.getD i []).length : Int) + 1 ∧ ((x.getD i []).length : Int) + 1 ≤ 9223372036854775807 := by clear wi; omega
      have d3 : -9223372036854775808 ≤ tm - 1 ∧ tm - 1 ≤ 9223372036854775807 := by clear wi; omega
      have hfi : wrap64 ((from_ : Int) + i) = (from_ : Int) + i := IntWalk.wrap64_in _ d1
      have w1 : wrap64 (rd bs (Int.tmod ((from_ : Int) + i) bs.length)) = rd bs (Int.tmod ((from_ : Int) + i) bs.length) := IntWalk.wrap64_in _ ⟨Int.le_trans (by decide) hkb.1, Int.le_trans (Int.le_of_lt hkb.2) (by decide)⟩
      have w2 : wrap64 (((rd_L4 x (i : Int)).length : Int) + 1) = ((x.getD i []).length : Int) + 1 := by rw [l4_len]; exact IntWalk.wrap64_in _ d2
      have w3 : wrap64 (tm - 1) = tm - 1 := IntWalk.wrap64_in _ d3
      conv => lhs; unfold swinglelaw26_drawn.l0
      rw [if_pos c2, if_pos c3, if_pos c2, if_pos c4]
      simp only [Option.bind_some, Int.toNat_natCast]
      rw [if_pos c1, if_neg c5, hfi, if_pos hx0, if_pos hx1, w2, if_neg c6, w1, htm, w3, wi]
theorem drawn_f (x : List (List S60)) (bs : List Int) (from_ : Nat) (hok : OkIdx x) (hb : ∀ b ∈ bs, 0 ≤ b ∧ b < 256) (hbl : bs.length ≤ 9223372036854775807) (hf : from_ ≤ 1000) : ∃ p, Ev (fun k => swinglelaw26_drawn.f k x bs (from_ : Int)) p ∧ InR x p := by
  have h8 := hok.2.1
  obtain ⟨p, e1, e2⟩ := drawn_ev x bs from_ h8 (fun i hi => (hok.2.2 i hi).1) hb hbl hf x.length 0 (List.replicate x.length 0) (by omega) (by simp) (fun j hj => by omega)
  refine ⟨p, Ev.congr (fun k => ?_) e1, e2⟩
  unfold swinglelaw26_drawn.f
  have h1 : (0 : Int) ≤ (x.length : Int) := by omega
  have h2 : (x.length : Int).toNat ≤ 35184372088832 := by rw [Int.toNat_natCast]; omega
  rw [if_pos h1, if_pos h2, Int.toNat_natCast]
  rfl
end Go.Proofs.YtlhnpbdpojcbeaaDoor
end
section
open Go Go.RowKit
namespace Go.Proofs.YtlhnpbdpojcbeaaDoor
open Go.Proofs.YtlhnpbdpojcbeaaDoorW.PrintWords
open PPackAll Go.Shelf
set_option linter.unusedVariables false
set_option linter.unusedSimpArgs false
def Yes (w : World) (e : Ending) (w' : World) : Prop := e = .returned (.bool true) ∧ Below w.heap.size w w'
set_option maxRecDepth 100000 in
set_option maxHeartbeats 4000000 in
theorem packall_big (A : Option Addr) (c : Nat) (x : List (List S60)) (B : Option Addr) (d : Nat) (gs : List S68) (Y : Option Addr) (y yc : Nat) (w : World) (ks : Nat)
    (hx : Kd.C (Kd.slice 60 k60) w A x.length x) (hcx : x.length ≤ c) (hs : swingleref26_Small.f ks x 8 = some false) :
    Calls Tryd.prog 3 #[.agg #[.slice A x.length c], .slice B gs.length d, .slice Y y yc] w (Yes w) := by
  have hsm := fun (W : World) (hb : Below w.heap.size w W) => swingleref26_Small.calls ks A c x 8 false W (Kd.C_below hx hb) hcx hs
  have hwk := fun (W : World) => works_calls W
  have Hhsm := Lib.hid hsm
  have Hhwk := Lib.hid hwk
  clear hsm hwk
  clear hx
  go_enter Tryd.func3, Tryd.ntmps3
  go_wp2_with fail
  refine (Hhsm.out _ ?_).mono ?_
  · (repeat (first | exact Below.refl _ _ | refine pw_below_drewN ?_ _ | refine below_drew ?_ | refine Below.alloc ?_ (by first | omega | (simp; done) | (simp; omega)) _ | refine Below.setCell ?_ (by first | omega | (simp; done) | (simp; omega)) _))
  rintro e V ⟨rfl, hb⟩
  have hb2 : Below w.heap.size w V := by
    refine Below.trans ?_ (hb.mono ?_)
    · (repeat (first | exact Below.refl _ _ | refine pw_below_drewN ?_ _ | refine below_drew ?_ | refine Below.alloc ?_ (by first | omega | (simp; done) | (simp; omega)) _ | refine Below.setCell ?_ (by first | omega | (simp; done) | (simp; omega)) _))
    · simp; try omega
  have Hhb2 := Lib.hid hb2
  clear hb2
  clear hb
  go_wp2_with fail
  refine (Hhwk.out _).mono ?_
  rintro e V2 ⟨rfl, hb⟩
  have hb3 := Hhb2.out.trans (hb.mono Hhb2.out.size)
  have Hhb3 := Lib.hid hb3
  clear hb3
  clear hb
  go_wp2
  go_ret
  exact ⟨rfl, Hhb3.out⟩
set_option maxRecDepth 100000 in
set_option maxHeartbeats 4000000 in
theorem packall_long (A : Option Addr) (c : Nat) (x : List (List S60)) (B : Option Addr) (d : Nat) (gs : List S68) (Y : Option Addr) (y yc : Nat) (w : World) (ks : Nat)
    (hx : Kd.C (Kd.slice 60 k60) w A x.length x) (hcx : x.length ≤ c) (hs : swingleref26_Small.f ks x 8 = some true) (hl : 9 < gs.length) :
    Calls Tryd.prog 3 #[.agg #[.slice A x.length c], .slice B gs.length d, .slice Y y yc] w (Yes w) := by
  have hsm := fun (W : World) (hb : Below w.heap.size w W) => swingleref26_Small.calls ks A c x 8 true W (Kd.C_below hx hb) hcx hs
  have hwk := fun (W : World) => works_calls W
  have hd9 : decide ((gs.length : Int) > 9) = true := decide_eq_true (by omega)
  have hl9 : (9 : Int) < gs.length := by omega
  have Hhsm := Lib.hid hsm
  have Hhwk := Lib.hid hwk
  clear hsm hwk
  clear hx
  go_enter Tryd.func3, Tryd.ntmps3
  go_wp2_with fail
  refine (Hhsm.out _ ?_).mono ?_
  · (repeat (first | exact Below.refl _ _ | refine pw_below_drewN ?_ _ | refine below_drew ?_ | refine Below.alloc ?_ (by first | omega | (simp; done) | (simp; omega)) _ | refine Below.setCell ?_ (by first | omega | (simp; done) | (simp; omega)) _))
  rintro e V ⟨rfl, hb⟩
  have hb2 : Below w.heap.size w V := by
    refine Below.trans ?_ (hb.mono ?_)
    · (repeat (first | exact Below.refl _ _ | refine pw_below_drewN ?_ _ | refine below_drew ?_ | refine Below.alloc ?_ (by first | omega | (simp; done) | (simp; omega)) _ | refine Below.setCell ?_ (by first | omega | (simp; done) | (simp; omega)) _))
    · simp; try omega
  have b1 := hb.cell (p := ⟨w.heap.size + 1, 0, none⟩) (by simp)
  simp [go_sem] at b1
  have Hhb2 := Lib.hid hb2
  clear hb2
  clear hb
  go_wp2_with fail
  refine (Hhwk.out _).mono ?_
  rintro e V2 ⟨rfl, hb⟩
  have hb3 := Hhb2.out.trans (hb.mono Hhb2.out.size)
  have Hhb3 := Lib.hid hb3
  clear hb3
  clear hb
  go_wp2
  go_ret
  exact ⟨rfl, Hhb3.out⟩
set_option maxRecDepth 100000 in
set_option maxHeartbeats 4000000 in
theorem packall_unfine (A : Option Addr) (c : Nat) (x : List (List S60)) (B : Option Addr) (d : Nat) (gs : List S68) (Y : Option Addr) (y yc : Nat) (w : World) (ks kf : Nat)
    (hx : Kd.C (Kd.slice 60 k60) w A x.length x) (hcx : x.length ≤ c) (hg : k68.C w B gs.length gs) (hcg : gs.length ≤ d) (hs : swingleref26_Small.f ks x 8 = some true) (hl : gs.length ≤ 9) (hf : swinglelaw26_fine.f kf x gs = some false) :
    Calls Tryd.prog 3 #[.agg #[.slice A x.length c], .slice B gs.length d, .slice Y y yc] w (Yes w) := by
  have hsm := fun (W : World) (hb : Below w.heap.size w W) => swingleref26_Small.calls ks A c x 8 true W (Kd.C_below hx hb) hcx hs
  have hfn := fun (W : World) (hb : Below w.heap.size w W) => swinglelaw26_fine.calls kf A c x B d gs false W (Kd.C_below hx hb) hcx (Kd.C_below hg hb) hcg hf
  have hwk := fun (W : World) => works_calls W
  have hd9 : decide ((gs.length : Int) > 9) = false := decide_eq_false (by omega)
  have hl9 : ¬ (9 : Int) < gs.length := by omega
  have Hhsm := Lib.hid hsm
  have Hhwk := Lib.hid hwk
  have Hhfn := Lib.hid hfn
  clear hsm hwk hfn
  clear hx hg
  go_enter Tryd.func3, Tryd.ntmps3
  go_wp2_with fail
  refine (Hhsm.out _ ?_).mono ?_
  · (repeat (first | exact Below.refl _ _ | refine pw_below_drewN ?_ _ | refine below_drew ?_ | refine Below.alloc ?_ (by first | omega | (simp; done) | (simp; omega)) _ | refine Below.setCell ?_ (by first | omega | (simp; done) | (simp; omega)) _))
  rintro e V ⟨rfl, hb⟩
  have hb2 : Below w.heap.size w V := by
    refine Below.trans ?_ (hb.mono ?_)
    · (repeat (first | exact Below.refl _ _ | refine pw_below_drewN ?_ _ | refine below_drew ?_ | refine Below.alloc ?_ (by first | omega | (simp; done) | (simp; omega)) _ | refine Below.setCell ?_ (by first | omega | (simp; done) | (simp; omega)) _))
    · simp; try omega
  have b0 := hb.cell (p := ⟨w.heap.size, 0, none⟩) (by simp; omega)
  have b1 := hb.cell (p := ⟨w.heap.size + 1, 0, none⟩) (by simp)
  simp [go_sem] at b0 b1
  have Hhb2 := Lib.hid hb2
  clear hb2
  clear hb
  go_wp2_with fail
  refine (Hhfn.out _ Hhb2.out).mono ?_
  rintro e V1 ⟨rfl, hb⟩
  have hb3 := Hhb2.out.trans (hb.mono Hhb2.out.size)
  have Hhb3 := Lib.hid hb3
  clear hb3
  clear hb
  go_wp2_with fail
  refine (Hhwk.out _).mono ?_
  rintro e V2 ⟨rfl, hb⟩
  have hb4 := Hhb3.out.trans (hb.mono Hhb3.out.size)
  have Hhb4 := Lib.hid hb4
  clear hb4
  clear hb
  go_wp2
  go_ret
  exact ⟨rfl, Hhb4.out⟩
end Go.Proofs.YtlhnpbdpojcbeaaDoor
end
section
open Go Go.RowKit
namespace Go.Proofs.YtlhnpbdpojcbeaaDoor
open Go.Proofs.YtlhnpbdpojcbeaaDoorW.PrintWords
open PPackAll Go.Shelf
attribute [local go_sem] Oper.semAt_some
set_option linter.unusedVariables false
set_option linter.unusedSimpArgs false
def Marks (lo : Nat) (ds : List Deferred) (V : World) : Prop :=
  ∃ rs : List Nat, ds = rs.map (fun r => ({ target := .collected r, args := #[] } : Deferred)) ∧ rs.Nodup ∧ ∀ r ∈ rs, lo ≤ r ∧ V.heap[r]? = some (.deferred (some []))
theorem Marks.nil (lo : Nat) (V : World) : Marks lo [] V := ⟨[], rfl, List.nodup_nil, fun r h => by cases h⟩
theorem Marks.cons {lo : Nat} {ds : List Deferred} {V : World} (h : Marks lo ds V) {V' : World} {r : Nat} (hlo : lo ≤ r) (hnew : V.heap.size ≤ r) (hr : V'.heap[r]? = some (.deferred (some [])))
    (hk : ∀ k, k < V.heap.size → V.heap[k]? = some (.deferred (some [])) → lo ≤ k → V'.heap[k]? = some (.deferred (some []))) : Marks lo ({ target := .collected r, args := #[] } :: ds) V' := by
  obtain ⟨rs, h1, h2, h3⟩ := h
  refine ⟨r :: rs, by rw [h1]; rfl, List.nodup_cons.2 ⟨fun hm => ?_, h2⟩, fun r' hm => ?_⟩
  · have := (Array.getElem?_eq_some_iff.1 (h3 r hm).2).1; omega
  · rcases List.mem_cons.1 hm with rfl | hm
    · exact ⟨hlo, hr⟩
    · have := h3 r' hm
      exact ⟨this.1, hk r' (Array.getElem?_eq_some_iff.1 this.2).1 this.2 this.1⟩
theorem Marks.keep {lo : Nat} {ds : List Deferred} {V V' : World} (h : Marks lo ds V) (hk : ∀ k, lo ≤ k → V.heap[k]? = some (.deferred (some [])) → V'.heap[k]? = some (.deferred (some []))) : Marks lo ds V' := by
  obtain ⟨rs, h1, h2, h3⟩ := h
  exact ⟨rs, h1, h2, fun r hm => ⟨(h3 r hm).1, hk r (h3 r hm).1 (h3 r hm).2⟩⟩
theorem leaves_marks {F : Fence} {n : Nat} {fn : Func} {tmps : Array Value} {R : Ending → World → Prop} {lo : Nat} : ∀ (rs : List Nat) (V : World), rs.Nodup → (∀ r ∈ rs, lo ≤ r ∧ V.heap[r]? = some (.deferred (some []))) →
    (∀ V', Keep (fun k => lo ≤ k ∧ ∃ o, V.heap[k]? = some (.deferred o)) V V' → ∃ v, (results fn tmps).run Tryd.prog V' = .ok v V' ∧ R (.returned v) V') →
    LeavesInM F n Tryd.prog fn tmps R (rs.map (fun r => ({ target := .collected r, args := #[] } : Deferred))) .returning V := by
  intro rs
  induction rs with
  | nil =>
    intro V _ _ h
    exact h V (Keep.refl _ _)
  | cons r rs ih =>
    intro V hn hm h
    have hr := (hm r List.mem_cons_self).2
    have kq : Keep (fun i => i = r) V (V.putObj r (.deferred none)) := (Keep.refl (fun i => i = r) _).putObj (.inl rfl) _
    refine ⟨by simp, .inl ⟨r, _, rfl, run_takeDeferred hr, ?_⟩⟩
    refine ih _ (List.nodup_cons.1 hn).2 (fun r' hm' => ⟨(hm r' (List.mem_cons_of_mem _ hm')).1, kq.at_ (hm r' (List.mem_cons_of_mem _ hm')).2 (fun e => (List.nodup_cons.1 hn).1 (e ▸ hm'))⟩) ?_
    intro V' hk
    refine h V' ((kq.mono (fun k _ e => ?_)).trans2 hk (fun k hk' h' => ?_))
    · subst e; exact ⟨(hm _ List.mem_cons_self).1, _, hr⟩
    · refine ⟨h'.1, ?_⟩
      obtain ⟨o, ho⟩ := h'.2
      by_cases e : k = r
      · subst e; exact ⟨_, hr⟩
      · exact ⟨o, by rw [← kq.block k hk' e]; exact ho⟩
def initL (x : List (List S60)) (k : Nat) : List Nat := (List.range 8).map fun j => if j < k then 2 ^ (x.getD j []).length - 1 else 0
theorem initL_length (x : List (List S60)) (k : Nat) : (initL x k).length = 8 := by simp [initL]
theorem initL_get (x : List (List S60)) (k j : Nat) (hj : j < 8) : (initL x k).getD j 0 = if j < k then 2 ^ (x.getD j []).length - 1 else 0 := by
  unfold initL
  rw [List.getD_eq_getElem?_getD]
  simp [hj]
theorem initL_step (x : List (List S60)) (k : Nat) (hk : k < 8) : (initL x k).set k (2 ^ (x.getD k []).length - 1) = initL x (k + 1) := by
  apply List.ext_getElem (by simp [initL])
  intro i h1 h2
  have h3 : i < 8 := by simpa [initL] using h2
  have e1 := initL_get x k i h3
  have e2 := initL_get x (k + 1) i h3
  rw [List.getD_eq_getElem?_getD, List.getElem?_eq_getElem (by rw [initL_length]; exact h3)] at e1
  rw [List.getD_eq_getElem?_getD, List.getElem?_eq_getElem h2] at e2
  simp only [Option.getD_some] at e1 e2
  rw [List.getElem_set, e2]
  split
  · rename_i hc; subst hc; rw [if_pos (by omega)]
  · rw [e1]
    by_cases hc : i < k
    · rw [if_pos hc, if_pos (by omega)]
    · rw [if_neg hc, if_neg (by omega)]
theorem initL_ok (x : List (List S60)) (hok : OkIdx x) : LeftOk x (initL x x.length) := by
  have h8 := hok.2.1
  refine ⟨initL_length _ _, fun j hj => ?_, fun p hv j hj h0 => ?_⟩
  · rw [initL_get _ _ _ (by omega), if_pos hj]
    have := Nat.two_pow_pos (x.getD j []).length
    omega
  · rw [initL_get _ _ _ (by omega), if_pos hj, Nat.testBit_two_pow_sub_one]
    have := (hv j hj).1.2
    exact decide_eq_true (by omega)
theorem leftA_set (l : List Nat) (k v : Nat) : (leftA l).setIfInBounds k (.int .u64 (v : Int)) = leftA (l.set k v) := by
  unfold leftA
  simp [List.map_set]
theorem info30 : (Tryd.prog.info? 30).map (fun i => (i.zero, i.size, i.bytes)) = some (some (.slice none 0 0), 1, 24) := by kernel_rfl
theorem cells85 : (Tryd.prog.info? 85).map (·.size) = some 8 := by kernel_rfl
theorem leftA_size (l : List Nat) : (leftA l).size = l.length := by simp [leftA]
theorem leftA_one (l : List Nat) : (leftA l).all (·.oneCell') = true := by
  rw [Array.all_eq_true_iff_forall_mem]
  intro v hv
  unfold leftA at hv
  simp at hv
  obtain ⟨n, _, rfl⟩ := hv
  rfl
def leftV (l : List Nat) : Value := .agg (leftA l)
theorem ld85In {F : Fence} {n : Nat} {ops : Array Oper} {rest : List Oper} {o : Oper} {a : Act} {w : World} {Q : Exit → Act → World → Prop}
    (hgd : Region.wanted o (yielded ops a.tmps) = true) (x : Operand) (ho : o.op = .load 85 x) (g : Nat) (hx : a.eval x = .pointer (some ⟨g, 0, none⟩)) (p : List Nat) (t : Nat) (hp : p.length = 8)
    (hg : w.heap[g]? = some (.cells (leftA p) t (0, 0))) (h : wpListIn F n Tryd.prog ops Q rest (a.put o.dst (leftV p)) w) : wpListIn F n Tryd.prog ops Q (o :: rest) a w :=
  wpListIn_step fun K hK => by
    rw [if_pos hgd]
    refine ⟨fun f hf => by simp [Oper.about, ho] at hf, ?_⟩
    rw [Oper.semAt_eq _ _ _ (by simp [ho])]
    have hl := run_loadVar_row (P := Tryd.prog) w g t 85 (leftA p) (0, 0) _ hg Tryd.underlying85 rfl (by rw [leftA_size, hp]; exact cells85)
    unfold execOp
    simp only [ho, hx, Instr.loadAt, Instr.sureAddr, Sem.run_bind, Sem.run_pure, Result.andThen_ok, hl]
    exact hK _ _ h
theorem st85In {F : Fence} {n : Nat} {ops : Array Oper} {rest : List Oper} {o : Oper} {a : Act} {w : World} {Q : Exit → Act → World → Prop}
    (hgd : Region.wanted o (yielded ops a.tmps) = true) (x y : Operand) (ho : o.op = .store 85 x y) (g : Nat) (hx : a.eval x = .pointer (some ⟨g, 0, none⟩)) (p q : List Nat) (t : Nat) (hp : p.length = 8) (hq : q.length = 8)
    (hy : a.eval y = leftV q) (hg : w.heap[g]? = some (.cells (leftA p) t (0, 0)))
    (h : ∀ W, W.heap[g]? = some (.cells (leftA q) t (0, 0)) → Keep (fun k => k = g) w W → wpListIn F n Tryd.prog ops Q rest (a.put o.dst undef) W) : wpListIn F n Tryd.prog ops Q (o :: rest) a w :=
  wpListIn_step fun K hK => by
    rw [if_pos hgd]
    refine ⟨fun f hf => by simp [Oper.about, ho] at hf, ?_⟩
    rw [Oper.semAt_eq _ _ _ (by simp [ho])]
    have hl := run_storeVar_row (P := Tryd.prog) w g t 85 (leftA p) (leftA q) hg (by rw [leftA_size, hq]; exact cells85) (by rw [leftA_size, leftA_size, hp, hq]) (leftA_one q)
    unfold execOp
    have hy' : a.eval y = .agg (leftA q) := hy
    simp only [ho, hx, hy', Instr.storeAt, Instr.sureAddr, Sem.run_bind, Sem.run_pure, Result.andThen_ok, hl]
    exact hK _ _ (h _ (setRow_heap _ _ _ _ _ _ hg) ((Keep.refl (fun k => k = g) w).setRow (.inl rfl) _))
def TrHead (A : Option Addr) (c nx bx bk bl : Nat) (w : World) (left : List Nat) (W : World) : Prop :=
  Below w.heap.size w W ∧ W.cell? ⟨bx, 0, none⟩ = some (.slice A nx c) ∧ W.cell? ⟨bk, 0, none⟩ = some (.slice A nx c) ∧ W.cell? ⟨bk, 1, none⟩ = some (.slice none 0 0) ∧ W.heap[bl]? = some (.cells (leftA left) 85 (0, 0))
def sumL (bl : Nat) (W : World) : Nat :=
  match W.heap[bl]? with
  | some (.cells cs _ _) => (cs.toList.map fun v => (intOf v).toNat).sum
  | _ => 0
theorem sumL_of {bl : Nat} {W : World} {l : List Nat} (h : W.heap[bl]? = some (.cells (leftA l) 85 (0, 0))) : sumL bl W = l.sum := by
  unfold sumL
  rw [h]
  simp [leftA, Function.comp_def, intOf]
theorem sum_lt : ∀ (l m : List Nat), l.length = 8 → m.length = 8 → (∀ j : Nat, l.getD j 0 ≤ m.getD j 0) → l ≠ m → l.sum < m.sum := by
  have gen : ∀ (l m : List Nat), l.length = m.length → (∀ j : Nat, l.getD j 0 ≤ m.getD j 0) → l.sum ≤ m.sum ∧ (l ≠ m → l.sum < m.sum) := by
    intro l
    induction l with
    | nil => intro m h _; cases m with
      | nil => simp
      | cons a m => simp at h
    | cons a l ih => intro m h hle; cases m with
      | nil => simp at h
      | cons b m =>
        have h0 := hle 0
        have hi := ih m (by simpa using h) (fun j => by simpa using hle (j + 1))
        simp at h0
        refine ⟨by simp; omega, fun hne => ?_⟩
        by_cases hc : l = m
        · have : a ≠ b := fun e => hne (by rw [e, hc])
          simp; omega
        · have := hi.2 hc
          simp; omega
  exact fun l m h1 h2 h3 h4 => (gen l m (by omega) h3).2 h4
def outL (left : List Nat) (k : Nat) : List (List Int) := (List.range k).map fun j => (memL (left.getD j 0)).map Int.ofNat
def TrimIs (x : List (List S60)) (w : World) (e : Ending) (w' : World) : Prop :=
  ∃ v left, e = .returned (.tuple #[v, .int .i64 0]) ∧ LeftOk x left ∧ (Kd.slice 3 (Kd.int .i64)).R 30 w' w.heap.size (fun _ => True) v (outL left x.length) ∧ Below w.heap.size w w'
structure RdCtx (bl i sv m : Nat) (left : List Nat) (W3 V : World) : Prop where
  kp : Keep (fun k => k = bl) W3 V
  row : V.heap[bl]? = some (.cells (leftA left) 85 (0, 0))
  bi : V.heap[W3.heap.size]? = some (.cells #[.int .i64 (i : Int)] 3 (0, 0))
  bs : V.heap[W3.heap.size + 1]? = some (wordBox (remF sv m))
theorem RdCtx.keep {bl i sv m : Nat} {left : List Nat} {W3 V V' : World} (h : RdCtx bl i sv m left W3 V) {S : Nat → Prop} (hk : Keep S V V') (hS : ∀ k, k < V.heap.size → S k → W3.heap.size + 1 < k) (hbl : bl < W3.heap.size) : RdCtx bl i sv m left W3 V' := by
  have l1 := (Array.getElem?_eq_some_iff.1 h.row).1
  have l2 := (Array.getElem?_eq_some_iff.1 h.bi).1
  have l3 := (Array.getElem?_eq_some_iff.1 h.bs).1
  refine ⟨h.kp.trans2 hk (fun k h1 h2 => ?_), hk.at_ h.row (fun h => ?_), hk.at_ h.bi (fun h => ?_), hk.at_ h.bs (fun h => ?_)⟩
  · have := hS k (Nat.lt_of_lt_of_le h1 h.kp.size) h2; omega
  · have := hS _ l1 h; omega
  · have := hS _ l2 h; omega
  · have := hS _ l3 h; omega
theorem every16_calls (A : Option Addr) (c : Nat) (x : List (List S60)) (left : List Nat) (i k : Nat) (bl bm bi bk : Nat) (w : World) (B1 : Option Addr) (e1 : Nat)
    (hx : Kd.C (Kd.slice 60 k60) w A x.length x) (hok : OkIdx x) (hT : TabAt 1 Lib.deBruijn64tab w) (hT0 : 1 < w.heap.size) (hL : LeftOk x left)
    (hi : i < x.length) (hk : k < (x.getD i []).length) (hE : TrEnv A c x.length none 0 0 left i k bl bm bi bk w)
    (hn : k68.C w B1 (rd_T60 (rd_L4 x i) k).f0.length (rd_T60 (rd_L4 x i) k).f0) :
    Calls Tryd.prog 40 #[.slice B1 (rd_T60 (rd_L4 x i) k).f0.length e1, .func (.func 41) #[] #[.pointer (some ⟨bl, 0, none⟩), .pointer (some ⟨bm, 0, none⟩), .pointer (some ⟨bi, 0, none⟩), .pointer (some ⟨bk, 0, none⟩)]] w fun e w' =>
      e = .returned (.bool ((rd_T60 (rd_L4 x i) k).f0.all (fun r => hasF x left i k r))) ∧ Below w.heap.size w w' := by
  have e4 : (rd_L4 x (i : Int)).length = (x.getD i []).length := by unfold rd_L4; rw [Int.toNat_natCast]
  have hmem : (rd_T60 (rd_L4 x i) k) ∈ x.getD i [] := by
    unfold rd_T60 rd_L4
    rw [Int.toNat_natCast, Int.toNat_natCast]
    exact getD_mem _ _ _ hk
  have hrel := (hok.2.2 i hi).2 _ hmem
  refine every68_calls B1 e1 _ _ (fun r => OkRange x r) _ w hn (fun r hr => (hrel.2.2.1 r hr).1) ⟨41, _, _, rfl, enters_of Tryd.func41 (by kernel_rfl) rfl, fun V r cs hV hr hK => ?_⟩
  obtain rfl := k68_open hK
  refine trim1_calls A c x none 0 0 left i k bl bm bi bk r V (Kd.C_below hx hV) hok.2.1 (fun j hj => pw_cell_below hV (hT j hj)) (Nat.lt_of_lt_of_le hT0 hV.size) hL.1 hL.2.1 (fun j hj => (hok.2.2 j hj).1) (by omega) (by omega) (by omega) (by rw [e4]; omega) hr ?_
  exact hE.keep (Keep.ofBelow hV (fun _ => False)) (fun h => h) (fun h => h) (fun h => h) (fun h => h)
set_option maxHeartbeats 8000000 in
theorem Trim_calls (A : Option Addr) (c : Nat) (x : List (List S60)) (w : World) (hx : Kd.C (Kd.slice 60 k60) w A x.length x) (hok : OkIdx x) (hT : TabAt 1 Lib.deBruijn64tab w) (hT0 : 1 < w.heap.size) :
    Calls Tryd.prog 8 #[.agg #[.slice A x.length c]] w (TrimIs x w) := by
  have h8 := hok.2.1
  have hfm := fun (W : World) (hb : Below w.heap.size w W) => formed_calls A c x none 0 0 W (Kd.C_below hx hb) hok
  have Hhx := Lib.hid hx
  have Hhok := Lib.hid hok
  have HhT := Lib.hid hT
  have Hhfm := Lib.hid hfm
  clear hx hok hT hfm
  refine (callsIn_wide (n := 3)).1 ?_
  refine callsIn_of_wp_marks Tryd.func8 rfl trivial ?_ rfl
  simp only [Tryd.ntmps8, List.size_toArray, List.length_cons, List.length_nil, Nat.reduceAdd, Nat.reduceSub, Array.replicate_succ, Array.replicate_zero, List.push_toArray, List.append_toArray, List.nil_append, List.cons_append]
  gi_wp2_with fail
  refine ⟨trivial, (callsIn_wide.2 (Hhfm.out _ ?_)).mono ?_⟩
  · (repeat (first | exact Below.refl _ _ | refine pw_below_drewN ?_ _ | refine below_drew ?_ | refine Below.alloc ?_ (by first | omega | (simp; done) | (simp; omega)) _ | refine Below.setCell ?_ (by first | omega | (simp; done) | (simp; omega)) _))
  rintro e V1 ⟨rfl, hb⟩
  have b1 : Below w.heap.size w V1 := by
    refine Below.trans ?_ (hb.mono ?_)
    · (repeat (first | exact Below.refl _ _ | refine pw_below_drewN ?_ _ | refine below_drew ?_ | refine Below.alloc ?_ (by first | omega | (simp; done) | (simp; omega)) _ | refine Below.setCell ?_ (by first | omega | (simp; done) | (simp; omega)) _))
    · simp; try omega
  have d0 := hb.cell (p := ⟨w.heap.size, 0, none⟩) (by simp; omega)
  have m0 := hb.cell (p := ⟨w.heap.size + 1, 0, none⟩) (by simp)
  have m1 := hb.cell (p := ⟨w.heap.size + 1, 1, none⟩) (by simp)
  simp [go_sem] at d0 m0 m1
  have l0 := World.block_lt_of_cell? V1 _ d0
  have l01 : w.heap.size + 1 < V1.heap.size := World.block_lt_of_cell? V1 _ m0
  have Hb1 := Lib.hid b1
  clear b1
  clear hb
  gi_wp2
  gi_loopw [21] (fun v W => ∃ k : Nat, v = .int .i64 k ∧ k ≤ x.length ∧ Below V1.heap.size V1 W ∧ W.heap[V1.heap.size]? = some (.cells (leftA (initL x k)) 85 (0, 0)))
    (fun v _ => x.length - (intOf v).toNat)
  case atStart =>
    refine ⟨0, rfl, Nat.zero_le _, by (repeat (first | exact Below.refl _ _ | refine pw_below_drewN ?_ _ | refine below_drew ?_ | refine Below.alloc ?_ (by first | omega | (simp; done) | (simp; omega)) _ | refine Below.setCell ?_ (by first | omega | (simp; done) | (simp; omega)) _)), ?_⟩
    rw [heap_alloc_if, if_pos rfl]
    rfl
  case round =>
    obtain ⟨k, rfl, hk, hb2, hrow⟩ := hrel
    obtain ⟨wi, hwi⟩ : ∃ wi, wi = wr := ⟨_, rfl⟩
    rw [← hwi] at hb2 hrow ⊢
    clear hwi
    have lrow := (Array.getElem?_eq_some_iff.1 hrow).1
    rcases Nat.lt_or_ge k x.length with hlt | hge
    · obtain ⟨ad, A0, c0, e, hc, hl, hr⟩ := at_L4 (Kd.C_below Hhx.out (Hb1.out.trans (hb2.mono Hb1.out.size))) (k : Int) (by omega) (by omega)
      rw [Int.toNat_natCast] at hc
      subst e
      have h5 := (Hhok.out.2.2 k hlt).1
      have hL : (rd_L4 x k).length = (x.getD k []).length := by unfold rd_L4; rw [Int.toNat_natCast]
      rw [hL] at hc
      obtain ⟨y0, y1⟩ := left_cell hrow k (by rw [initL_length]; omega)
      have hset := heap_setCell_same wi V1.heap.size k _ _ (.int .u64 ((2 ^ (x.getD k []).length - 1 : Nat) : Int)) hrow
      rw [leftA_set, initL_step x k (by omega)] at hset
      have hp1 := wrap_pow (x.getD k []).length (by omega)
      have hp2 : IntKind.u64.wrap ((2 : Int) ^ (x.getD k []).length - 1) = ((2 ^ (x.getD k []).length - 1 : Nat) : Int) := by
        have : ∀ i : Fin 8, IntKind.u64.wrap ((2 : Int) ^ i.val - 1) = ((2 ^ i.val - 1 : Nat) : Int) := by decide +kernel
        exact this ⟨_, by omega⟩
      have lad := World.block_lt_of_cell? wi _ hc
      have hnext : Below V1.heap.size V1 (wi.setCell ⟨V1.heap.size, k, none⟩ (.int .u64 ((2 ^ (x.getD k []).length - 1 : Nat) : Int))) := hb2.setCell (Nat.le_refl _) _
      generalize (2 ^ (x.getD k []).length - 1 : Nat) = nv at hset hp2 hnext
      generalize (x.getD k []).length = len at *
      have Hhb2 := Lib.hid hb2
      have Hhrow := Lib.hid hrow
      have Hhset := Lib.hid hset
      have Hhnext := Lib.hid hnext
      clear hb2 hrow hset hnext
      clear hr hl hL
      gi_wp2
      exact ⟨⟨k + 1, by go_num, by omega, Hhnext.out, Hhset.out⟩, by simp [intOf]; omega⟩
    · have hkN : k = x.length := by omega
      rw [hkN] at hrow
      have d1 := pw_cell_below hb2 d0
      have m2 := pw_cell_below hb2 (show V1.cell? ⟨w.heap.size + 1, 0, none⟩ = some (.slice A x.length c) from m0)
      have m3 := pw_cell_below hb2 m1
      have hbw := Hb1.out.trans (hb2.mono Hb1.out.size)
      have hL0 := initL_ok x Hhok.out
      generalize initL x x.length = left0 at hrow hL0
      have Hhb2 := Lib.hid hb2
      have Hhrow := Lib.hid hrow
      have Hhbw := Lib.hid hbw
      have HhL0 := Lib.hid hL0
      clear hb2 hrow hbw hL0
      clear hkN
      gi_wp2
      generalize hb22 : decide (k < x.length) = b22
      clear hb22
      refine wpIn_loop (fun a W => ∃ (ds : List Deferred) (left : List Nat) (v8 v9 v10 v33 v34 v35 v36 v37 v38 v39 v40 v41 v42 v43 v44 v45 v46 v47 v48 v49 v50 v51 v52 v53 v54 v55 v56 v57 v58 v59 v60 v61 v62 v63 v64 v65 v66 v67 : Value), a = { tmps := #[.agg #[.slice A x.length c], .pointer (some ⟨w.heap.size, 0, none⟩), .slice none 0 0, .int .i64 0, .pointer (some ⟨w.heap.size + 1, 0, none⟩), .pointer (some ⟨V1.heap.size, 0, none⟩), u6, u7, v8, v9, v10, undef, undef, .agg #[.slice A x.length c], .agg #[.slice A x.length c, .slice none 0 0], .agg #[.slice A x.length c, .slice none 0 0], .bool true, .bool false, .pointer (some ⟨w.heap.size, 0, none⟩), .slice A x.length c, .int .i64 x.length, .int .i64 k, .bool b22, u23, u24, u25, u26, u27, u28, u29, u30, u31, u32, v33, v34, v35, v36, v37, v38, v39, v40, v41, v42, v43, v44, v45, v46, v47, v48, v49, v50, v51, v52, v53, v54, v55, v56, v57, v58, v59, v60, v61, v62, v63, v64, v65, v66, v67, undef, undef, undef, undef, undef, undef, undef, undef, undef, undef, undef, undef, undef, undef, undef, undef], defers := ds } ∧ TrHead A c x.length w.heap.size (w.heap.size + 1) V1.heap.size w left W ∧ LeftOk x left ∧ Marks (V1.heap.size + 1) ds W) (fun _ W => sumL V1.heap.size W) ?_ ?_
      · exact ⟨[], left0, _, _, _, _, _, _, _, _, _, _, _, _, _, _, _, _, _, _, _, _, _, _, _, _, _, _, _, _, _, _, _, _, _, _, _, _, _, _, rfl, ⟨Hhbw.out, d1, m2, m3, Hhrow.out⟩, HhL0.out, Marks.nil _ _⟩
      · rintro a W ⟨ds, left, v8, v9, v10, v33, v34, v35, v36, v37, v38, v39, v40, v41, v42, v43, v44, v45, v46, v47, v48, v49, v50, v51, v52, v53, v54, v55, v56, v57, v58, v59, v60, v61, v62, v63, v64, v65, v66, v67, rfl, hH, hL, hM⟩
        obtain ⟨hbW, e0, e1, e2, hrW⟩ := hH
        have hl8 := hL.1
        have lrw := (Array.getElem?_eq_some_iff.1 hrW).1
        have hzero : (W.alloc (.cells #[.int .u64 0, .int .u64 0, .int .u64 0, .int .u64 0, .int .u64 0, .int .u64 0, .int .u64 0, .int .u64 0] 85 (0, 0))).heap[W.heap.size]? = some (.cells (leftA (List.replicate 8 0)) 85 (0, 0)) := by
          rw [heap_alloc_if, if_pos rfl]; rfl
        have lx0 := World.block_lt_of_cell? W _ e0
        have lk0 := World.block_lt_of_cell? W _ e1
        have HhbW := Lib.hid hbW
        have HhL := Lib.hid hL
        have HhM := Lib.hid hM
        have HhrW := Lib.hid hrW
        have Hhzero := Lib.hid hzero
        clear hbW hL hM hrW hzero
        gi_wp2_with (first | refine ld85In (o := ⟨some 33, .load 85 _, _, _, _, _⟩) (by rfl) _ (by rfl) V1.heap.size (by rfl) left 85 hl8 HhrW.out ?_ | refine st85In (o := ⟨none, .store 85 _ _, _, _, _, _⟩) (by rfl) _ _ (by rfl) W.heap.size (by rfl) (List.replicate 8 0) left 85 (by rfl) hl8 (by rfl) Hhzero.out ?_)
        intro W2 r2 k2
        have b2 : Below W.heap.size W W2 := ((Below.refl _ W).alloc (Nat.le_refl _) _).trans (k2.below _ (by simp) (fun k h1 h2 => by omega))
        have g0 := pw_cell_below b2 e0
        have g1 := pw_cell_below b2 e1
        have g2 := pw_cell_below b2 e2
        have hrW2 := (b2.block _ lrw).trans HhrW.out
        have hbW2 := HhbW.out.trans (b2.mono HhbW.out.size)
        have hM2 : Marks (V1.heap.size + 1) ds W2 := HhM.out.keep (fun k hk h => (b2.block k (Array.getElem?_eq_some_iff.1 h).1).trans h)
        have l2 : W.heap.size < W2.heap.size := (Array.getElem?_eq_some_iff.1 r2).1
        have Hr2 := Lib.hid r2
        have HhrW2 := Lib.hid hrW2
        have HhbW2 := Lib.hid hbW2
        have HhM2 := Lib.hid hM2
        clear r2 hrW2 hbW2 hM2
        clear k2 b2 e0 e1 e2 Hhzero
        gi_wp2
        refine wpIn_loop (fun a W' => ∃ (i : Nat) (ds2 : List Deferred) (left2 : List Nat) (t9 t10 t38 t39 t40 t41 t42 t43 t44 t45 t46 t47 t48 t49 t50 t51 t52 t53 t54 t55 t56 t57 t58 t59 t60 t61 t62 t63 t64 : Value), a = { tmps := #[.agg #[.slice A x.length c], .pointer (some ⟨w.heap.size, 0, none⟩), .slice none 0 0, .int .i64 0, .pointer (some ⟨w.heap.size + 1, 0, none⟩), .pointer (some ⟨V1.heap.size, 0, none⟩), u6, u7, .pointer (some ⟨W.heap.size, 0, none⟩), t9, t10, undef, undef, .agg #[.slice A x.length c], .agg #[.slice A x.length c, .slice none 0 0], .agg #[.slice A x.length c, .slice none 0 0], .bool true, .bool false, .pointer (some ⟨w.heap.size, 0, none⟩), .slice A x.length c, .int .i64 x.length, .int .i64 k, .bool b22, u23, u24, u25, u26, u27, u28, u29, u30, u31, u32, leftV left, .pointer (some ⟨w.heap.size, 0, none⟩), .slice A x.length c, .int .i64 x.length, .int .i64 i, t38, t39, t40, t41, t42, t43, t44, t45, t46, t47, t48, t49, t50, t51, t52, t53, t54, t55, t56, t57, t58, t59, t60, t61, t62, t63, t64, v65, v66, v67, undef, undef, undef, undef, undef, undef, undef, undef, undef, undef, undef, undef, undef, undef, undef, undef], defers := ds2 } ∧ i ≤ x.length ∧ TrHead A c x.length w.heap.size (w.heap.size + 1) V1.heap.size w left2 W' ∧ LeftOk x left2 ∧ (∀ j : Nat, left2.getD j 0 ≤ left.getD j 0) ∧ Marks (V1.heap.size + 1) ds2 W' ∧ W'.heap[W.heap.size]? = some (.cells (leftA left) 85 (0, 0)) ∧ W.heap.size < W'.heap.size) (fun a _ => x.length - (intOf (a.tmps.getD 37 undef)).toNat) ?_ ?_
        · exact ⟨0, ds, left, _, _, _, _, _, _, _, _, _, _, _, _, _, _, _, _, _, _, _, _, _, _, _, _, _, _, _, _, _, rfl, Nat.zero_le _, ⟨HhbW2.out, g0, g1, g2, HhrW2.out⟩, HhL.out, fun j => Nat.le_refl _, HhM2.out, Hr2.out, l2⟩
        · rintro a W3 ⟨i, ds2, left2, t9, t10, t38, t39, t40, t41, t42, t43, t44, t45, t46, t47, t48, t49, t50, t51, t52, t53, t54, t55, t56, t57, t58, t59, t60, t61, t62, t63, t64, rfl, hi, hH2, hL2, hle2, hM3, hbf, l3⟩
          clear g0 g1 g2
          obtain ⟨hbW3, g0, g1, g2, hrW3⟩ := hH2
          have lx3 := World.block_lt_of_cell? W3 _ g0
          have lk3 := World.block_lt_of_cell? W3 _ g1
          have ll3 := (Array.getElem?_eq_some_iff.1 hrW3).1
          rcases Nat.lt_or_ge i x.length with hlt | hge
          · obtain ⟨c0, c1⟩ := left_cell hbf i (by omega)
            have hs32 := left_lt Hhok.out HhL.out hlt
            generalize hsv : left.getD i 0 = sv at c0 hs32
            have HhbW3 := Lib.hid hbW3
            have HhrW3 := Lib.hid hrW3
            have HhL2 := Lib.hid hL2
            have Hhle2 := Lib.hid hle2
            have HhM3 := Lib.hid hM3
            have Hhbf := Lib.hid hbf
            have Hhsv := Lib.hid hsv
            clear hbW3 hrW3 hL2 hle2 hM3 hbf hsv
            clear lx0 lk0 l2
            gi_wp2_with fail
            refine ⟨trivial, (callsIn_wide.2 (members_calls sv _)).mono ?_⟩
            rintro e V4 ⟨rfl, hV4⟩
            have s4 : V4.heap.size = W3.heap.size + 1 + 1 := by rw [hV4]; simp
            have k4 : Keep (fun k => k = V1.heap.size) W3 V4 := by rw [hV4]; exact ((Keep.refl _ _).alloc _).alloc _
            have r4 : RdCtx V1.heap.size i sv 0 left2 W3 V4 := by
              have h2 := heap_two W3 (Obj.cells #[Value.int IntKind.i64 (i : Int)] 3) (wordBox sv)
              rw [← hV4] at h2
              refine ⟨k4, ?_, h2.1, h2.2⟩
              rw [hV4, heap_alloc_if, if_neg (by simp; omega), heap_alloc_if, if_neg (by omega)]
              exact HhrW3.out
            rw [show (W3.alloc (Obj.cells #[Value.int IntKind.i64 (i : Int)] 3)).heap.size = W3.heap.size + 1 by simp]
            clear hV4 c0 c1
            have Hk4 := Lib.hid k4
            have Hr4 := Lib.hid r4
            have Hs4 := Lib.hid s4
            clear k4 r4 s4
            gi_wp2
            refine range_wide (gf := 74) rfl (enters_of Tryd.func74 (by kernel_rfl) rfl) ?_
            intro fn rec W5 hrec hW5
            dsimp only at hrec
            obtain ⟨JJ, hJJ⟩ : ∃ JJ : Nat → World → Prop, JJ = fun m V => (∃ left', RdCtx V1.heap.size i sv m left' W3 V ∧ LeftOk x left' ∧ (∀ j : Nat, left'.getD j 0 ≤ left.getD j 0)) ∧
              V.heap[V4.heap.size + 1]? = some (.loop (rec .ready none)) ∧ V.heap[V4.heap.size]? = some (.deferred (some [])) := ⟨_, rfl⟩
            have hW5s : W5.heap.size = V4.heap.size + 1 + 1 := by rw [hW5]; simp
            have hkW5 : Below V4.heap.size V4 W5 := by rw [hW5]; (repeat (first | exact Below.refl _ _ | refine pw_below_drewN ?_ _ | refine below_drew ?_ | refine Below.alloc ?_ (by first | omega | (simp; done) | (simp; omega)) _ | refine Below.setCell ?_ (by first | omega | (simp; done) | (simp; omega)) _))
            have hs32' := hs32
            refine (members_iter (V4.heap.size + 1) (W3.heap.size + 1) sv hs32 JJ (fun _ _ => False) ?_ ?_ W5 ?_ 2).mono ?_
            · intro m V hj
              rw [hJJ] at hj
              obtain ⟨⟨left', h1, h2⟩, h3, h4⟩ := hj
              refine ⟨h1.bs, fun j hj => h1.kp.cell (pw_cell_below HhbW3.out (HhT.out j hj)) ?_⟩
              show ¬ (1 = V1.heap.size)
              have := Hb1.out.size
              omega
            · intro m V hm hj
              rw [hJJ] at hj
              obtain ⟨⟨left', h1, h2, h5⟩, h6, h7⟩ := hj
              refine yield_wide (by rw [hrec] at h6; exact h6) rfl ?_
              intro nn
              have hn : (memL sv).getD m 0 ∈ memL sv := getD_mem _ _ _ hm
              have hjn : ∀ (V' : World) (o : Obj) (left' : List Nat), RdCtx V1.heap.size i sv m left' W3 V' → LeftOk x left' → (∀ j : Nat, left'.getD j 0 ≤ left.getD j 0) → V'.heap[V4.heap.size]? = some (.deferred (some [])) → V4.heap.size + 1 < V'.heap.size → o = .loop (rec .ready none) →
                  (V'.putObj (V4.heap.size + 1) o).heap[W3.heap.size + 1]? = some (wordBox (remF sv m)) ∧ JJ (m + 1) ((V'.putObj (V4.heap.size + 1) o).setCell ⟨W3.heap.size + 1, 0, none⟩ (.int .u64 (remF sv (m + 1)))) := by
                intro V' o left' h hL' hle' h7 hlt ho
                have s4' := Hs4.out
                have kq : Keep (fun i => i = V4.heap.size + 1) V' (V'.putObj (V4.heap.size + 1) o) := (Keep.refl (fun i => i = V4.heap.size + 1) _).putObj (.inl rfl) _
                have h' := h.keep kq (fun k _ hk => by omega) ll3
                refine ⟨h'.bs, ?_⟩
                rw [hJJ]
                have ks : Keep (fun i => i = W3.heap.size + 1) (V'.putObj (V4.heap.size + 1) o) ((V'.putObj (V4.heap.size + 1) o).setCell ⟨W3.heap.size + 1, 0, none⟩ (.int .u64 (remF sv (m + 1)))) := (Keep.refl (fun i => i = W3.heap.size + 1) _).setCell (p := ⟨W3.heap.size + 1, 0, none⟩) (.inl rfl) _
                refine ⟨⟨left', ⟨h'.kp.trans2 ks (fun k h1 h2 => by omega), ks.at_ h'.row (by omega), ks.at_ h'.bi (by omega), ?_⟩, hL', hle'⟩, ?_, ks.at_ (kq.at_ h7 (by omega)) (by omega)⟩
                · have := heap_setCell_same _ (W3.heap.size + 1) 0 _ _ (.int .u64 (remF sv (m + 1))) h'.bs
                  simpa [wordBox] using this
                · refine ks.at_ ?_ (by omega)
                  rw [World.putObj_heap_same (by omega), ho]
              generalize (memL sv).getD m 0 = kk at hn ⊢
              have kV : Keep (fun _ => False) V (V.alloc (Obj.cells #[Value.int IntKind.i64 (kk : Int)] 3)) := (Keep.refl _ _).alloc _
              have h6' := kV.at_ h6 (fun h => h)
              have h7' := kV.at_ h7 (fun h => h)
              have h1' := h1.keep kV (fun k _ h => h.elim) ll3
              have hk' : (V.alloc (Obj.cells #[Value.int IntKind.i64 (kk : Int)] 3)).heap[V.heap.size]? = some (.cells #[.int .i64 (kk : Int)] 3 (0, 0)) := by rw [heap_alloc_if, if_pos rfl]
              have lV := (Array.getElem?_eq_some_iff.1 h6).1
              have hs4 := Hs4.out
              have hrun := run_beginRound (P := Tryd.prog) h6' (by rw [hrec]; rfl)
              have kp : Keep (fun i => i = V4.heap.size + 1) (V.alloc (Obj.cells #[Value.int IntKind.i64 (kk : Int)] 3)) ((V.alloc (Obj.cells #[Value.int IntKind.i64 (kk : Int)] 3)).putObj (V4.heap.size + 1) (.loop { rec .ready none with state := .busy })) := (Keep.refl (fun i => i = V4.heap.size + 1) _).putObj (.inl rfl) _
              have h6b : ((V.alloc (Obj.cells #[Value.int IntKind.i64 (kk : Int)] 3)).putObj (V4.heap.size + 1) (.loop { rec .ready none with state := .busy })).heap[V4.heap.size + 1]? = some (.loop { rec .ready none with state := .busy }) := World.putObj_heap_same (Array.getElem?_eq_some_iff.1 h6').1
              have h7b := kp.at_ h7' (by omega)
              have hkb := kp.at_ hk' (by omega)
              have h1b := h1'.keep kp (fun k _ h => by omega) ll3
              generalize hV7 : ((V.alloc (Obj.cells #[Value.int IntKind.i64 (kk : Int)] 3)).putObj (V4.heap.size + 1) (.loop { rec .ready none with state := .busy })) = V7 at kp h6b h7b hkb h1b hrun
              have hb7 : Below w.heap.size w V7 := HhbW3.out.trans (h1b.kp.below _ HhbW3.out.size (fun k _ h => by have := Hb1.out.size; omega))
              have hx7 := Kd.C_below Hhx.out hb7
              have hkl : kk < (x.getD i []).length := by
                have h1 := (memL_mem hn).2
                have h2 := HhL.out.2.1 i hlt
                rw [Hhsv.out] at h2
                rcases Nat.lt_or_ge kk (x.getD i []).length with h | h
                · exact h
                · rw [Nat.testBit_lt_two_pow (Nat.lt_of_lt_of_le h2 (Nat.pow_le_pow_right (by omega) h))] at h1
                  cases h1
              have hk5 : kk < 5 := (memL_mem hn).1
              have e4 : (rd_L4 x (i : Int)).length = (x.getD i []).length := by unfold rd_L4; rw [Int.toNat_natCast]
              have g0' := h1b.kp.cell g0 (by show ¬ (w.heap.size = V1.heap.size); omega)
              have g1' := h1b.kp.cell g1 (by show ¬ (w.heap.size + 1 = V1.heap.size); omega)
              have g2' := h1b.kp.cell g2 (by show ¬ (w.heap.size + 1 = V1.heap.size); omega)
              obtain ⟨bi0, -⟩ := one_cell h1b.bi
              obtain ⟨bk0, -⟩ := one_cell hkb
              have hE : TrEnv A c x.length none 0 0 left' i kk V1.heap.size (w.heap.size + 1) W3.heap.size V.heap.size V7 := ⟨h1b.row, g1', g2', bi0, bk0⟩
              have hT7 : TabAt 1 Lib.deBruijn64tab V7 := fun j hj => pw_cell_below hb7 (HhT.out j hj)
              obtain ⟨ad, A0, c0', e, hc, hl, hr⟩ := at_L4 hx7 (i : Int) (by omega) (by omega)
              rw [Int.toNat_natCast] at hc
              obtain ⟨ad2, B0, e0, B1, e1, e2, q0, q1, l0', gq0, l1', gq1⟩ := at_T60 hr (kk : Int) (by omega) (by omega)
              rw [Int.toNat_natCast] at q0
              have hev := fun (W' : World) (hb : Below V7.heap.size V7 W') => every16_calls A c x left' i kk V1.heap.size (w.heap.size + 1) W3.heap.size V.heap.size W' B0 e0 (Kd.C_below hx7 hb) Hhok.out (fun j hj => pw_cell_below hb (hT7 j hj)) (by have := hb.size; have := hb7.size; omega) h2 hlt hkl (hE.keep (Keep.ofBelow hb (fun _ => False)) (fun h => h) (fun h => h) (fun h => h) (fun h => h)) (Kd.C_below gq0 hb)
              obtain ⟨bb, hbb⟩ : ∃ bb, bb = (rd_T60 (rd_L4 x i) kk).f0.all (fun r => hasF x left' i kk r) := ⟨_, rfl⟩
              simp only [← hbb] at hev
              have hclr := fun (h : bb = false) => LeftOk.clr Hhok.out h2 hlt hkl (hbb.symm.trans h)
              clear hbb
              generalize (x.getD i []).length = N5 at e4 hkl
              subst e
              subst e2
              clear gq0 gq1 hr hx7 l0' l1' hl q1 g1' g2' hV7 kV h6' h7' h1' hk' kp hkW5 hW5 hW5s h1 h6 h7
              have lb7 := (Array.getElem?_eq_some_iff.1 h6b).1
              have Hhn := Lib.hid hn
              have Hhjn := Lib.hid hjn
              have Hhrun := Lib.hid hrun
              have Hh6b := Lib.hid h6b
              have Hh7b := Lib.hid h7b
              have Hhkb := Lib.hid hkb
              have Hh1b := Lib.hid h1b
              have Hhb7 := Lib.hid hb7
              have HhE := Lib.hid hE
              have HhT7 := Lib.hid hT7
              have Hhev := Lib.hid hev
              have Hh2 := Lib.hid h2
              have Hh5 := Lib.hid h5
              have HhJJ := Lib.hid hJJ
              have Hhrec := Lib.hid hrec
              have Hhs4 := Lib.hid hs4
              have Hhclr := Lib.hid hclr
              clear hn hjn hrun h6b h7b hkb h1b hb7 hE hT7 hev h2 h5 hJJ hrec hs4 hclr
              gi_wp2
              refine ⟨_, Hhrun.out, ?_⟩
              gi_wp2
              refine wpIn_region_quiet_round (fun W' => Below V7.heap.size V7 W') (by kernel_rfl) (by kernel_rfl) (by rfl) (by exact below_drew (Below.refl _ _)) ?_
              refine quiet_val (.pointer (some ⟨w.heap.size, 0, none⟩)) (by rfl) (fun W' hW' => ?_) ?_
              · unfold Oper.quietAt
                go_simp
              simp only [Act.put, List.setIfInBounds_toArray, List.set_cons_zero, List.set_cons_succ]
              refine quiet_val (.slice (some ad) x.length c) (by rfl) (fun W' hW' => ?_) ?_
              · have f := pw_cell_below hW' g0'
                unfold Oper.quietAt
                go_simp
              simp only [Act.put, List.setIfInBounds_toArray, List.set_cons_zero, List.set_cons_succ]
              refine quiet_val (.int .i64 (i : Int)) (by rfl) (fun W' hW' => ?_) ?_
              · have f := pw_cell_below hW' bi0
                unfold Oper.quietAt
                go_simp
              simp only [Act.put, List.setIfInBounds_toArray, List.set_cons_zero, List.set_cons_succ]
              refine quiet_val (.pointer (some (ad.add i))) (by rfl) (fun W' hW' => ?_) ?_
              · unfold Oper.quietAt
                go_simp
              simp only [Act.put, List.setIfInBounds_toArray, List.set_cons_zero, List.set_cons_succ]
              refine quiet_val (.slice (some ad2) (rd_L4 x i).length c0') (by rfl) (fun W' hW' => ?_) ?_
              · have f := pw_cell_below hW' hc
                unfold Oper.quietAt
                go_simp
              simp only [Act.put, List.setIfInBounds_toArray, List.set_cons_zero, List.set_cons_succ]
              refine quiet_val (.int .i64 (kk : Int)) (by rfl) (fun W' hW' => ?_) ?_
              · have f := pw_cell_below hW' bk0
                unfold Oper.quietAt
                go_simp
              simp only [Act.put, List.setIfInBounds_toArray, List.set_cons_zero, List.set_cons_succ]
              refine quiet_val (.pointer (some (ad2.add (kk * 2)))) (by rfl) (fun W' hW' => ?_) ?_
              · unfold Oper.quietAt
                go_simp
              simp only [Act.put, List.setIfInBounds_toArray, List.set_cons_zero, List.set_cons_succ]
              refine quiet_val (.pointer (some (ad2.add (kk * 2)))) (by rfl) (fun W' hW' => ?_) ?_
              · unfold Oper.quietAt
                go_simp
              simp only [Act.put, List.setIfInBounds_toArray, List.set_cons_zero, List.set_cons_succ]
              refine quiet_val (.slice B0 (rd_T60 (rd_L4 x i) kk).f0.length e0) (by rfl) (fun W' hW' => ?_) ?_
              · have f := pw_cell_below hW' q0
                unfold Oper.quietAt
                go_simp
              simp only [Act.put, List.setIfInBounds_toArray, List.set_cons_zero, List.set_cons_succ]
              refine quiet_val (.func (.func 41) #[] #[.pointer (some ⟨V1.heap.size, 0, none⟩), .pointer (some ⟨w.heap.size + 1, 0, none⟩), .pointer (some ⟨W3.heap.size, 0, none⟩), .pointer (some ⟨V.heap.size, 0, none⟩)]) (by rfl) (fun W' hW' => ?_) ?_
              · unfold Oper.quietAt
                go_simp
              simp only [Act.put, List.setIfInBounds_toArray, List.set_cons_zero, List.set_cons_succ]
              refine quiet_val (.bool bb) (by rfl) (fun W' hW' => ?_) ?_
              · have hc := (Hhev.out W' hW').mono (R' := fun e w'' => e = .returned (.bool bb) ∧ Below V7.heap.size V7 w'') (fun e w'' h => ⟨h.1, hW'.trans (h.2.mono hW'.size)⟩)
                have Hhc := Lib.hid hc
                clear hc
                unfold Oper.quietAt
                go_simp
                exact Hhc.out
              simp only [Act.put, List.setIfInBounds_toArray, List.set_cons_zero, List.set_cons_succ]
              refine quiet_val (.bool (!bb)) (by rfl) (fun W' hW' => ?_) ?_
              · unfold Oper.quietAt
                go_simp
              simp only [Act.put, List.setIfInBounds_toArray, List.set_cons_zero, List.set_cons_succ]
              refine wpQuiet_nil ?_
              intro V8 hV8
              have k8 : Keep (fun _ => False) V7 V8 := Keep.ofBelow hV8 _
              have h68 := k8.at_ Hh6b.out (fun h => h)
              have h78 := k8.at_ Hh7b.out (fun h => h)
              have h18 := Hh1b.out.keep k8 (fun k _ h => h.elim) ll3
              have bi8 := k8.cell bi0 (fun h => h)
              have bk8 := k8.cell bk0 (fun h => h)
              have lb8 := (Array.getElem?_eq_some_iff.1 h68).1
              obtain ⟨y0, y1⟩ := left_cell h18.row i (by rw [Hh2.out.1]; omega)
              have lbl8 := (Array.getElem?_eq_some_iff.1 h18.row).1
              clear hV8 k8 g0' hc q0 bi0 bk0 lb7
              cases bb with
              | true =>
                have Hh68 := Lib.hid h68
                have Hh78 := Lib.hid h78
                have Hh18 := Lib.hid h18
                clear h68 h78 h18
                gi_wp2
                refine ⟨_, _, run_endRound none Hh68.out, rfl, Hhjn.out V8 _ left' Hh18.out Hh2.out Hh5.out Hh78.out lb8 ?_⟩
                rw [Hhrec.out]; rfl
              | false =>
                have hcl := Hhclr.out rfl
                have hs4 := Hhs4.out
                obtain ⟨f1, f2, f3, f4⟩ := clr_facts ⟨left'.getD i 0, left_lt Hhok.out Hh2.out hlt⟩ ⟨kk, hk5⟩
                simp only at f1 f4
                have hle9 : ∀ j : Nat, (left'.set i (clr (left'.getD i 0) kk)).getD j 0 ≤ left.getD j 0 := by
                  intro j
                  rw [getD_set _ _ _ _ (by rw [Hh2.out.1]; omega)]
                  split
                  · rename_i hc; subst hc; exact Nat.le_trans f1 (Hh5.out _)
                  · exact Hh5.out j
                have hp1 := wrap_pow kk (by omega)
                have k9 : Keep (fun k => k = V1.heap.size) V8 (V8.drew.setCell ⟨V1.heap.size, i, none⟩ (.int .u64 ((clr (left'.getD i 0) kk : Nat) : Int))) := ((Keep.refl (fun k => k = V1.heap.size) V8).drewN 1).setCell (.inl rfl) _
                have h69 := k9.at_ h68 (by omega)
                have h79 := k9.at_ h78 (by omega)
                have r9 : (V8.drew.setCell ⟨V1.heap.size, i, none⟩ (.int .u64 ((clr (left'.getD i 0) kk : Nat) : Int))).heap[V1.heap.size]? = some (.cells (leftA (left'.set i (clr (left'.getD i 0) kk))) 85 (0, 0)) := by
                  have := heap_setCell_same V8.drew V1.heap.size i _ _ (.int .u64 ((clr (left'.getD i 0) kk : Nat) : Int)) h18.row
                  rw [leftA_set] at this
                  exact this
                have h19 : RdCtx V1.heap.size i sv m (left'.set i (clr (left'.getD i 0) kk)) W3 (V8.drew.setCell ⟨V1.heap.size, i, none⟩ (.int .u64 ((clr (left'.getD i 0) kk : Nat) : Int))) :=
                  ⟨h18.kp.trans2 k9 (fun k _ h => h), r9, k9.at_ h18.bi (by omega), k9.at_ h18.bs (by omega)⟩
                have lb9 := (Array.getElem?_eq_some_iff.1 h69).1
                have hfin := fun o ho => Hhjn.out _ o _ h19 hcl hle9 h79 lb9 ho
                have hm : Tryd.prog.follows .mixedOrders = true := by kernel_rfl
                clear f1 f2 f3 k9 h79 r9 lb9 hcl hle9 h19 hs4
                generalize left'.set i (clr (left'.getD i 0) kk) = left9 at *
                generalize clr (left'.getD i 0) kk = cq at *
                generalize left'.getD i 0 = q at *
                have Hh68 := Lib.hid h68
                have Hh78 := Lib.hid h78
                have Hh18 := Lib.hid h18
                have Hhfin := Lib.hid hfin
                have Hh69 := Lib.hid h69
                clear h68 h78 h18 hfin h69
                gi_wp2
                gi_region_with_o fail
                all_goals gi_wp2
                all_goals
                  refine ⟨_, _, run_endRound none Hh69.out, rfl, Hhfin.out _ ?_⟩
                  rw [Hhrec.out]; rfl
            · rw [hJJ]
              have := heap_two V4 (.deferred (some [])) (.loop (rec .ready none))
              rw [← hW5] at this
              exact ⟨⟨left2, Hr4.out.keep (Keep.ofBelow hkW5 (fun _ => False)) (fun k _ h => h.elim) ll3, HhL2.out, Hhle2.out⟩, this.2, this.1⟩
            · rintro e V ⟨rfl, hj | ⟨_, _, hf⟩⟩
              · rw [hJJ] at hj
                obtain ⟨⟨left', h1, h2, h5⟩, h6, h7⟩ := hj
                have s4' := Hs4.out
                have hrun := run_endLoop (P := Tryd.prog) h6 (by rw [hrec]; simp [loopRec])
                have kq7 : Keep (fun i => i = V4.heap.size + 1) V (V.putObj (V4.heap.size + 1) (Obj.loop { rec .ready none with state := .exhausted })) := (Keep.refl (fun i => i = V4.heap.size + 1) _).putObj (.inl rfl) _
                generalize hV7 : V.putObj (V4.heap.size + 1) (Obj.loop { rec .ready none with state := .exhausted }) = V7 at hrun kq7
                rw [show (rec .ready none).pending = none from by rw [hrec]; rfl] at hrun
                have h17 := h1.keep kq7 (fun k _ h => by omega) ll3
                have h77 := kq7.at_ h7 (by omega)
                have hbW := HhbW3.out.trans (h17.kp.below _ HhbW3.out.size (fun k _ h => by have := Hb1.out.size; omega))
                have hH : TrHead A c x.length w.heap.size (w.heap.size + 1) V1.heap.size w left' V7 :=
                  ⟨hbW, h17.kp.cell g0 (by show ¬ (w.heap.size = V1.heap.size); omega), h17.kp.cell g1 (by show ¬ (w.heap.size + 1 = V1.heap.size); omega), h17.kp.cell g2 (by show ¬ (w.heap.size + 1 = V1.heap.size); omega), h17.row⟩
                have hM7 : Marks (V1.heap.size + 1) ({ target := .collected V4.heap.size, args := #[] } :: ds2) V7 :=
                  HhM3.out.cons (by omega) (by omega) h77 (fun k h1 h2 h3 => h17.kp.at_ h2 (by omega))
                have hb7 := h17.kp.at_ Hhbf.out (by omega)
                have l7 : W.heap.size < V7.heap.size := Nat.lt_of_lt_of_le l3 h17.kp.size
                clear hV7 h1 h6 h7 kq7 hrec hJJ hW5 hW5s hkW5 h17 h77 hbW s4'
                have Hh2 := Lib.hid h2
                have Hh5 := Lib.hid h5
                have HhH := Lib.hid hH
                have HhM7 := Lib.hid hM7
                have Hhb7 := Lib.hid hb7
                have Hhrun := Lib.hid hrun
                clear h2 h5 hH hM7 hb7 hrun
                refine ⟨none, V7, Hhrun.out, ?_⟩
                gi_wp2
                refine ⟨⟨i + 1, _, left', _, _, _, _, _, _, _, _, _, _, _, _, _, _, _, _, _, _, _, _, _, _, _, _, _, _, _, _, _, by rfl, by omega, HhH.out, Hh2.out, Hh5.out, HhM7.out, Hhb7.out, l7⟩, ?_⟩
                show x.length - (intOf (.int .i64 ((i : Int) + 1))).toNat < x.length - (intOf (.int .i64 (i : Int))).toNat
                simp [intOf]
                omega
              · exact hf.elim
          · have HhbW3 := Lib.hid hbW3
            have HhrW3 := Lib.hid hrW3
            have HhL2 := Lib.hid hL2
            have Hhle2 := Lib.hid hle2
            have HhM3 := Lib.hid hM3
            have Hhbf := Lib.hid hbf
            clear hbW3 hrW3 hL2 hle2 hM3 hbf
            gi_wp2_with (refine stop_at 65 ?_)
            refine ⟨?_⟩
            refine ld85In ?za (.tmp 5) ?zb V1.heap.size ?zc left2 85 ?zd ?ze ?_
            case za => rfl
            case zb => rfl
            case zc => rfl
            case zd => exact HhL2.out.1
            case ze => exact HhrW3.out
            simp only [Act.put, List.setIfInBounds_toArray, List.set_cons_zero, List.set_cons_succ]
            refine ld85In ?za (.tmp 8) ?zb W.heap.size ?zc left 85 ?zd ?ze ?_
            case za => rfl
            case zb => rfl
            case zc => rfl
            case zd => exact hl8
            case ze => exact Hhbf.out
            simp only [Act.put, List.setIfInBounds_toArray, List.set_cons_zero, List.set_cons_succ]
            refine eq85In ?za (.tmp 65) (.tmp 66) ?zb left2 left ?zc ?zd ?ze hl8 ?_
            case za => rfl
            case zb => rfl
            case zc => rfl
            case zd => rfl
            case ze => exact HhL2.out.1
            simp only [Act.put, List.setIfInBounds_toArray, List.set_cons_zero, List.set_cons_succ]
            generalize hbl : (left2 == left) = bl
            have Hhbl := Lib.hid hbl
            clear hbl
            cases bl with
            | false =>
              gi_wp2
              refine ⟨⟨ds2, left2, _, _, _, _, _, _, _, _, _, _, _, _, _, _, _, _, _, _, _, _, _, _, _, _, _, _, _, _, _, _, _, _, _, _, _, _, _, _, by rfl, ⟨HhbW3.out, g0, g1, g2, HhrW3.out⟩, HhL2.out, HhM3.out⟩, ?_⟩
              rw [sumL_of HhrW3.out, sumL_of HhrW.out]
              exact sum_lt _ _ HhL2.out.1 hl8 Hhle2.out (by have := Hhbl.out; simpa using this)
            | true =>
              gi_wp2
              refine wpIn_wide.2 ?_
              have l3s := HhbW3.out.size
              have hrest : ∀ (v : Value) (W' : World) (tmps : Array Value), (Kd.slice 3 (Kd.int .i64)).R 30 W' W3.heap.size (fun _ => True) v (outL left2 x.length) → Below W3.heap.size W3 W' → tmps.getD 2 undef = v → tmps.getD 3 undef = .int .i64 0 →
                  bodyPostM Fence.wide 3 Tryd.prog Tryd.f8 (TrimIs x w) .ret { tmps, defers := ds2 } W' := by
                intro v W' tmps hR hB h2 h3
                obtain ⟨rs, e1, hn, hm⟩ := HhM3.out
                rw [e1]
                refine leaves_marks (lo := V1.heap.size + 1) rs W' hn (fun r hr => ⟨(hm r hr).1, (hB.block r (Array.getElem?_eq_some_iff.1 (hm r hr).2).1).trans (hm r hr).2⟩) (fun V' hk => ?_)
                refine ⟨.tuple #[v, .int .i64 0], ?_, v, left2, rfl, HhL2.out, ?_, ?_⟩
                · rw [← h2, ← h3]
                  exact results_tmp2 rfl _ _ _
                · refine Kd.R_mono (Kd.R_step (Kd.R_bound (Kd.R_lower hR l3s)) (fun k h hlt => hk.block k hlt (fun hS => ?_))) (fun _ _ => trivial)
                  obtain ⟨_, _, _, q, _, cells, hc⟩ := h
                  obtain ⟨_, o, ho⟩ := hS
                  rw [hc] at ho
                  cases ho
                · refine (HhbW3.out.trans (hB.mono l3s)).trans (hk.below _ (Nat.le_trans l3s hB.size) (fun k _ h => ?_))
                  have := h.1
                  omega
              have Hhrest := Lib.hid hrest
              clear hrest
              go_loopw [11, 71] (fun v11 v71 W' => ∃ k : Nat, v71 = .int .i64 k ∧ k ≤ x.length ∧ (Kd.slice 3 (Kd.int .i64)).R 30 W' W3.heap.size (fun _ => True) v11 (outL left2 k) ∧ Below W3.heap.size W3 W')
                (fun _ v71 _ => x.length - (intOf v71).toNat)
              case atStart => exact ⟨0, rfl, Nat.zero_le _, Kd.R_nil _ _ _ _ _, Below.refl _ _⟩
              case round =>
                obtain ⟨k2, rfl, hk2, hR, hB⟩ := hrel
                obtain ⟨wi4, hwi4⟩ : ∃ wi4, wi4 = wr := ⟨_, rfl⟩
                rw [← hwi4] at hR hB ⊢
                clear hwi4
                have hrow4 := (hB.block _ ll3).trans HhrW3.out
                have lrow4 := (Array.getElem?_eq_some_iff.1 hrow4).1
                have f0 := pw_cell_below hB g0
                rcases Nat.lt_or_ge k2 x.length with hlt2 | hge2
                · obtain ⟨y0, y1⟩ := left_cell hrow4 k2 (by rw [HhL2.out.1]; omega)
                  have hs32 := left_lt Hhok.out HhL2.out hlt2
                  have hnx : outL left2 (k2 + 1) = outL left2 k2 ++ [(memL (left2.getD k2 0)).map Int.ofNat] := by
                    unfold outL
                    rw [List.range_succ, List.map_append]
                    rfl
                  have hll : (outL left2 k2).length = k2 := by simp [outL]
                  generalize left2.getD k2 0 = sv2 at y0 hs32 hnx
                  have hT4 : TabAt 1 Lib.deBruijn64tab wi4 := fun j hj => pw_cell_below (HhbW3.out.trans (hB.mono l3s)) (HhT.out j hj)
                  have h1w : 1 ≠ wi4.heap.size := by have := hB.size; omega
                  have HhR := Lib.hid hR
                  have HhB := Lib.hid hB
                  have Hhrow4 := Lib.hid hrow4
                  have Hhnx := Lib.hid hnx
                  have HhT4 := Lib.hid hT4
                  clear hR hB hrow4 hnx hT4
                  go_wp2_with fail
                  refine (members_calls sv2 _).mono ?_
                  rintro e V5 ⟨rfl, hV5⟩
                  have b5 : Below wi4.heap.size wi4 V5 := by rw [hV5]; (repeat (first | exact Below.refl _ _ | refine pw_below_drewN ?_ _ | refine below_drew ?_ | refine Below.alloc ?_ (by first | omega | (simp; done) | (simp; omega)) _ | refine Below.setCell ?_ (by first | omega | (simp; done) | (simp; omega)) _))
                  have n5 : V5.heap[wi4.heap.size]? = some (wordBox sv2) := by rw [hV5, heap_alloc_if, if_pos rfl]
                  have s5 : wi4.heap.size < V5.heap.size := (Array.getElem?_eq_some_iff.1 n5).1
                  have hT5 : TabAt 1 Lib.deBruijn64tab V5 := fun j hj => pw_cell_below b5 (HhT4.out j hj)
                  clear hV5
                  have hco := collect_calls wi4.heap.size sv2 V5 hs32 hT5 (by omega) n5
                  have Hb5 := Lib.hid b5
                  have Hn5 := Lib.hid n5
                  have HhT5 := Lib.hid hT5
                  have Hhco := Lib.hid hco
                  clear b5 n5 hT5 hco
                  go_wp2_with fail
                  refine Hhco.out.mono ?_
                  rintro e V6 ⟨v6, rfl, hR6, k6⟩
                  obtain ⟨A6, c6, e6, -, -⟩ := Kd.R_reads hR6
                  have b6 : Below wi4.heap.size wi4 V6 := Hb5.out.trans (k6.below _ Hb5.out.size (fun k _ h => by omega))
                  have hR60 := Kd.R_below HhR.out b6
                  have hB6 := HhB.out.trans (b6.mono HhB.out.size)
                  have hM6 : (Kd.slice 3 (Kd.int .i64)).M V6 W3.heap.size (fun k => wi4.heap.size ≤ k) ((memL sv2).map Int.ofNat) [v6] := by
                    refine ⟨v6, rfl, Kd.R_lower (Kd.R_mono (Kd.R_bound hR6) (fun k hk => ?_)) ?_⟩
                    · have := hk.2.1; omega
                    · have := HhB.out.size; omega
                  have hown : ∀ k, wi4.heap.size ≤ k → True ∧ some k ≠ u11.ownBlock := fun k hk => ⟨trivial, fun e => by have := Kd.R_lt HhR.out k e.symm; omega⟩
                  have s6 := b6.size
                  have s36 := HhB.out.size
                  clear k6 hR6
                  subst e6
                  generalize ((memL sv2).map Int.ofNat).length = n6 at *
                  have Hb6 := Lib.hid b6
                  have HhR60 := Lib.hid hR60
                  have HhB6 := Lib.hid hB6
                  have HhM6 := Lib.hid hM6
                  have Hhown := Lib.hid hown
                  clear b6 hR60 hB6 hM6 hown
                  go_wp2_with (refine stop_atw 81 ?_)
                  refine ⟨?_⟩
                  refine Kd.R_append (Kd.slice 3 (Kd.int .i64)) (w0 := W3) W3.heap.size ?zg (.tmp 74) (.tmp 80) 34 30 (.slice none 0 0) 24 ?zo Tryd.underlying34 info30 rfl (by decide) (by omega) u11 (outL left2 k2) ((memL sv2).map Int.ofNat) [.slice A6 n6 c6] (fun _ => True) (fun k => wi4.heap.size ≤ k) ?zs ?zx HhM6.out Hhown.out (fun _ _ => trivial) HhR60.out HhB6.out (by omega) (by rw [hll]; omega) ?_
                  case zg => rfl
                  case zo => rfl
                  case zs => rfl
                  case zx => rfl
                  intro v1 w1 hR1 hB1 _ _
                  have hRn := HhR.out
                  rw [← Hhnx.out] at hR1
                  have HhR1 := Lib.hid hR1
                  have HhB1 := Lib.hid hB1
                  clear hR1 hB1
                  clear hRn
                  go_wp2
                  refine ⟨⟨k2 + 1, by rfl, by omega, HhR1.out, HhB1.out⟩, ?_⟩
                  simp [intOf]
                  omega
                · obtain rfl : k2 = x.length := by omega
                  have HhR := Lib.hid hR
                  have HhB := Lib.hid hB
                  have Hhrow4 := Lib.hid hrow4
                  clear hR hB hrow4
                  go_wp2
                  gi_wp2
                  refine Hhrest.out _ _ _ HhR.out HhB.out ?_ ?_ <;> rfl
end Go.Proofs.YtlhnpbdpojcbeaaDoor
end
