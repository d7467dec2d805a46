/- Lemmas of this proof, part 17. -/
import Derived.Test.YtlhnpbdpojcbeaaDoorZ0
import Derived.Test.YtlhnpbdpojcbeaaDoorZ1
import Derived.Test.YtlhnpbdpojcbeaaDoorZ2
import Derived.Test.YtlhnpbdpojcbeaaDoorZ3
import Derived.Test.YtlhnpbdpojcbeaaDoorZ4
import Derived.Test.YtlhnpbdpojcbeaaDoorZ5
import Derived.Test.YtlhnpbdpojcbeaaDoorZ6
import Derived.Test.YtlhnpbdpojcbeaaDoorZ7
import Derived.Test.YtlhnpbdpojcbeaaDoorZ8
import Derived.Test.YtlhnpbdpojcbeaaDoorZ9
import Derived.Test.YtlhnpbdpojcbeaaDoorZ10
import Derived.Test.YtlhnpbdpojcbeaaDoorZ11
import Derived.Test.YtlhnpbdpojcbeaaDoorZ12
import Derived.Test.YtlhnpbdpojcbeaaDoorZ13
import Derived.Test.YtlhnpbdpojcbeaaDoorZ14
import Derived.Test.YtlhnpbdpojcbeaaDoorZ15
import Derived.Test.YtlhnpbdpojcbeaaDoorZ16
section
open Go Go.RowKit
namespace Go.Proofs.YtlhnpbdpojcbeaaDoor
open Go.Proofs.YtlhnpbdpojcbeaaDoorW.PrintWords
open PPackAll Go.Shelf
set_option linter.unusedVariables false
set_option linter.unusedSimpArgs false
theorem rd_pad (p : List Int) (i : Nat) : rd (pad p) i = rd p i := by
  unfold rd pad
  rw [Int.toNat_natCast, List.getD_eq_getElem?_getD, List.getD_eq_getElem?_getD]
  rcases Nat.lt_or_ge i p.length with h | h
  · rw [List.getElem?_append_left h]
  · rw [List.getElem?_append_right h, List.getElem?_eq_none h]
    cases hq : (List.replicate (8 - p.length) (0 : Int))[i - p.length]? with
    | none => rfl
    | some v =>
      have := List.mem_of_getElem? hq
      rw [List.mem_replicate] at this
      simp [this.2]
theorem pad_full {x : List (List S60)} {p : List Int} (h8 : x.length ≤ 8) (h : InR x p) : Full x (pad p) := by
  refine ⟨pad_length p (by rw [h.1]; omega), fun i hi => by rw [rd_pad]; exact h.2 i hi, fun i hi => ?_⟩
  rw [rd_pad, rd_beyond _ _ (by rw [h.1]; exact hi)]
theorem rd_take (q : List Int) (n i : Nat) (h : i < n) : rd (q.take n) i = rd q i := by
  unfold rd
  rw [Int.toNat_natCast, List.getD_eq_getElem?_getD, List.getD_eq_getElem?_getD, List.getElem?_take, if_pos h]
theorem take_in {x : List (List S60)} {q : List Int} (h8 : x.length ≤ 8) (h : Full x q) : InR x (q.take x.length) := by
  refine ⟨by rw [List.length_take, h.1]; omega, fun i hi => ?_⟩
  rw [rd_take _ _ _ hi]
  exact h.2.1 i hi
theorem pad_take {x : List (List S60)} {q : List Int} (h8 : x.length ≤ 8) (h : Full x q) : pad (q.take x.length) = q := by
  refine rd_ext (pad_length _ (by rw [List.length_take]; omega)) h.1 (fun i hi => ?_)
  rw [rd_pad]
  rcases Nat.lt_or_ge i x.length with hl | hg
  · exact rd_take _ _ _ hl
  · rw [h.2.2 i hg, rd_beyond _ _ (by rw [List.length_take]; omega)]
theorem part_zero (x : List (List S60)) : Part x zeros8 0 := by
  refine ⟨rfl, fun i hi => by omega, fun i _ => ?_⟩
  rcases Nat.lt_or_ge i 8 with h | h
  · have : ∀ i : Fin 8, rd zeros8 (i.val : Int) = 0 := by decide
    exact this ⟨i, h⟩
  · exact rd_beyond _ _ h
theorem ext_zero {x : List (List S60)} {q : List Int} : Ext x 0 zeros8 q ↔ Full x q := ⟨fun h => h.1, fun h => ⟨h, fun i hi => by omega⟩⟩
def RightL (x : List (List S60)) (gs : List S68) (p : List Int) : Prop := InR x p ∧ (faultF x gs (pad p)).1 = 0
theorem rightL_right {x : List (List S60)} {gs : List S68} {p : List Int} (h8 : x.length ≤ 8) (h : RightL x gs p) : Full x (pad p) ∧ Right x gs (pad p) := ⟨pad_full h8 h.1, faultF_zero x gs _ h.2⟩
theorem right_rightL {x : List (List S60)} {gs : List S68} {q : List Int} (h8 : x.length ≤ 8) (hf : Full x q) (h : Right x gs q) : RightL x gs (q.take x.length) := ⟨take_in h8 hf, by rw [pad_take h8 hf, h]⟩
def NewL (N : Nat) (a b : List Int) : Prop := ∃ i : Nat, i < N ∧ (∀ j : Nat, j < i → rd a j = rd b j) ∧ newV (rd a i) (rd b i)
theorem newL_irrefl (N : Nat) (a : List Int) : ¬ NewL N a a := fun ⟨i, _, _, h⟩ => h.1 rfl
theorem newL_asymm {N : Nat} {a b : List Int} (h : NewL N a b) : ¬ NewL N b a := by
  rintro ⟨j, hj, hjp, hjv⟩
  obtain ⟨i, hi, hip, hiv⟩ := h
  rcases Nat.lt_trichotomy i j with hl | he | hg
  · exact hiv.1 (hjp i hl).symm
  · subst he
    unfold newV at hiv hjv
    omega
  · exact hjv.1 (hip j hg).symm
theorem newer_take {x : List (List S60)} {q q' : List Int} (h : Newer x q q') : NewL x.length (q.take x.length) (q'.take x.length) := by
  obtain ⟨i, hi, hp, hv⟩ := h
  refine ⟨i, hi, fun j hj => ?_, ?_⟩
  · rw [rd_take _ _ _ (by omega), rd_take _ _ _ (by omega)]; exact hp j hj
  · rw [rd_take _ _ _ hi, rd_take _ _ _ hi]; exact hv
theorem take_pad {x : List (List S60)} {p : List Int} (h : p.length = x.length) : (pad p).take x.length = p := by
  unfold pad
  rw [← h, List.take_left' rfl]
section
variable {x : List (List S60)} {gs : List S68} (hok : OkIdx x) (hgo : OkGoals x gs)
include hok hgo
theorem law_best_none (h : bestR x gs (allC x gs) = none) : ∀ p, ¬ RightL x gs p := by
  intro p hp
  obtain ⟨hf, hr⟩ := rightL_right hok.2.1 hp
  rcases best_spec x gs (allC x gs) hok hgo allC_ok x.length 0 zeros8 (by omega) (part_zero x) with ⟨_, h2⟩ | ⟨q, _, _, h3, _⟩
  · exact h2 _ (ext_zero.2 hf) hr
  · unfold bestR at h
    rw [h3] at h
    cases h
theorem law_best_some {b : List Int} (h : bestR x gs (allC x gs) = some b) : RightL x gs b ∧ ∀ p, RightL x gs p → ¬ NewL x.length p b := by
  have h8 := hok.2.1
  rcases best_spec x gs (allC x gs) hok hgo allC_ok x.length 0 zeros8 (by omega) (part_zero x) with ⟨h1, _⟩ | ⟨q, hq, hr, h3, h4⟩
  · unfold bestR at h
    rw [h1] at h
    cases h
  · unfold bestR at h
    rw [h3] at h
    obtain rfl : q.take x.length = b := Option.some.inj h
    refine ⟨right_rightL h8 (ext_zero.1 hq) hr, fun p hp hn => ?_⟩
    obtain ⟨hf, hpr⟩ := rightL_right h8 hp
    rcases h4 (pad p) (ext_zero.2 hf) hpr with he | hnew
    · rw [← he, take_pad hp.1.1] at hn
      exact newL_irrefl _ _ hn
    · have := newer_take hnew
      rw [take_pad hp.1.1] at this
      exact newL_asymm this hn
theorem far_apart {q h : List Int} (hf : Full x q) (hh : h.length = x.length) : farF (pad h) q x.length = apartN (q.take x.length) h x.length := by
  have uhgo := hgo
  have h8 := hok.2.1
  unfold farF diffF apartN
  rw [← List.countP_eq_length_filter]
  have e : List.range 8 = List.range x.length ++ (List.range (8 - x.length)).map (x.length + ·) := by
    rw [← List.range_add, show x.length + (8 - x.length) = 8 by omega]
  rw [e, List.countP_append]
  have z : List.countP (fun (i : Nat) => rd (mixL q (pad h) x.length 8) i != rd (pad h) i) ((List.range (8 - x.length)).map (x.length + ·)) = 0 := by
    rw [List.countP_eq_zero]
    intro i hi
    obtain ⟨j, hj, rfl⟩ := List.mem_map.1 hi
    have hj' : j < 8 - x.length := by simpa using hj
    rw [mixL_rd _ _ _ _ _ (by omega), if_pos (by omega)]
    simp
  rw [z, Nat.add_zero]
  refine List.countP_congr (fun i hi => ?_)
  have hi' : i < x.length := by simpa using hi
  rw [mixL_rd _ _ _ _ _ (by omega), if_neg (by omega), rd_pad, rd_take _ _ _ hi']
theorem law_near {h : List Int} (hh : h.length = x.length) :
    ((nearR x gs (pad h) (allC x gs)).2 = none ∧ ∀ p, ¬ RightL x gs p) ∨
    ∃ q, nearR x gs (pad h) (allC x gs) = (apartN q h x.length, some q) ∧ RightL x gs q ∧ ∀ p, RightL x gs p → apartN q h x.length ≤ apartN p h x.length ∧ (apartN p h x.length = apartN q h x.length → ¬ NewL x.length p q) := by
  have h8 := hok.2.1
  obtain ⟨_, h1, h2⟩ := near_spec x gs (pad h) (allC x gs) hok hgo allC_ok x.length 0 zeros8 (x.length + 1, none) (by omega) (part_zero x)
  have hapart : ∀ p, RightL x gs p → farF (pad h) (pad p) x.length = apartN p h x.length := fun p hp => by
    rw [far_apart hok hgo (pad_full h8 hp.1) hh, take_pad hp.1.1]
  rcases h2 with h2 | ⟨q, hq, hr, h3, h4, h5⟩
  · left
    unfold nearR
    rw [h2] at h1 ⊢
    refine ⟨rfl, fun p hp => ?_⟩
    obtain ⟨hf, hpr⟩ := rightL_right h8 hp
    have := h1 _ (ext_zero.2 hf) hpr
    rw [hapart p hp] at this
    have := apartN_le p h x.length
    simp only at *
    omega
  · right
    have hfq := ext_zero.1 hq
    refine ⟨q.take x.length, ?_, right_rightL h8 hfq hr, fun p hp => ?_⟩
    · unfold nearR
      rw [h3, far_apart hok hgo hfq hh]
    · obtain ⟨hf, hpr⟩ := rightL_right h8 hp
      have hle := h1 _ (ext_zero.2 hf) hpr
      rw [h3, hapart p hp, far_apart hok hgo hfq hh] at hle
      refine ⟨hle, fun he hn => ?_⟩
      rcases h5 (pad p) (ext_zero.2 hf) hpr (by rw [hapart p hp, far_apart hok hgo hfq hh]; exact he) with hee | hnew
      · rw [← hee, take_pad hp.1.1] at hn
        exact newL_irrefl _ _ hn
      · have := newer_take hnew
        rw [take_pad hp.1.1] at this
        exact newL_asymm this hn
theorem kept_iff (cl : List S49) (hkc : ∀ k ∈ cl, OkClause x gs k) : keptF x gs cl = true ↔ ∃ q, Full x q ∧ ∀ k ∈ cl, brokenF x gs k q x.length = false := by
  rcases kept_spec x gs cl hok hgo hkc x.length 0 zeros8 (by omega) (part_zero x) with ⟨h1, h2⟩ | ⟨q, hq, h2, h3⟩
  · unfold keptF
    rw [h1]
    refine ⟨fun h => (by cases h), fun ⟨q, hf, hq⟩ => ?_⟩
    obtain ⟨k, hk, hb⟩ := h2 q (ext_zero.2 hf)
    rw [hq k hk] at hb
    cases hb
  · unfold keptF
    rw [h3]
    exact ⟨fun _ => ⟨q, ext_zero.1 hq, h2⟩, fun _ => rfl⟩
theorem law_kept : keptF x gs (allC x gs) = true ↔ ∃ p, RightL x gs p := by
  rw [kept_iff hok hgo _ allC_ok]
  constructor
  · rintro ⟨q, hf, hb⟩
    obtain ⟨h1, h2⟩ := cut_right x gs (allC x gs) q hok hgo allC_all hf hb
    exact ⟨_, right_rightL hok.2.1 h1 h2⟩
  · rintro ⟨p, hp⟩
    obtain ⟨h1, h2⟩ := rightL_right hok.2.1 hp
    exact ⟨pad p, h1, fun k hk => right_unbroken hok hgo (allC_ok k hk) h1 h2⟩
theorem coreF_kept (k : Nat) : ∀ (cl : List S49), keptF x gs cl = false → keptF x gs (coreF x gs k cl) = false := by
  have uhok := hok
  have uhgo := hgo
  induction k with
  | zero => exact fun cl h => h
  | succ k ih =>
    intro cl h
    unfold coreF
    refine ih _ ?_
    split
    · exact h
    · rename_i hc
      simpa using hc
theorem broken_keep {c : S49} {q : List Int} (hc : OkClause x gs c) : brokenF x gs c q x.length = !keepF x gs c q := by
  have hr := rng_ok hok hgo hc
  have hl : decide ((rngOf x gs c).f0 < (x.length : Int)) = true := decide_eq_true hr.2.1
  unfold brokenF keepF
  by_cases h0 : c.f0 = -1
  · rw [if_pos h0, if_pos h0, hl, Bool.true_and]
  · rw [if_neg h0, if_neg h0]
    have hlt : c.f0 < (x.length : Int) := by
      rcases hc with ⟨h, _⟩ | ⟨_, h, _⟩
      · exact absurd h h0
      · exact h
    by_cases h1 : rd q c.f0 = c.f1
    · have hn : ¬ ((x.length : Int) ≤ c.f0 ∨ rd q c.f0 ≠ c.f1) := by omega
      have hn2 : ¬ (rd q c.f0 ≠ c.f1) := by simpa using h1
      rw [if_neg hn, if_neg hn2]
      cases c.f2 <;> simp [hl]
    · rw [if_pos (.inr h1), if_pos h1]
      rfl
theorem keep_pad {c : S49} {p : List Int} (hc : OkClause x gs c) : keepF x gs c (pad p) = keepF x gs c p := by
  have hr := rng_ok hok hgo hc
  have e : ∀ v : Int, 0 ≤ v → rd (pad p) v = rd p v := fun v h => by
    have := rd_pad p v.toNat
    rwa [Int.toNat_of_nonneg h] at this
  have em : meetsF (pad p) (rngOf x gs c) = meetsF p (rngOf x gs c) := meets_congr (e _ hr.1)
  unfold keepF
  rw [em]
  by_cases h0 : c.f0 = -1
  · rw [if_pos h0, if_pos h0]
  · have hc0 : 0 ≤ c.f0 := by
      rcases hc with ⟨h, _⟩ | ⟨h, _⟩
      · exact absurd h h0
      · exact h
    rw [if_neg h0, if_neg h0, e _ hc0]
theorem coreRes_ok : (∀ c ∈ coreRes x gs (allC x gs), c ∈ allC x gs) := by
  have uhok := hok
  have uhgo := hgo
  intro c hc
  unfold coreRes at hc
  split at hc
  · cases hc
  · exact coreF_mem x gs _ _ c hc
theorem law_core (h : coreErr x gs (allC x gs) = 0) : ∀ p, InR x p → (coreRes x gs (allC x gs)).any (fun c => !keepF x gs c p) = true := by
  intro p hp
  have hk : keptF x gs (allC x gs) = false := by
    unfold coreErr at h
    cases hk : keptF x gs (allC x gs) with
    | false => rfl
    | true => rw [hk] at h; simp at h
  have hmem := coreRes_ok hok hgo
  have hc := coreF_kept hok hgo (allC x gs).length _ hk
  have he : coreRes x gs (allC x gs) = coreF x gs (allC x gs).length (allC x gs) := by unfold coreRes; rw [hk]; rfl
  rw [he] at hmem ⊢
  have hn : ¬ ∃ q, Full x q ∧ ∀ k ∈ coreF x gs (allC x gs).length (allC x gs), brokenF x gs k q x.length = false := by
    rw [← kept_iff hok hgo _ (fun k hk => allC_ok k (hmem k hk)), hc]
    simp
  rw [List.any_eq_true]
  refine Classical.byContradiction fun hno => hn ⟨pad p, pad_full hok.2.1 hp, fun k hk => ?_⟩
  have hkc := allC_ok k (hmem k hk)
  rw [broken_keep hok hgo hkc, keep_pad hok hgo hkc]
  cases hkp : keepF x gs k p with
  | true => rfl
  | false => exact absurd ⟨k, hk, by rw [hkp]; rfl⟩ hno
theorem right_valid {p : List Int} (hp : RightL x gs p) : Valid x p := by
  have uhgo := hgo
  obtain ⟨hf, hr⟩ := rightL_right hok.2.1 hp
  obtain ⟨_, h1⟩ := right_iff.1 hr
  have em : ∀ r : S68, OkRange x r → meetsF (pad p) r = meetsF p r := fun r hr => by
    refine meets_congr ?_
    have := rd_pad p r.f0.toNat
    rwa [Int.toNat_of_nonneg hr.1] at this
  intro i hi
  refine ⟨hp.1.2 i hi, fun h0 => ?_⟩
  obtain ⟨a1, a2, _⟩ := h1 i hi
  have hne : rd p i ≠ -1 := by omega
  have hrel := relOf_ok x p hok hp.1.2 i hi hne
  unfold passB relAt at a1 a2
  rw [rd_pad, if_neg hne] at a1 a2
  simp only [if_true, Nat.one_ne_zero, if_false] at a1 a2
  rw [Bool.not_eq_false', List.all_eq_true] at a1
  rw [List.any_eq_false] at a2
  refine ⟨fun n hn => ?_, fun b hb => ?_⟩
  · rw [← em n (hrel.2.2.1 n hn).1]; exact a1 n hn
  · rw [← em b (hrel.2.2.2 b hb).1]; simpa using a2 b hb
theorem law_left {left : List Nat} (hl : LeftOk x left) {p : List Int} (hp : RightL x gs p) {i : Nat} (hi : i < x.length) (h0 : 0 ≤ rd p i) : rd p i ∈ (memL (left.getD i 0)).map Int.ofNat := by
  have ht := hl.2.2 p (right_valid hok hgo hp) i hi h0
  have h5 := (hok.2.2 i hi).1
  have := hp.1.2 i hi
  refine List.mem_map.2 ⟨(rd p i).toNat, memL_of (by omega) ht, ?_⟩
  exact Int.toNat_of_nonneg h0
end
end Go.Proofs.YtlhnpbdpojcbeaaDoor
end
section
open Go Go.RowKit
namespace Go.Proofs.YtlhnpbdpojcbeaaDoor
open Go.Proofs.YtlhnpbdpojcbeaaDoorW.PrintWords
open PPackAll Go.Shelf
set_option linter.unusedVariables false
set_option linter.unusedSimpArgs false
theorem outL_length (left : List Nat) (k : Nat) : (outL left k).length = k := by simp [outL]
theorem outL_get (left : List Nat) (k : Nat) (i : Nat) (h : i < k) : (outL left k).getD i [] = (memL (left.getD i 0)).map Int.ofNat := by
  unfold outL
  rw [List.getD_eq_getElem?_getD, List.getElem?_map, List.getElem?_range h]
  rfl
theorem at_rows {w : World} {A : Option Addr} {n : Nat} {xs : List (List Int)} (h : Kd.C (Kd.slice 3 (Kd.int .i64)) w A n xs) (i : Int) (h0 : 0 ≤ i) (h1 : i < n) :
    ∃ ad A0 c0, A = some ad ∧ w.cell? (ad.add i.toNat) = some (.slice A0 (xs.getD i.toNat []).length c0) ∧ (xs.getD i.toNat []).length ≤ c0 ∧ Kd.C (Kd.int .i64) w A0 (xs.getD i.toNat []).length (xs.getD i.toNat []) := by
  obtain ⟨ad, c, e, _, hK, hc0⟩ := Kd.C_get h ([] : List Int) i h0 h1
  have hc : ∀ j u, c[j]? = some u → w.cell? (ad.add (i.toNat * 1 + j)) = some u := hc0
  obtain ⟨A0, c0, rfl, l0, g0⟩ := hK
  exact ⟨ad, A0, c0, e, by have hq := hc 0 _ rfl; rwa [Nat.mul_one, Nat.add_zero] at hq, l0, g0⟩
theorem drawn0_below {w w' : World} (h : Drawn0 w w') : Below w.heap.size w w' := by
  obtain ⟨n, rfl⟩ := h.out
  (repeat (first | exact Below.refl _ _ | refine pw_below_drewN ?_ _ | refine below_drew ?_ | refine Below.alloc ?_ (by first | omega | (simp; done) | (simp; omega)) _ | refine Below.setCell ?_ (by first | omega | (simp; done) | (simp; omega)) _))
def Says (r : Value) (w : World) (e : Ending) (w' : World) : Prop := e = .returned r ∧ Below w.heap.size w w'
theorem newer_no {W : World} {P Q : Option Addr} {pc qc N : Nat} {p q : List Int} (hp : Kd.C (Kd.int .i64) W P p.length p) (hpc : p.length ≤ pc) (hq : Kd.C (Kd.int .i64) W Q q.length q) (hqc : q.length ≤ qc) (hN : N ≤ 8) (h1 : p.length = N) (h2 : q.length = N) (hn : ¬ NewL N p q) :
    Calls Tryd.prog 21 #[.slice P p.length pc, .slice Q q.length qc] W (Says (.bool false) W) := by
  obtain ⟨r, e1, e2⟩ := newer_ev N p q h1 h2 hN N 0 (by omega) (fun j hj => by omega)
  cases r with
  | true => exact absurd (e2 rfl) hn
  | false =>
    obtain ⟨k, hk⟩ := e1.get
    refine (swinglelaw26_newer.calls k P pc p Q qc q false W hp hpc hq hqc (by unfold swinglelaw26_newer.f; rw [h1]; exact hk)).mono ?_
    rintro e w' ⟨rfl, h⟩
    exact ⟨rfl, drawn0_below h⟩
theorem apart_is {W : World} {P Q : Option Addr} {pc qc N : Nat} {p q : List Int} (hp : Kd.C (Kd.int .i64) W P p.length p) (hpc : p.length ≤ pc) (hq : Kd.C (Kd.int .i64) W Q q.length q) (hqc : q.length ≤ qc) (hN : N ≤ 8) (h1 : p.length = N) (h2 : q.length = N) :
    Calls Tryd.prog 15 #[.slice P p.length pc, .slice Q q.length qc] W (Says (.int .i64 (apartN p q N : Nat)) W) := by
  obtain ⟨k, hk⟩ := (apart_ev N p q h1 h2 hN N 0 (by omega)).get
  have hz : apartN p q 0 = 0 := rfl
  rw [hz] at hk
  refine (swinglelaw26_apart.calls k P pc p Q qc q _ W hp hpc hq hqc (by unfold swinglelaw26_apart.f; rw [h1]; exact hk)).mono ?_
  rintro e w' ⟨rfl, h⟩
  exact ⟨rfl, drawn0_below h⟩
theorem contains_yes {W : World} {P : Option Addr} {pc : Nat} {p : List Int} {v : Int} (hp : Kd.C (Kd.int .i64) W P p.length p) (hpc : p.length ≤ pc) (hl : p.length ≤ 1000) (hv : v ∈ p) :
    Calls Tryd.prog 22 #[.slice P p.length pc, .int .i64 v] W (Says (.bool true) W) := by
  obtain ⟨k, hk⟩ := (contains_ev p v hl hv).get
  refine (slices_Contains_int_int.calls k P pc p v true W hp hpc hk).mono ?_
  rintro e w' ⟨rfl, h⟩
  exact ⟨rfl, drawn0_below h⟩
theorem many_is (x : List (List S60)) (h8 : x.length ≤ 8) : ∃ m, ∀ (A : Option Addr) (c : Nat) (W : World), Kd.C (Kd.slice 60 k60) W A x.length x → x.length ≤ c → Calls Tryd.prog 12 #[.agg #[.slice A x.length c]] W (Says (.int .i64 m) W) := by
  obtain ⟨m, hm⟩ := many_ev x (by omega) x.length 0 1 (by omega)
  obtain ⟨k, hk⟩ := hm.get
  exact ⟨m, fun A c W hx hc => swinglelaw26_manyPlans.calls k A c x m W hx hc hk⟩
theorem plan_yes {W : World} {A P : Option Addr} {c pc : Nat} {x : List (List S60)} {p : List Int} (hx : Kd.C (Kd.slice 60 k60) W A x.length x) (hc : x.length ≤ c) (hok : OkIdx x) (hp : Kd.C (Kd.int .i64) W P p.length p) (hpc : p.length ≤ pc) (hin : InR x p) :
    Calls Tryd.prog 9 #[.agg #[.slice A x.length c], .slice P p.length pc] W (Says (.bool true) W) := by
  have h8 := hok.2.1
  obtain ⟨k, hk⟩ := (plan_ev x p h8 (fun i hi => by have := (hok.2.2 i hi).1; omega) hin x.length 0 (by omega)).get
  refine swingleref26_Plan.calls k A c x P pc p true W hx hc hp hpc ?_
  unfold swingleref26_Plan.f
  exact hk
theorem there_yes {W : World} {A B : Option Addr} {c d : Nat} {x : List (List S60)} {gs : List S68} {q : S49} (hx : Kd.C (Kd.slice 60 k60) W A x.length x) (hc : x.length ≤ c) (hok : OkIdx x) (hg : k68.C W B gs.length gs) (hd : gs.length ≤ d) (hgo : OkGoals x gs) (hq : q ∈ allC x gs) :
    Calls Tryd.prog 16 #[.agg #[.slice A x.length c], .slice B gs.length d, .agg #[.int .i64 q.f0, .int .i64 q.f1, .bool q.f2, .int .i64 q.f3]] W (Says (.bool true) W) := by
  obtain ⟨k, hk⟩ := (there_ev hok hgo hq).get
  exact swinglelaw26_there.calls k A c x B d gs q.f0 q.f1 q.f2 q.f3 true W hx hc hg hd hk
theorem drawn_is {W : World} {A Y : Option Addr} {c yc : Nat} {x : List (List S60)} {bs : List Int} (hx : Kd.C (Kd.slice 60 k60) W A x.length x) (hc : x.length ≤ c) (hok : OkIdx x) (hy : Kd.C (Kd.int .u8) W Y bs.length bs) (hyc : bs.length ≤ yc) (hbl : bs.length ≤ 9223372036854775807) (hb : ∀ b ∈ bs, 0 ≤ b ∧ b < 256) (n : Nat) (hn : n ≤ 1000) :
    Calls Tryd.prog 11 #[.agg #[.slice A x.length c], .slice Y bs.length yc, .int .i64 n] W (GrownIs x W) := by
  obtain ⟨p, e1, e2⟩ := drawn_f x bs n hok hb hbl hn
  obtain ⟨k, hk⟩ := e1.get
  refine (swinglelaw26_drawn.calls k A c x Y yc bs n p W hx hc hy hyc hk).mono ?_
  rintro e w' ⟨v, rfl, h1, h2⟩
  exact ⟨v, p, rfl, e2, h1, h2⟩
structure Found (x : List (List S60)) (gs : List S68) (ls : List (List Int)) (bst hv nr : List Int) (core : List S49) (e g far m : Int) : Prop where
  ok : OkIdx x
  goals : OkGoals x gs
  hav : InR x hv
  rows : ls.length = x.length
  left : ∀ p, RightL x gs p → ∀ i : Nat, i < x.length → 0 ≤ rd p i → rd p i ∈ ls.getD i [] ∧ (ls.getD i []).length ≤ 1000
  inCore : ∀ c ∈ core, c ∈ allC x gs
  smallCore : core.length ≤ 400
  gs2 : g = 0 ∨ g = 5
  breaks : g = 0 → ∀ p, InR x p → core.any (fun c => !keepF x gs c p) = true
  best : ∀ p, RightL x gs p → e = 0 ∧ bst.length = x.length ∧ ¬ NewL x.length p bst
  near : m ≤ 20000 → ∀ p, RightL x gs p → nr.length = x.length ∧ far ≤ (apartN p hv x.length : Nat) ∧ ((apartN p hv x.length : Nat) = far → ¬ NewL x.length p nr)
end Go.Proofs.YtlhnpbdpojcbeaaDoor
end
section
open Go Go.RowKit
namespace Go.Proofs.YtlhnpbdpojcbeaaDoor
open Go.Proofs.YtlhnpbdpojcbeaaDoorW.PrintWords
open PPackAll Go.Shelf
set_option linter.unusedVariables false
set_option linter.unusedSimpArgs false
def codeL : Code → Code
  | .seq a _ => a
  | c => c
def codeR : Code → Code
  | .seq _ b => b
  | c => c
def codeB : Code → Code
  | .block _ c => c
  | c => c
def codeO : Code → Code
  | .loop c => c
  | c => c
def lawTail (b : Option Code) : Code := codeR (codeR (codeR (codeR (codeR (codeR (codeR (codeR (codeR (codeR (codeR (codeR (b.getD .skip))))))))))))
def coreLoop (b : Option Code) : Code := codeB (codeR (codeL (lawTail b)))
def planLoop (b : Option Code) : Code := codeB (codeR (codeL (codeR (lawTail b))))
def rowLoop (b : Option Code) : Code := codeB (codeR (codeR (codeR (codeR (codeR (codeR (codeR (codeR (codeR (codeB (codeL (codeR (codeR (codeO (planLoop b)))))))))))))))
set_option maxRecDepth 100000 in
set_option maxHeartbeats 16000000 in
theorem rowLoop_wp (Ll : Option Addr) (cl : Nat) (ls : List (List Int)) (P : Option Addr) (pc : Nat) (p : List Int) (W0 : World)
    (hls : Kd.C (Kd.slice 3 (Kd.int .i64)) W0 Ll ls.length ls) (hp : Kd.C (Kd.int .i64) W0 P p.length p) (hl : ls.length = p.length) (h8 : p.length ≤ 8)
    (hin : ∀ i : Nat, i < p.length → 0 ≤ rd p i → rd p i ∈ ls.getD i [] ∧ (ls.getD i []).length ≤ 1000)
    (Q : Exit → Act → World → Prop) (u0 u1 u2 u3 u4 u5 u6 u7 u8 u10 u11 u12 u13 u14 u15 u16 u17 u18 u19 u20 u21 u22 u23 u24 u25 u26 u27 u28 u29 u30 u31 u32 u33 u34 u35 u36 u37 u38 u39 u40 u41 u42 u43 u44 u45 u46 u47 u48 u49 u50 u51 u52 u53 u54 u55 u56 u57 u58 u59 u60 u61 u62 u63 u64 u65 u66 u67 u68 u69 u70 u71 u72 u73 u74 u75 u76 u77 u78 u79 u80 u81 u82 u83 u84 u85 u86 u87 u88 u89 u90 u91 u92 u93 u94 u95 u96 u97 u98 u99 u100 u101 u102 u103 u104 u105 u106 u107 u108 u109 u110 u111 u112 u113 u114 u115 u116 u117 u118 u119 u120 u121 u122 u123 u124 u125 u126 u127 u128 u129 u130 u131 u132 u133 u134 u135 u136 u137 u138 u139 u140 u141 u142 u143 u144 u145 u146 u147 u148 u149 u150 u151 u152 u153 u154 u155 u156 u157 u158 u159 u160 u161 u162 u163 u164 u165 u166 u167 u168 u169 u170 u171 u172 u173 u174 u175 u176 u177 u178 u179 u180 u181 u182 u183 u184 u185 u186 u187 u188 u189 u190 u191 u192 u193 u194 u195 u196 u197 u198 u199 u200 u201 u202 u203 u204 u205 u206 u207 u208 u209 u210 u211 u212 u213 u214 u215 u216 u217 u218 u219 u220 u221 u222 u223 u224 u225 u226 u227 u228 u229 u230 u231 u232 u233 u234 u235 u236 u237 u238 u239 u240 u241 u242 u243 u244 u245 u246 u250 u251 u252 u253 u254 u255 u256 u257 u258 u259 u260 u261 u262 u263 u264 u265 u266 u267 : Value) (hQ : ∀ (v6 v27 v28 v249 v250 v251 v252 v253 v254 v255 v256 v257 v258 v259 v260 v261 v262 v263 v264 v265 : Value) (W : World), Below W0.heap.size W0 W → Q (.exit 4) { tmps := #[u0, u1, u2, u3, u4, u5, v6, u7, u8, .slice Ll ls.length cl, u10, u11, u12, u13, u14, u15, u16, u17, u18, u19, u20, u21, u22, u23, u24, u25, u26, v27, v28, u29, u30, u31, u32, u33, u34, u35, u36, u37, u38, u39, u40, u41, u42, u43, u44, u45, u46, u47, u48, u49, u50, u51, u52, u53, u54, u55, u56, u57, u58, u59, u60, u61, u62, u63, u64, u65, u66, u67, u68, u69, u70, u71, u72, u73, u74, u75, u76, u77, u78, u79, u80, u81, u82, u83, u84, u85, u86, u87, u88, u89, u90, u91, u92, u93, u94, u95, u96, u97, u98, u99, u100, u101, u102, u103, u104, u105, u106, u107, u108, u109, u110, u111, u112, u113, u114, u115, u116, u117, u118, u119, u120, u121, u122, u123, u124, u125, u126, u127, u128, u129, u130, u131, u132, u133, u134, u135, u136, u137, u138, u139, u140, u141, u142, u143, u144, u145, u146, u147, u148, u149, u150, u151, u152, u153, u154, u155, u156, u157, u158, u159, u160, u161, u162, u163, u164, u165, u166, u167, u168, u169, u170, u171, u172, u173, u174, u175, u176, u177, u178, u179, u180, u181, u182, u183, u184, u185, u186, u187, u188, u189, u190, u191, u192, u193, u194, u195, u196, u197, u198, u199, u200, u201, u202, u203, u204, u205, u206, u207, u208, u209, u210, u211, u212, u213, u214, u215, u216, u217, u218, u219, u220, u221, u222, u223, u224, u225, u226, u227, u228, u229, u230, u231, u232, u233, u234, u235, u236, u237, u238, u239, u240, u241, u242, u243, u244, u245, u246, .slice P p.length pc, .int .i64 p.length, v249, v250, v251, v252, v253, v254, v255, v256, v257, v258, v259, v260, v261, v262, v263, v264, v265, u266, u267], defers := [] } W) :
    (rowLoop Tryd.f3.body).wp Tryd.prog Q { tmps := #[u0, u1, u2, u3, u4, u5, u6, u7, u8, .slice Ll ls.length cl, u10, u11, u12, u13, u14, u15, u16, u17, u18, u19, u20, u21, u22, u23, u24, u25, u26, u27, u28, u29, u30, u31, u32, u33, u34, u35, u36, u37, u38, u39, u40, u41, u42, u43, u44, u45, u46, u47, u48, u49, u50, u51, u52, u53, u54, u55, u56, u57, u58, u59, u60, u61, u62, u63, u64, u65, u66, u67, u68, u69, u70, u71, u72, u73, u74, u75, u76, u77, u78, u79, u80, u81, u82, u83, u84, u85, u86, u87, u88, u89, u90, u91, u92, u93, u94, u95, u96, u97, u98, u99, u100, u101, u102, u103, u104, u105, u106, u107, u108, u109, u110, u111, u112, u113, u114, u115, u116, u117, u118, u119, u120, u121, u122, u123, u124, u125, u126, u127, u128, u129, u130, u131, u132, u133, u134, u135, u136, u137, u138, u139, u140, u141, u142, u143, u144, u145, u146, u147, u148, u149, u150, u151, u152, u153, u154, u155, u156, u157, u158, u159, u160, u161, u162, u163, u164, u165, u166, u167, u168, u169, u170, u171, u172, u173, u174, u175, u176, u177, u178, u179, u180, u181, u182, u183, u184, u185, u186, u187, u188, u189, u190, u191, u192, u193, u194, u195, u196, u197, u198, u199, u200, u201, u202, u203, u204, u205, u206, u207, u208, u209, u210, u211, u212, u213, u214, u215, u216, u217, u218, u219, u220, u221, u222, u223, u224, u225, u226, u227, u228, u229, u230, u231, u232, u233, u234, u235, u236, u237, u238, u239, u240, u241, u242, u243, u244, u245, u246, .slice P p.length pc, .int .i64 p.length, .int .i64 0, u250, u251, u252, u253, u254, u255, u256, u257, u258, u259, u260, u261, u262, u263, u264, u265, u266, u267], defers := [] } W0 := by
  have HhQ := Lib.hid hQ
  have Hhin := Lib.hid hin
  have Hhl := Lib.hid hl
  clear hQ hin hl
  unfold rowLoop planLoop lawTail
  dsimp only [Tryd.f3, Option.getD, codeL, codeR, codeB, codeO]
  go_loopw [249] (fun v249 W => ∃ n : Nat, v249 = .int .i64 n ∧ n ≤ p.length ∧ Below W0.heap.size W0 W) (fun v249 _ => 8 - (intOf v249).toNat)
  case atStart => exact ⟨0, rfl, by omega, Below.refl _ _⟩
  case round =>
    obtain ⟨n, rfl, hn, hB⟩ := hrel
    rcases Nat.lt_or_ge n p.length with hlt | hge
    · have hlt' : (n : Int) < p.length := by omega
      have h50 : (0 : Int) ≤ n := by omega
      have hlt2 : (n : Int) < ls.length := by have := Hhl.out; omega
      obtain ⟨adp, ep, q0⟩ := Kd.at_int (Kd.C_below hp hB) n h50 hlt'
      obtain ⟨adl, A0, c0, el, q1, l1, g1⟩ := at_rows (Kd.C_below hls hB) n h50 hlt2
      have hcon := fun h0 => (Hhin.out n hlt h0)
      simp only [Int.toNat_natCast] at q0 q1 l1 g1
      subst ep el
      generalize rd p (n : Int) = v at *
      generalize hrow : ls.getD n [] = row at *
      have lp := World.block_lt_of_cell? wr _ q0
      have ll := World.block_lt_of_cell? wr _ q1
      have HhB := Lib.hid hB
      have Hg1 := Lib.hid g1
      have Hhcon := Lib.hid hcon
      have Hhrow := Lib.hid hrow
      have Hl1 := Lib.hid l1
      clear hB g1 hcon hrow l1
      clear hls hp
      by_cases h0 : 0 ≤ v
      · obtain ⟨hc1, hc2⟩ := Hhcon.out h0
        have hcs := fun (W : World) (hW : Below W0.heap.size W0 W) (hg : Kd.C (Kd.int .i64) W A0 row.length row) => contains_yes (pc := c0) hg Hl1.out hc2 hc1
        have Hhcs := Lib.hid hcs
        clear hcs
        have hBx := HhB.out
        have H1 := Hhcs.out _ HhB.out Hg1.out
        have HH1 := Lib.hid H1
        have HhBx := Lib.hid hBx
        clear H1 hBx
        clear hc1 hc2
        go_wp2_with fail
        refine HH1.out.mono ?_
        rintro e V ⟨rfl, hb⟩
        have hB2 := HhBx.out.trans (hb.mono HhBx.out.size)
        have HhB2 := Lib.hid hB2
        clear hB2
        clear hb
        dsimp only
        go_wp2
        exact ⟨⟨n + 1, by simp, hlt, HhB2.out⟩, by simp [intOf]; omega⟩
      · have h0' : decide (v ≥ 0) = false := decide_eq_false h0
        go_wp2
        exact ⟨⟨n + 1, by simp, hlt, HhB.out⟩, by simp [intOf]; omega⟩
    · have hlt' : ¬ ((n : Int) < p.length) := by omega
      go_wp2
      apply HhQ.out
      exact hB
end Go.Proofs.YtlhnpbdpojcbeaaDoor
end
section
open Go Go.RowKit
namespace Go.Proofs.YtlhnpbdpojcbeaaDoor
open Go.Proofs.YtlhnpbdpojcbeaaDoorW.PrintWords
open PPackAll Go.Shelf
set_option linter.unusedVariables false
set_option linter.unusedSimpArgs false
structure Env (A : Option Addr) (c : Nat) (x : List (List S60)) (B : Option Addr) (d : Nat) (gs : List S68) (w : World) (Lb Ll Lh Ln Lc : Option Addr) (ls : List (List Int)) (bst hv nr : List Int) (core : List S49) (W : World) : Prop where
  bel : Below w.heap.size w W
  bx : W.cell? ⟨w.heap.size, 0, none⟩ = some (.slice A x.length c)
  bl : W.cell? ⟨w.heap.size + 1, 0, none⟩ = some (.slice B gs.length d)
  best : Kd.C (Kd.int .i64) W Lb bst.length bst
  left : Kd.C (Kd.slice 3 (Kd.int .i64)) W Ll ls.length ls
  hav : Kd.C (Kd.int .i64) W Lh hv.length hv
  near : Kd.C (Kd.int .i64) W Ln nr.length nr
  core : k49.C W Lc core.length core
theorem Env.step {A : Option Addr} {c : Nat} {x : List (List S60)} {B : Option Addr} {d : Nat} {gs : List S68} {w : World} {Lb Ll Lh Ln Lc : Option Addr} {ls : List (List Int)} {bst hv nr : List Int} {core : List S49} {W W' : World}
    (h : Env A c x B d gs w Lb Ll Lh Ln Lc ls bst hv nr core W) (hb : Below W.heap.size W W') : Env A c x B d gs w Lb Ll Lh Ln Lc ls bst hv nr core W' :=
  ⟨h.bel.trans (hb.mono h.bel.size), pw_cell_below hb h.bx, pw_cell_below hb h.bl, Kd.C_below h.best hb, Kd.C_below h.left hb, Kd.C_below h.hav hb, Kd.C_below h.near hb, Kd.C_below h.core hb⟩
theorem tmod4 (n : Nat) : Int.tmod (n : Int) 4 = ((n % 4 : Nat) : Int) := by
  rw [Int.tmod_eq_emod_of_nonneg (by omega)]; omega
theorem C_put {V : World} {base bp n c : Nat} {A : Option Addr} {p : List Int} (v : Value) (hR : (Kd.int .i64).R 3 V base (fun _ => True) (.slice A n c) p) (hlt : bp < base) : Kd.C (Kd.int .i64) (V.setCell ⟨bp, 0, none⟩ v) A p.length p := by
  have h2 : (Kd.int .i64).R 3 (V.setCell ⟨bp, 0, none⟩ v) base (fun _ => True) (.slice A n c) p := by
    refine Kd.R_mono (Kd.R_step (Kd.R_bound hR) ?_) (fun _ _ => trivial)
    rintro k ⟨_, k1, k2, _⟩ _
    exact heap_setCell_other V _ k v (by simp; omega)
  obtain ⟨A', c', e, _, hr⟩ := Kd.R_reads h2
  cases e
  exact hr
theorem run_func (fn : Fn) (first cap : Array Value) (w : World) : (Instr.makeFunc fn first cap).run Tryd.prog w = .ok (.func fn first cap) w := rfl
set_option maxRecDepth 100000 in
set_option maxHeartbeats 16000000 in
theorem planLoop_wp (A : Option Addr) (c : Nat) (x : List (List S60)) (B : Option Addr) (d : Nat) (gs : List S68) (Y : Option Addr) (yc : Nat) (bs : List Int) (w : World) (Lb Ll Lh Ln Lc : Option Addr) (cb cl ch cn cc : Nat) (ls : List (List Int)) (bst hv nr : List Int) (core : List S49) (e g far m : Int)
    (hx : Kd.C (Kd.slice 60 k60) w A x.length x) (hcx : x.length ≤ c) (hg : k68.C w B gs.length gs) (hcg : gs.length ≤ d) (hy : Kd.C (Kd.int .u8) w Y bs.length bs) (hyc : bs.length ≤ yc) (hbl : bs.length ≤ 9223372036854775807) (hby : ∀ b ∈ bs, 0 ≤ b ∧ b < 256)
    (hF : Found x gs ls bst hv nr core e g far m) (hcb : bst.length ≤ cb) (hch : hv.length ≤ ch) (hcn : nr.length ≤ cn)
    (hm : ∀ W, Below w.heap.size w W → Calls Tryd.prog 12 #[.agg #[.slice A x.length c]] W (Says (.int .i64 m) W))
    (Q : Exit → Act → World → Prop) (hQ : ∀ (v0 v1 v2 v3 v4 v5 v6 v7 v8 v9 v10 v11 v12 v13 v14 v15 v16 v17 v18 v19 v20 v21 v22 v23 v24 v25 v26 v27 v28 v29 v30 v31 v32 v33 v34 v35 v36 v37 v38 v39 v40 v41 v42 v43 v44 v45 v46 v47 v48 v49 v50 v51 v52 v53 v54 v55 v56 v57 v58 v59 v60 v61 v62 v63 v64 v65 v66 v67 v68 v69 v70 v71 v72 v73 v74 v75 v76 v77 v78 v79 v80 v81 v82 v83 v84 v85 v86 v87 v88 v89 v90 v91 v92 v93 v94 v95 v96 v97 v98 v99 v100 v101 v102 v103 v104 v105 v106 v107 v108 v109 v110 v111 v112 v113 v114 v115 v116 v117 v118 v119 v120 v121 v122 v123 v124 v125 v126 v127 v128 v129 v130 v131 v132 v133 v134 v135 v136 v137 v138 v139 v140 v141 v142 v143 v144 v145 v146 v147 v148 v149 v150 v151 v152 v153 v154 v155 v156 v157 v158 v159 v160 v161 v162 v163 v164 v165 v166 v167 v168 v169 v170 v171 v172 v173 v174 v175 v176 v177 v178 v179 v180 v181 v182 v183 v184 v185 v186 v187 v188 v189 v190 v191 v192 v193 v194 v195 v196 v197 v198 v199 v200 v201 v202 v203 v204 v205 v206 v207 v208 v209 v210 v211 v212 v213 v214 v215 v216 v217 v218 v219 v220 v221 v222 v223 v224 v225 v226 v227 v228 v229 v230 v231 v232 v233 v234 v235 v236 v237 v238 v239 v240 v241 v242 v243 v244 v245 v246 v247 v248 v249 v250 v251 v252 v253 v254 v255 v256 v257 v258 v259 v260 v261 v262 v263 v264 v265 v266 v267 : Value) (W : World), Below w.heap.size w W → Q (.exit 2) { tmps := #[v0, v1, v2, v3, v4, v5, v6, v7, v8, v9, v10, v11, v12, v13, v14, v15, v16, v17, v18, v19, v20, v21, v22, v23, v24, v25, v26, v27, v28, v29, v30, v31, v32, v33, v34, v35, v36, v37, v38, v39, v40, v41, v42, v43, v44, v45, v46, v47, v48, v49, v50, v51, v52, v53, v54, v55, v56, v57, v58, v59, v60, v61, v62, v63, v64, v65, v66, v67, v68, v69, v70, v71, v72, v73, v74, v75, v76, v77, v78, v79, v80, v81, v82, v83, v84, v85, v86, v87, v88, v89, v90, v91, v92, v93, v94, v95, v96, v97, v98, v99, v100, v101, v102, v103, v104, v105, v106, v107, v108, v109, v110, v111, v112, v113, v114, v115, v116, v117, v118, v119, v120, v121, v122, v123, v124, v125, v126, v127, v128, v129, v130, v131, v132, v133, v134, v135, v136, v137, v138, v139, v140, v141, v142, v143, v144, v145, v146, v147, v148, v149, v150, v151, v152, v153, v154, v155, v156, v157, v158, v159, v160, v161, v162, v163, v164, v165, v166, v167, v168, v169, v170, v171, v172, v173, v174, v175, v176, v177, v178, v179, v180, v181, v182, v183, v184, v185, v186, v187, v188, v189, v190, v191, v192, v193, v194, v195, v196, v197, v198, v199, v200, v201, v202, v203, v204, v205, v206, v207, v208, v209, v210, v211, v212, v213, v214, v215, v216, v217, v218, v219, v220, v221, v222, v223, v224, v225, v226, v227, v228, v229, v230, v231, v232, v233, v234, v235, v236, v237, v238, v239, v240, v241, v242, v243, v244, v245, v246, v247, v248, v249, v250, v251, v252, v253, v254, v255, v256, v257, v258, v259, v260, v261, v262, v263, v264, v265, v266, v267], defers := [] } W)
    (u0 u1 u5 u6 u10 u11 u12 u18 u19 u20 u21 u22 u23 u24 u25 u26 u27 u28 u29 u30 u31 u32 u33 u34 u35 u36 u37 u38 u39 u40 u41 u42 u43 u44 u45 u46 u47 u48 u49 u50 u51 u52 u53 u54 u55 u56 u57 u58 u59 u60 u61 u62 u63 u64 u65 u66 u67 u68 u69 u70 u71 u72 u73 u74 u75 u76 u77 u78 u79 u80 u81 u82 u83 u84 u85 u86 u87 u88 u89 u90 u91 u92 u93 u94 u95 u96 u97 u98 u99 u100 u101 u102 u103 u104 u105 u106 u107 u108 u109 u110 u111 u112 u113 u114 u115 u116 u117 u118 u119 u120 u121 u122 u123 u124 u125 u126 u127 u128 u129 u130 u131 u132 u133 u134 u135 u136 u137 u138 u139 u140 u141 u142 u143 u144 u145 u146 u147 u148 u149 u150 u151 u152 u153 u154 u155 u156 u157 u158 u159 u160 u161 u162 u163 u164 u165 u166 u167 u168 u169 u170 u171 u172 u173 u174 u175 u176 u177 u178 u179 u180 u182 u183 u184 u185 u186 u187 u188 u189 u190 u191 u192 u193 u194 u195 u196 u197 u198 u199 u200 u201 u202 u203 u204 u205 u206 u207 u208 u209 u210 u211 u212 u213 u214 u215 u216 u217 u218 u219 u220 u221 u222 u223 u224 u225 u226 u227 u228 u229 u230 u231 u232 u233 u234 u235 u236 u237 u238 u239 u240 u241 u242 u243 u244 u245 u246 u247 u248 u249 u250 u251 u252 u253 u254 u255 u256 u257 u258 u259 u260 u261 u262 u263 u264 u265 u266 u267 : Value) (W : World) (hE : Env A c x B d gs w Lb Ll Lh Ln Lc ls bst hv nr core W) :
    (planLoop Tryd.f3.body).wp Tryd.prog Q { tmps := #[u0, u1, .slice Y bs.length yc, .pointer (some ⟨w.heap.size, 0, none⟩), .pointer (some ⟨w.heap.size + 1, 0, none⟩), u5, u6, .slice Lb bst.length cb, .int .i64 e, .slice Ll ls.length cl, u10, u11, u12, .slice Lh hv.length ch, .slice Ln nr.length cn, .slice Lc core.length cc, .int .i64 g, .int .i64 far, u18, u19, u20, u21, u22, u23, u24, u25, u26, u27, u28, u29, u30, u31, u32, u33, u34, u35, u36, u37, u38, u39, u40, u41, u42, u43, u44, u45, u46, u47, u48, u49, u50, u51, u52, u53, u54, u55, u56, u57, u58, u59, u60, u61, u62, u63, u64, u65, u66, u67, u68, u69, u70, u71, u72, u73, u74, u75, u76, u77, u78, u79, u80, u81, u82, u83, u84, u85, u86, u87, u88, u89, u90, u91, u92, u93, u94, u95, u96, u97, u98, u99, u100, u101, u102, u103, u104, u105, u106, u107, u108, u109, u110, u111, u112, u113, u114, u115, u116, u117, u118, u119, u120, u121, u122, u123, u124, u125, u126, u127, u128, u129, u130, u131, u132, u133, u134, u135, u136, u137, u138, u139, u140, u141, u142, u143, u144, u145, u146, u147, u148, u149, u150, u151, u152, u153, u154, u155, u156, u157, u158, u159, u160, u161, u162, u163, u164, u165, u166, u167, u168, u169, u170, u171, u172, u173, u174, u175, u176, u177, u178, u179, u180, .int .i64 0, u182, u183, u184, u185, u186, u187, u188, u189, u190, u191, u192, u193, u194, u195, u196, u197, u198, u199, u200, u201, u202, u203, u204, u205, u206, u207, u208, u209, u210, u211, u212, u213, u214, u215, u216, u217, u218, u219, u220, u221, u222, u223, u224, u225, u226, u227, u228, u229, u230, u231, u232, u233, u234, u235, u236, u237, u238, u239, u240, u241, u242, u243, u244, u245, u246, u247, u248, u249, u250, u251, u252, u253, u254, u255, u256, u257, u258, u259, u260, u261, u262, u263, u264, u265, u266, u267], defers := [] } W := by
  have hgrown := fun (W : World) (n : Nat) (hb : Below w.heap.size w W) (hn : n ≤ 1000) => grown_calls A c x B d gs Y yc bs n W (Kd.C_below hx hb) hF.ok (Kd.C_below hg hb) hF.goals (Kd.C_below hy hb) hby hn
  have hdrawn := fun (W : World) (n : Nat) (hb : Below w.heap.size w W) (hn : n ≤ 1000) => drawn_is (c := c) (yc := yc) (Kd.C_below hx hb) hcx hF.ok (Kd.C_below hy hb) hyc hbl hby n hn
  have Hhgrown := Lib.hid hgrown
  have Hhdrawn := Lib.hid hdrawn
  have Hhm := Lib.hid hm
  have HhQ := Lib.hid hQ
  have Hhx := Lib.hid hx
  have Hhg := Lib.hid hg
  have Hhy := Lib.hid hy
  have HhF := Lib.hid hF
  have Hhby := Lib.hid hby
  clear hgrown hdrawn hm hQ hx hg hy hF hby
  unfold planLoop lawTail
  dsimp only [Tryd.f3, Option.getD, codeL, codeR, codeB, codeO]
  go_loopw [181] (fun v181 W => ∃ n : Nat, v181 = .int .i64 n ∧ n ≤ 8 ∧ Env A c x B d gs w Lb Ll Lh Ln Lc ls bst hv nr core W) (fun v181 _ => 8 - (intOf v181).toNat)
  case atStart => exact ⟨0, rfl, by omega, hE⟩
  case round =>
    obtain ⟨n, rfl, hn, hE⟩ := hrel
    have HE := Lib.hid hE
    clear hE
    rcases Nat.lt_or_ge n 8 with hlt | hge
    · have h8 : (n : Int) < 8 := by omega
      have h50 : (0 : Int) ≤ n := by omega
      have htm : Int.tmod (n : Int) 4 = ((n % 4 : Nat) : Int) := tmod4 n
      have bx := HE.out.bx
      have bl := HE.out.bl
      have lx := World.block_lt_of_cell? wr _ bx
      have ll := World.block_lt_of_cell? wr _ bl
      have h5 : IntKind.i64.wrap ((n : Int) * 5) = ((n * 5 : Nat) : Int) := by rw [IntKind.wrap_i64]; omega
      generalize hq : n % 4 = q at htm
      have Hhq := Lib.hid hq
      clear hq
      go_wp2_with fail
      refine (Hhgrown.out _ (n * 5) HE.out.bel (by omega)).mono ?_
      rintro e1 V1 ⟨v1, p1, rfl, hin1, hR1, hb1⟩
      obtain ⟨P1, pc1, e1, hpc1, hC1⟩ := Kd.R_reads hR1
      subst e1
      have E1 := HE.out.step hb1
      have bx1 := E1.bx
      have bl1 := E1.bl
      have lx1 := World.block_lt_of_cell? V1 _ bx1
      have ll1 := World.block_lt_of_cell? V1 _ bl1
      have Hhin1 := Lib.hid hin1
      have HhR1 := Lib.hid hR1
      have Hhpc1 := Lib.hid hpc1
      have HhC1 := Lib.hid hC1
      have Hhb1 := Lib.hid hb1
      have HE1 := Lib.hid E1
      clear hin1 hR1 hpc1 hC1 hb1 E1
      clear bx bl lx ll h5
      have hst : ∀ V : World, Below V1.heap.size V1 V → Env A c x B d gs w Lb Ll Lh Ln Lc ls bst hv nr core V := fun V hb => HE1.out.step hb
      have Hhst := Lib.hid hst
      clear hst
      have hany := fun (W : World) (P : Option Addr) (pc : Nat) (p : List Int) (bp : Nat) (hW : Env A c x B d gs w Lb Ll Lh Ln Lc ls bst hv nr core W) (hp : Kd.C (Kd.int .i64) W P p.length p) (hpl : p.length = x.length) (hbp : W.cell? ⟨bp, 0, none⟩ = some (.slice P p.length pc)) =>
        anyBreaks_calls A c x B d gs Lc cc core P pc p w.heap.size (w.heap.size + 1) bp W (Kd.C_below Hhx.out hW.bel) HhF.out.ok (Kd.C_below Hhg.out hW.bel) HhF.out.goals hp hpl hW.core (fun k hk => allC_ok k (HhF.out.inCore k hk)) hW.bx hW.bl hbp
      have hright := fun (W : World) (P : Option Addr) (pc : Nat) (p : List Int) (hW : Env A c x B d gs w Lb Ll Lh Ln Lc ls bst hv nr core W) (hp : Kd.C (Kd.int .i64) W P p.length p) (hin : InR x p) =>
        right_calls A c x B d gs P pc p W (Kd.C_below Hhx.out hW.bel) (Kd.C_below Hhg.out hW.bel) HhF.out.ok HhF.out.goals hp hin.1 (fun i hi => hin.2 i (by rw [← hin.1]; exact hi))
      have hmf := run_func
      have Hhany := Lib.hid hany
      have Hhright := Lib.hid hright
      clear hany hright
      obtain ⟨bp, hbp⟩ : ∃ bp, bp = V1.heap.size := ⟨_, rfl⟩
      have hbp' := hbp.symm
      have Hhbp := Lib.hid hbp
      have Hhbp' := Lib.hid hbp'
      clear hbp hbp'
      by_cases hq3 : q = 3
      · subst hq3
        dsimp only
        go_wp2_with fail
        refine (Hhdrawn.out _ n ?_ (by omega)).mono ?_
        · exact HE1.out.bel.trans (Below.mono (by (repeat (first | exact Below.refl _ _ | refine pw_below_drewN ?_ _ | refine below_drew ?_ | refine Below.alloc ?_ (by first | omega | (simp; done) | (simp; omega)) _ | refine Below.setCell ?_ (by first | omega | (simp; done) | (simp; omega)) _))) HE1.out.bel.size)
        rintro e2 V2 ⟨v2, p, rfl, hin, hR2, hb2⟩
        have s2 := hb2.size
        simp at s2
        obtain ⟨P, pc, e2, hpc, hC2⟩ := Kd.R_reads hR2
        subst e2
        have hk2 : V2.heap[V1.heap.size]? = some (.cells #[.slice P1 p1.length pc1] 30 (0, 0)) := (hb2.block _ (by simp)).trans (by rw [heap_alloc_if, if_pos rfl])
        obtain ⟨hc2, hz2⟩ := one_cell hk2
        have hb2' : Below V1.heap.size V1 V2 := Below.trans (by (repeat (first | exact Below.refl _ _ | refine pw_below_drewN ?_ _ | refine below_drew ?_ | refine Below.alloc ?_ (by first | omega | (simp; done) | (simp; omega)) _ | refine Below.setCell ?_ (by first | omega | (simp; done) | (simp; omega)) _))) (hb2.mono (by simp))
        have bx2 := pw_cell_below hb2' bx1
        have bl2 := pw_cell_below hb2' bl1
        obtain ⟨Wf, hWf⟩ : ∃ Wf, Wf = V2.setCell ⟨V1.heap.size, 0, none⟩ (.slice P p.length pc) := ⟨_, rfl⟩
        have hbf : Below V1.heap.size V1 Wf := by rw [hWf]; exact Below.setCell hb2' (Nat.le_refl _) _
        have hCf : Kd.C (Kd.int .i64) Wf P p.length p := by
          rw [hWf]
          exact C_put _ hR2 (by simp)
        have hcf : Wf.cell? ⟨V1.heap.size, 0, none⟩ = some (.slice P p.length pc) := by
          rw [hWf]
          exact World.cell?_setCell_same _ _ _ hc2
        have hWf' := hWf.symm
        have hm1 : V1.heap.size < V2.heap.size := by omega
        have Hhin := Lib.hid hin
        have Hhpc := Lib.hid hpc
        have HhCf := Lib.hid hCf
        have Hhcf := Lib.hid hcf
        have HhWf' := Lib.hid hWf'
        have Hhbf := Lib.hid hbf
        clear hin hpc hCf hcf hWf' hbf
        clear hWf hC2 hR2 hb2 hb2' hm1 hk2
        rcases HhF.out.gs2 with g0 | g5
        · subst g0
          dsimp only
          go_wp2_with fail
          rw [HhWf'.out]
          refine (Hhany.out Wf P pc p V1.heap.size (Hhst.out _ Hhbf.out) HhCf.out Hhin.out.1 Hhcf.out).mono ?_
          rw [HhF.out.breaks rfl p Hhin.out]
          rintro e3 V3 ⟨rfl, hb3⟩
          have E3 := (Hhst.out _ Hhbf.out).step hb3
          have C3 := Kd.C_below HhCf.out hb3
          have c3 := pw_cell_below hb3 Hhcf.out
          have bx3 := E3.bx
          have bl3 := E3.bl
          have HE3 := Lib.hid E3
          have HC3 := Lib.hid C3
          clear E3 C3
          clear hb3 bx2 bl2 hc2 s2
          dsimp only
          go_wp2_with fail
          refine (Hhright.out V3 P pc p HE3.out HC3.out Hhin.out).mono ?_
          rintro e4 V4 ⟨rfl, hb4⟩
          have E4 := HE3.out.step hb4
          have C4 := Kd.C_below HC3.out hb4
          have c4 := pw_cell_below hb4 c3
          have bx4 := E4.bx
          have HE4 := Lib.hid E4
          have HC4 := Lib.hid C4
          clear E4 C4
          clear hb4 c3 bx3 bl3
          have h8x := HhF.out.ok.2.1
          by_cases hr : (faultF x gs (pad p)).1 = 0
          · have hR : RightL x gs p := ⟨Hhin.out, hr⟩
            obtain ⟨e0, hbl, hbn⟩ := HhF.out.best p hR
            have hrb : ((faultF x gs (pad p)).1 == 0) = true := by rw [hr]; rfl
            rw [hrb]
            subst e0
            have HhR := Lib.hid hR
            have Hhbl := Lib.hid hbl
            have Hhbn := Lib.hid hbn
            clear hR hbl hbn
            clear hr hrb
            dsimp only
            go_wp2_with fail
            refine (newer_no HC4.out Hhpc.out HE4.out.best hcb h8x Hhin.out.1 Hhbl.out Hhbn.out).mono ?_
            rintro e5 V5 ⟨rfl, hb5⟩
            have E5 := HE4.out.step hb5
            have C5 := Kd.C_below HC4.out hb5
            have c5 := pw_cell_below hb5 c4
            have bx5 := E5.bx
            have HE5 := Lib.hid E5
            have HC5 := Lib.hid C5
            clear E5 C5
            clear hb5 c4 bx4
            dsimp only
            go_wp2_with fail
            refine (Hhm.out V5 HE5.out.bel).mono ?_
            rintro e6 V6 ⟨rfl, hb6⟩
            have E6 := HE5.out.step hb6
            have C6 := Kd.C_below HC5.out hb6
            have c6 := pw_cell_below hb6 c5
            have bx6 := E6.bx
            have HE6 := Lib.hid E6
            have HC6 := Lib.hid C6
            clear E6 C6
            clear hb6 c5 bx5
            by_cases hm2 : m ≤ 20000
            · obtain ⟨hnl, hfar, hnn⟩ := HhF.out.near hm2 p HhR.out
              generalize hap : apartN p hv x.length = ap at hfar hnn
              have hlt9 : ¬ ((ap : Int) < far) := by omega
              have Hhnl := Lib.hid hnl
              have Hhnn := Lib.hid hnn
              have Hhap := Lib.hid hap
              have Hhfar := Lib.hid hfar
              clear hnl hnn hap hfar
              dsimp only
              go_wp2_with fail
              refine (apart_is (N := x.length) HC6.out Hhpc.out HE6.out.hav hch h8x Hhin.out.1 HhF.out.hav.1).mono ?_
              rintro e7 V7 ⟨rfl, hb7⟩
              have E7 := HE6.out.step hb7
              have C7 := Kd.C_below HC6.out hb7
              have c7 := pw_cell_below hb7 c6
              have bx7 := E7.bx
              have HE7 := Lib.hid E7
              have HC7 := Lib.hid C7
              clear E7 C7
              clear hb7 c6 bx6
              rw [Hhap.out]
              dsimp only
              go_wp2_with fail
              by_cases heq : (ap : Int) = far
              · subst heq
                have hnn2 := Hhnn.out rfl
                have Hhnn2 := Lib.hid hnn2
                clear hnn2
                refine (apart_is (N := x.length) HC7.out Hhpc.out HE7.out.hav hch h8x Hhin.out.1 HhF.out.hav.1).mono ?_
                rintro e8 V8 ⟨rfl, hb8⟩
                have E8 := HE7.out.step hb8
                have C8 := Kd.C_below HC7.out hb8
                have c8 := pw_cell_below hb8 c7
                have bx8 := E8.bx
                have HE8 := Lib.hid E8
                have HC8 := Lib.hid C8
                clear E8 C8
                clear hb8 c7 bx7
                rw [Hhap.out]
                dsimp only
                go_wp2_with fail
                refine (newer_no HC8.out Hhpc.out HE8.out.near hcn h8x Hhin.out.1 Hhnl.out Hhnn2.out).mono ?_
                rintro e10 V10 ⟨rfl, hbx⟩
                have E10 := HE8.out.step hbx
                have C10 := Kd.C_below HC8.out hbx
                have c10 := pw_cell_below hbx c8
                have bx10 := E10.bx
                have HE10 := Lib.hid E10
                have HC10 := Lib.hid C10
                clear E10 C10
                clear hbx c8 bx8
                dsimp only
                go_wp2_with fail
                apply rowLoop_wp Ll cl ls P pc p V10 HE10.out.left HC10.out (HhF.out.rows.trans Hhin.out.1.symm) (by rw [Hhin.out.1]; exact h8x) (fun i hi h0 => HhF.out.left p HhR.out i (by rw [← Hhin.out.1]; exact hi) h0)
                intro v6 v27 v28 v249 v250 v251 v252 v253 v254 v255 v256 v257 v258 v259 v260 v261 v262 v263 v264 v265 V9 hb9
                have E9 := HE10.out.step hb9
                have HE9 := Lib.hid E9
                clear E9
                clear hb9
                go_wp2
                exact ⟨⟨n + 1, by simp, by omega, HE9.out⟩, by simp [intOf]; omega⟩
              · refine (apart_is (N := x.length) HC7.out Hhpc.out HE7.out.hav hch h8x Hhin.out.1 HhF.out.hav.1).mono ?_
                rintro e8 V8 ⟨rfl, hb8⟩
                have E8 := HE7.out.step hb8
                have C8 := Kd.C_below HC7.out hb8
                have c8 := pw_cell_below hb8 c7
                have bx8 := E8.bx
                have HE8 := Lib.hid E8
                have HC8 := Lib.hid C8
                clear E8 C8
                clear hb8 c7 bx7
                rw [Hhap.out]
                dsimp only
                go_wp2_with fail
                apply rowLoop_wp Ll cl ls P pc p V8 HE8.out.left HC8.out (HhF.out.rows.trans Hhin.out.1.symm) (by rw [Hhin.out.1]; exact h8x) (fun i hi h0 => HhF.out.left p HhR.out i (by rw [← Hhin.out.1]; exact hi) h0)
                intro v6 v27 v28 v249 v250 v251 v252 v253 v254 v255 v256 v257 v258 v259 v260 v261 v262 v263 v264 v265 V9 hb9
                have E9 := HE8.out.step hb9
                have HE9 := Lib.hid E9
                clear E9
                clear hb9
                go_wp2
                exact ⟨⟨n + 1, by simp, by omega, HE9.out⟩, by simp [intOf]; omega⟩
            · dsimp only
              go_wp2_with fail
              apply rowLoop_wp Ll cl ls P pc p V6 HE6.out.left HC6.out (HhF.out.rows.trans Hhin.out.1.symm) (by rw [Hhin.out.1]; exact h8x) (fun i hi h0 => HhF.out.left p HhR.out i (by rw [← Hhin.out.1]; exact hi) h0)
              intro v6 v27 v28 v249 v250 v251 v252 v253 v254 v255 v256 v257 v258 v259 v260 v261 v262 v263 v264 v265 V9 hb9
              have E9 := HE6.out.step hb9
              have HE9 := Lib.hid E9
              clear E9
              clear hb9
              go_wp2
              exact ⟨⟨n + 1, by simp, by omega, HE9.out⟩, by simp [intOf]; omega⟩
          · have hrb : ((faultF x gs (pad p)).1 == 0) = false := by simpa using hr
            rw [hrb]
            clear hr hrb
            dsimp only
            go_wp2
            exact ⟨⟨n + 1, by simp, by omega, HE4.out⟩, by simp [intOf]; omega⟩
        · subst g5
          have bxf := (Hhst.out _ Hhbf.out).bx
          have blf := (Hhst.out _ Hhbf.out).bl
          have cf := Hhcf.out
          rw [← HhWf'.out] at bxf blf cf
          dsimp only
          go_wp2_with fail
          rw [HhWf'.out]
          obtain ⟨V3, hV3⟩ : ∃ V3, V3 = Wf := ⟨_, rfl⟩
          rw [← hV3]
          have E3 := Hhst.out _ Hhbf.out
          have C3 := HhCf.out
          have c3 := Hhcf.out
          rw [← hV3] at E3 C3 c3
          have bx3 := E3.bx
          have bl3 := E3.bl
          have HE3 := Lib.hid E3
          have HC3 := Lib.hid C3
          clear E3 C3
          clear hV3 bxf blf cf
          refine (Hhright.out V3 P pc p HE3.out HC3.out Hhin.out).mono ?_
          rintro e4 V4 ⟨rfl, hb4⟩
          have E4 := HE3.out.step hb4
          have C4 := Kd.C_below HC3.out hb4
          have c4 := pw_cell_below hb4 c3
          have bx4 := E4.bx
          have HE4 := Lib.hid E4
          have HC4 := Lib.hid C4
          clear E4 C4
          clear hb4 c3 bx3 bl3
          have h8x := HhF.out.ok.2.1
          by_cases hr : (faultF x gs (pad p)).1 = 0
          · have hR : RightL x gs p := ⟨Hhin.out, hr⟩
            obtain ⟨e0, hbl, hbn⟩ := HhF.out.best p hR
            have hrb : ((faultF x gs (pad p)).1 == 0) = true := by rw [hr]; rfl
            rw [hrb]
            subst e0
            have HhR := Lib.hid hR
            have Hhbl := Lib.hid hbl
            have Hhbn := Lib.hid hbn
            clear hR hbl hbn
            clear hr hrb
            dsimp only
            go_wp2_with fail
            refine (newer_no HC4.out Hhpc.out HE4.out.best hcb h8x Hhin.out.1 Hhbl.out Hhbn.out).mono ?_
            rintro e5 V5 ⟨rfl, hb5⟩
            have E5 := HE4.out.step hb5
            have C5 := Kd.C_below HC4.out hb5
            have c5 := pw_cell_below hb5 c4
            have bx5 := E5.bx
            have HE5 := Lib.hid E5
            have HC5 := Lib.hid C5
            clear E5 C5
            clear hb5 c4 bx4
            dsimp only
            go_wp2_with fail
            refine (Hhm.out V5 HE5.out.bel).mono ?_
            rintro e6 V6 ⟨rfl, hb6⟩
            have E6 := HE5.out.step hb6
            have C6 := Kd.C_below HC5.out hb6
            have c6 := pw_cell_below hb6 c5
            have bx6 := E6.bx
            have HE6 := Lib.hid E6
            have HC6 := Lib.hid C6
            clear E6 C6
            clear hb6 c5 bx5
            by_cases hm2 : m ≤ 20000
            · obtain ⟨hnl, hfar, hnn⟩ := HhF.out.near hm2 p HhR.out
              generalize hap : apartN p hv x.length = ap at hfar hnn
              have hlt9 : ¬ ((ap : Int) < far) := by omega
              have Hhnl := Lib.hid hnl
              have Hhnn := Lib.hid hnn
              have Hhap := Lib.hid hap
              have Hhfar := Lib.hid hfar
              clear hnl hnn hap hfar
              dsimp only
              go_wp2_with fail
              refine (apart_is (N := x.length) HC6.out Hhpc.out HE6.out.hav hch h8x Hhin.out.1 HhF.out.hav.1).mono ?_
              rintro e7 V7 ⟨rfl, hb7⟩
              have E7 := HE6.out.step hb7
              have C7 := Kd.C_below HC6.out hb7
              have c7 := pw_cell_below hb7 c6
              have bx7 := E7.bx
              have HE7 := Lib.hid E7
              have HC7 := Lib.hid C7
              clear E7 C7
              clear hb7 c6 bx6
              rw [Hhap.out]
              dsimp only
              go_wp2_with fail
              by_cases heq : (ap : Int) = far
              · subst heq
                have hnn2 := Hhnn.out rfl
                have Hhnn2 := Lib.hid hnn2
                clear hnn2
                refine (apart_is (N := x.length) HC7.out Hhpc.out HE7.out.hav hch h8x Hhin.out.1 HhF.out.hav.1).mono ?_
                rintro e8 V8 ⟨rfl, hb8⟩
                have E8 := HE7.out.step hb8
                have C8 := Kd.C_below HC7.out hb8
                have c8 := pw_cell_below hb8 c7
                have bx8 := E8.bx
                have HE8 := Lib.hid E8
                have HC8 := Lib.hid C8
                clear E8 C8
                clear hb8 c7 bx7
                rw [Hhap.out]
                dsimp only
                go_wp2_with fail
                refine (newer_no HC8.out Hhpc.out HE8.out.near hcn h8x Hhin.out.1 Hhnl.out Hhnn2.out).mono ?_
                rintro e10 V10 ⟨rfl, hbx⟩
                have E10 := HE8.out.step hbx
                have C10 := Kd.C_below HC8.out hbx
                have c10 := pw_cell_below hbx c8
                have bx10 := E10.bx
                have HE10 := Lib.hid E10
                have HC10 := Lib.hid C10
                clear E10 C10
                clear hbx c8 bx8
                dsimp only
                go_wp2_with fail
                apply rowLoop_wp Ll cl ls P pc p V10 HE10.out.left HC10.out (HhF.out.rows.trans Hhin.out.1.symm) (by rw [Hhin.out.1]; exact h8x) (fun i hi h0 => HhF.out.left p HhR.out i (by rw [← Hhin.out.1]; exact hi) h0)
                intro v6 v27 v28 v249 v250 v251 v252 v253 v254 v255 v256 v257 v258 v259 v260 v261 v262 v263 v264 v265 V9 hb9
                have E9 := HE10.out.step hb9
                have HE9 := Lib.hid E9
                clear E9
                clear hb9
                go_wp2
                exact ⟨⟨n + 1, by simp, by omega, HE9.out⟩, by simp [intOf]; omega⟩
              · refine (apart_is (N := x.length) HC7.out Hhpc.out HE7.out.hav hch h8x Hhin.out.1 HhF.out.hav.1).mono ?_
                rintro e8 V8 ⟨rfl, hb8⟩
                have E8 := HE7.out.step hb8
                have C8 := Kd.C_below HC7.out hb8
                have c8 := pw_cell_below hb8 c7
                have bx8 := E8.bx
                have HE8 := Lib.hid E8
                have HC8 := Lib.hid C8
                clear E8 C8
                clear hb8 c7 bx7
                rw [Hhap.out]
                dsimp only
                go_wp2_with fail
                apply rowLoop_wp Ll cl ls P pc p V8 HE8.out.left HC8.out (HhF.out.rows.trans Hhin.out.1.symm) (by rw [Hhin.out.1]; exact h8x) (fun i hi h0 => HhF.out.left p HhR.out i (by rw [← Hhin.out.1]; exact hi) h0)
                intro v6 v27 v28 v249 v250 v251 v252 v253 v254 v255 v256 v257 v258 v259 v260 v261 v262 v263 v264 v265 V9 hb9
                have E9 := HE8.out.step hb9
                have HE9 := Lib.hid E9
                clear E9
                clear hb9
                go_wp2
                exact ⟨⟨n + 1, by simp, by omega, HE9.out⟩, by simp [intOf]; omega⟩
            · dsimp only
              go_wp2_with fail
              apply rowLoop_wp Ll cl ls P pc p V6 HE6.out.left HC6.out (HhF.out.rows.trans Hhin.out.1.symm) (by rw [Hhin.out.1]; exact h8x) (fun i hi h0 => HhF.out.left p HhR.out i (by rw [← Hhin.out.1]; exact hi) h0)
              intro v6 v27 v28 v249 v250 v251 v252 v253 v254 v255 v256 v257 v258 v259 v260 v261 v262 v263 v264 v265 V9 hb9
              have E9 := HE6.out.step hb9
              have HE9 := Lib.hid E9
              clear E9
              clear hb9
              go_wp2
              exact ⟨⟨n + 1, by simp, by omega, HE9.out⟩, by simp [intOf]; omega⟩
          · have hrb : ((faultF x gs (pad p)).1 == 0) = false := by simpa using hr
            rw [hrb]
            clear hr hrb
            dsimp only
            go_wp2
            exact ⟨⟨n + 1, by simp, by omega, HE4.out⟩, by simp [intOf]; omega⟩
      · have hq3' : ¬ ((q : Int) = 3) := by omega
        obtain ⟨Wf, hWf⟩ : ∃ Wf, Wf = V1.alloc (.cells #[.slice P1 p1.length pc1] 30) := ⟨_, rfl⟩
        have hbf : Below V1.heap.size V1 Wf := by rw [hWf]; (repeat (first | exact Below.refl _ _ | refine pw_below_drewN ?_ _ | refine below_drew ?_ | refine Below.alloc ?_ (by first | omega | (simp; done) | (simp; omega)) _ | refine Below.setCell ?_ (by first | omega | (simp; done) | (simp; omega)) _))
        have hCf := Kd.C_below HhC1.out hbf
        have hcf : Wf.cell? ⟨V1.heap.size, 0, none⟩ = some (.slice P1 p1.length pc1) := by
          rw [hWf]; simp [go_sem]
        have hWf' := hWf.symm
        have HhCf := Lib.hid hCf
        have Hhcf := Lib.hid hcf
        have HhWf' := Lib.hid hWf'
        have Hhbf := Lib.hid hbf
        clear hCf hcf hWf' hbf
        clear hWf
        rcases HhF.out.gs2 with g0 | g5
        · subst g0
          dsimp only
          go_wp2_with fail
          rw [HhWf'.out]
          refine (Hhany.out Wf P1 pc1 p1 V1.heap.size (Hhst.out _ Hhbf.out) HhCf.out Hhin1.out.1 Hhcf.out).mono ?_
          rw [HhF.out.breaks rfl p1 Hhin1.out]
          rintro e3 V3 ⟨rfl, hb3⟩
          have E3 := (Hhst.out _ Hhbf.out).step hb3
          have C3 := Kd.C_below HhCf.out hb3
          have c3 := pw_cell_below hb3 Hhcf.out
          have bx3 := E3.bx
          have bl3 := E3.bl
          have HE3 := Lib.hid E3
          have HC3 := Lib.hid C3
          clear E3 C3
          clear hb3
          dsimp only
          go_wp2_with fail
          refine (Hhright.out V3 P1 pc1 p1 HE3.out HC3.out Hhin1.out).mono ?_
          rintro e4 V4 ⟨rfl, hb4⟩
          have E4 := HE3.out.step hb4
          have C4 := Kd.C_below HC3.out hb4
          have c4 := pw_cell_below hb4 c3
          have bx4 := E4.bx
          have HE4 := Lib.hid E4
          have HC4 := Lib.hid C4
          clear E4 C4
          clear hb4 c3 bx3 bl3
          have h8x := HhF.out.ok.2.1
          by_cases hr : (faultF x gs (pad p1)).1 = 0
          · have hR : RightL x gs p1 := ⟨Hhin1.out, hr⟩
            obtain ⟨e0, hbl, hbn⟩ := HhF.out.best p1 hR
            have hrb : ((faultF x gs (pad p1)).1 == 0) = true := by rw [hr]; rfl
            rw [hrb]
            subst e0
            have HhR := Lib.hid hR
            have Hhbl := Lib.hid hbl
            have Hhbn := Lib.hid hbn
            clear hR hbl hbn
            clear hr hrb
            dsimp only
            go_wp2_with fail
            refine (newer_no HC4.out Hhpc1.out HE4.out.best hcb h8x Hhin1.out.1 Hhbl.out Hhbn.out).mono ?_
            rintro e5 V5 ⟨rfl, hb5⟩
            have E5 := HE4.out.step hb5
            have C5 := Kd.C_below HC4.out hb5
            have c5 := pw_cell_below hb5 c4
            have bx5 := E5.bx
            have HE5 := Lib.hid E5
            have HC5 := Lib.hid C5
            clear E5 C5
            clear hb5 c4 bx4
            dsimp only
            go_wp2_with fail
            refine (Hhm.out V5 HE5.out.bel).mono ?_
            rintro e6 V6 ⟨rfl, hb6⟩
            have E6 := HE5.out.step hb6
            have C6 := Kd.C_below HC5.out hb6
            have c6 := pw_cell_below hb6 c5
            have bx6 := E6.bx
            have HE6 := Lib.hid E6
            have HC6 := Lib.hid C6
            clear E6 C6
            clear hb6 c5 bx5
            by_cases hm2 : m ≤ 20000
            · obtain ⟨hnl, hfar, hnn⟩ := HhF.out.near hm2 p1 HhR.out
              generalize hap : apartN p1 hv x.length = ap at hfar hnn
              have hlt9 : ¬ ((ap : Int) < far) := by omega
              have Hhnl := Lib.hid hnl
              have Hhnn := Lib.hid hnn
              have Hhap := Lib.hid hap
              have Hhfar := Lib.hid hfar
              clear hnl hnn hap hfar
              dsimp only
              go_wp2_with fail
              refine (apart_is (N := x.length) HC6.out Hhpc1.out HE6.out.hav hch h8x Hhin1.out.1 HhF.out.hav.1).mono ?_
              rintro e7 V7 ⟨rfl, hb7⟩
              have E7 := HE6.out.step hb7
              have C7 := Kd.C_below HC6.out hb7
              have c7 := pw_cell_below hb7 c6
              have bx7 := E7.bx
              have HE7 := Lib.hid E7
              have HC7 := Lib.hid C7
              clear E7 C7
              clear hb7 c6 bx6
              rw [Hhap.out]
              dsimp only
              go_wp2_with fail
              by_cases heq : (ap : Int) = far
              · subst heq
                have hnn2 := Hhnn.out rfl
                have Hhnn2 := Lib.hid hnn2
                clear hnn2
                refine (apart_is (N := x.length) HC7.out Hhpc1.out HE7.out.hav hch h8x Hhin1.out.1 HhF.out.hav.1).mono ?_
                rintro e8 V8 ⟨rfl, hb8⟩
                have E8 := HE7.out.step hb8
                have C8 := Kd.C_below HC7.out hb8
                have c8 := pw_cell_below hb8 c7
                have bx8 := E8.bx
                have HE8 := Lib.hid E8
                have HC8 := Lib.hid C8
                clear E8 C8
                clear hb8 c7 bx7
                rw [Hhap.out]
                dsimp only
                go_wp2_with fail
                refine (newer_no HC8.out Hhpc1.out HE8.out.near hcn h8x Hhin1.out.1 Hhnl.out Hhnn2.out).mono ?_
                rintro e10 V10 ⟨rfl, hbx⟩
                have E10 := HE8.out.step hbx
                have C10 := Kd.C_below HC8.out hbx
                have c10 := pw_cell_below hbx c8
                have bx10 := E10.bx
                have HE10 := Lib.hid E10
                have HC10 := Lib.hid C10
                clear E10 C10
                clear hbx c8 bx8
                dsimp only
                go_wp2_with fail
                apply rowLoop_wp Ll cl ls P1 pc1 p1 V10 HE10.out.left HC10.out (HhF.out.rows.trans Hhin1.out.1.symm) (by rw [Hhin1.out.1]; exact h8x) (fun i hi h0 => HhF.out.left p1 HhR.out i (by rw [← Hhin1.out.1]; exact hi) h0)
                intro v6 v27 v28 v249 v250 v251 v252 v253 v254 v255 v256 v257 v258 v259 v260 v261 v262 v263 v264 v265 V9 hb9
                have E9 := HE10.out.step hb9
                have HE9 := Lib.hid E9
                clear E9
                clear hb9
                go_wp2
                exact ⟨⟨n + 1, by simp, by omega, HE9.out⟩, by simp [intOf]; omega⟩
              · refine (apart_is (N := x.length) HC7.out Hhpc1.out HE7.out.hav hch h8x Hhin1.out.1 HhF.out.hav.1).mono ?_
                rintro e8 V8 ⟨rfl, hb8⟩
                have E8 := HE7.out.step hb8
                have C8 := Kd.C_below HC7.out hb8
                have c8 := pw_cell_below hb8 c7
                have bx8 := E8.bx
                have HE8 := Lib.hid E8
                have HC8 := Lib.hid C8
                clear E8 C8
                clear hb8 c7 bx7
                rw [Hhap.out]
                dsimp only
                go_wp2_with fail
                apply rowLoop_wp Ll cl ls P1 pc1 p1 V8 HE8.out.left HC8.out (HhF.out.rows.trans Hhin1.out.1.symm) (by rw [Hhin1.out.1]; exact h8x) (fun i hi h0 => HhF.out.left p1 HhR.out i (by rw [← Hhin1.out.1]; exact hi) h0)
                intro v6 v27 v28 v249 v250 v251 v252 v253 v254 v255 v256 v257 v258 v259 v260 v261 v262 v263 v264 v265 V9 hb9
                have E9 := HE8.out.step hb9
                have HE9 := Lib.hid E9
                clear E9
                clear hb9
                go_wp2
                exact ⟨⟨n + 1, by simp, by omega, HE9.out⟩, by simp [intOf]; omega⟩
            · dsimp only
              go_wp2_with fail
              apply rowLoop_wp Ll cl ls P1 pc1 p1 V6 HE6.out.left HC6.out (HhF.out.rows.trans Hhin1.out.1.symm) (by rw [Hhin1.out.1]; exact h8x) (fun i hi h0 => HhF.out.left p1 HhR.out i (by rw [← Hhin1.out.1]; exact hi) h0)
              intro v6 v27 v28 v249 v250 v251 v252 v253 v254 v255 v256 v257 v258 v259 v260 v261 v262 v263 v264 v265 V9 hb9
              have E9 := HE6.out.step hb9
              have HE9 := Lib.hid E9
              clear E9
              clear hb9
              go_wp2
              exact ⟨⟨n + 1, by simp, by omega, HE9.out⟩, by simp [intOf]; omega⟩
          · have hrb : ((faultF x gs (pad p1)).1 == 0) = false := by simpa using hr
            rw [hrb]
            clear hr hrb
            dsimp only
            go_wp2
            exact ⟨⟨n + 1, by simp, by omega, HE4.out⟩, by simp [intOf]; omega⟩
        · subst g5
          dsimp only
          go_wp2_with fail
          rw [HhWf'.out]
          obtain ⟨V3, hV3⟩ : ∃ V3, V3 = Wf := ⟨_, rfl⟩
          rw [← hV3]
          have E3 := Hhst.out _ Hhbf.out
          have C3 := HhCf.out
          have c3 := Hhcf.out
          rw [← hV3] at E3 C3 c3
          have bx3 := E3.bx
          have bl3 := E3.bl
          have HE3 := Lib.hid E3
          have HC3 := Lib.hid C3
          clear E3 C3
          clear hV3
          refine (Hhright.out V3 P1 pc1 p1 HE3.out HC3.out Hhin1.out).mono ?_
          rintro e4 V4 ⟨rfl, hb4⟩
          have E4 := HE3.out.step hb4
          have C4 := Kd.C_below HC3.out hb4
          have c4 := pw_cell_below hb4 c3
          have bx4 := E4.bx
          have HE4 := Lib.hid E4
          have HC4 := Lib.hid C4
          clear E4 C4
          clear hb4 c3 bx3 bl3
          have h8x := HhF.out.ok.2.1
          by_cases hr : (faultF x gs (pad p1)).1 = 0
          · have hR : RightL x gs p1 := ⟨Hhin1.out, hr⟩
            obtain ⟨e0, hbl, hbn⟩ := HhF.out.best p1 hR
            have hrb : ((faultF x gs (pad p1)).1 == 0) = true := by rw [hr]; rfl
            rw [hrb]
            subst e0
            have HhR := Lib.hid hR
            have Hhbl := Lib.hid hbl
            have Hhbn := Lib.hid hbn
            clear hR hbl hbn
            clear hr hrb
            dsimp only
            go_wp2_with fail
            refine (newer_no HC4.out Hhpc1.out HE4.out.best hcb h8x Hhin1.out.1 Hhbl.out Hhbn.out).mono ?_
            rintro e5 V5 ⟨rfl, hb5⟩
            have E5 := HE4.out.step hb5
            have C5 := Kd.C_below HC4.out hb5
            have c5 := pw_cell_below hb5 c4
            have bx5 := E5.bx
            have HE5 := Lib.hid E5
            have HC5 := Lib.hid C5
            clear E5 C5
            clear hb5 c4 bx4
            dsimp only
            go_wp2_with fail
            refine (Hhm.out V5 HE5.out.bel).mono ?_
            rintro e6 V6 ⟨rfl, hb6⟩
            have E6 := HE5.out.step hb6
            have C6 := Kd.C_below HC5.out hb6
            have c6 := pw_cell_below hb6 c5
            have bx6 := E6.bx
            have HE6 := Lib.hid E6
            have HC6 := Lib.hid C6
            clear E6 C6
            clear hb6 c5 bx5
            by_cases hm2 : m ≤ 20000
            · obtain ⟨hnl, hfar, hnn⟩ := HhF.out.near hm2 p1 HhR.out
              generalize hap : apartN p1 hv x.length = ap at hfar hnn
              have hlt9 : ¬ ((ap : Int) < far) := by omega
              have Hhnl := Lib.hid hnl
              have Hhnn := Lib.hid hnn
              have Hhap := Lib.hid hap
              have Hhfar := Lib.hid hfar
              clear hnl hnn hap hfar
              dsimp only
              go_wp2_with fail
              refine (apart_is (N := x.length) HC6.out Hhpc1.out HE6.out.hav hch h8x Hhin1.out.1 HhF.out.hav.1).mono ?_
              rintro e7 V7 ⟨rfl, hb7⟩
              have E7 := HE6.out.step hb7
              have C7 := Kd.C_below HC6.out hb7
              have c7 := pw_cell_below hb7 c6
              have bx7 := E7.bx
              have HE7 := Lib.hid E7
              have HC7 := Lib.hid C7
              clear E7 C7
              clear hb7 c6 bx6
              rw [Hhap.out]
              dsimp only
              go_wp2_with fail
              by_cases heq : (ap : Int) = far
              · subst heq
                have hnn2 := Hhnn.out rfl
                have Hhnn2 := Lib.hid hnn2
                clear hnn2
                refine (apart_is (N := x.length) HC7.out Hhpc1.out HE7.out.hav hch h8x Hhin1.out.1 HhF.out.hav.1).mono ?_
                rintro e8 V8 ⟨rfl, hb8⟩
                have E8 := HE7.out.step hb8
                have C8 := Kd.C_below HC7.out hb8
                have c8 := pw_cell_below hb8 c7
                have bx8 := E8.bx
                have HE8 := Lib.hid E8
                have HC8 := Lib.hid C8
                clear E8 C8
                clear hb8 c7 bx7
                rw [Hhap.out]
                dsimp only
                go_wp2_with fail
                refine (newer_no HC8.out Hhpc1.out HE8.out.near hcn h8x Hhin1.out.1 Hhnl.out Hhnn2.out).mono ?_
                rintro e10 V10 ⟨rfl, hbx⟩
                have E10 := HE8.out.step hbx
                have C10 := Kd.C_below HC8.out hbx
                have c10 := pw_cell_below hbx c8
                have bx10 := E10.bx
                have HE10 := Lib.hid E10
                have HC10 := Lib.hid C10
                clear E10 C10
                clear hbx c8 bx8
                dsimp only
                go_wp2_with fail
                apply rowLoop_wp Ll cl ls P1 pc1 p1 V10 HE10.out.left HC10.out (HhF.out.rows.trans Hhin1.out.1.symm) (by rw [Hhin1.out.1]; exact h8x) (fun i hi h0 => HhF.out.left p1 HhR.out i (by rw [← Hhin1.out.1]; exact hi) h0)
                intro v6 v27 v28 v249 v250 v251 v252 v253 v254 v255 v256 v257 v258 v259 v260 v261 v262 v263 v264 v265 V9 hb9
                have E9 := HE10.out.step hb9
                have HE9 := Lib.hid E9
                clear E9
                clear hb9
                go_wp2
                exact ⟨⟨n + 1, by simp, by omega, HE9.out⟩, by simp [intOf]; omega⟩
              · refine (apart_is (N := x.length) HC7.out Hhpc1.out HE7.out.hav hch h8x Hhin1.out.1 HhF.out.hav.1).mono ?_
                rintro e8 V8 ⟨rfl, hb8⟩
                have E8 := HE7.out.step hb8
                have C8 := Kd.C_below HC7.out hb8
                have c8 := pw_cell_below hb8 c7
                have bx8 := E8.bx
                have HE8 := Lib.hid E8
                have HC8 := Lib.hid C8
                clear E8 C8
                clear hb8 c7 bx7
                rw [Hhap.out]
                dsimp only
                go_wp2_with fail
                apply rowLoop_wp Ll cl ls P1 pc1 p1 V8 HE8.out.left HC8.out (HhF.out.rows.trans Hhin1.out.1.symm) (by rw [Hhin1.out.1]; exact h8x) (fun i hi h0 => HhF.out.left p1 HhR.out i (by rw [← Hhin1.out.1]; exact hi) h0)
                intro v6 v27 v28 v249 v250 v251 v252 v253 v254 v255 v256 v257 v258 v259 v260 v261 v262 v263 v264 v265 V9 hb9
                have E9 := HE8.out.step hb9
                have HE9 := Lib.hid E9
                clear E9
                clear hb9
                go_wp2
                exact ⟨⟨n + 1, by simp, by omega, HE9.out⟩, by simp [intOf]; omega⟩
            · dsimp only
              go_wp2_with fail
              apply rowLoop_wp Ll cl ls P1 pc1 p1 V6 HE6.out.left HC6.out (HhF.out.rows.trans Hhin1.out.1.symm) (by rw [Hhin1.out.1]; exact h8x) (fun i hi h0 => HhF.out.left p1 HhR.out i (by rw [← Hhin1.out.1]; exact hi) h0)
              intro v6 v27 v28 v249 v250 v251 v252 v253 v254 v255 v256 v257 v258 v259 v260 v261 v262 v263 v264 v265 V9 hb9
              have E9 := HE6.out.step hb9
              have HE9 := Lib.hid E9
              clear E9
              clear hb9
              go_wp2
              exact ⟨⟨n + 1, by simp, by omega, HE9.out⟩, by simp [intOf]; omega⟩
          · have hrb : ((faultF x gs (pad p1)).1 == 0) = false := by simpa using hr
            rw [hrb]
            clear hr hrb
            dsimp only
            go_wp2
            exact ⟨⟨n + 1, by simp, by omega, HE4.out⟩, by simp [intOf]; omega⟩
    · have h8 : ¬ ((n : Int) < 8) := by omega
      go_wp2
      apply HhQ.out
      exact HE.out.bel
end Go.Proofs.YtlhnpbdpojcbeaaDoor
end
section
open Go Go.RowKit
namespace Go.Proofs.YtlhnpbdpojcbeaaDoor
open Go.Proofs.YtlhnpbdpojcbeaaDoorW.PrintWords
open PPackAll Go.Shelf
set_option linter.unusedVariables false
set_option linter.unusedSimpArgs false
theorem core_get {core : List S49} (n : Nat) (h : n < core.length) : rd_T49 core (n : Int) ∈ core := by
  unfold rd_T49
  rw [Int.toNat_natCast]
  exact getD_mem _ _ _ h
set_option maxRecDepth 100000 in
set_option maxHeartbeats 16000000 in
theorem coreLoop_wp (A : Option Addr) (c : Nat) (x : List (List S60)) (B : Option Addr) (d : Nat) (gs : List S68) (w : World) (Lb Ll Lh Ln Lc : Option Addr) (cc : Nat) (ls : List (List Int)) (bst hv nr : List Int) (core : List S49) (e g far m : Int)
    (hx : Kd.C (Kd.slice 60 k60) w A x.length x) (hcx : x.length ≤ c) (hg : k68.C w B gs.length gs) (hcg : gs.length ≤ d) (hF : Found x gs ls bst hv nr core e g far m)
    (Q : Exit → Act → World → Prop) (u0 u1 u2 u5 u6 u7 u8 u9 u10 u11 u12 u13 u14 u15 u16 u17 u18 u19 u20 u21 u22 u23 u24 u25 u26 u27 u28 u29 u30 u31 u32 u33 u34 u35 u36 u37 u38 u39 u40 u41 u42 u43 u44 u45 u46 u47 u48 u49 u50 u51 u52 u53 u54 u55 u56 u57 u58 u59 u60 u61 u62 u63 u64 u65 u66 u67 u68 u69 u70 u71 u72 u73 u74 u75 u76 u77 u78 u79 u80 u81 u82 u83 u84 u85 u86 u87 u88 u89 u90 u91 u92 u93 u94 u95 u96 u97 u98 u99 u100 u101 u102 u103 u104 u105 u106 u107 u108 u109 u110 u111 u112 u113 u114 u115 u116 u117 u118 u119 u120 u121 u122 u123 u124 u125 u126 u127 u128 u129 u130 u131 u132 u133 u134 u135 u136 u137 u138 u139 u140 u141 u142 u143 u144 u145 u146 u147 u148 u149 u150 u151 u152 u153 u154 u155 u156 u157 u158 u159 u160 u161 u162 u163 u164 u165 u166 u167 u168 u172 u173 u174 u175 u176 u177 u178 u179 u180 u181 u182 u183 u184 u185 u186 u187 u188 u189 u190 u191 u192 u193 u194 u195 u196 u197 u198 u199 u200 u201 u202 u203 u204 u205 u206 u207 u208 u209 u210 u211 u212 u213 u214 u215 u216 u217 u218 u219 u220 u221 u222 u223 u224 u225 u226 u227 u228 u229 u230 u231 u232 u233 u234 u235 u236 u237 u238 u239 u240 u241 u242 u243 u244 u245 u246 u247 u248 u249 u250 u251 u252 u253 u254 u255 u256 u257 u258 u259 u260 u261 u262 u263 u264 u265 u266 u267 : Value) (W : World) (hE : Env A c x B d gs w Lb Ll Lh Ln Lc ls bst hv nr core W)
    (hQ : ∀ (v6 v22 v171 v172 v173 v174 v175 v176 v177 v178 v179 v180 : Value) (W : World), Env A c x B d gs w Lb Ll Lh Ln Lc ls bst hv nr core W → Q (.exit 0) { tmps := #[u0, u1, u2, .pointer (some ⟨w.heap.size, 0, none⟩), .pointer (some ⟨w.heap.size + 1, 0, none⟩), u5, v6, u7, u8, u9, u10, u11, u12, u13, u14, u15, u16, u17, u18, u19, u20, u21, v22, u23, u24, u25, u26, u27, u28, u29, u30, u31, u32, u33, u34, u35, u36, u37, u38, u39, u40, u41, u42, u43, u44, u45, u46, u47, u48, u49, u50, u51, u52, u53, u54, u55, u56, u57, u58, u59, u60, u61, u62, u63, u64, u65, u66, u67, u68, u69, u70, u71, u72, u73, u74, u75, u76, u77, u78, u79, u80, u81, u82, u83, u84, u85, u86, u87, u88, u89, u90, u91, u92, u93, u94, u95, u96, u97, u98, u99, u100, u101, u102, u103, u104, u105, u106, u107, u108, u109, u110, u111, u112, u113, u114, u115, u116, u117, u118, u119, u120, u121, u122, u123, u124, u125, u126, u127, u128, u129, u130, u131, u132, u133, u134, u135, u136, u137, u138, u139, u140, u141, u142, u143, u144, u145, u146, u147, u148, u149, u150, u151, u152, u153, u154, u155, u156, u157, u158, u159, u160, u161, u162, u163, u164, u165, u166, u167, u168, .slice Lc core.length cc, .int .i64 core.length, v171, v172, v173, v174, v175, v176, v177, v178, v179, v180, u181, u182, u183, u184, u185, u186, u187, u188, u189, u190, u191, u192, u193, u194, u195, u196, u197, u198, u199, u200, u201, u202, u203, u204, u205, u206, u207, u208, u209, u210, u211, u212, u213, u214, u215, u216, u217, u218, u219, u220, u221, u222, u223, u224, u225, u226, u227, u228, u229, u230, u231, u232, u233, u234, u235, u236, u237, u238, u239, u240, u241, u242, u243, u244, u245, u246, u247, u248, u249, u250, u251, u252, u253, u254, u255, u256, u257, u258, u259, u260, u261, u262, u263, u264, u265, u266, u267], defers := [] } W) :
    (coreLoop Tryd.f3.body).wp Tryd.prog Q { tmps := #[u0, u1, u2, .pointer (some ⟨w.heap.size, 0, none⟩), .pointer (some ⟨w.heap.size + 1, 0, none⟩), u5, u6, u7, u8, u9, u10, u11, u12, u13, u14, u15, u16, u17, u18, u19, u20, u21, u22, u23, u24, u25, u26, u27, u28, u29, u30, u31, u32, u33, u34, u35, u36, u37, u38, u39, u40, u41, u42, u43, u44, u45, u46, u47, u48, u49, u50, u51, u52, u53, u54, u55, u56, u57, u58, u59, u60, u61, u62, u63, u64, u65, u66, u67, u68, u69, u70, u71, u72, u73, u74, u75, u76, u77, u78, u79, u80, u81, u82, u83, u84, u85, u86, u87, u88, u89, u90, u91, u92, u93, u94, u95, u96, u97, u98, u99, u100, u101, u102, u103, u104, u105, u106, u107, u108, u109, u110, u111, u112, u113, u114, u115, u116, u117, u118, u119, u120, u121, u122, u123, u124, u125, u126, u127, u128, u129, u130, u131, u132, u133, u134, u135, u136, u137, u138, u139, u140, u141, u142, u143, u144, u145, u146, u147, u148, u149, u150, u151, u152, u153, u154, u155, u156, u157, u158, u159, u160, u161, u162, u163, u164, u165, u166, u167, u168, .slice Lc core.length cc, .int .i64 core.length, .int .i64 0, u172, u173, u174, u175, u176, u177, u178, u179, u180, u181, u182, u183, u184, u185, u186, u187, u188, u189, u190, u191, u192, u193, u194, u195, u196, u197, u198, u199, u200, u201, u202, u203, u204, u205, u206, u207, u208, u209, u210, u211, u212, u213, u214, u215, u216, u217, u218, u219, u220, u221, u222, u223, u224, u225, u226, u227, u228, u229, u230, u231, u232, u233, u234, u235, u236, u237, u238, u239, u240, u241, u242, u243, u244, u245, u246, u247, u248, u249, u250, u251, u252, u253, u254, u255, u256, u257, u258, u259, u260, u261, u262, u263, u264, u265, u266, u267], defers := [] } W := by
  have hth := fun (W : World) (hb : Below w.heap.size w W) (q : S49) (hq : q ∈ core) => there_yes (c := c) (d := d) (Kd.C_below hx hb) hcx hF.ok (Kd.C_below hg hb) hcg hF.goals (hF.inCore q hq)
  have hsm := hF.smallCore
  have Hhth := Lib.hid hth
  have Hhx := Lib.hid hx
  have Hhg := Lib.hid hg
  have HhF := Lib.hid hF
  have HhQ := Lib.hid hQ
  clear hth hx hg hF hQ
  unfold coreLoop lawTail
  dsimp only [Tryd.f3, Option.getD, codeL, codeR, codeB, codeO]
  go_loopw [171] (fun v171 W => ∃ n : Nat, v171 = .int .i64 n ∧ n ≤ core.length ∧ Env A c x B d gs w Lb Ll Lh Ln Lc ls bst hv nr core W) (fun v171 _ => core.length - (intOf v171).toNat)
  case atStart => exact ⟨0, rfl, by omega, hE⟩
  case round =>
    obtain ⟨n, rfl, hn, hE⟩ := hrel
    have HE := Lib.hid hE
    clear hE
    rcases Nat.lt_or_ge n core.length with hlt | hge
    · have hlt' : (n : Int) < core.length := by omega
      have h50 : (0 : Int) ≤ n := by omega
      have bx := HE.out.bx
      have bl := HE.out.bl
      obtain ⟨ad, el, q0, q1, q2, q3⟩ := at_T49 HE.out.core n h50 hlt'
      have hth2 := fun (W : World) (hb : Below w.heap.size w W) => Hhth.out W hb _ (core_get n hlt)
      subst el
      rw [Int.toNat_natCast] at q0 q1 q2 q3
      generalize rd_T49 core (n : Int) = q at *
      have lx := World.block_lt_of_cell? wr _ bx
      have ll := World.block_lt_of_cell? wr _ bl
      have lq := World.block_lt_of_cell? wr _ q0
      have Hhth2 := Lib.hid hth2
      clear hth2
      go_wp2_with fail
      refine (Hhth2.out _ ?_).mono ?_
      · exact HE.out.bel.trans (Below.mono (by (repeat (first | exact Below.refl _ _ | refine pw_below_drewN ?_ _ | refine below_drew ?_ | refine Below.alloc ?_ (by first | omega | (simp; done) | (simp; omega)) _ | refine Below.setCell ?_ (by first | omega | (simp; done) | (simp; omega)) _))) HE.out.bel.size)
      rintro e2 V2 ⟨rfl, hb2⟩
      have hb3 : Below wr.heap.size wr V2 := Below.trans (by (repeat (first | exact Below.refl _ _ | refine pw_below_drewN ?_ _ | refine below_drew ?_ | refine Below.alloc ?_ (by first | omega | (simp; done) | (simp; omega)) _ | refine Below.setCell ?_ (by first | omega | (simp; done) | (simp; omega)) _))) (hb2.mono (by simp))
      have E2 := HE.out.step hb3
      have HE2 := Lib.hid E2
      clear E2
      clear hb2 hb3
      dsimp only
      go_wp2
      exact ⟨⟨n + 1, by simp, hlt, HE2.out⟩, by simp [intOf]; omega⟩
    · have hlt' : ¬ ((n : Int) < core.length) := by omega
      go_wp2
      apply HhQ.out
      exact HE.out
end Go.Proofs.YtlhnpbdpojcbeaaDoor
end
