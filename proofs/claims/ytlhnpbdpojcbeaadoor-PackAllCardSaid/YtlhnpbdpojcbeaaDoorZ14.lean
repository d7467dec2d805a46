/- Lemmas of this proof, part 14. -/
import Derived.Test.YtlhnpbdpojcbeaaDoorZ0
import Derived.Test.YtlhnpbdpojcbeaaDoorZ1
import Derived.Test.YtlhnpbdpojcbeaaDoorZ2
import Derived.Test.YtlhnpbdpojcbeaaDoorZ3
import Derived.Test.YtlhnpbdpojcbeaaDoorZ4
import Derived.Test.YtlhnpbdpojcbeaaDoorZ5
import Derived.Test.YtlhnpbdpojcbeaaDoorZ6
import Derived.Test.YtlhnpbdpojcbeaaDoorZ7
import Derived.Test.YtlhnpbdpojcbeaaDoorZ8
import Derived.Test.YtlhnpbdpojcbeaaDoorZ9
import Derived.Test.YtlhnpbdpojcbeaaDoorZ10
import Derived.Test.YtlhnpbdpojcbeaaDoorZ11
import Derived.Test.YtlhnpbdpojcbeaaDoorZ12
import Derived.Test.YtlhnpbdpojcbeaaDoorZ13
section
open Go Go.RowKit
namespace Go.Proofs.YtlhnpbdpojcbeaaDoor
open Go.Proofs.YtlhnpbdpojcbeaaDoorW.PrintWords
open PPackAll Go.Shelf
set_option linter.unusedVariables false
set_option linter.unusedSimpArgs false
def OutRow (W : World) (g cap : Nat) (p : List Int) : Prop :=
  p.length ≤ cap ∧ cap ≤ maxLen ∧ ∃ cur, W.heap[g]? = some (.cells cur 3 (0, 0)) ∧ cur.size = cap ∧ cur.toList.take p.length = p.map (Value.int .i64)
theorem OutRow.keep {W W' : World} {g cap : Nat} {p : List Int} (h : OutRow W g cap p) (hk : W'.heap[g]? = W.heap[g]?) : OutRow W' g cap p := by
  obtain ⟨h0, h1, cur, h2, h3, h4⟩ := h
  exact ⟨h0, h1, cur, hk.trans h2, h3, h4⟩
theorem OutRow.lt {W : World} {g cap : Nat} {p : List Int} (h : OutRow W g cap p) : g < W.heap.size := by
  obtain ⟨_, _, cur, h2, _⟩ := h
  exact (Array.getElem?_eq_some_iff.1 h2).1
theorem OutRow.cell {W : World} {g cap : Nat} {p : List Int} (h : OutRow W g cap p) (i : Int) (h0 : 0 ≤ i) (hi : i < p.length) : W.cell? ⟨g, i.toNat, none⟩ = some (.int .i64 (rd p i)) ∧ W.frozen? ⟨g, i.toNat, none⟩ = false := by
  obtain ⟨hc, _, cur, h2, h3, h4⟩ := h
  refine ⟨?_, frozen_of_row W g _ _ _ h2⟩
  rw [cell_of_row W g _ _ _ _ h2]
  have : cur.toList[i.toNat]? = (cur.toList.take p.length)[i.toNat]? := by rw [List.getElem?_take, if_pos (by omega)]
  rw [← Array.getElem?_toList, this, h4]
  unfold rd
  rw [List.getElem?_map, List.getD_eq_getElem?_getD]
  have : i.toNat < p.length := by omega
  simp [this]
theorem OutRow.set {W : World} {g cap : Nat} {p : List Int} (h : OutRow W g cap p) (i : Int) (h0 : 0 ≤ i) (hi : i < p.length) (x : Int) : OutRow (W.setCell ⟨g, i.toNat, none⟩ (.int .i64 x)) g cap (p.set i.toNat x) := by
  obtain ⟨hc, hm, cur, h2, h3, h4⟩ := h
  refine ⟨by rw [List.length_set]; exact hc, hm, _, heap_setCell_same W g i.toNat _ _ (.int .i64 x) h2, by simp [h3], ?_⟩
  rw [Array.toList_setIfInBounds, List.length_set, List.map_set, ← h4, List.take_set]
theorem OutRow.ofR {W : World} {base : Nat} {v : Value} {p : List Int} (h : (Kd.int .i64).R 3 W base (fun _ => True) v p) (hp : 0 < p.length) : ∃ g cap, v = .slice (some ⟨g, 0, none⟩) p.length cap ∧ base ≤ g ∧ OutRow W g cap p := by
  obtain ⟨_, inner, ho, hr⟩ := h
  rcases ho.2 with ⟨_, hz⟩ | ⟨g, cap, cur, e, hb, hg, hle, hm, hs, ht⟩
  · omega
  · refine ⟨g, cap, e, hb, hle, hm, cur, hg, by simpa [Kd.int, Kd.scalar] using hs, ?_⟩
    have hl : inner.length = p.length := by have := hr.1; simpa [Kd.int, Kd.scalar] using this
    have : (Kd.int .i64).sz = 1 := rfl
    rw [this, Nat.mul_one] at ht
    rw [ht]
    apply List.ext_getElem (by simp [hl])
    intro i h1 h2
    have h5 : (inner.drop (i * 1)).take 1 = [Value.int .i64 (p[i]'(by simpa using h2))] := hr.2 i (p[i]'(by simpa using h2)) (List.getElem?_eq_getElem _)
    rw [Nat.mul_one] at h5
    have h6 : ((inner.drop i).take 1)[0]? = some (Value.int .i64 (p[i]'(by simpa using h2))) := by rw [h5]; rfl
    rw [List.getElem?_take, if_pos (by omega), List.getElem?_drop, Nat.add_zero, List.getElem?_eq_getElem h1] at h6
    simpa using h6
theorem OutRow.toR {W : World} {base g cap : Nat} {p : List Int} (h : OutRow W g cap p) (hb : base ≤ g) : (Kd.int .i64).R 3 W base (fun _ => True) (.slice (some ⟨g, 0, none⟩) p.length cap) p := by
  obtain ⟨hc, hm, cur, h2, h3, h4⟩ := h
  refine Kd.R_of_own (enc := .int .i64) ?_ (fun _ _ => trivial)
  refine ⟨by simp [encs], .inr ⟨g, cap, cur, rfl, hb, h2, hc, hm, by omega, ?_⟩⟩
  rw [Nat.mul_one, h4]
  rfl
theorem run_append68 {W : World} (ty : TypeId) (base : Nat) (v : Value) (xs ys : List S68) (A : Option Addr) (c : Nat) (HO : k68.Q 68 W base (fun _ => True) v xs) (HR : k68.C W A ys.length ys) (hl : (xs.length + ys.length) * 24 ≤ 140737488355328) (hbase : base ≤ W.heap.size) :
    ∃ v1 w1, (Builtin.append_ #[25, 25] ty #[v, .slice A ys.length c]).run Tryd.prog W = .ok v1 w1 ∧ k68.Q 68 w1 base (fun _ => True) v1 (xs ++ ys) ∧ W.grownBy w1 v.ownBlock ∧ (v1.ownBlock = v.ownBlock ∨ ∃ b, v1.ownBlock = some b ∧ W.heap.size ≤ b) := by
  obtain ⟨i0, hi, hzz⟩ := Option.map_eq_some_iff.1 info68s
  simp only [Prod.mk.injEq] at hzz
  obtain ⟨hz0, hz1, hz2⟩ := hzz
  by_cases h0 : ys.length = 0
  · obtain rfl : ys = [] := List.eq_nil_of_length_eq_zero h0
    obtain ⟨B, cb, e, hle⟩ := Kd.Q_slice HO
    subst e
    refine ⟨_, W, ?_, by rw [List.append_nil]; exact HO, World.grownBy.refl W _, .inl rfl⟩
    cases B <;> cases A <;> simp [Builtin.append_, run_underlying Tryd.underlying25, sizeOf, typeInfo, hi, Builtin.lenOf, Builtin.firstCells, hle, storeCells, loadCells, loadCellsFrom]
  · obtain ⟨_, inner, hown, hr⟩ := HO
    obtain ⟨ad, rfl⟩ : ∃ ad, A = some ad := by
      cases A with
      | none => exact absurd (C_none HR).1 (fun e => h0 (by rw [e]; rfl))
      | some ad => exact ⟨ad, rfl⟩
    obtain ⟨news, hnr, hnc⟩ := ReadsRow.inner_ HR
    have hnM : Reps (k68.M W base (fun k => True ∧ some k ≠ v.ownBlock)) 3 ys news := hnr.imp_ (fun p c hp => by obtain rfl := k68_open hp; exact k68_mkM _ _ _ _)
    have hone : ∀ u ∈ news, u.oneCell' = true := by
      intro u hu
      obtain ⟨q, hq, rfl⟩ := List.mem_iff_getElem.1 hu
      have hql : q / 3 < ys.length := by
        rw [Nat.div_lt_iff_lt_mul (by omega)]
        rw [← hnM.1]
        exact hq
      have hc := hnM.2 (q / 3) _ (List.getElem?_eq_getElem hql)
      refine k68.K_one (k68.K_of_M hc) _ ?_
      rw [List.mem_iff_getElem?]
      refine ⟨q % 3, ?_⟩
      rw [List.getElem?_take, if_pos (Nat.mod_lt _ (by omega)), List.getElem?_drop, Nat.mul_comm, Nat.div_add_mod, List.getElem?_eq_getElem hq]
    obtain ⟨v1, w1, hrun, hq1, hg1, hat⟩ := q_append (P := Tryd.prog) W base 25 ty 68 i0 _ 3 24 Tryd.underlying25 hi hz0 hz1 hz2 rfl (by omega) v xs.length inner hown ad ys.length c news hnr.1 hnc hone (by omega) (by simp only [maxLen]; omega) hl hbase
    refine ⟨v1, w1, hrun, ⟨fun _ _ => trivial, inner ++ news, by rw [List.length_append]; exact hq1, ?_⟩, hg1, hat⟩
    exact (Kd.reps_append hr hnM).imp_ (fun p c hp => by obtain rfl := k68_openM hp; exact k68_mkM _ _ _ _)
theorem step_append_runI {ops : Array Oper} {o : Oper} {a : Act} {w : World} {K : Act → World → Prop} {Q : Exit → Act → World → Prop} {E : Prop}
    (hg : o.guard = none) (d x : Operand) (t : TypeId) (hop : o.op = Op.call { callee := Callee.builtin Builtin.append, args := #[d, x], argTypes := #[t, t] })
    (v u : Value) (hd : a.eval d = v) (hx : a.eval x = u) {v' : Value} {w' : World} (hr : (Builtin.append_ #[t, t] o.type #[v, u]).run Tryd.prog w = .ok v' w') (hK : K (a.put o.dst v') w') :
    if Region.wanted o (yielded ops a.tmps) = true then Oper.wp Tryd.prog o a w K Q else E := by
  have hw : Region.wanted o (yielded ops a.tmps) = true := by simp [Region.wanted, hg]
  rw [if_pos hw]
  unfold Oper.wp
  simp [execOp, hop, resolve, invoke, builtin, hd, hx, hr, Result.andThen]
  exact hK
def InR (x : List (List S60)) (p : List Int) : Prop := p.length = x.length ∧ ∀ i : Nat, i < x.length → -1 ≤ rd p i ∧ rd p i < ((x.getD i []).length : Int)
def GrHead (A : Option Addr) (c : Nat) (x : List (List S60)) (g cap : Nat) (w : World) (v : Value) (k : Nat) (W : World) : Prop :=
  ∃ (p : List Int) (todo : List S68), InR x p ∧ OutRow W g cap p ∧ k68.Q 68 W (w.heap.size + 1) (fun _ => True) v todo ∧ (∀ r ∈ todo, OkRange x r) ∧ todo.length ≤ 4 + 4 * k ∧ Below w.heap.size w W ∧ W.cell? ⟨w.heap.size, 0, none⟩ = some (.slice A x.length c)
def GrownIs (x : List (List S60)) (w : World) (e : Ending) (w' : World) : Prop :=
  ∃ v p, e = .returned v ∧ InR x p ∧ (Kd.int .i64).R 3 w' w.heap.size (fun _ => True) v p ∧ Below w.heap.size w w'
theorem wpList_cut {ops : Array Oper} {rest : List Oper} {o : Oper} {a : Act} {w : World} {Q : Exit → Act → World → Prop} (hgd : o.guard = none) (t : TypeId) (x lo : Operand) (ho : o.op = .slice t x (some lo) none none) (v u v' : Value)
    (hx : a.eval x = v) (hl : a.eval lo = u) (hr : (Instr.sliceAt t v (some u) none none).run Tryd.prog w = .ok v' w) (h : wpList Tryd.prog ops Q rest (a.put o.dst v') w) : wpList Tryd.prog ops Q (o :: rest) a w :=
  wpList_plain hgd fun _ hK => by
    unfold Oper.wp execOp
    simp only [ho, hx, hl, hr, Option.map_some, Option.map_none, Sem.run_bind, Sem.run_pure, Result.andThen_ok]
    exact hK _ _ h
theorem info68' : (Tryd.prog.info? 68).map (·.size) = some 3 := by kernel_rfl
theorem run_cut1 (W : World) (ad : Addr) (n c : Nat) (hc : n + 1 ≤ c) : (Instr.sliceAt 25 (.slice (some ad) (n + 1) c) (some (.int .i64 1)) none none).run Tryd.prog W = .ok (.slice (if c = 1 then some ad else (some ad).map (·.add (1 * 3))) n (c - 1)) W := by
  obtain ⟨i0, hi0, hs⟩ := Option.map_eq_some_iff.1 info68'
  have h1 : (1 : Int) ≤ ((n : Int) + 1) := by omega
  have h2 : (1 : Int) ≤ (c : Int) := by omega
  have h3 : n + 1 ≤ c := hc
  by_cases h : c = 1
  · subst h
    have h0 : n = 0 := by omega
    subst h0
    simp [Instr.sliceAt, Instr.slice, run_underlying Tryd.underlying25, Instr.sliceBounds, Instr.sliceBound, asIntOf, sizeOf, typeInfo, hi0, Sem.run_bind, hs]
  · simp [Instr.sliceAt, Instr.slice, run_underlying Tryd.underlying25, Instr.sliceBounds, Instr.sliceBound, asIntOf, h1, h2, h3, h, sizeOf, typeInfo, hi0, Sem.run_bind, hs]
set_option maxHeartbeats 4000000 in
theorem grown_calls (A : Option Addr) (c : Nat) (x : List (List S60)) (B : Option Addr) (d : Nat) (gs : List S68) (Y : Option Addr) (yc : Nat) (bs : List Int) (from_ : Nat) (w : World)
    (hx : Kd.C (Kd.slice 60 k60) w A x.length x) (hok : OkIdx x) (hg : k68.C w B gs.length gs) (hgo : OkGoals x gs) (hb : Kd.C (Kd.int .u8) w Y bs.length bs) (hbr : ∀ b ∈ bs, 0 ≤ b ∧ b < 256) (hf : from_ ≤ 1000) :
    Calls Tryd.prog 17 #[.agg #[.slice A x.length c], .slice B gs.length d, .slice Y bs.length yc, .int .i64 from_] w (GrownIs x w) := by
  have h8 := hok.2.1
  have h1 := hok.1
  have hrep := fun (W : World) (g : Nat) (hc : W.cell? ⟨g, 0, none⟩ = some (.int .i64 (-1))) => repeat_calls x.length h1 h8 g 1 W hc
  have hcl := fun (W : World) (hB : Below w.heap.size w W) => clone68_calls B d gs W (Kd.C_below hg hB) (by have := hgo.1; omega)
  have Hhx := Lib.hid hx
  have Hhok := Lib.hid hok
  have Hhg := Lib.hid hg
  have Hhgo := Lib.hid hgo
  have Hhb := Lib.hid hb
  have Hhbr := Lib.hid hbr
  have Hhrep := Lib.hid hrep
  have Hhcl := Lib.hid hcl
  clear hx hok hg hgo hb hbr hrep hcl
  go_enter Tryd.func17, Tryd.ntmps17
  go_wp2_with fail
  refine (Hhrep.out _ (w.heap.size + 1) (by simp [go_sem])).mono ?_
  rintro e V1 ⟨v1, rfl, hR1, hb1⟩
  have hb1w : Below w.heap.size w V1 := by
    refine Below.trans ?_ (hb1.mono ?_)
    · (repeat (first | exact Below.refl _ _ | refine pw_below_drewN ?_ _ | refine below_drew ?_ | refine Below.alloc ?_ (by first | omega | (simp; done) | (simp; omega)) _ | refine Below.setCell ?_ (by first | omega | (simp; done) | (simp; omega)) _))
    · simp; try omega
  have b0 := hb1.cell (p := ⟨w.heap.size, 0, none⟩) (by simp; omega)
  simp [go_sem] at b0
  obtain ⟨g, cap, e1, hgb, hrow⟩ := OutRow.ofR hR1 (by simp; omega)
  have hp1 : InR x (List.replicate x.length (-1)) := by
    refine ⟨by simp, fun i hi => ?_⟩
    have e : rd (List.replicate x.length (-1)) i = -1 := by
      unfold rd
      rw [Int.toNat_natCast, List.getD_eq_getElem?_getD]
      simp [hi]
    rw [e]; omega
  rw [List.length_replicate] at e1
  subst e1
  have hgw : w.heap.size + 1 < g := by simp at hgb; omega
  have hcl1 := Hhcl.out V1 hb1w
  have Hhb1w := Lib.hid hb1w
  have Hhrow := Lib.hid hrow
  have Hhp1 := Lib.hid hp1
  have Hhcl1 := Lib.hid hcl1
  clear hb1w hrow hp1 hcl1
  clear hb1 hR1 hgb Hhcl
  go_wp2_with fail
  refine Hhcl1.out.mono ?_
  rintro e V2 ⟨v2, rfl, hR2, hb2⟩
  have hb2w := Hhb1w.out.trans (hb2.mono Hhb1w.out.size)
  have hrow2 := Hhrow.out.keep (hb2.block g Hhrow.out.lt)
  have b2 := pw_cell_below hb2 b0
  have hQ2 : k68.Q 68 V2 (w.heap.size + 1) (fun _ => True) v2 gs := Kd.Q_of_R (Kd.R_mono (Kd.R_lower hR2 (by have := Hhrow.out.lt; omega)) (fun _ _ => trivial))
  have Hhb2w := Lib.hid hb2w
  have Hhrow2 := Lib.hid hrow2
  have HhQ2 := Lib.hid hQ2
  clear hb2w hrow2 hQ2
  clear hb2 hR2 b0 Hhcl1
  go_wp2
  go_loopw [10, 11] (fun v10 v11 W => ∃ k : Nat, v11 = .int .i64 k ∧ k ≤ 60 ∧ GrHead A c x g cap w v10 k W) (fun _ v11 _ => 60 - (intOf v11).toNat)
  case atStart => exact ⟨0, rfl, by omega, _, _, Hhp1.out, Hhrow2.out, HhQ2.out, Hhgo.out.2, by have := Hhgo.out.1; omega, Hhb2w.out, b2⟩
  case round =>
    obtain ⟨k, rfl, hk, p, todo, hp, hro, hQ, hto, htl, hbl, hbx⟩ := hrel
    obtain ⟨wi, hwi⟩ : ∃ wi, wi = wr := ⟨_, rfl⟩
    rw [← hwi] at hro hQ hbl hbx ⊢
    clear hwi
    obtain ⟨T, tc, eT, htc⟩ := Kd.Q_slice hQ
    subst eT
    have hfin : ∀ (tmps : Array Value), tmps.getD 8 undef = .slice (some ⟨g, 0, none⟩) x.length cap → bodyPost Tryd.prog Tryd.f17 (GrownIs x w) .ret { tmps, defers := [] } wi := by
      intro tmps h8
      have := hro.toR (base := w.heap.size) (by omega)
      rw [hp.1] at this
      exact bodyPost_ret (results_tmp rfl _ _ _) rfl ⟨_, p, by rw [h8], hp, this, hbl⟩
    have Hhfin := Lib.hid hfin
    clear hfin
    cases todo with
    | nil =>
      have Hhp := Lib.hid hp
      have Hhro := Lib.hid hro
      have HhQ := Lib.hid hQ
      have Hhto := Lib.hid hto
      have Hhbl := Lib.hid hbl
      clear hp hro hQ hto hbl
      simp only [List.length_nil] at *
      go_wp2
      exact Hhfin.out _ rfl
    | cons r rest =>
      have htl' : rest.length ≤ 4 + 4 * k := by simp only [List.length_cons] at htl; omega
      have Htl := Lib.hid htl'
      have hlen : (r :: rest).length = rest.length + 1 := rfl
      rw [hlen] at *
      rcases Nat.lt_or_ge k 60 with hlt | hge
      · obtain ⟨-, -, hC⟩ := Kd.Q_reads' hQ
        obtain ⟨ad, e, q0, q1, q2⟩ := at_T68 hC 0 (by omega) (by simp)
        subst e
        have e0 : ad.add ((0 : Int).toNat * 3) = ad := by simp [Addr.add]
        rw [e0] at q0 q1 q2
        change _ = some (Value.int .i64 r.f0) at q0
        change _ = some (Value.int .i64 r.f1) at q1
        change _ = some (Value.int .i64 r.f2) at q2
        have hrr := hto r List.mem_cons_self
        obtain ⟨A', c', hsl, hQ'⟩ : ∃ A' c', (∀ W, (Instr.sliceAt 25 (.slice (some ad) (rest.length + 1) tc) (some (.int .i64 1)) none none).run Tryd.prog W = .ok (.slice A' rest.length c') W) ∧ k68.Q 68 wi (w.heap.size + 1) (fun _ => True) (.slice A' rest.length c') rest := by
          refine ⟨_, _, fun W => run_cut1 W ad rest.length tc htc, ?_⟩
          have := Kd.Q_drop (k := 1) hQ (by simp)
          rw [show k68.sz = 3 from rfl] at this
          simpa using this
        obtain ⟨r0, r1, r2, r3, r4⟩ := hrr
        obtain ⟨y0, y1⟩ := hro.cell r.f0 r0 (by rw [hp.1]; omega)
        have hpr := hp.2 r.f0.toNat (by omega)
        rw [Int.toNat_of_nonneg r0] at hpr
        have lg := hro.lt
        have lad := World.block_lt_of_cell? wi _ q0
        have lbx := World.block_lt_of_cell? wi _ hbx
        generalize hrd : rd p r.f0 = pr at y0 hpr
        have Hhp := Lib.hid hp
        have Hhro := Lib.hid hro
        have HhQ := Lib.hid hQ
        have Hhto := Lib.hid hto
        have Hhbl := Lib.hid hbl
        have HhC := Lib.hid hC
        have HhQ' := Lib.hid hQ'
        have Hhrd := Lib.hid hrd
        have Hhpr := Lib.hid hpr
        clear hp hro hQ hto hbl hC hQ' hrd hpr
        go_wp2_with (refine stop_atw 34 ?_)
        refine ⟨?_⟩
        refine wpList_cut rfl 25 (.tmp 33) (.const (.int .i64 1)) rfl _ _ _ (by rfl) (by rfl) (hsl _) ?_
        simp only [Act.put, List.setIfInBounds_toArray, List.set_cons_zero, List.set_cons_succ]
        have Hhsl := Lib.hid hsl
        clear hsl
        go_wp2_with (refine stop_atw 40 ?_)
        refine ⟨?_⟩
        have hout2 := Hhro.out.keep (W' := wi.alloc (Obj.cells #[Value.int .i64 r.f0, Value.int .i64 r.f1, Value.int .i64 r.f2] 68)) (by rw [heap_alloc_if, if_neg (by omega)])
        have hb3 : Below w.heap.size w (wi.alloc (Obj.cells #[Value.int .i64 r.f0, Value.int .i64 r.f1, Value.int .i64 r.f2] 68)) := Hhbl.out.alloc Hhbl.out.size _
        have hbx3 : (wi.alloc (Obj.cells #[Value.int .i64 r.f0, Value.int .i64 r.f1, Value.int .i64 r.f2] 68)).cell? ⟨w.heap.size, 0, none⟩ = some (.slice A x.length c) := pw_cell_below ((Below.refl _ _).alloc (Nat.le_refl _) _) hbx
        have hhead : GrHead A c x g cap w (.slice A' rest.length c') (k + 1) (wi.alloc (Obj.cells #[Value.int .i64 r.f0, Value.int .i64 r.f1, Value.int .i64 r.f2] 68)) :=
          ⟨p, rest, Hhp.out, hout2, Kd.Q_alloc HhQ'.out _, fun q hq => Hhto.out q (List.mem_cons_of_mem _ hq), by omega, hb3, hbx3⟩
        have Hhhead := Lib.hid hhead
        have Hhout2 := Lib.hid hout2
        have Hhb3 := Lib.hid hb3
        clear hhead hout2 hb3
        rcases Int.lt_or_le pr 0 with hneg | hpos
        · have hneg' : decide (pr ≥ 0) = false := decide_eq_false (by omega)
          rcases Nat.eq_zero_or_pos bs.length with hz | hz
          · have hz' : ((bs.length : Int) > 0) = False := by rw [hz]; simp
            go_wp2
            obtain ⟨nv, hnve⟩ : ∃ nv : Int, nv = r.f2 := ⟨_, rfl⟩
            have h5 := (Hhok.out.2.2 r.f0.toNat (by omega)).1
            have m0 : (wi.alloc (Obj.cells #[Value.int .i64 r.f0, Value.int .i64 r.f1, Value.int .i64 r.f2] 68)).cell? ⟨wi.heap.size, 0, none⟩ = some (.int .i64 r.f0) := by simp [go_sem]
            have m1 : (wi.alloc (Obj.cells #[Value.int .i64 r.f0, Value.int .i64 r.f1, Value.int .i64 r.f2] 68)).cell? ⟨wi.heap.size, 1, none⟩ = some (.int .i64 r.f1) := by simp [go_sem]
            have m2 : (wi.alloc (Obj.cells #[Value.int .i64 r.f0, Value.int .i64 r.f1, Value.int .i64 r.f2] 68)).cell? ⟨wi.heap.size, 2, none⟩ = some (.int .i64 r.f2) := by simp [go_sem]
            have lm : wi.heap.size < (wi.alloc (Obj.cells #[Value.int .i64 r.f0, Value.int .i64 r.f1, Value.int .i64 r.f2] 68)).heap.size := by simp
            have hQ3 := Kd.Q_alloc HhQ'.out (Obj.cells #[Value.int .i64 r.f0, Value.int .i64 r.f1, Value.int .i64 r.f2] 68)
            obtain ⟨z0, z1⟩ := Hhout2.out.cell r.f0 r0 (by rw [Hhp.out.1]; omega)
            have hle8 : Below wi.heap.size wi (wi.alloc (Obj.cells #[Value.int .i64 r.f0, Value.int .i64 r.f1, Value.int .i64 r.f2] 68)) := (Below.refl _ _).alloc (Nat.le_refl _) _
            generalize hV3 : wi.alloc (Obj.cells #[Value.int .i64 r.f0, Value.int .i64 r.f1, Value.int .i64 r.f2] 68) = V3 at *
            have HhQ3 := Lib.hid hQ3
            have Hhle8 := Lib.hid hle8
            clear hQ3 hle8
            clear hV3 y0 y1 q0 q1 q2 lad hneg hneg' hz hz'
            have hnv : r.f1 ≤ nv ∧ nv ≤ r.f2 := by omega
            have hd0 : ¬ (r.f2 - r.f1 + 1 = 0) := by omega
            have hd1 : ((r.f2 - r.f1 + 1) == 0) = false := by simpa using hd0
            have w1 : IntKind.i64.wrap (r.f2 - r.f1) = r.f2 - r.f1 := by rw [IntKind.wrap_i64]; omega
            have w2 : IntKind.i64.wrap (r.f2 - r.f1 + 1) = r.f2 - r.f1 + 1 := by rw [IntKind.wrap_i64]; omega
            have w3 : IntKind.i64.wrap r.f2 = nv := by rw [IntKind.wrap_i64]; omega
            have Hhnv := Lib.hid hnv
            have Hhnve := Lib.hid hnve
            clear hnv hnve
            clear h5
            obtain ⟨W4, hW4⟩ : ∃ W4, W4 = (V3.setCell ⟨g, r.f0.toNat, none⟩ (.int .i64 nv)).drew := ⟨_, rfl⟩
            have k4 : Keep (fun k => k = g) V3 W4 := by rw [hW4]; exact ((Keep.refl (fun k => k = g) V3).setCell (p := ⟨g, r.f0.toNat, none⟩) (.inl rfl) _).drewN 1
            have o4 : OutRow W4 g cap (p.set r.f0.toNat nv) := by
              rw [hW4]
              exact Hhout2.out.set r.f0 r0 (by rw [Hhp.out.1]; omega) nv
            have n0 := k4.cell m0 (show ¬ (wi.heap.size = g) by omega)
            have n1 := k4.cell m1 (show ¬ (wi.heap.size = g) by omega)
            have n2 := k4.cell m2 (show ¬ (wi.heap.size = g) by omega)
            have Hk4 := Lib.hid k4
            have Ho4 := Lib.hid o4
            have Hn0 := Lib.hid n0
            have Hn1 := Lib.hid n1
            have Hn2 := Lib.hid n2
            have HhW4 := Lib.hid hW4
            clear k4 o4 n0 n1 n2 hW4
            go_region_held3 (fun W => W.cell? ⟨wi.heap.size, 0, none⟩ = some (.int .i64 r.f0) ∧ W.cell? ⟨wi.heap.size, 1, none⟩ = some (.int .i64 r.f1) ∧ W.cell? ⟨wi.heap.size, 2, none⟩ = some (.int .i64 r.f2)) (first | exact ⟨m0, m1, m2⟩ | (rw [← HhW4.out]; exact ⟨Hn0.out, Hn1.out, Hn2.out⟩)) (fail)
            rw [← HhW4.out]
            clear HhW4 z0 z1 m0 m1 m2
            have b4 : Below w.heap.size w W4 := Hhb3.out.trans (Hk4.out.below _ Hhb3.out.size (fun k _ h => by omega))
            have x4 := Hk4.out.cell hbx3 (show ¬ (w.heap.size = g) by omega)
            have hQ4 : k68.Q 68 W4 (w.heap.size + 1) (fun _ => True) (.slice A' rest.length c') rest := by
              refine Kd.Q_mono (Kd.Q_step (Kd.Q_bound HhQ3.out) (fun k h hlt => Hk4.out.block k hlt (fun e => ?_))) (fun _ _ => trivial)
              obtain ⟨_, _, _, q, hq, cells, hc⟩ := h
              have hq' : q = 68 := by simpa [k68, Kd.iso, Kd.pair, Kd.int, Kd.scalar] using hq
              obtain ⟨_, _, cur, hcur, _⟩ := Hhout2.out
              rw [e, hcur, hq'] at hc
              injection hc with hc
              injection hc with _ hc
              exact absurd hc (by decide)
            obtain ⟨adx, A0, cx, e, hcx, hlx, hix⟩ := at_L4 Hhx.out r.f0 r0 r1
            subst e
            have hL4 : (rd_L4 x r.f0).length = (x.getD r.f0.toNat []).length := rfl
            have hrel := (Hhok.out.2.2 r.f0.toNat (by omega)).2 (rd_T60 (rd_L4 x r.f0) nv) (by
              unfold rd_T60 rd_L4
              exact getD_mem _ _ _ (by have := Hhnv.out; omega))
            obtain ⟨adr, B0, e0', B1, e1', e, s0, s1, l0, g0, l1, g1⟩ := at_T60 hix nv (by have := Hhnv.out; omega) (by have := Hhnv.out; omega)
            subst e
            have lw1 := World.block_lt_of_cell? w _ hcx
            have lw2 := World.block_lt_of_cell? w _ s0
            have hcx4 := pw_cell_below b4 hcx
            have s04 := pw_cell_below b4 s0
            have g04 := Kd.C_below g0 b4
            obtain ⟨z0, z1⟩ := Ho4.out.cell r.f0 r0 (by rw [List.length_set, Hhp.out.1]; omega)
            have hrdn : rd (p.set r.f0.toNat nv) r.f0 = nv := by
              unfold rd
              rw [List.getD_eq_getElem?_getD]
              have : r.f0.toNat < p.length := by rw [Hhp.out.1]; omega
              simp [this]
            rw [hrdn] at z0
            have hp2 : InR x (p.set r.f0.toNat nv) := by
              refine ⟨by rw [List.length_set]; exact Hhp.out.1, fun i hi => ?_⟩
              by_cases hc : i = r.f0.toNat
              · have : (i : Int) = r.f0 := by omega
                rw [this, hrdn, hc]
                have := Hhnv.out
                omega
              · have : rd (p.set r.f0.toNat nv) i = rd p i := by
                  unfold rd
                  rw [List.getD_eq_getElem?_getD, List.getD_eq_getElem?_getD, Int.toNat_natCast, List.getElem?_set_ne (by omega)]
                rw [this]
                exact Hhp.out.2 i hi
            have hn4 : (rd_T60 (rd_L4 x r.f0) nv).f0.length ≤ 4 := hrel.1
            have hnr : ∀ n ∈ (rd_T60 (rd_L4 x r.f0) nv).f0, OkRange x n ∧ n.f0 ≠ _ := hrel.2.2.1
            clear hrel
            generalize hnl : (rd_T60 (rd_L4 x r.f0) nv).f0 = nl at *
            obtain ⟨v5, W5, hrun, hQ5, hg5, hat⟩ := run_append68 (W := W4.drew) 25 (w.heap.size + 1) (.slice A' rest.length c') rest nl B0 e0' (Kd.Q_drew hQ4) (Kd.C_drew g04) (by have := Htl.out; omega) (by show w.heap.size + 1 ≤ W4.heap.size; have := Hk4.out.size; omega)
            have hown1 : ∀ j, (Value.slice A' rest.length c').ownBlock = some j → w.heap.size + 1 ≤ j ∧ j < wi.heap.size := fun j hj => ⟨Kd.Q_base HhQ'.out j hj, Kd.Q_lt HhQ'.out j hj⟩
            have hown2 : some g ≠ (Value.slice A' rest.length c').ownBlock := by
              obtain ⟨_, _, cur, hcur, _⟩ := Ho4.out
              exact Kd.Q_ne hQ4 hcur (by decide)
            have hkc : ∀ (a : Addr) (v : Value), W4.cell? a = some v → some a.block ≠ (Value.slice A' rest.length c').ownBlock → W5.cell? a = some v := fun a v hv hne =>
              (World.cell?_of_block (w := W4) (hg5.block a.block (World.block_lt_of_cell? W4 a hv) hne)).trans hv
            have o0 := hkc _ _ x4 (fun e => by have h := (hown1 _ e.symm).1; (try dsimp only at h); omega)
            have o1 := hkc _ _ Hn0.out (fun e => by have h := (hown1 _ e.symm).2; (try dsimp only at h); omega)
            have o2 := hkc _ _ hcx4 (fun e => by have h := (hown1 _ e.symm).1; (try dsimp only at h); omega)
            have o3 := hkc _ _ z0 hown2
            have o4' := hkc _ _ s04 (fun e => by have h := (hown1 _ e.symm).1; (try dsimp only at h); omega)
            have hhead2 : GrHead (some adx) c x g cap w v5 (k + 1) W5 := by
              refine ⟨_, _, hp2, Ho4.out.keep (hg5.block g Ho4.out.lt hown2), hQ5, ?_, ?_, ?_, o0⟩
              · intro q hq
                rcases List.mem_append.1 hq with hq | hq
                · exact Hhto.out q (List.mem_cons_of_mem _ hq)
                · exact (hnr q hq).1
              · rw [List.length_append]
                have := Htl.out
                omega
              · exact b4.grown (show W4.grownBy W5 _ from ⟨hg5.os, hg5.tape, hg5.output, hg5.size, hg5.block⟩) b4.size (fun k h => by have := (hown1 k h).1; omega)
            have Hhrun := Lib.hid hrun
            have HhQ5 := Lib.hid hQ5
            have Hhg5 := Lib.hid hg5
            have Hhhead2 := Lib.hid hhead2
            have Hhnr := Lib.hid hnr
            have Hhp2 := Lib.hid hp2
            have Hhix := Lib.hid hix
            have Hg0 := Lib.hid g0
            have Hg04 := Lib.hid g04
            have HhQ4 := Lib.hid hQ4
            have Hhkc := Lib.hid hkc
            clear hrun hQ5 hg5 hhead2 hnr hp2 hix g0 g04 hQ4 hkc
            go_wp2
            have hn0 := Hn0.out
            have hi0 : 0 ≤ nv := by have := Hhnv.out; omega
            have hi1 : nv < ((rd_L4 x r.f0).length : Int) := by have := Hhnv.out; omega
            clear hL4 r4 hrdn hlx hcx s0 s1 l0 l1 g1 hnl hn4
            generalize (rd_L4 x r.f0).length = NL at *
            generalize nl.length = ML at *
            go_region_held3 (fun W => W.cell? ⟨w.heap.size, 0, none⟩ = some (.slice (some adx) x.length c) ∧ W.cell? ⟨wi.heap.size, 0, none⟩ = some (.int .i64 r.f0) ∧ W.cell? (adx.add r.f0.toNat) = some (.slice (some adr) NL cx) ∧ W.cell? ⟨g, r.f0.toNat, none⟩ = some (.int .i64 nv) ∧ W.cell? (adr.add (nv.toNat * 2)) = some (.slice B0 ML e0')) (first | exact ⟨x4, hn0, hcx4, z0, s04⟩ | exact ⟨o0, o1, o2, o3, o4'⟩) (refine step_append_runI (by rfl) (.tmp 69) (.tmp 83) 25 (by rfl) (.slice A' rest.length c') (.slice B0 ML e0') (by rfl) (by rfl) Hhrun.out ?_)
            go_wp2
            exact ⟨⟨k + 1, by simp, by omega, Hhhead2.out⟩, by simp [intOf]; omega⟩
          · obtain ⟨hx0, hx1⟩ : 0 ≤ Int.tmod ((from_ : Int) + k) bs.length ∧ Int.tmod ((from_ : Int) + k) bs.length < bs.length := by
              rw [Int.tmod_eq_emod_of_nonneg (by omega)]
              exact ⟨Int.emod_nonneg _ (by omega), Int.emod_lt_of_pos _ (by omega)⟩
            have hz0 : ((bs.length : Int) == 0) = false := by simp; intro h; rw [h] at hz; simp at hz
            have hz1 : ¬ ((bs.length : Int) = 0) := by omega
            have hz2 : (bs.length : Int) > 0 := by omega
            have wz : IntKind.i64.wrap ((from_ : Int) + k) = (from_ : Int) + k := by rw [IntKind.wrap_i64]; omega
            obtain ⟨ady, e, yb⟩ := Kd.at_int Hhb.out _ hx0 hx1
            subst e
            have hkb := Hhbr.out (rd bs (Int.tmod ((from_ : Int) + k) bs.length)) (by unfold rd; exact getD_mem _ _ _ (by omega))
            generalize hidx : Int.tmod ((from_ : Int) + k) bs.length = idx at *
            generalize hkk : rd bs idx = kk at *
            have wk : IntKind.i64.wrap kk = kk := by rw [IntKind.wrap_i64]; omega
            have yb3 := pw_cell_below Hhb3.out yb
            have ly := World.block_lt_of_cell? w _ yb
            obtain ⟨tm, htm, ht0, ht1⟩ : ∃ tm, Int.tmod kk (r.f2 - r.f1 + 1) = tm ∧ 0 ≤ tm ∧ tm < r.f2 - r.f1 + 1 := by
              refine ⟨_, rfl, ?_⟩
              rw [Int.tmod_eq_emod_of_nonneg hkb.1]
              exact ⟨Int.emod_nonneg _ (by omega), Int.emod_lt_of_pos _ (by omega)⟩
            clear hkk
            have Hhkb := Lib.hid hkb
            clear hkb
            go_wp2
            obtain ⟨nv, hnve⟩ : ∃ nv : Int, nv = r.f2 - tm := ⟨_, rfl⟩
            have h5 := (Hhok.out.2.2 r.f0.toNat (by omega)).1
            have m0 : (wi.alloc (Obj.cells #[Value.int .i64 r.f0, Value.int .i64 r.f1, Value.int .i64 r.f2] 68)).cell? ⟨wi.heap.size, 0, none⟩ = some (.int .i64 r.f0) := by simp [go_sem]
            have m1 : (wi.alloc (Obj.cells #[Value.int .i64 r.f0, Value.int .i64 r.f1, Value.int .i64 r.f2] 68)).cell? ⟨wi.heap.size, 1, none⟩ = some (.int .i64 r.f1) := by simp [go_sem]
            have m2 : (wi.alloc (Obj.cells #[Value.int .i64 r.f0, Value.int .i64 r.f1, Value.int .i64 r.f2] 68)).cell? ⟨wi.heap.size, 2, none⟩ = some (.int .i64 r.f2) := by simp [go_sem]
            have lm : wi.heap.size < (wi.alloc (Obj.cells #[Value.int .i64 r.f0, Value.int .i64 r.f1, Value.int .i64 r.f2] 68)).heap.size := by simp
            have hQ3 := Kd.Q_alloc HhQ'.out (Obj.cells #[Value.int .i64 r.f0, Value.int .i64 r.f1, Value.int .i64 r.f2] 68)
            obtain ⟨z0, z1⟩ := Hhout2.out.cell r.f0 r0 (by rw [Hhp.out.1]; omega)
            have hle8 : Below wi.heap.size wi (wi.alloc (Obj.cells #[Value.int .i64 r.f0, Value.int .i64 r.f1, Value.int .i64 r.f2] 68)) := (Below.refl _ _).alloc (Nat.le_refl _) _
            generalize hV3 : wi.alloc (Obj.cells #[Value.int .i64 r.f0, Value.int .i64 r.f1, Value.int .i64 r.f2] 68) = V3 at *
            have HhQ3 := Lib.hid hQ3
            have Hhle8 := Lib.hid hle8
            clear hQ3 hle8
            clear hV3 y0 y1 q0 q1 q2 lad hneg hneg' hz hz0 hz1 hz2 wz yb yb3 ly hidx hx0 hx1 wk
            have hnv : r.f1 ≤ nv ∧ nv ≤ r.f2 := by omega
            have hd0 : ¬ (r.f2 - r.f1 + 1 = 0) := by omega
            have hd1 : ((r.f2 - r.f1 + 1) == 0) = false := by simpa using hd0
            have w1 : IntKind.i64.wrap (r.f2 - r.f1) = r.f2 - r.f1 := by rw [IntKind.wrap_i64]; omega
            have w2 : IntKind.i64.wrap (r.f2 - r.f1 + 1) = r.f2 - r.f1 + 1 := by rw [IntKind.wrap_i64]; omega
            have w3 : IntKind.i64.wrap (r.f2 - tm) = nv := by rw [IntKind.wrap_i64]; omega
            have Hhnv := Lib.hid hnv
            have Hhnve := Lib.hid hnve
            clear hnv hnve
            clear h5
            obtain ⟨W4, hW4⟩ : ∃ W4, W4 = (V3.setCell ⟨g, r.f0.toNat, none⟩ (.int .i64 nv)).drew := ⟨_, rfl⟩
            have k4 : Keep (fun k => k = g) V3 W4 := by rw [hW4]; exact ((Keep.refl (fun k => k = g) V3).setCell (p := ⟨g, r.f0.toNat, none⟩) (.inl rfl) _).drewN 1
            have o4 : OutRow W4 g cap (p.set r.f0.toNat nv) := by
              rw [hW4]
              exact Hhout2.out.set r.f0 r0 (by rw [Hhp.out.1]; omega) nv
            have n0 := k4.cell m0 (show ¬ (wi.heap.size = g) by omega)
            have n1 := k4.cell m1 (show ¬ (wi.heap.size = g) by omega)
            have n2 := k4.cell m2 (show ¬ (wi.heap.size = g) by omega)
            have Hk4 := Lib.hid k4
            have Ho4 := Lib.hid o4
            have Hn0 := Lib.hid n0
            have Hn1 := Lib.hid n1
            have Hn2 := Lib.hid n2
            have HhW4 := Lib.hid hW4
            clear k4 o4 n0 n1 n2 hW4
            go_region_held3 (fun W => W.cell? ⟨wi.heap.size, 0, none⟩ = some (.int .i64 r.f0) ∧ W.cell? ⟨wi.heap.size, 1, none⟩ = some (.int .i64 r.f1) ∧ W.cell? ⟨wi.heap.size, 2, none⟩ = some (.int .i64 r.f2)) (first | exact ⟨m0, m1, m2⟩ | (rw [← HhW4.out]; exact ⟨Hn0.out, Hn1.out, Hn2.out⟩)) (fail)
            rw [← HhW4.out]
            clear HhW4 z0 z1 m0 m1 m2
            have b4 : Below w.heap.size w W4 := Hhb3.out.trans (Hk4.out.below _ Hhb3.out.size (fun k _ h => by omega))
            have x4 := Hk4.out.cell hbx3 (show ¬ (w.heap.size = g) by omega)
            have hQ4 : k68.Q 68 W4 (w.heap.size + 1) (fun _ => True) (.slice A' rest.length c') rest := by
              refine Kd.Q_mono (Kd.Q_step (Kd.Q_bound HhQ3.out) (fun k h hlt => Hk4.out.block k hlt (fun e => ?_))) (fun _ _ => trivial)
              obtain ⟨_, _, _, q, hq, cells, hc⟩ := h
              have hq' : q = 68 := by simpa [k68, Kd.iso, Kd.pair, Kd.int, Kd.scalar] using hq
              obtain ⟨_, _, cur, hcur, _⟩ := Hhout2.out
              rw [e, hcur, hq'] at hc
              injection hc with hc
              injection hc with _ hc
              exact absurd hc (by decide)
            obtain ⟨adx, A0, cx, e, hcx, hlx, hix⟩ := at_L4 Hhx.out r.f0 r0 r1
            subst e
            have hL4 : (rd_L4 x r.f0).length = (x.getD r.f0.toNat []).length := rfl
            have hrel := (Hhok.out.2.2 r.f0.toNat (by omega)).2 (rd_T60 (rd_L4 x r.f0) nv) (by
              unfold rd_T60 rd_L4
              exact getD_mem _ _ _ (by have := Hhnv.out; omega))
            obtain ⟨adr, B0, e0', B1, e1', e, s0, s1, l0, g0, l1, g1⟩ := at_T60 hix nv (by have := Hhnv.out; omega) (by have := Hhnv.out; omega)
            subst e
            have lw1 := World.block_lt_of_cell? w _ hcx
            have lw2 := World.block_lt_of_cell? w _ s0
            have hcx4 := pw_cell_below b4 hcx
            have s04 := pw_cell_below b4 s0
            have g04 := Kd.C_below g0 b4
            obtain ⟨z0, z1⟩ := Ho4.out.cell r.f0 r0 (by rw [List.length_set, Hhp.out.1]; omega)
            have hrdn : rd (p.set r.f0.toNat nv) r.f0 = nv := by
              unfold rd
              rw [List.getD_eq_getElem?_getD]
              have : r.f0.toNat < p.length := by rw [Hhp.out.1]; omega
              simp [this]
            rw [hrdn] at z0
            have hp2 : InR x (p.set r.f0.toNat nv) := by
              refine ⟨by rw [List.length_set]; exact Hhp.out.1, fun i hi => ?_⟩
              by_cases hc : i = r.f0.toNat
              · have : (i : Int) = r.f0 := by omega
                rw [this, hrdn, hc]
                have := Hhnv.out
                omega
              · have : rd (p.set r.f0.toNat nv) i = rd p i := by
                  unfold rd
                  rw [List.getD_eq_getElem?_getD, List.getD_eq_getElem?_getD, Int.toNat_natCast, List.getElem?_set_ne (by omega)]
                rw [this]
                exact Hhp.out.2 i hi
            have hn4 : (rd_T60 (rd_L4 x r.f0) nv).f0.length ≤ 4 := hrel.1
            have hnr : ∀ n ∈ (rd_T60 (rd_L4 x r.f0) nv).f0, OkRange x n ∧ n.f0 ≠ _ := hrel.2.2.1
            clear hrel
            generalize hnl : (rd_T60 (rd_L4 x r.f0) nv).f0 = nl at *
            obtain ⟨v5, W5, hrun, hQ5, hg5, hat⟩ := run_append68 (W := W4.drew) 25 (w.heap.size + 1) (.slice A' rest.length c') rest nl B0 e0' (Kd.Q_drew hQ4) (Kd.C_drew g04) (by have := Htl.out; omega) (by show w.heap.size + 1 ≤ W4.heap.size; have := Hk4.out.size; omega)
            have hown1 : ∀ j, (Value.slice A' rest.length c').ownBlock = some j → w.heap.size + 1 ≤ j ∧ j < wi.heap.size := fun j hj => ⟨Kd.Q_base HhQ'.out j hj, Kd.Q_lt HhQ'.out j hj⟩
            have hown2 : some g ≠ (Value.slice A' rest.length c').ownBlock := by
              obtain ⟨_, _, cur, hcur, _⟩ := Ho4.out
              exact Kd.Q_ne hQ4 hcur (by decide)
            have hkc : ∀ (a : Addr) (v : Value), W4.cell? a = some v → some a.block ≠ (Value.slice A' rest.length c').ownBlock → W5.cell? a = some v := fun a v hv hne =>
              (World.cell?_of_block (w := W4) (hg5.block a.block (World.block_lt_of_cell? W4 a hv) hne)).trans hv
            have o0 := hkc _ _ x4 (fun e => by have h := (hown1 _ e.symm).1; (try dsimp only at h); omega)
            have o1 := hkc _ _ Hn0.out (fun e => by have h := (hown1 _ e.symm).2; (try dsimp only at h); omega)
            have o2 := hkc _ _ hcx4 (fun e => by have h := (hown1 _ e.symm).1; (try dsimp only at h); omega)
            have o3 := hkc _ _ z0 hown2
            have o4' := hkc _ _ s04 (fun e => by have h := (hown1 _ e.symm).1; (try dsimp only at h); omega)
            have hhead2 : GrHead (some adx) c x g cap w v5 (k + 1) W5 := by
              refine ⟨_, _, hp2, Ho4.out.keep (hg5.block g Ho4.out.lt hown2), hQ5, ?_, ?_, ?_, o0⟩
              · intro q hq
                rcases List.mem_append.1 hq with hq | hq
                · exact Hhto.out q (List.mem_cons_of_mem _ hq)
                · exact (hnr q hq).1
              · rw [List.length_append]
                have := Htl.out
                omega
              · exact b4.grown (show W4.grownBy W5 _ from ⟨hg5.os, hg5.tape, hg5.output, hg5.size, hg5.block⟩) b4.size (fun k h => by have := (hown1 k h).1; omega)
            have Hhrun := Lib.hid hrun
            have HhQ5 := Lib.hid hQ5
            have Hhg5 := Lib.hid hg5
            have Hhhead2 := Lib.hid hhead2
            have Hhnr := Lib.hid hnr
            have Hhp2 := Lib.hid hp2
            have Hhix := Lib.hid hix
            have Hg0 := Lib.hid g0
            have Hg04 := Lib.hid g04
            have HhQ4 := Lib.hid hQ4
            have Hhkc := Lib.hid hkc
            clear hrun hQ5 hg5 hhead2 hnr hp2 hix g0 g04 hQ4 hkc
            go_wp2
            have hn0 := Hn0.out
            have hi0 : 0 ≤ nv := by have := Hhnv.out; omega
            have hi1 : nv < ((rd_L4 x r.f0).length : Int) := by have := Hhnv.out; omega
            clear hL4 r4 hrdn hlx hcx s0 s1 l0 l1 g1 hnl hn4
            generalize (rd_L4 x r.f0).length = NL at *
            generalize nl.length = ML at *
            go_region_held3 (fun W => W.cell? ⟨w.heap.size, 0, none⟩ = some (.slice (some adx) x.length c) ∧ W.cell? ⟨wi.heap.size, 0, none⟩ = some (.int .i64 r.f0) ∧ W.cell? (adx.add r.f0.toNat) = some (.slice (some adr) NL cx) ∧ W.cell? ⟨g, r.f0.toNat, none⟩ = some (.int .i64 nv) ∧ W.cell? (adr.add (nv.toNat * 2)) = some (.slice B0 ML e0')) (first | exact ⟨x4, hn0, hcx4, z0, s04⟩ | exact ⟨o0, o1, o2, o3, o4'⟩) (refine step_append_runI (by rfl) (.tmp 69) (.tmp 83) 25 (by rfl) (.slice A' rest.length c') (.slice B0 ML e0') (by rfl) (by rfl) Hhrun.out ?_)
            go_wp2
            exact ⟨⟨k + 1, by simp, by omega, Hhhead2.out⟩, by simp [intOf]; omega⟩
        · go_wp2
          exact ⟨⟨k + 1, by simp, by omega, Hhhead.out⟩, by simp [intOf]; omega⟩
      · obtain rfl : k = 60 := by omega
        have Hhp := Lib.hid hp
        have Hhro := Lib.hid hro
        have HhQ := Lib.hid hQ
        have Hhto := Lib.hid hto
        have Hhbl := Lib.hid hbl
        clear hp hro hQ hto hbl
        go_wp2
        exact Hhfin.out _ rfl
end Go.Proofs.YtlhnpbdpojcbeaaDoor
end
section
open Go Go.RowKit
namespace Go.Proofs.YtlhnpbdpojcbeaaDoor
open Go.Proofs.YtlhnpbdpojcbeaaDoorW.PrintWords
open PPackAll Go.Shelf
set_option linter.unusedVariables false
set_option linter.unusedSimpArgs false
theorem rd_set_same (p : List Int) (k : Nat) (v : Int) (h : k < p.length) : rd (p.set k v) k = v := by
  unfold rd
  rw [Int.toNat_natCast, List.getD_eq_getElem?_getD]
  simp [h]
theorem rd_set_ne (p : List Int) (k i : Nat) (v : Int) (h : i ≠ k) : rd (p.set k v) i = rd p i := by
  unfold rd
  rw [List.getD_eq_getElem?_getD, List.getD_eq_getElem?_getD, Int.toNat_natCast, List.getElem?_set_ne (fun e => h e.symm)]
theorem rd_ext {p q : List Int} (hp : p.length = 8) (hq : q.length = 8) (h : ∀ i : Nat, i < 8 → rd p i = rd q i) : p = q := by
  apply List.ext_getElem (by omega)
  intro i h1 h2
  have := h i (by omega)
  unfold rd at this
  rw [Int.toNat_natCast, List.getD_eq_getElem?_getD, List.getD_eq_getElem?_getD, List.getElem?_eq_getElem h1, List.getElem?_eq_getElem h2] at this
  simpa using this
def Full (x : List (List S60)) (q : List Int) : Prop := q.length = 8 ∧ InP x q x.length ∧ ∀ i : Nat, x.length ≤ i → rd q i = 0
def Part (x : List (List S60)) (p : List Int) (many : Nat) : Prop := p.length = 8 ∧ InP x p many ∧ ∀ i : Nat, many ≤ i → rd p i = 0
def Ext (x : List (List S60)) (many : Nat) (p q : List Int) : Prop := Full x q ∧ ∀ i : Nat, i < many → rd q i = rd p i
theorem Ext.leaf {x : List (List S60)} {p q : List Int} (hp : Part x p x.length) (h : Ext x x.length p q) : q = p := by
  refine rd_ext h.1.1 hp.1 (fun i hi => ?_)
  rcases Nat.lt_or_ge i x.length with hl | hg
  · exact h.2 i hl
  · rw [h.1.2.2 i hg, hp.2.2 i hg]
theorem Part.leaf {x : List (List S60)} {p : List Int} (hp : Part x p x.length) : Ext x x.length p p := ⟨hp, fun _ _ => rfl⟩
theorem Part.step {x : List (List S60)} {p : List Int} {many : Nat} (hp : Part x p many) (h8 : x.length ≤ 8) (hm : many < x.length) {v : Int} (h0 : -1 ≤ v) (h1 : v < ((x.getD many []).length : Int)) : Part x (p.set many v) (many + 1) := by
  refine ⟨by rw [List.length_set]; exact hp.1, hp.2.1.set (by rw [hp.1]; omega) h0 h1, fun i hi => ?_⟩
  rw [rd_set_ne _ _ _ _ (by omega)]
  exact hp.2.2 i (by omega)
theorem Ext.step {x : List (List S60)} {p q : List Int} {many : Nat} (hp : Part x p many) (h8 : x.length ≤ 8) (hm : many < x.length) {v : Int} : Ext x (many + 1) (p.set many v) q ↔ Ext x many p q ∧ rd q many = v := by
  constructor
  · intro h
    refine ⟨⟨h.1, fun i hi => ?_⟩, ?_⟩
    · rw [h.2 i (by omega), rd_set_ne _ _ _ _ (by omega)]
    · rw [h.2 many (by omega), rd_set_same _ _ _ (by rw [hp.1]; omega)]
  · rintro ⟨h, hv⟩
    refine ⟨h.1, fun i hi => ?_⟩
    by_cases hc : i = many
    · subst hc; rw [rd_set_same _ _ _ (by rw [hp.1]; omega), hv]
    · rw [rd_set_ne _ _ _ _ hc]; exact h.2 i (by omega)
def newV (u v : Int) : Prop := u ≠ v ∧ (u = -1 ∨ v ≠ -1 ∧ u > v)
theorem choice_range {m k : Nat} (hk : k ≤ m) : -1 ≤ choice m k ∧ choice m k < m := by
  unfold choice
  split <;> omega
theorem choice_cover {m : Nat} {v : Int} (h0 : -1 ≤ v) (h1 : v < m) : ∃ k, k ≤ m ∧ choice m k = v := by
  by_cases hc : v = -1
  · exact ⟨0, by omega, by unfold choice; rw [if_pos rfl, hc]⟩
  · refine ⟨m - v.toNat, by omega, ?_⟩
    unfold choice
    rw [if_neg (by omega)]
    omega
theorem choice_newer {m j k : Nat} (h : j < k) (hk : k ≤ m) : newV (choice m j) (choice m k) := by
  unfold newV choice
  rw [if_neg (show ¬ k = 0 by omega)]
  split
  · exact ⟨by omega, .inl rfl⟩
  · exact ⟨by omega, .inr ⟨by omega, by omega⟩⟩
def Newer (x : List (List S60)) (a b : List Int) : Prop := ∃ i : Nat, i < x.length ∧ (∀ j : Nat, j < i → rd a j = rd b j) ∧ newV (rd a i) (rd b i)
theorem loopF_ind {σ : Type} {step : Int → σ → Bool × σ} {m : Nat} (I : Nat → σ → Prop) (E : σ → Prop)
    (h1 : ∀ k s, k ≤ m → I k s → (step (choice m k) s).1 = true → I (k + 1) (step (choice m k) s).2) (h2 : ∀ k s, k ≤ m → I k s → (step (choice m k) s).1 = false → E (step (choice m k) s).2) :
    ∀ (r : Nat) (s : σ), r ≤ m + 1 → I (m + 1 - r) s → ((loopF step m r s).1 = true ∧ I (m + 1) (loopF step m r s).2) ∨ ((loopF step m r s).1 = false ∧ E (loopF step m r s).2)
  | 0, s, _, h => .inl ⟨by first | trivial | rfl, h⟩
  | r + 1, s, hr, h => by
    have e : m + 1 - (r + 1) = m - r := by omega
    rw [e] at h
    unfold loopF
    cases hb : (step (choice m (m - r)) s).1 with
    | true =>
      simp only [if_true]
      refine loopF_ind I E h1 h2 r _ (by omega) ?_
      have := h1 (m - r) s (by omega) h hb
      rw [show m + 1 - r = m - r + 1 by omega]
      exact this
    | false =>
      simp only [Bool.false_eq_true, if_false]
      exact .inr ⟨by first | trivial | rfl, h2 (m - r) s (by omega) h hb⟩
theorem rng_ok {x : List (List S60)} {gs : List S68} {c : S49} (hok : OkIdx x) (hgo : OkGoals x gs) (hc : OkClause x gs c) : OkRange x (rngOf x gs c) := by
  unfold rngOf
  rcases hc with ⟨h0, h3, h4⟩ | ⟨h0, h1, h2, h3, h5, h6⟩
  · rw [if_pos h0]
    exact hgo.2 _ (getD_mem _ _ _ (by omega))
  · rw [if_neg (by omega)]
    have hrel : OkRel x c.f0.toNat (relOf x c) := by
      refine (hok.2.2 c.f0.toNat (by omega)).2 _ ?_
      unfold relOf rd_T60 rd_L4
      exact getD_mem _ _ _ (by unfold rd_L4 at h3; omega)
    cases hb : c.f2 with
    | true => rw [hb] at h6; simp at h6; exact (hrel.2.2.2 _ (getD_mem _ _ _ (by omega))).1
    | false => rw [hb] at h6; simp at h6; exact (hrel.2.2.1 _ (getD_mem _ _ _ (by omega))).1
theorem meets_congr {p q : List Int} {r : S68} (h : rd p r.f0 = rd q r.f0) : meetsF p r = meetsF q r := by unfold meetsF; rw [h]
theorem broken_ext {x : List (List S60)} {gs : List S68} {c : S49} {p q : List Int} {many : Nat} (hok : OkIdx x) (hgo : OkGoals x gs) (hc : OkClause x gs c) (hm : many ≤ x.length) (h : Ext x many p q) (hb : brokenF x gs c p many = true) : brokenF x gs c q x.length = true := by
  have hr := rng_ok hok hgo hc
  have hrd : ∀ v : Int, 0 ≤ v → v < many → rd q v = rd p v := by
    intro v h0 h1
    have := h.2 v.toNat (by omega)
    rwa [Int.toNat_of_nonneg h0] at this
  unfold brokenF at *
  generalize rngOf x gs c = r at *
  by_cases h0 : c.f0 = -1
  · rw [if_pos h0] at *
    simp only [Bool.and_eq_true, decide_eq_true_eq, Bool.not_eq_true'] at *
    exact ⟨by omega, by rw [meets_congr (hrd r.f0 hr.1 hb.1)]; exact hb.2⟩
  · rw [if_neg h0] at *
    have h0' : 0 ≤ c.f0 := by
      rcases hc with ⟨h, _⟩ | ⟨h, _⟩
      · exact absurd h h0
      · exact h
    by_cases h1 : (many : Int) ≤ c.f0 ∨ rd p c.f0 ≠ c.f1
    · rw [if_pos h1] at hb; cases hb
    · rw [if_neg h1] at hb
      have h2 : c.f0 < many ∧ rd p c.f0 = c.f1 := by
        constructor
        · rcases Int.lt_or_le c.f0 many with h | h
          · exact h
          · exact absurd (.inl h) h1
        · exact Classical.byContradiction fun h => h1 (.inr h)
      rw [if_neg (by rw [hrd c.f0 h0' h2.1]; omega)]
      cases hb2 : c.f2 with
      | true =>
        rw [hb2] at hb
        simp only [if_true, Bool.and_eq_true, decide_eq_true_eq] at *
        exact ⟨by omega, by rw [meets_congr (hrd r.f0 hr.1 hb.1)]; exact hb.2⟩
      | false =>
        rw [hb2] at hb
        simp only [Bool.false_eq_true, if_false, Bool.and_eq_true, decide_eq_true_eq, Bool.not_eq_true'] at *
        exact ⟨by omega, by rw [meets_congr (hrd r.f0 hr.1 hb.1)]; exact hb.2⟩
def Right (x : List (List S60)) (gs : List S68) (q : List Int) : Prop := faultF x gs q = (0, 0)
theorem right_iff {x : List (List S60)} {gs : List S68} {q : List Int} : Right x gs q ↔ (∀ i, i < gs.length → goalB gs q i = false) ∧ ∀ i, i < x.length → passB x q (neededF x gs q) 0 i = false ∧ passB x q (neededF x gs q) 1 i = false ∧ passB x q (neededF x gs q) 2 i = false := by
  unfold Right faultF
  constructor
  · intro h
    split at h
    · simp at h
    · split at h
      · simp at h
      · split at h
        · simp at h
        · split at h
          · simp at h
          · rename_i _ h0 _ h1 _ h2 _ h3
            rw [List.find?_eq_none] at h0 h1 h2 h3
            refine ⟨fun i hi => by simpa using h0 i (by simpa using hi), fun i hi => ⟨by simpa using h1 i (by simpa using hi), by simpa using h2 i (by simpa using hi), by simpa using h3 i (by simpa using hi)⟩⟩
  · rintro ⟨h0, h1⟩
    rw [find_none h0, find_none (fun i hi => (h1 i hi).1), find_none (fun i hi => (h1 i hi).2.1), find_none (fun i hi => (h1 i hi).2.2)]
theorem right_unbroken {x : List (List S60)} {gs : List S68} {c : S49} {q : List Int} (hok : OkIdx x) (hgo : OkGoals x gs) (hc : OkClause x gs c) (hf : Full x q) (hr : Right x gs q) : brokenF x gs c q x.length = false := by
  obtain ⟨hg, hp⟩ := right_iff.1 hr
  unfold brokenF
  by_cases h0 : c.f0 = -1
  · rw [if_pos h0]
    unfold rngOf
    rw [if_pos h0]
    rcases hc with ⟨_, h3, h4⟩ | ⟨h, _⟩
    · have := hg c.f3.toNat (by omega)
      unfold goalB at this
      rw [Int.toNat_of_nonneg h3] at this
      simp at this
      simp [this]
    · omega
  · rw [if_neg h0]
    by_cases h1 : (x.length : Int) ≤ c.f0 ∨ rd q c.f0 ≠ c.f1
    · rw [if_pos h1]
    · rw [if_neg h1]
      have he : rd q c.f0 = c.f1 := Classical.byContradiction fun h => h1 (.inr h)
      rcases hc with ⟨h, _⟩ | ⟨h0', h1', h2, h3, h5, h6⟩
      · exact absurd h h0
      · have hpp := hp c.f0.toNat (by omega)
        have hne : rd q c.f0 ≠ -1 := by omega
        have ea : relAt x q c.f0.toNat = relOf x c := by unfold relAt relOf; rw [Int.toNat_of_nonneg h0', he]
        unfold passB at hpp
        rw [Int.toNat_of_nonneg h0', if_neg hne, if_neg hne, if_neg hne, ea] at hpp
        simp only [if_true, Nat.one_ne_zero, if_false] at hpp
        unfold rngOf
        rw [if_neg h0]
        cases hb : c.f2 with
        | true =>
          rw [hb] at h6
          simp at h6
          have := List.any_eq_false.1 hpp.2.1 (rd_T68 (relOf x c).f1 c.f3) (getD_mem _ _ _ (by omega))
          simp [this]
        | false =>
          rw [hb] at h6
          simp at h6
          have := hpp.1
          simp only [Bool.not_eq_false'] at this
          have := List.all_eq_true.1 this (rd_T68 (relOf x c).f0 c.f3) (getD_mem _ _ _ (by omega))
          simp [this]
end Go.Proofs.YtlhnpbdpojcbeaaDoor
end
section
open Go Go.RowKit
namespace Go.Proofs.YtlhnpbdpojcbeaaDoor
open Go.Proofs.YtlhnpbdpojcbeaaDoorW.PrintWords
open PPackAll Go.Shelf
set_option linter.unusedVariables false
set_option linter.unusedSimpArgs false
theorem l4_len (x : List (List S60)) (k : Nat) : (rd_L4 x (k : Int)).length = (x.getD k []).length := by unfold rd_L4; rw [Int.toNat_natCast]
theorem pruned {x : List (List S60)} {gs : List S68} {cl : List S49} (hok : OkIdx x) (hgo : OkGoals x gs) (hkc : ∀ k ∈ cl, OkClause x gs k) {many : Nat} {p q : List Int} (hm : many ≤ x.length) (hany : cl.any (fun k => brokenF x gs k p many) = true) (h : Ext x many p q) :
    ∃ k ∈ cl, brokenF x gs k q x.length = true := by
  obtain ⟨k, hk, hb⟩ := List.any_eq_true.1 hany
  exact ⟨k, hk, broken_ext hok hgo (hkc k hk) hm h hb⟩
theorem best_spec (x : List (List S60)) (gs : List S68) (cl : List S49) (hok : OkIdx x) (hgo : OkGoals x gs) (hkc : ∀ k ∈ cl, OkClause x gs k) : ∀ (D many : Nat) (p : List Int), many + D = x.length → Part x p many →
    (eachF x gs cl (fun s _ _ => (true, s)) (bestF x gs) D many p none = (true, none) ∧ ∀ q, Ext x many p q → ¬ Right x gs q) ∨
    ∃ q, Ext x many p q ∧ Right x gs q ∧ eachF x gs cl (fun s _ _ => (true, s)) (bestF x gs) D many p none = (false, some (q.take x.length)) ∧ ∀ q', Ext x many p q' → Right x gs q' → q' = q ∨ Newer x q q' := by
  have h8 := hok.2.1
  intro D
  induction D with
  | zero =>
    intro many p hD hp
    obtain rfl : many = x.length := by omega
    unfold eachF
    by_cases hany : cl.any (fun k => brokenF x gs k p (x.length : Nat)) = true
    · rw [if_pos hany]
      refine .inl ⟨rfl, fun q hq hr => ?_⟩
      obtain ⟨k, hk, hb⟩ := pruned hok hgo hkc (Nat.le_refl _) hany hq
      rw [right_unbroken hok hgo (hkc k hk) hq.1 hr] at hb
      cases hb
    · rw [if_neg hany, if_neg (by simp)]
      by_cases hr : Right x gs p
      · refine .inr ⟨p, hp.leaf, hr, ?_, fun q' hq' _ => .inl (hq'.leaf hp)⟩
        show bestF x gs none p = _
        unfold bestF
        rw [if_pos (show faultF x gs p = (0, 0) from hr)]
      · refine .inl ⟨?_, fun q hq h => hr (hq.leaf hp ▸ h)⟩
        show bestF x gs none p = _
        unfold bestF
        rw [if_neg (show ¬ faultF x gs p = (0, 0) from hr)]
        rfl
  | succ D ih =>
    intro many p hD hp
    unfold eachF
    by_cases hany : cl.any (fun k => brokenF x gs k p (many : Nat)) = true
    · rw [if_pos hany]
      refine .inl ⟨rfl, fun q hq hr => ?_⟩
      obtain ⟨k, hk, hb⟩ := pruned hok hgo hkc (by omega) hany hq
      rw [right_unbroken hok hgo (hkc k hk) hq.1 hr] at hb
      cases hb
    · rw [if_neg hany, if_neg (by simp), l4_len]
      generalize hm : (x.getD many []).length = m
      have hrange : ∀ q, Ext x many p q → ∃ j, j ≤ m ∧ choice m j = rd q many := fun q hq => by
        have := hq.1.2.1 many (by omega)
        exact choice_cover this.1 (by omega)
      have hstep : ∀ k, k ≤ m → Part x (p.set many (choice m k)) (many + 1) := fun k hk => hp.step h8 (by omega) (choice_range hk).1 (by have := (choice_range hk).2; omega)
      have key := loopF_ind (step := fun n s => eachF x gs cl (fun s _ _ => (true, s)) (bestF x gs) D (many + 1) (p.set many n) s) (m := m)
        (fun k s => s = none ∧ ∀ q, Ext x many p q → (∃ j, j < k ∧ choice m j = rd q many) → ¬ Right x gs q)
        (fun s => ∃ q, Ext x many p q ∧ Right x gs q ∧ s = some (q.take x.length) ∧ ∀ q', Ext x many p q' → Right x gs q' → q' = q ∨ Newer x q q') (by
            rintro k s hk ⟨rfl, hI⟩ ht
            rcases ih (many + 1) _ (by omega) (hstep k hk) with ⟨h1, h2⟩ | ⟨q, h1, h2, h3, h4⟩
            · refine ⟨by rw [h1], fun q hq hj => ?_⟩
              obtain ⟨j, hj, he⟩ := hj
              by_cases hc : j = k
              · subst hc
                exact h2 q ((Ext.step hp h8 (by omega)).2 ⟨hq, he.symm⟩)
              · exact hI q hq ⟨j, by omega, he⟩
            · rw [h3] at ht; cases ht
        ) (by
            rintro k s hk ⟨rfl, hI⟩ ht
            rcases ih (many + 1) _ (by omega) (hstep k hk) with ⟨h1, h2⟩ | ⟨q, h1, h2, h3, h4⟩
            · rw [h1] at ht; cases ht
            · obtain ⟨hq, hv⟩ := (Ext.step hp h8 (by omega)).1 h1
              refine ⟨q, hq, h2, by rw [h3], fun q' hq' hr' => ?_⟩
              obtain ⟨j, hj, he⟩ := hrange q' hq'
              rcases Nat.lt_trichotomy j k with hlt | heq | hgt
              · exact absurd hr' (hI q' hq' ⟨j, hlt, he⟩)
              · subst heq
                exact h4 q' ((Ext.step hp h8 (by omega)).2 ⟨hq', he.symm⟩) hr'
              · refine .inr ⟨many, by omega, fun i hi => ?_, ?_⟩
                · rw [hq.2 i hi, hq'.2 i hi]
                · rw [hv, ← he]
                  exact choice_newer hgt hj
        ) (m + 1) none (Nat.le_refl _) ⟨rfl, fun q _ h => by obtain ⟨j, hj, _⟩ := h; omega⟩
      rcases key with ⟨h1, h2, h3⟩ | ⟨h1, q, h2, h3, h4, h5⟩
      · refine .inl ⟨?_, fun q hq => ?_⟩
        · exact Prod.ext h1 h2
        · obtain ⟨j, hj, he⟩ := hrange q hq
          exact h3 q hq ⟨j, by omega, he⟩
      · exact .inr ⟨q, h2, h3, Prod.ext h1 h4, h5⟩
theorem kept_spec (x : List (List S60)) (gs : List S68) (cl : List S49) (hok : OkIdx x) (hgo : OkGoals x gs) (hkc : ∀ k ∈ cl, OkClause x gs k) : ∀ (D many : Nat) (p : List Int), many + D = x.length → Part x p many →
    (eachF x gs cl (fun s _ _ => (true, s)) (fun _ _ => (false, true)) D many p false = (true, false) ∧ ∀ q, Ext x many p q → ∃ k ∈ cl, brokenF x gs k q x.length = true) ∨
    ∃ q, Ext x many p q ∧ (∀ k ∈ cl, brokenF x gs k q x.length = false) ∧ eachF x gs cl (fun s _ _ => (true, s)) (fun _ _ => (false, true)) D many p false = (false, true) := by
  have h8 := hok.2.1
  intro D
  induction D with
  | zero =>
    intro many p hD hp
    obtain rfl : many = x.length := by omega
    unfold eachF
    by_cases hany : cl.any (fun k => brokenF x gs k p (x.length : Nat)) = true
    · rw [if_pos hany]
      exact .inl ⟨rfl, fun q hq => pruned hok hgo hkc (Nat.le_refl _) hany hq⟩
    · rw [if_neg hany, if_neg (by simp)]
      refine .inr ⟨p, hp.leaf, fun k hk => ?_, rfl⟩
      have := List.any_eq_false.1 (by simpa using hany) k hk
      simpa using this
  | succ D ih =>
    intro many p hD hp
    unfold eachF
    by_cases hany : cl.any (fun k => brokenF x gs k p (many : Nat)) = true
    · rw [if_pos hany]
      exact .inl ⟨rfl, fun q hq => pruned hok hgo hkc (by omega) hany hq⟩
    · rw [if_neg hany, if_neg (by simp), l4_len]
      generalize hm : (x.getD many []).length = m
      have hrange : ∀ q, Ext x many p q → ∃ j, j ≤ m ∧ choice m j = rd q many := fun q hq => by
        have := hq.1.2.1 many (by omega)
        exact choice_cover this.1 (by omega)
      have hstep : ∀ k, k ≤ m → Part x (p.set many (choice m k)) (many + 1) := fun k hk => hp.step h8 (by omega) (choice_range hk).1 (by have := (choice_range hk).2; omega)
      have key := loopF_ind (step := fun n s => eachF x gs cl (fun s _ _ => (true, s)) (fun _ _ => (false, true)) D (many + 1) (p.set many n) s) (m := m)
        (fun k s => s = false ∧ ∀ q, Ext x many p q → (∃ j, j < k ∧ choice m j = rd q many) → ∃ k ∈ cl, brokenF x gs k q x.length = true)
        (fun s => ∃ q, Ext x many p q ∧ (∀ k ∈ cl, brokenF x gs k q x.length = false) ∧ s = true) (by
            rintro k s hk ⟨rfl, hI⟩ ht
            rcases ih (many + 1) _ (by omega) (hstep k hk) with ⟨h1, h2⟩ | ⟨q, h1, h2, h3⟩
            · refine ⟨by rw [h1], fun q hq hj => ?_⟩
              obtain ⟨j, hj, he⟩ := hj
              by_cases hc : j = k
              · subst hc
                exact h2 q ((Ext.step hp h8 (by omega)).2 ⟨hq, he.symm⟩)
              · exact hI q hq ⟨j, by omega, he⟩
            · rw [h3] at ht; cases ht
        ) (by
            rintro k s hk ⟨rfl, hI⟩ ht
            rcases ih (many + 1) _ (by omega) (hstep k hk) with ⟨h1, h2⟩ | ⟨q, h1, h2, h3⟩
            · rw [h1] at ht; cases ht
            · obtain ⟨hq, hv⟩ := (Ext.step hp h8 (by omega)).1 h1
              exact ⟨q, hq, h2, by rw [h3]⟩
        ) (m + 1) false (Nat.le_refl _) ⟨rfl, fun q _ h => by obtain ⟨j, hj, _⟩ := h; omega⟩
      rcases key with ⟨h1, h2, h3⟩ | ⟨h1, q, h2, h3, h4⟩
      · refine .inl ⟨Prod.ext h1 h2, fun q hq => ?_⟩
        obtain ⟨j, hj, he⟩ := hrange q hq
        exact h3 q hq ⟨j, by omega, he⟩
      · exact .inr ⟨q, h2, h3, Prod.ext h1 h4⟩
end Go.Proofs.YtlhnpbdpojcbeaaDoor
end
section
open Go Go.RowKit
namespace Go.Proofs.YtlhnpbdpojcbeaaDoor
open Go.Proofs.YtlhnpbdpojcbeaaDoorW.PrintWords
open PPackAll Go.Shelf
set_option linter.unusedVariables false
set_option linter.unusedSimpArgs false
theorem diffF_mono {a b old : List Int} (h : ∀ i : Nat, i < 8 → rd a i ≠ rd old i → rd b i ≠ rd old i) : diffF a old ≤ diffF b old := by
  unfold diffF
  rw [← List.countP_eq_length_filter, ← List.countP_eq_length_filter]
  refine List.countP_mono_left (fun i hi hp => ?_)
  have hi8 : i < 8 := by simpa using hi
  simp only [bne_iff_ne, ne_eq] at *
  exact h i hi8 hp
theorem far_mono {x : List (List S60)} {old p q : List Int} {many : Nat} (hm : many ≤ x.length) (h : Ext x many p q) : farF old p many ≤ farF old q x.length := by
  unfold farF
  refine diffF_mono (fun i hi hne => ?_)
  rw [mixL_rd _ _ _ _ _ hi] at hne ⊢
  by_cases hc : many ≤ i ∧ i < 8
  · rw [if_pos hc] at hne; exact absurd rfl hne
  · rw [if_neg hc] at hne
    rw [if_neg (by omega), h.2 i (by omega)]
    exact hne
def NearOut (x : List (List S60)) (gs : List S68) (old : List Int) (A : List Int → Prop) (s s' : Nat × Option (List Int)) : Prop :=
  (∀ q, A q → Right x gs q → s'.1 ≤ farF old q x.length) ∧
  (s' = s ∨ ∃ q, A q ∧ Right x gs q ∧ s' = (farF old q x.length, some (q.take x.length)) ∧ farF old q x.length < s.1 ∧ ∀ q', A q' → Right x gs q' → farF old q' x.length = farF old q x.length → q' = q ∨ Newer x q q')
theorem near_spec (x : List (List S60)) (gs : List S68) (old : List Int) (cl : List S49) (hok : OkIdx x) (hgo : OkGoals x gs) (hkc : ∀ k ∈ cl, OkClause x gs k) : ∀ (D many : Nat) (p : List Int) (s : Nat × Option (List Int)), many + D = x.length → Part x p many →
    (eachF x gs cl (askF old) (nearF x gs old) D many p s).1 = true ∧ NearOut x gs old (Ext x many p) s (eachF x gs cl (askF old) (nearF x gs old) D many p s).2 := by
  have h8 := hok.2.1
  have hprune : ∀ (many : Nat) (p : List Int) (s : Nat × Option (List Int)), many ≤ x.length → cl.any (fun k => brokenF x gs k p (many : Nat)) = true → NearOut x gs old (Ext x many p) s s := by
    intro many p s hm hany
    refine ⟨fun q hq hr => ?_, .inl rfl⟩
    obtain ⟨k, hk, hb⟩ := pruned hok hgo hkc hm hany hq
    rw [right_unbroken hok hgo (hkc k hk) hq.1 hr] at hb
    cases hb
  have hask : ∀ (many : Nat) (p : List Int) (s : Nat × Option (List Int)), many ≤ x.length → (askF old s p many).1 = false → NearOut x gs old (Ext x many p) s (askF old s p many).2 := by
    intro many p s hm h
    unfold askF at h ⊢
    simp only [decide_eq_false_iff_not, Nat.not_lt] at h
    exact ⟨fun q hq hr => Nat.le_trans h (far_mono hm hq), .inl rfl⟩
  intro D
  induction D with
  | zero =>
    intro many p s hD hp
    obtain rfl : many = x.length := by omega
    unfold eachF
    by_cases hany : cl.any (fun k => brokenF x gs k p (x.length : Nat)) = true
    · rw [if_pos hany]
      exact ⟨rfl, hprune _ _ _ (Nat.le_refl _) hany⟩
    · rw [if_neg hany]
      by_cases ha : (askF old s p x.length).1 = false
      · rw [if_pos ha]
        exact ⟨rfl, hask _ _ _ (Nat.le_refl _) ha⟩
      · rw [if_neg ha]
        have hlt : farF old p x.length < s.1 := by
          unfold askF at ha
          simpa using ha
        show (nearF x gs old s p).1 = true ∧ NearOut x gs old _ s (nearF x gs old s p).2
        unfold nearF
        by_cases hr : Right x gs p
        · rw [if_pos (show faultF x gs p = (0, 0) from hr)]
          exact ⟨rfl, fun q hq _ => by rw [hq.leaf hp]; exact Nat.le_refl _, .inr ⟨p, hp.leaf, hr, rfl, hlt, fun q' hq' _ _ => .inl (hq'.leaf hp)⟩⟩
        · rw [if_neg (show ¬ faultF x gs p = (0, 0) from hr)]
          exact ⟨rfl, fun q hq h => absurd (hq.leaf hp ▸ h) hr, .inl rfl⟩
  | succ D ih =>
    intro many p s hD hp
    unfold eachF
    by_cases hany : cl.any (fun k => brokenF x gs k p (many : Nat)) = true
    · rw [if_pos hany]
      exact ⟨rfl, hprune _ _ _ (by omega) hany⟩
    · rw [if_neg hany]
      by_cases ha : (askF old s p many).1 = false
      · rw [if_pos ha]
        exact ⟨rfl, hask _ _ _ (by omega) ha⟩
      · rw [if_neg ha, l4_len]
        have e : (askF old s p many).2 = s := rfl
        rw [e]
        clear ha e
        generalize hm : (x.getD many []).length = m
        have hrange : ∀ q, Ext x many p q → ∃ j, j ≤ m ∧ choice m j = rd q many := fun q hq => by
          have := hq.1.2.1 many (by omega)
          exact choice_cover this.1 (by omega)
        have hstep : ∀ k, k ≤ m → Part x (p.set many (choice m k)) (many + 1) := fun k hk => hp.step h8 (by omega) (choice_range hk).1 (by have := (choice_range hk).2; omega)
        have key := loopF_ind (step := fun n s => eachF x gs cl (askF old) (nearF x gs old) D (many + 1) (p.set many n) s) (m := m)
          (fun k s' => NearOut x gs old (fun q => Ext x many p q ∧ ∃ j, j < k ∧ choice m j = rd q many) s s') (fun _ => False) (by
            intro k s1 hk hI ht
            obtain ⟨h1, h2, h3⟩ := ih (many + 1) (p.set many (choice m k)) s1 (by omega) (hstep k hk)
            generalize (eachF x gs cl (askF old) (nearF x gs old) D (many + 1) (p.set many (choice m k)) s1).2 = s2 at *
            obtain ⟨i1, i2⟩ := hI
            have hle : s2.1 ≤ s1.1 := by
              rcases h3 with h3 | ⟨q, _, _, h3, h4, _⟩
              · rw [h3]; exact Nat.le_refl _
              · rw [h3]; exact Nat.le_of_lt h4
            refine ⟨?_, ?_⟩
            · rintro q ⟨hq, j, hj, he⟩ hr
              by_cases hc : j = k
              · subst hc
                exact h2 q ((Ext.step hp h8 (by omega)).2 ⟨hq, he.symm⟩) hr
              · exact Nat.le_trans hle (i1 q ⟨hq, j, by omega, he⟩ hr)
            · rcases h3 with h3 | ⟨q, hq, hr, h3, h4, h5⟩
              · rw [h3]
                rcases i2 with i2 | ⟨q, ⟨hq, j, hj, he⟩, hr, i3, i4, i5⟩
                · exact .inl i2
                · refine .inr ⟨q, ⟨hq, j, by omega, he⟩, hr, i3, i4, ?_⟩
                  rintro q' ⟨hq', j', hj', he'⟩ hr' hf
                  by_cases hc : j' = k
                  · subst hc
                    refine .inr ⟨many, by omega, fun i hi => by rw [hq.2 i hi, hq'.2 i hi], ?_⟩
                    rw [← he, ← he']
                    exact choice_newer hj hk
                  · exact i5 q' ⟨hq', j', by omega, he'⟩ hr' hf
              · obtain ⟨hqm, hv⟩ := (Ext.step hp h8 (by omega)).1 hq
                refine .inr ⟨q, ⟨hqm, k, by omega, hv.symm⟩, hr, h3, ?_, ?_⟩
                · rcases i2 with i2 | ⟨q0, _, _, i3, i4, _⟩
                  · rw [i2] at h4; exact h4
                  · rw [i3] at h4; exact Nat.lt_trans h4 i4
                · rintro q' ⟨hq', j', hj', he'⟩ hr' hf
                  by_cases hc : j' = k
                  · subst hc
                    exact h5 q' ((Ext.step hp h8 (by omega)).2 ⟨hq', he'.symm⟩) hr' hf
                  · have := i1 q' ⟨hq', j', by omega, he'⟩ hr'
                    omega)
          (by
            intro k s1 hk hI ht
            obtain ⟨h1, _⟩ := ih (many + 1) (p.set many (choice m k)) s1 (by omega) (hstep k hk)
            rw [h1] at ht
            cases ht)
          (m + 1) s (Nat.le_refl _) ⟨fun q h _ => by obtain ⟨_, j, hj, _⟩ := h; omega, .inl rfl⟩
        rcases key with ⟨h1, h2, h3⟩ | ⟨_, h⟩
        · refine ⟨h1, fun q hq hr => ?_, ?_⟩
          · obtain ⟨j, hj, he⟩ := hrange q hq
            exact h2 q ⟨hq, j, by omega, he⟩ hr
          · rcases h3 with h3 | ⟨q, ⟨hq, _⟩, hr, h3, h4, h5⟩
            · exact .inl h3
            · refine .inr ⟨q, hq, hr, h3, h4, fun q' hq' hr' hf => ?_⟩
              obtain ⟨j, hj, he⟩ := hrange q' hq'
              exact h5 q' ⟨hq', j, by omega, he⟩ hr' hf
        · exact h.elim
end Go.Proofs.YtlhnpbdpojcbeaaDoor
end
section
open Go Go.RowKit
namespace Go.Proofs.YtlhnpbdpojcbeaaDoor
open Go.Proofs.YtlhnpbdpojcbeaaDoorW.PrintWords
open PPackAll Go.Shelf
set_option linter.unusedVariables false
set_option linter.unusedSimpArgs false
inductive Reach (x : List (List S60)) (gs : List S68) (p : List Int) : Nat → Prop
  | goal (g : S68) (h : g ∈ gs) : Reach x gs p g.f0.toNat
  | need (i : Nat) (n : S68) (h : Reach x gs p i) (hn : n ∈ needsOf x p i) : Reach x gs p n.f0.toNat
structure Grows (x : List (List S60)) (p : List Int) (s t : Nat) : Prop where
  lt : t < 256
  mono : ∀ j, s.testBit j = true → t.testBit j = true
  closed : ∀ j, t.testBit j = true → s.testBit j = false → ∀ n ∈ needsOf x p j, t.testBit n.f0.toNat = true
theorem Grows.refl {x : List (List S60)} {p : List Int} {s : Nat} (h : s < 256) : Grows x p s s := ⟨h, fun _ h => h, fun j h h' => by rw [h] at h'; cases h'⟩
theorem Grows.trans {x : List (List S60)} {p : List Int} {s t u : Nat} (h : Grows x p s t) (k : Grows x p t u) : Grows x p s u := by
  refine ⟨k.lt, fun j hj => k.mono j (h.mono j hj), fun j hj hs n hn => ?_⟩
  cases ht : t.testBit j with
  | true => exact k.mono _ (h.closed j ht hs n hn)
  | false => exact k.closed j hj ht n hn
theorem Grows.le {x : List (List S60)} {p : List Int} {s t : Nat} (h : Grows x p s t) : unset t ≤ unset s := unset_mono _ _ h.mono
theorem fold_grows {x : List (List S60)} {p : List Int} {F : Nat} (hF : ∀ s i, s < 256 → i < 8 → unset s < F → (needF x p F s i).testBit i = true ∧ Grows x p s (needF x p F s i)) :
    ∀ (l : List S68) (s : Nat), (∀ n ∈ l, n.f0.toNat < 8) → s < 256 → unset s < F →
      (∀ n ∈ l, (l.foldl (fun s n => needF x p F s n.f0.toNat) s).testBit n.f0.toNat = true) ∧ Grows x p s (l.foldl (fun s n => needF x p F s n.f0.toNat) s) := by
  intro l
  induction l with
  | nil => intro s _ hs _; exact ⟨fun n h => (by cases h), Grows.refl hs⟩
  | cons n l ih =>
    intro s hl hs hu
    obtain ⟨a1, a2⟩ := hF s n.f0.toNat hs (hl n List.mem_cons_self) hu
    obtain ⟨b1, b2⟩ := ih (needF x p F s n.f0.toNat) (fun m hm => hl m (List.mem_cons_of_mem _ hm)) a2.lt (Nat.lt_of_le_of_lt a2.le hu)
    rw [List.foldl_cons]
    refine ⟨fun m hm => ?_, a2.trans b2⟩
    rcases List.mem_cons.1 hm with rfl | hm
    · exact b2.mono _ a1
    · exact b1 m hm
theorem needF_grows {x : List (List S60)} {p : List Int} (hnb : ∀ i, i < 8 → ∀ n ∈ needsOf x p i, n.f0.toNat < 8) : ∀ (F s i : Nat), s < 256 → i < 8 → unset s < F → (needF x p F s i).testBit i = true ∧ Grows x p s (needF x p F s i) := by
  intro F
  induction F with
  | zero => intro s i _ _ h; omega
  | succ F ih =>
    intro s i hs hi hu
    rw [needF_succ]
    by_cases hb : s.testBit i = true
    · rw [if_pos hb]
      exact ⟨hb, Grows.refl hs⟩
    · rw [if_neg hb]
      have hb' : s.testBit i = false := by simpa using hb
      have hor := unset_or s i hs hi hb'
      have hlt := or_lt s i hs hi
      obtain ⟨b1, b2⟩ := fold_grows ih (needsOf x p i) (s ||| 2 ^ i) (hnb i hi) hlt (by omega)
      have hi' : (s ||| 2 ^ i).testBit i = true := by rw [or_test]; simp
      refine ⟨b2.mono _ hi', b2.lt, fun j hj => b2.mono _ (by rw [or_test, hj]; rfl), fun j hj hsj n hn => ?_⟩
      by_cases hc : i = j
      · subst hc; exact b1 n hn
      · exact b2.closed j hj (by rw [or_test, hsj]; simp [hc]) n hn
theorem unset_zero : unset 0 = 8 := by decide
theorem needed_closed {x : List (List S60)} {gs : List S68} {p : List Int} (hnb : ∀ i, i < 8 → ∀ n ∈ needsOf x p i, n.f0.toNat < 8) (hg : ∀ g ∈ gs, g.f0.toNat < 8) :
    (∀ g ∈ gs, (neededF x gs p).testBit g.f0.toNat = true) ∧ (∀ j, (neededF x gs p).testBit j = true → ∀ n ∈ needsOf x p j, (neededF x gs p).testBit n.f0.toNat = true) ∧ neededF x gs p < 256 := by
  obtain ⟨h1, h2⟩ := fold_grows (F := 9) (needF_grows hnb 9) gs 0 hg (by omega) (by rw [unset_zero]; omega)
  exact ⟨h1, fun j hj n hn => h2.closed j hj (by simp) n hn, h2.lt⟩
theorem needF_sound {x : List (List S60)} {gs : List S68} {p : List Int} : ∀ (F s i : Nat), (∀ j, s.testBit j = true → Reach x gs p j) → Reach x gs p i → ∀ j, (needF x p F s i).testBit j = true → Reach x gs p j := by
  intro F
  induction F with
  | zero => intro s i hs hi j hj; exact hs j hj
  | succ F ih =>
    intro s i hs hi j hj
    rw [needF_succ] at hj
    split at hj
    · exact hs j hj
    · have hor : ∀ j, (s ||| 2 ^ i).testBit j = true → Reach x gs p j := by
        intro j hj
        rw [or_test] at hj
        simp only [Bool.or_eq_true, decide_eq_true_eq] at hj
        rcases hj with hj | rfl
        · exact hs j hj
        · exact hi
      have hl : ∀ n ∈ needsOf x p i, Reach x gs p n.f0.toNat := fun n hn => .need i n hi hn
      generalize (s ||| 2 ^ i) = t at hor hj
      generalize needsOf x p i = l at hl hj
      induction l generalizing t with
      | nil => exact hor j hj
      | cons n l ih2 => exact ih2 _ (ih t _ hor (hl n List.mem_cons_self)) (fun m hm => hl m (List.mem_cons_of_mem _ hm)) hj
theorem needed_sound {x : List (List S60)} {gs : List S68} {p : List Int} (j : Nat) (hj : (neededF x gs p).testBit j = true) : Reach x gs p j := by
  have gen : ∀ (l : List S68) (s : Nat), (∀ g ∈ l, g ∈ gs) → (∀ j, s.testBit j = true → Reach x gs p j) → ∀ j, (l.foldl (fun s g => needF x p 9 s g.f0.toNat) s).testBit j = true → Reach x gs p j := by
    intro l
    induction l with
    | nil => intro s _ hs j hj; exact hs j hj
    | cons g l ih =>
      intro s hl hs j hj
      exact ih _ (fun h hm => hl h (List.mem_cons_of_mem _ hm)) (needF_sound 9 s _ hs (.goal g (hl g List.mem_cons_self))) j hj
  exact gen gs 0 (fun g h => h) (fun j h => by simp at h) j hj
theorem reach_needed {x : List (List S60)} {gs : List S68} {p : List Int} (hnb : ∀ i, i < 8 → ∀ n ∈ needsOf x p i, n.f0.toNat < 8) (hg : ∀ g ∈ gs, g.f0.toNat < 8) {j : Nat} (h : Reach x gs p j) : (neededF x gs p).testBit j = true := by
  obtain ⟨h1, h2, _⟩ := needed_closed hnb hg
  induction h with
  | goal g hm => exact h1 g hm
  | need i n _ hn ih => exact h2 i ih n hn
def AllIn (x : List (List S60)) (gs : List S68) (cl : List S49) : Prop := ∀ c, OkClause x gs c → (c.f0 = -1 → c.f1 = 0 ∧ c.f2 = false) → c ∈ cl
theorem reach_lt {x : List (List S60)} {gs : List S68} {p : List Int} (hok : OkIdx x) (hgo : OkGoals x gs) (hpl : InP x p x.length) {j : Nat} (h : Reach x gs p j) : j < x.length := by
  induction h with
  | goal g hm => obtain ⟨a1, a2, _⟩ := hgo.2 g hm; omega
  | need i n _ hn ih =>
    unfold needsOf at hn
    split at hn
    · cases hn
    · rename_i hne
      obtain ⟨a1, a2, _⟩ := ((relOf_ok x p hok hpl i ih hne).2.2.1 n hn).1
      omega
theorem brokenN (x : List (List S60)) (gs : List S68) (q : List Int) (i : Nat) (k n : Int) (hi : i < x.length) (hk : rd q i = k) :
    brokenF x gs ⟨i, k, false, n⟩ q x.length = (decide ((rd_T68 (rd_T60 (rd_L4 x i) k).f0 n).f0 < x.length) && !meetsF q (rd_T68 (rd_T60 (rd_L4 x i) k).f0 n)) := by
  have h1 : ¬ ((i : Int) = -1) := by omega
  have h2 : ¬ ((x.length : Int) ≤ i) := by omega
  unfold brokenF rngOf relOf
  simp [h1, h2, hk]
theorem brokenB (x : List (List S60)) (gs : List S68) (q : List Int) (i : Nat) (k n : Int) (hi : i < x.length) (hk : rd q i = k) :
    brokenF x gs ⟨i, k, true, n⟩ q x.length = (decide ((rd_T68 (rd_T60 (rd_L4 x i) k).f1 n).f0 < x.length) && meetsF q (rd_T68 (rd_T60 (rd_L4 x i) k).f1 n)) := by
  have h1 : ¬ ((i : Int) = -1) := by omega
  have h2 : ¬ ((x.length : Int) ≤ i) := by omega
  unfold brokenF rngOf relOf
  simp [h1, h2, hk]
theorem get_T68 (l : List S68) (j : Nat) (h : j < l.length) : rd_T68 l (j : Int) = l[j] := by
  unfold rd_T68
  rw [Int.toNat_natCast, List.getD_eq_getElem?_getD, List.getElem?_eq_getElem h]
  rfl
def cutP (x : List (List S60)) (gs : List S68) (q : List Int) : List Int := (List.range 8).map fun i => if i < x.length then (if (neededF x gs q).testBit i then rd q i else -1) else 0
theorem cutP_rd (x : List (List S60)) (gs : List S68) (q : List Int) (i : Nat) (hi : i < 8) : rd (cutP x gs q) i = if i < x.length then (if (neededF x gs q).testBit i then rd q i else -1) else 0 := by
  unfold cutP
  conv => lhs; unfold rd
  rw [Int.toNat_natCast, List.getD_eq_getElem?_getD]
  simp [hi, rd]
theorem rd_beyond (p : List Int) (i : Nat) (h : p.length ≤ i) : rd p i = 0 := by
  unfold rd
  rw [Int.toNat_natCast, List.getD_eq_getElem?_getD, List.getElem?_eq_none h]
  rfl
theorem cut_right (x : List (List S60)) (gs : List S68) (cl : List S49) (q : List Int) (hok : OkIdx x) (hgo : OkGoals x gs) (hall : AllIn x gs cl) (hf : Full x q) (hb : ∀ c ∈ cl, brokenF x gs c q x.length = false) :
    Full x (cutP x gs q) ∧ Right x gs (cutP x gs q) := by
  have h8 := hok.2.1
  have hlen : (cutP x gs q).length = 8 := by simp [cutP]
  have hfull : Full x (cutP x gs q) := by
    refine ⟨hlen, fun i hi => ?_, fun i hi => ?_⟩
    · rw [cutP_rd _ _ _ _ (by omega), if_pos hi]
      have := hf.2.1 i hi
      split <;> omega
    · rcases Nat.lt_or_ge i 8 with h | h
      · rw [cutP_rd _ _ _ _ h, if_neg (by omega)]
      · exact rd_beyond _ _ (by omega)
  have hnb := needsOf_lt x q hok hf.2.1
  have hgb : ∀ g ∈ gs, g.f0.toNat < 8 := fun g hg => by obtain ⟨a1, a2, _⟩ := hgo.2 g hg; omega
  obtain ⟨c1, c2, c3⟩ := needed_closed hnb hgb
  have hon : ∀ i : Nat, i < x.length → (neededF x gs q).testBit i = true → rd (cutP x gs q) i = rd q i := fun i hi h => by rw [cutP_rd _ _ _ _ (by omega), if_pos hi, if_pos h]
  have hoff : ∀ i : Nat, i < x.length → rd (cutP x gs q) i ≠ -1 → (neededF x gs q).testBit i = true := fun i hi h => by
    rw [cutP_rd _ _ _ _ (by omega), if_pos hi] at h
    by_cases hc : (neededF x gs q).testBit i = true
    · exact hc
    · rw [if_neg hc] at h; exact absurd rfl h
  have hmeet : ∀ r : S68, OkRange x r → (neededF x gs q).testBit r.f0.toNat = true → meetsF (cutP x gs q) r = meetsF q r := fun r hr h => by
    refine meets_congr ?_
    have := hon r.f0.toNat (by have := hr.1; have := hr.2.1; omega) h
    rwa [Int.toNat_of_nonneg hr.1] at this
  have hgoal : ∀ g ∈ gs, meetsF q g = true := by
    intro g hg
    obtain ⟨i, hi, rfl⟩ := List.mem_iff_getElem.1 hg
    have hcl : OkClause x gs ⟨-1, 0, false, i⟩ := .inl ⟨rfl, by simp, by simpa using hi⟩
    have := hb _ (hall _ hcl (fun _ => ⟨rfl, rfl⟩))
    unfold brokenF at this
    rw [if_pos rfl] at this
    unfold rngOf at this
    rw [if_pos rfl] at this
    have e : rd_T68 gs (i : Int) = gs[i] := by unfold rd_T68; rw [Int.toNat_natCast, List.getD_eq_getElem?_getD, List.getElem?_eq_getElem hi]; rfl
    simp only [e] at this
    have hr := hgo.2 _ hg
    rw [decide_eq_true (by have := hr.2.1; omega)] at this
    simpa using this
  have hclause : ∀ (i : Nat) (hi : i < x.length), rd q i ≠ -1 → (∀ n ∈ (relAt x q i).f0, meetsF q n = true) ∧ (∀ b ∈ (relAt x q i).f1, meetsF q b = false) := by
    intro i hi hne
    have hq := hf.2.1 i hi
    have hrel := relOf_ok x q hok hf.2.1 i hi hne
    have hk0 : 0 ≤ rd q i := by omega
    have hlen4 : (rd_L4 x (i : Int)).length = (x.getD i []).length := l4_len x i
    constructor
    · intro n hn
      obtain ⟨j, hj, rfl⟩ := List.mem_iff_getElem.1 hn
      have hcl : OkClause x gs ⟨i, rd q i, false, j⟩ := .inr ⟨show (0 : Int) ≤ i by omega, show (i : Int) < x.length by omega, hk0, show rd q i < ((rd_L4 x (i : Int)).length : Int) by rw [hlen4]; exact hq.2, show (0 : Int) ≤ j by omega, show (j : Int) < ((relAt x q i).f0.length : Int) by omega⟩
      have h := hb _ (hall _ hcl (fun h => absurd (show (i : Int) = -1 from h) (by omega)))
      rw [brokenN x gs q i (rd q i) j hi rfl] at h
      have e : rd_T68 (rd_T60 (rd_L4 x (i : Int)) (rd q i)).f0 (j : Int) = (relAt x q i).f0[j] := get_T68 _ j hj
      rw [e] at h
      have hr := (hrel.2.2.1 _ (List.getElem_mem hj)).1
      rw [decide_eq_true (show ((relAt x q i).f0[j]).f0 < (x.length : Int) from hr.2.1)] at h
      simpa using h
    · intro n hn
      obtain ⟨j, hj, rfl⟩ := List.mem_iff_getElem.1 hn
      have hcl : OkClause x gs ⟨i, rd q i, true, j⟩ := .inr ⟨show (0 : Int) ≤ i by omega, show (i : Int) < x.length by omega, hk0, show rd q i < ((rd_L4 x (i : Int)).length : Int) by rw [hlen4]; exact hq.2, show (0 : Int) ≤ j by omega, show (j : Int) < ((relAt x q i).f1.length : Int) by omega⟩
      have h := hb _ (hall _ hcl (fun h => absurd (show (i : Int) = -1 from h) (by omega)))
      rw [brokenB x gs q i (rd q i) j hi rfl] at h
      have e : rd_T68 (rd_T60 (rd_L4 x (i : Int)) (rd q i)).f1 (j : Int) = (relAt x q i).f1[j] := get_T68 _ j hj
      rw [e] at h
      have hr := (hrel.2.2.2 _ (List.getElem_mem hj)).1
      rw [decide_eq_true (show ((relAt x q i).f1[j]).f0 < (x.length : Int) from hr.2.1)] at h
      simpa using h
  refine ⟨hfull, right_iff.2 ⟨fun i hi => ?_, fun i hi => ?_⟩⟩
  · unfold goalB
    have hm : rd_T68 gs (i : Int) ∈ gs := by unfold rd_T68; rw [Int.toNat_natCast]; exact getD_mem _ _ _ hi
    rw [hmeet _ (hgo.2 _ hm) (c1 _ hm), hgoal _ hm]
    rfl
  · have hreach : (neededF x gs (cutP x gs q)).testBit i = (neededF x gs q).testBit i ∨ rd (cutP x gs q) i = -1 := by
      by_cases hc : rd (cutP x gs q) i = -1
      · exact .inr hc
      · left
        rw [hoff i hi hc]
        have hr := needed_sound i (hoff i hi hc)
        have hnb' := needsOf_lt x (cutP x gs q) hok hfull.2.1
        refine reach_needed hnb' hgb ?_
        have : ∀ j, Reach x gs q j → Reach x gs (cutP x gs q) j := by
          intro j hj
          induction hj with
          | goal g h => exact .goal g h
          | need k n hk hn ih =>
            refine .need k n ih ?_
            have hkb := reach_needed hnb hgb hk
            have hk8 : k < x.length := reach_lt hok hgo hf.2.1 hk
            unfold needsOf at hn ⊢
            rw [hon k hk8 hkb]
            exact hn
        exact this i hr
    by_cases hc : rd (cutP x gs q) i = -1
    · unfold passB
      rw [if_pos hc, if_pos hc, if_pos hc]
      exact ⟨rfl, rfl, rfl⟩
    · have hb' := hoff i hi hc
      have he := hon i hi hb'
      have hne : rd q i ≠ -1 := by rw [← he]; exact hc
      obtain ⟨d1, d2⟩ := hclause i hi hne
      have hrel := relOf_ok x q hok hf.2.1 i hi hne
      have ea : relAt x (cutP x gs q) i = relAt x q i := by unfold relAt; rw [he]
      unfold passB
      rw [if_neg hc, if_neg hc, if_neg hc, ea]
      simp only [if_true, Nat.one_ne_zero, if_false]
      refine ⟨?_, ?_, ?_⟩
      · rw [Bool.not_eq_false', List.all_eq_true]
        intro n hn
        have hnn : n ∈ needsOf x q i := by unfold needsOf; rw [if_neg hne]; exact hn
        rw [hmeet n (hrel.2.2.1 n hn).1 (c2 i hb' n hnn)]
        exact d1 n hn
      · rw [List.any_eq_false]
        intro b hbm
        have hr := (hrel.2.2.2 b hbm).1
        intro hm
        have hin : rd (cutP x gs q) b.f0 ≠ -1 := by
          unfold meetsF withinF at hm
          simp only [decide_eq_true_eq] at hm
          have := hr.2.2.1
          omega
        have hbb := hoff b.f0.toNat (by have := hr.1; have := hr.2.1; omega) (by rw [Int.toNat_of_nonneg hr.1]; exact hin)
        rw [hmeet b hr hbb, d2 b hbm] at hm
        cases hm
      · rcases hreach with h | h
        · rw [show ¬ (2 = 0) by omega |> fun h => if_neg h, if_neg (by omega), h, hb']
          rfl
        · exact absurd h hc
end Go.Proofs.YtlhnpbdpojcbeaaDoor
end
