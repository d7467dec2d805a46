/- Lemmas of this proof, part 11. -/
import Derived.Test.YtlhnpbdpojcbeaaDoorZ0
import Derived.Test.YtlhnpbdpojcbeaaDoorZ1
import Derived.Test.YtlhnpbdpojcbeaaDoorZ2
import Derived.Test.YtlhnpbdpojcbeaaDoorZ3
import Derived.Test.YtlhnpbdpojcbeaaDoorZ4
import Derived.Test.YtlhnpbdpojcbeaaDoorZ5
import Derived.Test.YtlhnpbdpojcbeaaDoorZ10
import Derived.Deep.QuietTactic
import Derived.ChangeKeysEq
section
open Go Go.RowKit
namespace Go.Proofs.YtlhnpbdpojcbeaaDoor
open Go.Proofs.YtlhnpbdpojcbeaaDoorW.PrintWords
open PPackAll Go.Shelf
attribute [local go_sem] Oper.semAt_some
set_option linter.unusedVariables false
set_option linter.unusedSimpArgs false
def leftA (l : List Nat) : Array Value := (l.map fun (n : Nat) => Value.int .u64 (n : Int)).toArray
theorem left_cell {w : World} {g t : Nat} {l : List Nat} (h : w.heap[g]? = some (.cells (leftA l) t (0, 0))) (k : Nat) (hk : k < l.length) :
    w.cell? ⟨g, k, none⟩ = some (.int .u64 (l.getD k 0 : Nat)) ∧ w.frozen? ⟨g, k, none⟩ = false := by
  refine ⟨?_, frozen_of_row w g k _ _ h⟩
  rw [cell_of_row w g k _ _ _ h]
  unfold leftA
  simp [hk, List.getD_eq_getElem?_getD]
def barsF (x : List (List S60)) (i k j n : Int) : Bool := (rd_T60 (rd_L4 x i) k).f1.any (barF j n)
def fitsF (x : List (List S60)) (i k : Int) (r : S68) (n : Nat) : Bool := withinF n r.f1 r.f2 && !barsF x i k r.f0 n && !barsF x r.f0 n i k
def hasF (x : List (List S60)) (left : List Nat) (i k : Int) (r : S68) : Bool := (memL (left.getD r.f0.toNat 0)).any (fitsF x i k r)
theorem memL_mem {s n : Nat} (h : n ∈ memL s) : n < 5 ∧ s.testBit n = true := by
  unfold memL at h
  simpa using h
theorem results41 {tmps : Array Value} {w : World} {g : Nat} {b : Bool} (h9 : tmps.getD 6 undef = .pointer (some ⟨g, 0, none⟩)) (hc : w.cell? ⟨g, 0, none⟩ = some (.bool b)) :
    (results Tryd.f41 tmps).run Tryd.prog w = .ok (.bool b) w := by
  have h9' : tmps[6]?.getD undef = .pointer (some ⟨g, 0, none⟩) := by simpa using h9
  have hr : Tryd.f41.results = #[.cell 6 4] := rfl
  simp [results, hr, h9', asAddr, go_sem, hc]
def TrEnv (A : Option Addr) (c nx : Nat) (B : Option Addr) (nb d : Nat) (left : List Nat) (i k : Int) (bl bm bi bk : Nat) (W : World) : Prop :=
  W.heap[bl]? = some (.cells (leftA left) 85 (0, 0)) ∧ W.cell? ⟨bm, 0, none⟩ = some (.slice A nx c) ∧ W.cell? ⟨bm, 1, none⟩ = some (.slice B nb d) ∧ W.cell? ⟨bi, 0, none⟩ = some (.int .i64 i) ∧ W.cell? ⟨bk, 0, none⟩ = some (.int .i64 k)
theorem TrEnv.keep {A : Option Addr} {c nx : Nat} {B : Option Addr} {nb d : Nat} {left : List Nat} {i k : Int} {bl bm bi bk : Nat} {S : Nat → Prop} {W W' : World} (h : TrEnv A c nx B nb d left i k bl bm bi bk W) (hk : Keep S W W')
    (h1 : ¬ S bl) (h2 : ¬ S bm) (h3 : ¬ S bi) (h4 : ¬ S bk) : TrEnv A c nx B nb d left i k bl bm bi bk W' :=
  ⟨hk.at_ h.1 h1, hk.cell h.2.1 h2, hk.cell h.2.2.1 h2, hk.cell h.2.2.2.1 h3, hk.cell h.2.2.2.2 h4⟩
theorem TrEnv.lt {A : Option Addr} {c nx : Nat} {B : Option Addr} {nb d : Nat} {left : List Nat} {i k : Int} {bl bm bi bk : Nat} {W : World} (h : TrEnv A c nx B nb d left i k bl bm bi bk W) :
    bl < W.heap.size ∧ bm < W.heap.size ∧ bi < W.heap.size ∧ bk < W.heap.size :=
  ⟨(Array.getElem?_eq_some_iff.1 h.1).1, World.block_lt_of_cell? W _ h.2.1, World.block_lt_of_cell? W _ h.2.2.2.1, World.block_lt_of_cell? W _ h.2.2.2.2⟩
structure TrCtx (A : Option Addr) (c nx : Nat) (B : Option Addr) (nb d : Nat) (left : List Nat) (i k : Int) (bl bm bi bk : Nat) (r : S68) (w : World) (s m : Nat) (res : Bool) (V : World) : Prop where
  keep : Below w.heap.size w V
  env : TrEnv A c nx B nb d left i k bl bm bi bk V
  br : V.heap[w.heap.size]? = some (.cells #[.int .i64 r.f0, .int .i64 r.f1, .int .i64 r.f2] 68 (0, 0))
  bt : V.heap[w.heap.size + 1]? = some (.cells #[.bool res] 4 (0, 0))
  bs : V.heap[w.heap.size + 1 + 1]? = some (wordBox (remF s m))
set_option maxHeartbeats 4000000 in
theorem trim1_calls (A : Option Addr) (c : Nat) (x : List (List S60)) (B : Option Addr) (nb d : Nat) (left : List Nat) (i k : Int) (bl bm bi bk : Nat) (r : S68) (w : World)
    (hx : Kd.C (Kd.slice 60 k60) w A x.length x) (h8 : x.length ≤ 8) (hT : TabAt 1 Lib.deBruijn64tab w) (hT0 : 1 < w.heap.size)
    (hl : left.length = 8) (hle : ∀ j, j < x.length → left.getD j 0 < 2 ^ (x.getD j []).length) (h5 : ∀ j, j < x.length → (x.getD j []).length ≤ 5)
    (hi0 : 0 ≤ i) (hi : i < x.length) (hk0 : 0 ≤ k) (hk : k < (rd_L4 x i).length) (hr : OkRange x r)
    (hE : TrEnv A c x.length B nb d left i k bl bm bi bk w) :
    Calls Tryd.prog 41 #[.agg #[.int .i64 r.f0, .int .i64 r.f1, .int .i64 r.f2], .pointer (some ⟨bl, 0, none⟩), .pointer (some ⟨bm, 0, none⟩), .pointer (some ⟨bi, 0, none⟩), .pointer (some ⟨bk, 0, none⟩)] w fun e w' =>
      e = .returned (.bool (hasF x left i k r)) ∧ Below w.heap.size w w' := by
  obtain ⟨r0, r1, r2, r3, r4⟩ := hr
  obtain ⟨q1, q2, q3, q4⟩ := hE.lt
  have hs32 : left.getD r.f0.toNat 0 < 32 := by
    have := hle r.f0.toNat (by omega)
    have h5' := h5 r.f0.toNat (by omega)
    have : 2 ^ (x.getD r.f0.toNat []).length ≤ 2 ^ 5 := Nat.pow_le_pow_right (by omega) h5'
    omega
  have hmem : ∀ n ∈ memL (left.getD r.f0.toNat 0), (n : Int) < (rd_L4 x r.f0).length := by
    intro n hn
    have h1 := (memL_mem hn).2
    have h2 := hle r.f0.toNat (by omega)
    unfold rd_L4
    have : n < (x.getD r.f0.toNat []).length := by
      rcases Nat.lt_or_ge n (x.getD r.f0.toNat []).length with h | h
      · exact h
      · have h3 : left.getD r.f0.toNat 0 < 2 ^ n := Nat.lt_of_lt_of_le h2 (Nat.pow_le_pow_right (by omega) h)
        rw [Nat.testBit_lt_two_pow h3] at h1
        cases h1
    omega
  obtain ⟨cl0, cl1⟩ := left_cell hE.1 r.f0.toNat (by omega)
  have hbar1 := fun (W : World) (hb : Below w.heap.size w W) (n : Nat) => barred_calls A c x B nb d i k r.f0 n W (Kd.C_below hx hb) hi0 hi hk0 hk
  have hbar2 := fun (W : World) (hb : Below w.heap.size w W) (n : Nat) (hn : n ∈ memL (left.getD r.f0.toNat 0)) => barred_calls A c x B nb d r.f0 n i k W (Kd.C_below hx hb) r0 r1 (by omega) (hmem n hn)
  have hpos : ∀ V, TrEnv A c x.length B nb d left i k bl bm bi bk V → True := fun _ _ => trivial
  generalize hs : left.getD r.f0.toNat 0 = s at *
  have hhas : hasF x left i k r = (memL s).any (fitsF x i k r) := by unfold hasF; rw [hs]
  rw [hhas]
  have Hhx := Lib.hid hx
  have HhT := Lib.hid hT
  have Hhle := Lib.hid hle
  have Hh5 := Lib.hid h5
  have HhE := Lib.hid hE
  have Hhmem := Lib.hid hmem
  have Hhbar1 := Lib.hid hbar1
  have Hhbar2 := Lib.hid hbar2
  have Hhhas := Lib.hid hhas
  have Hhs := Lib.hid hs
  clear hx hT hle h5 hE hmem hbar1 hbar2 hhas hs
  have hend : ∀ (V : World) (b : Bool) (D0 : Nat), Below w.heap.size w V → V.heap[w.heap.size + 1]? = some (.cells #[.bool b] 4 (0, 0)) → V.heap[D0]? = some (.deferred (some [])) → w.heap.size + 1 + 1 < D0 → b = (memL s).any (fitsF x i k r) →
      ∀ (tmps : Array Value), tmps.getD 6 undef = .pointer (some ⟨w.heap.size + 1, 0, none⟩) →
      bodyPostM Fence.wide 3 Tryd.prog Tryd.f41 (fun e w' => e = .returned (.bool ((memL s).any (fitsF x i k r))) ∧ Below w.heap.size w w') .ret { tmps, defers := [{ target := .collected D0, args := #[] }] } V := by
    intro V b D0 hb hbt hD hD0 hres tmps h6
    have kq : Keep (fun i => i = D0) V (V.putObj D0 (.deferred none)) := (Keep.refl (fun i => i = D0) _).putObj (.inl rfl) _
    have hb' := hb.trans (kq.below _ hb.size (fun k _ h => by omega))
    have hc := (one_cell (kq.at_ hbt (by omega))).1
    exact ⟨by simp, .inl ⟨D0, _, rfl, run_takeDeferred hD, .bool b, results41 h6 hc, by rw [hres], hb'⟩⟩
  have Hend := Lib.hid hend
  clear hend
  refine (callsIn_wide (n := 3)).1 ?_
  refine callsIn_of_wp_marks Tryd.func41 rfl trivial ?_ rfl
  simp only [Tryd.ntmps41, List.size_toArray, List.length_cons, List.length_nil, Nat.reduceAdd, Nat.reduceSub, Array.replicate_succ, Array.replicate_zero, List.push_toArray, List.append_toArray, List.nil_append, List.cons_append]
  gi_wp2_with fail
  refine ⟨trivial, (callsIn_wide.2 (members_calls s _)).mono ?_⟩
  rintro e V3 ⟨rfl, hV3⟩
  have c3 : TrCtx A c x.length B nb d left i k bl bm bi bk r w s 0 false V3 := by
    have hb : Below w.heap.size w V3 := by rw [hV3]; (repeat (first | exact Below.refl _ _ | refine pw_below_drewN ?_ _ | refine below_drew ?_ | refine Below.alloc ?_ (by first | omega | (simp; done) | (simp; omega)) _ | refine Below.setCell ?_ (by first | omega | (simp; done) | (simp; omega)) _))
    refine ⟨hb, HhE.out.keep (Keep.ofBelow hb (fun _ => False)) (fun h => h) (fun h => h) (fun h => h) (fun h => h), ?_, ?_, ?_⟩
    · rw [hV3, heap_alloc_if, if_neg (by simp; omega), heap_alloc_if, if_neg (by simp), heap_alloc_if, if_pos rfl]
    · rw [hV3, heap_alloc_if, if_neg (by simp), heap_alloc_if, if_pos (by simp)]
    · rw [hV3, heap_alloc_if, if_pos (by simp)]; rfl
  have s3 : V3.heap.size = w.heap.size + 1 + 1 + 1 := by rw [hV3]; simp
  clear hV3 cl0 cl1
  have Hc3 := Lib.hid c3
  clear c3
  gi_wp2
  refine range_wide (gf := 74) rfl (enters_of Tryd.func74 (by kernel_rfl) rfl) ?_
  intro fn rec W1 hrec hW1
  dsimp only at hrec
  obtain ⟨JJ, hJJ⟩ : ∃ JJ : Nat → World → Prop, JJ = fun m V => TrCtx A c x.length B nb d left i k bl bm bi bk r w s m false V ∧ (∀ j, j < m → fitsF x i k r ((memL s).getD j 0) = false) ∧
      V.heap[V3.heap.size + 1]? = some (.loop (rec .ready none)) ∧ V.heap[V3.heap.size]? = some (.deferred (some [])) := ⟨_, rfl⟩
  obtain ⟨JX, hJX⟩ : ∃ JX : Nat → World → Prop, JX = fun m V => (∃ m', TrCtx A c x.length B nb d left i k bl bm bi bk r w s m' true V) ∧ fitsF x i k r ((memL s).getD m 0) = true ∧
      V.heap[V3.heap.size + 1]? = some (.loop (rec .done (some .ret))) ∧ V.heap[V3.heap.size]? = some (.deferred (some [])) := ⟨_, rfl⟩
  have hW1s : W1.heap.size = V3.heap.size + 1 + 1 := by rw [hW1]; simp
  have hkW1 : Below V3.heap.size V3 W1 := by rw [hW1]; (repeat (first | exact Below.refl _ _ | refine pw_below_drewN ?_ _ | refine below_drew ?_ | refine Below.alloc ?_ (by first | omega | (simp; done) | (simp; omega)) _ | refine Below.setCell ?_ (by first | omega | (simp; done) | (simp; omega)) _))
  refine (members_iter (V3.heap.size + 1) (w.heap.size + 1 + 1) s hs32 JJ JX ?_ ?_ W1 ?_ 2).mono ?_
  · intro m V hj
    rw [hJJ] at hj
    obtain ⟨h1, h2, h3, h4⟩ := hj
    refine ⟨h1.bs, fun j hj => pw_cell_below h1.keep (HhT.out j hj)⟩
  · intro m V hm hj
    rw [hJJ] at hj
    obtain ⟨h1, h2, h6, h7⟩ := hj
    refine yield_wide (by rw [hrec] at h6; exact h6) rfl ?_
    intro nn
    have hn : (memL s).getD m 0 ∈ memL s := getD_mem _ _ _ hm
    have hrun := run_beginRound (P := Tryd.prog) h6 (by rw [hrec]; rfl)
    have h6' : (V.putObj (V3.heap.size + 1) (.loop { rec .ready none with state := .busy })).heap[V3.heap.size + 1]? = some (.loop { rec .ready none with state := .busy }) := World.putObj_heap_same (Array.getElem?_eq_some_iff.1 h6).1
    have kp : Keep (fun i => i = V3.heap.size + 1) V (V.putObj (V3.heap.size + 1) (.loop { rec .ready none with state := .busy })) := (Keep.refl (fun i => i = V3.heap.size + 1) _).putObj (.inl rfl) _
    obtain ⟨V4, hV4⟩ : ∃ V4, V4 = V.putObj (V3.heap.size + 1) (.loop { rec .ready none with state := .busy }) := ⟨_, rfl⟩
    rw [← hV4] at h6' kp hrun
    have d7 := kp.at_ h7 (by omega)
    have c4 : TrCtx A c x.length B nb d left i k bl bm bi bk r w s m false V4 := by
      refine ⟨h1.keep.trans (kp.below _ h1.keep.size (fun k _ h => by omega)), h1.env.keep kp (by omega) (by omega) (by omega) (by omega), kp.at_ h1.br (by omega), kp.at_ h1.bt (by omega), kp.at_ h1.bs (by omega)⟩
    have hb1 := Hhbar1.out
    have hb2 := fun W hb => Hhbar2.out W hb _ hn
    have f0 : V4.cell? ⟨w.heap.size, 0, none⟩ = some (.int .i64 r.f0) := by rw [World.cell?, c4.br]; rfl
    have f1 : V4.cell? ⟨w.heap.size, 1, none⟩ = some (.int .i64 r.f1) := by rw [World.cell?, c4.br]; rfl
    have f2 : V4.cell? ⟨w.heap.size, 2, none⟩ = some (.int .i64 r.f2) := by rw [World.cell?, c4.br]; rfl
    obtain ⟨t0, t1⟩ := one_cell c4.bt
    obtain ⟨g0, g1, g2, g3, g4⟩ := c4.env
    have hnext : ∀ (V' : World) (o : Obj), TrCtx A c x.length B nb d left i k bl bm bi bk r w s m false V' → V'.heap[V3.heap.size]? = some (.deferred (some [])) → V3.heap.size + 1 < V'.heap.size → o = .loop (rec .ready none) → fitsF x i k r ((memL s).getD m 0) = false →
        (V'.putObj (V3.heap.size + 1) o).heap[w.heap.size + 1 + 1]? = some (wordBox (remF s m)) ∧ JJ (m + 1) ((V'.putObj (V3.heap.size + 1) o).setCell ⟨w.heap.size + 1 + 1, 0, none⟩ (.int .u64 (remF s (m + 1)))) := by
      intro V' o h h7 hlt ho hf
      have kq : Keep (fun i => i = V3.heap.size + 1) V' (V'.putObj (V3.heap.size + 1) o) := (Keep.refl (fun i => i = V3.heap.size + 1) _).putObj (.inl rfl) _
      have hbs := kq.at_ h.bs (by omega)
      refine ⟨hbs, ?_⟩
      rw [hJJ]
      have ks : Keep (fun i => i = w.heap.size + 1 + 1) (V'.putObj (V3.heap.size + 1) o) ((V'.putObj (V3.heap.size + 1) o).setCell ⟨w.heap.size + 1 + 1, 0, none⟩ (.int .u64 (remF s (m + 1)))) := (Keep.refl (fun i => i = w.heap.size + 1 + 1) _).setCell (p := ⟨w.heap.size + 1 + 1, 0, none⟩) (.inl rfl) _
      have hq := h.keep.size
      have hq2 := kq.size
      refine ⟨⟨(h.keep.trans (kq.below _ hq (fun k _ h => by omega))).trans (ks.below _ (by omega) (fun k _ h => by omega)), (h.env.keep kq (by omega) (by omega) (by omega) (by omega)).keep ks (by omega) (by omega) (by omega) (by omega),
        ks.at_ (kq.at_ h.br (by omega)) (by omega), ks.at_ (kq.at_ h.bt (by omega)) (by omega), ?_⟩, ?_, ?_, ks.at_ (kq.at_ h7 (by omega)) (by omega)⟩
      · have := heap_setCell_same _ (w.heap.size + 1 + 1) 0 _ _ (.int .u64 (remF s (m + 1))) hbs
        simpa [wordBox] using this
      · intro j hj
        rcases Nat.lt_or_ge j m with hjm | hjm
        · exact h2 j hjm
        · obtain rfl : j = m := by omega
          exact hf
      · refine ks.at_ ?_ (by omega)
        rw [World.putObj_heap_same (by omega), ho]
    have hlast : ∀ (V' : World) (o : Obj), TrCtx A c x.length B nb d left i k bl bm bi bk r w s m true V' → V'.heap[V3.heap.size]? = some (.deferred (some [])) → V3.heap.size + 1 < V'.heap.size → o = .loop (rec .done (some .ret)) → fitsF x i k r ((memL s).getD m 0) = true →
        JX m (V'.putObj (V3.heap.size + 1) o) := by
      intro V' o h h7 hlt ho hf
      have kq : Keep (fun i => i = V3.heap.size + 1) V' (V'.putObj (V3.heap.size + 1) o) := (Keep.refl (fun i => i = V3.heap.size + 1) _).putObj (.inl rfl) _
      rw [hJX]
      refine ⟨⟨m, ⟨h.keep.trans (kq.below _ h.keep.size (fun k _ h => by omega)), h.env.keep kq (by omega) (by omega) (by omega) (by omega), kq.at_ h.br (by omega), kq.at_ h.bt (by omega), kq.at_ h.bs (by omega)⟩⟩, hf, ?_, kq.at_ h7 (by omega)⟩
      rw [World.putObj_heap_same (by omega), ho]
    have hbel : ∀ (V' V'' : World) , TrCtx A c x.length B nb d left i k bl bm bi bk r w s m false V' → Below V'.heap.size V' V'' → TrCtx A c x.length B nb d left i k bl bm bi bk r w s m false V'' := by
      intro V' V'' h hb
      have kb : Keep (fun _ => False) V' V'' := Keep.ofBelow hb _
      exact ⟨h.keep.trans (hb.mono h.keep.size), h.env.keep kb (fun h => h) (fun h => h) (fun h => h) (fun h => h), kb.at_ h.br (fun h => h), kb.at_ h.bt (fun h => h), kb.at_ h.bs (fun h => h)⟩
    generalize (memL s).getD m 0 = n at hn hnext hlast hb2 ⊢
    have l4 : V3.heap.size + 1 < V4.heap.size := (Array.getElem?_eq_some_iff.1 h6').1
    have Hhb2 := Lib.hid hb2
    have Hhb1 := Lib.hid hb1
    have Hhrun := Lib.hid hrun
    have Hh6' := Lib.hid h6'
    have Hd7 := Lib.hid d7
    have Hc4 := Lib.hid c4
    have Hh2 := Lib.hid h2
    have Hhrec := Lib.hid hrec
    have HhJJ := Lib.hid hJJ
    have HhJX := Lib.hid hJX
    have Hg0 := Lib.hid g0
    have Hs3 := Lib.hid s3
    have Hhnext := Lib.hid hnext
    have Hhlast := Lib.hid hlast
    have Hhbel := Lib.hid hbel
    clear hb2 hb1 hrun h6' d7 c4 h2 hrec hJJ hJX g0 s3 hnext hlast hbel
    clear hV4 h1 h6 h7 kp hW1 hW1s hkW1
    gi_wp2
    refine ⟨_, Hhrun.out, ?_⟩
    gi_wp2_with fail
    refine ⟨trivial, wideN _, (CallsIn.inRound _ (callsIn_wide.2 (within_calls _ _ _ V4))).mono ?_⟩
    rintro e W5 ⟨rfl, rfl⟩
    cases hw : withinF (n : Int) r.f1 r.f2 with
    | false =>
      have hf : fitsF x i k r n = false := by unfold fitsF; rw [hw]; rfl
      have Hhf := Lib.hid hf
      have Hhw := Lib.hid hw
      clear hf hw
      gi_wp2
      refine ⟨trivial, ?_⟩
      gi_wp2
      refine ⟨trivial, ?_⟩
      gi_wp2
      refine ⟨_, _, run_endRound none Hh6'.out, .inl ⟨rfl, Hhnext.out _ _ Hc4.out Hd7.out l4 ?_ Hhf.out⟩⟩
      rw [Hhrec.out]; rfl
    | true =>
      have Hhw := Lib.hid hw
      clear hw
      gi_wp2_with fail
      refine ⟨trivial, wideN _, (CallsIn.inRound _ (callsIn_wide.2 (Hhb1.out W5 Hc4.out.keep n))).mono ?_⟩
      rintro e W6 ⟨rfl, hb6⟩
      have c6 := Hhbel.out _ _ Hc4.out hb6
      have k6 : Keep (fun _ => False) W5 W6 := Keep.ofBelow hb6 _
      have h6 := k6.at_ Hh6'.out (fun h => h)
      have d6 := k6.at_ Hd7.out (fun h => h)
      have l6 : V3.heap.size + 1 < W6.heap.size := (Array.getElem?_eq_some_iff.1 h6).1
      obtain ⟨y0, y1⟩ := one_cell c6.bt
      have f0 : W6.cell? ⟨w.heap.size, 0, none⟩ = some (.int .i64 r.f0) := by rw [World.cell?, c6.br]; rfl
      obtain ⟨g0, g1, g2, g3, g4⟩ := c6.env
      clear k6 hb6 t0 t1
      cases hb : barsF x i k r.f0 n with
      | true =>
        have hf : fitsF x i k r n = false := by unfold fitsF; rw [hb]; simp
        have hb' : (rd_T60 (rd_L4 x i) k).f1.any (barF r.f0 n) = true := hb
        rw [hb']
        have Hhf := Lib.hid hf
        have Hhb := Lib.hid hb
        have Hhb' := Lib.hid hb'
        have Hc6 := Lib.hid c6
        have Hh6 := Lib.hid h6
        have Hd6 := Lib.hid d6
        have Hg0 := Lib.hid g0
        clear hf hb hb' c6 h6 d6 g0
        gi_wp2
        refine ⟨trivial, ?_⟩
        gi_wp2
        refine ⟨_, _, run_endRound none Hh6.out, .inl ⟨rfl, Hhnext.out _ _ Hc6.out Hd6.out l6 ?_ Hhf.out⟩⟩
        rw [Hhrec.out]; rfl
      | false =>
        have hb' : (rd_T60 (rd_L4 x i) k).f1.any (barF r.f0 n) = false := hb
        rw [hb']
        have Hhb := Lib.hid hb
        have Hhb' := Lib.hid hb'
        have Hc6 := Lib.hid c6
        have Hh6 := Lib.hid h6
        have Hd6 := Lib.hid d6
        have Hg0 := Lib.hid g0
        clear hb hb' c6 h6 d6 g0
        gi_wp2_with fail
        refine ⟨trivial, wideN _, (CallsIn.inRound _ (callsIn_wide.2 (Hhb2.out W6 Hc6.out.keep))).mono ?_⟩
        rintro e W7 ⟨rfl, hb7⟩
        have c7 := Hhbel.out _ _ Hc6.out hb7
        have k7 : Keep (fun _ => False) W6 W7 := Keep.ofBelow hb7 _
        have h7 := k7.at_ Hh6.out (fun h => h)
        have d7 := k7.at_ Hd6.out (fun h => h)
        have l7 : V3.heap.size + 1 < W7.heap.size := (Array.getElem?_eq_some_iff.1 h7).1
        obtain ⟨y0, y1⟩ := one_cell c7.bt
        clear k7 hb7
        cases hbb : barsF x r.f0 n i k with
        | true =>
          have hf : fitsF x i k r n = false := by unfold fitsF; rw [hbb]; simp
          have hb' : (rd_T60 (rd_L4 x r.f0) n).f1.any (barF i k) = true := hbb
          rw [hb']
          have Hhf := Lib.hid hf
          have Hhbb := Lib.hid hbb
          have Hhb' := Lib.hid hb'
          have Hc7 := Lib.hid c7
          have Hh7 := Lib.hid h7
          have Hd7 := Lib.hid d7
          clear hf hbb hb' c7 h7 d7
          gi_wp2
          refine ⟨_, _, run_endRound none Hh7.out, .inl ⟨rfl, Hhnext.out _ _ Hc7.out Hd7.out l7 ?_ Hhf.out⟩⟩
          rw [Hhrec.out]; rfl
        | false =>
          have hf : fitsF x i k r n = true := by unfold fitsF; rw [Hhw.out, Hhb.out, hbb]; rfl
          have hb' : (rd_T60 (rd_L4 x r.f0) n).f1.any (barF i k) = false := hbb
          rw [hb']
          have kt : Keep (fun i => i = w.heap.size + 1) W7 (W7.setCell ⟨w.heap.size + 1, 0, none⟩ (.bool true)) := (Keep.refl (fun i => i = w.heap.size + 1) _).setCell (p := ⟨w.heap.size + 1, 0, none⟩) (.inl rfl) _
          have hs3 := Hs3.out
          have c8 : TrCtx A c x.length B nb d left i k bl bm bi bk r w s m true (W7.setCell ⟨w.heap.size + 1, 0, none⟩ (.bool true)) := by
            refine ⟨c7.keep.trans (kt.below _ c7.keep.size (fun k _ h => by omega)), c7.env.keep kt (by omega) (by omega) (by omega) (by omega), kt.at_ c7.br (by omega), ?_, kt.at_ c7.bs (by omega)⟩
            have := heap_setCell_same W7 (w.heap.size + 1) 0 _ _ (.bool true) c7.bt
            simpa using this
          have h8 := kt.at_ h7 (by omega)
          have d8 := kt.at_ d7 (by omega)
          have l8 : V3.heap.size + 1 < (W7.setCell ⟨w.heap.size + 1, 0, none⟩ (.bool true)).heap.size := (Array.getElem?_eq_some_iff.1 h8).1
          have Hhf := Lib.hid hf
          have Hhbb := Lib.hid hbb
          have Hhb' := Lib.hid hb'
          have Hc7 := Lib.hid c7
          have Hh7 := Lib.hid h7
          have Hd7 := Lib.hid d7
          have Hc8 := Lib.hid c8
          have Hh8 := Lib.hid h8
          have Hd8 := Lib.hid d8
          clear hf hbb hb' c7 h7 d7 c8 h8 d8
          clear hs3 kt
          gi_wp2
          refine ⟨_, _, run_endRound (some .ret) Hh8.out, .inr ⟨rfl, Hhlast.out _ _ Hc8.out Hd8.out l8 ?_ Hhf.out⟩⟩
          rw [Hhrec.out]; rfl
  · rw [hJJ]
    have := heap_two V3 (.deferred (some [])) (.loop (rec .ready none))
    rw [← hW1] at this
    have hc := Hc3.out
    refine ⟨⟨hc.keep.trans (hkW1.mono hc.keep.size), hc.env.keep (Keep.ofBelow hkW1 (fun _ => False)) (fun h => h) (fun h => h) (fun h => h) (fun h => h), ?_, ?_, ?_⟩, fun j hj => by omega, this.2, this.1⟩
    · exact (hkW1.block _ (by omega)).trans hc.br
    · exact (hkW1.block _ (by omega)).trans hc.bt
    · exact (hkW1.block _ (by omega)).trans hc.bs
  · have hjj := Lib.hid hJJ
    have hjx := Lib.hid hJX
    have hrr := Lib.hid hrec
    clear hJJ hJX hrec hW1 hW1s hkW1
    rintro e V ⟨rfl, hj | ⟨m, hm, hj⟩⟩
    · rw [hjj.out] at hj
      obtain ⟨h1, h2, h5, h6⟩ := hj
      have hany : (memL s).any (fitsF x i k r) = false := any_not _ 0 h2
      have kq : ∀ o, Keep (fun i => i = V3.heap.size + 1) V (V.putObj (V3.heap.size + 1) o) := fun o => (Keep.refl (fun i => i = V3.heap.size + 1) _).putObj (.inl rfl) _
      have hrun := run_endLoop (P := Tryd.prog) h5 (by rw [hrr.out]; simp [loopRec])
      generalize hV7 : V.putObj (V3.heap.size + 1) (Obj.loop { rec .ready none with state := .exhausted }) = V7 at hrun
      rw [show (rec .ready none).pending = none from by rw [hrr.out]; rfl] at hrun
      have kq7 : Keep (fun i => i = V3.heap.size + 1) V V7 := by rw [← hV7]; exact kq _
      refine ⟨none, V7, hrun, ?_⟩
      have kt : Keep (fun i => i = w.heap.size + 1) V7 (V7.setCell ⟨w.heap.size + 1, 0, none⟩ (.bool false)) := (Keep.refl (fun i => i = w.heap.size + 1) _).setCell (p := ⟨w.heap.size + 1, 0, none⟩) (.inl rfl) _
      have hb7 : Below w.heap.size w V7 := h1.keep.trans (kq7.below _ h1.keep.size (fun k _ h => by omega))
      have b7 := kq7.at_ h1.bt (by omega)
      have d7 := kt.at_ (kq7.at_ h6 (by omega)) (by omega)
      have hfin := Hend.out (V7.setCell ⟨w.heap.size + 1, 0, none⟩ (.bool false)) false V3.heap.size (hb7.trans (kt.below _ hb7.size (fun k _ h => by omega))) (by
        have := heap_setCell_same V7 (w.heap.size + 1) 0 _ _ (.bool false) b7
        simpa using this) d7 (by omega) hany.symm
      obtain ⟨t0, t1⟩ := one_cell b7
      have Hhfin := Lib.hid hfin
      have Hb7 := Lib.hid b7
      have Hd7 := Lib.hid d7
      have Hhb7 := Lib.hid hb7
      have Hs3 := Lib.hid s3
      clear hfin b7 d7 hb7 s3
      clear kq kq7 hV7 kt h1 h2 h5 h6 hrun
      gi_wp2
      refine Hhfin.out _ ?_
      rfl
    · rw [hjx.out] at hj
      obtain ⟨⟨m', h1⟩, h2, h5, h6⟩ := hj
      have hany : (memL s).any (fitsF x i k r) = true := any_at _ 0 hm h2
      have kq : ∀ o, Keep (fun i => i = V3.heap.size + 1) V (V.putObj (V3.heap.size + 1) o) := fun o => (Keep.refl (fun i => i = V3.heap.size + 1) _).putObj (.inl rfl) _
      have hrun := run_endLoop (P := Tryd.prog) h5 (by rw [hrr.out]; simp [loopRec])
      generalize hV7 : V.putObj (V3.heap.size + 1) (Obj.loop { rec .done (some .ret) with state := .exhausted }) = V7 at hrun
      rw [show (rec .done (some .ret)).pending = some .ret from by rw [hrr.out]; rfl] at hrun
      have kq7 : Keep (fun i => i = V3.heap.size + 1) V V7 := by rw [← hV7]; exact kq _
      refine ⟨some .ret, V7, hrun, ?_⟩
      have hb7 : Below w.heap.size w V7 := h1.keep.trans (kq7.below _ h1.keep.size (fun k _ h => by omega))
      have b7 := kq7.at_ h1.bt (by omega)
      have d7 := kq7.at_ h6 (by omega)
      have hfin := Hend.out V7 true V3.heap.size hb7 b7 d7 (by omega) hany.symm
      have Hhfin := Lib.hid hfin
      have Hb7 := Lib.hid b7
      have Hd7 := Lib.hid d7
      have Hhb7 := Lib.hid hb7
      have Hs3 := Lib.hid s3
      clear hfin b7 d7 hb7 s3
      clear kq kq7 hV7 h1 h2 h5 h6 hrun
      gi_wp2
      refine Hhfin.out _ ?_
      rfl
end Go.Proofs.YtlhnpbdpojcbeaaDoor
end
section
open Go Go.RowKit
namespace Go.Proofs.YtlhnpbdpojcbeaaDoor
open Go.Proofs.YtlhnpbdpojcbeaaDoorW.PrintWords
open PPackAll Go.Shelf
set_option linter.unusedVariables false
set_option linter.unusedSimpArgs false
def Valid (x : List (List S60)) (p : List Int) : Prop :=
  ∀ i : Nat, i < x.length → (-1 ≤ rd p i ∧ rd p i < ((x.getD i []).length : Int)) ∧
    (0 ≤ rd p i → (∀ n ∈ (rd_T60 (rd_L4 x i) (rd p i)).f0, meetsF p n = true) ∧ (∀ b ∈ (rd_T60 (rd_L4 x i) (rd p i)).f1, meetsF p b = false))
def LeftOk (x : List (List S60)) (left : List Nat) : Prop :=
  left.length = 8 ∧ (∀ j, j < x.length → left.getD j 0 < 2 ^ (x.getD j []).length) ∧ ∀ p, Valid x p → ∀ j : Nat, j < x.length → 0 ≤ rd p j → (left.getD j 0).testBit (rd p j).toNat = true
theorem memL_of {s n : Nat} (h5 : n < 5) (h : s.testBit n = true) : n ∈ memL s := by
  unfold memL; simp [h5, h]
theorem hasF_of {x : List (List S60)} {left : List Nat} {p : List Int} (hok : OkIdx x) (hl : LeftOk x left) (hv : Valid x p) {i : Nat} (hi : i < x.length) (h0 : 0 ≤ rd p i) {n : S68}
    (hn : n ∈ (rd_T60 (rd_L4 x i) (rd p i)).f0) (hr : OkRange x n) : hasF x left i (rd p i) n = true := by
  obtain ⟨r0, r1, r2, r3, r4⟩ := hr
  have hm := ((hv i hi).2 h0).1 n hn
  have hj : n.f0.toNat < x.length := by omega
  have ej : (n.f0.toNat : Int) = n.f0 := Int.toNat_of_nonneg r0
  have hw : withinF (rd p n.f0) n.f1 n.f2 = true := hm
  have hw2 : n.f1 ≤ rd p n.f0 ∧ rd p n.f0 ≤ n.f2 := by simpa [withinF] using hw
  have hj0 : 0 ≤ rd p n.f0 := by omega
  have hvj := hv n.f0.toNat hj
  rw [ej] at hvj
  have ht := hl.2.2 p hv n.f0.toNat hj (by rw [ej]; exact hj0)
  rw [ej] at ht
  have h5 := (hok.2.2 n.f0.toNat hj).1
  unfold hasF
  rw [List.any_eq_true]
  refine ⟨(rd p n.f0).toNat, memL_of (by omega) ht, ?_⟩
  have er : (((rd p n.f0).toNat : Nat) : Int) = rd p n.f0 := Int.toNat_of_nonneg hj0
  unfold fitsF
  rw [er, hw]
  have hb1 : barsF x i (rd p i) n.f0 (rd p n.f0) = false := by
    unfold barsF
    rw [List.any_eq_false]
    intro b hb
    have := ((hv i hi).2 h0).2 b hb
    unfold meetsF at this
    unfold barF
    by_cases hc : b.f0 = n.f0
    · rw [hc] at this
      simp [hc, this]
    · simp [hc]
  have hb2 : barsF x n.f0 (rd p n.f0) i (rd p i) = false := by
    unfold barsF
    rw [List.any_eq_false]
    intro b hb
    have := (hvj.2 hj0).2 b hb
    unfold meetsF at this
    unfold barF
    by_cases hc : b.f0 = (i : Int)
    · rw [hc] at this
      simp [hc, this]
    · simp [hc]
  rw [hb1, hb2]
  rfl
def clr (s k : Nat) : Nat := if s.testBit k then s - 2 ^ k else s
theorem clr_facts : ∀ s : Fin 32, ∀ k : Fin 5, clr s k ≤ s ∧ (∀ j : Fin 5, (clr s k).testBit j = (s.val.testBit j && j != k)) ∧ (s.val.testBit k = true → clr s k < s) ∧ bits BinOp.andNot IntKind.u64 (s.val : Int) ((2 : Int) ^ k.val) = (clr s k : Int) := by
  decide +kernel
theorem getD_set (l : List Nat) (k v i : Nat) (hk : k < l.length) : (l.set k v).getD i 0 = if i = k then v else l.getD i 0 := by
  rw [List.getD_eq_getElem?_getD, List.getD_eq_getElem?_getD]
  by_cases hc : i = k
  · subst hc; simp [hk]
  · rw [if_neg hc, List.getElem?_set_ne (by omega)]
theorem left_lt {x : List (List S60)} {left : List Nat} (hok : OkIdx x) (hl : LeftOk x left) {i : Nat} (hi : i < x.length) : left.getD i 0 < 32 := by
  have := hl.2.1 i hi
  have h5 := (hok.2.2 i hi).1
  have : 2 ^ (x.getD i []).length ≤ 2 ^ 5 := Nat.pow_le_pow_right (by omega) h5
  omega
theorem LeftOk.clr {x : List (List S60)} {left : List Nat} (hok : OkIdx x) (hl : LeftOk x left) {i k : Nat} (hi : i < x.length) (hk : k < (x.getD i []).length)
    (hno : (rd_T60 (rd_L4 x i) k).f0.all (fun n => hasF x left i k n) = false) : LeftOk x (left.set i (clr (left.getD i 0) k)) := by
  have h8 := hok.2.1
  have h5 := (hok.2.2 i hi).1
  obtain ⟨f1, f2, f3, f4⟩ := clr_facts ⟨left.getD i 0, left_lt hok hl hi⟩ ⟨k, by omega⟩
  simp only at f1 f2 f3 f4
  refine ⟨by rw [List.length_set]; exact hl.1, fun j hj => ?_, fun p hv j hj h0 => ?_⟩
  · rw [getD_set _ _ _ _ (by rw [hl.1]; omega)]
    split
    · rename_i hc; subst hc; exact Nat.lt_of_le_of_lt f1 (hl.2.1 j hj)
    · exact hl.2.1 j hj
  · rw [getD_set _ _ _ _ (by rw [hl.1]; omega)]
    have ht := hl.2.2 p hv j hj h0
    split
    · rename_i hc
      subst hc
      have hvj := hv j hj
      have := f2 ⟨(rd p j).toNat, by omega⟩
      simp only at this
      rw [this, ht]
      have hne : (rd p j).toNat ≠ k := by
        intro hc
        have ek : rd p j = (k : Int) := by omega
        have hall : (rd_T60 (rd_L4 x j) k).f0.all (fun n => hasF x left j k n) = true := by
          rw [List.all_eq_true]
          intro n hn
          rw [← ek] at hn ⊢
          refine hasF_of hok hl hv hj h0 hn ?_
          have hrel := (hok.2.2 j hj).2 (rd_T60 (rd_L4 x j) (rd p j)) (by
            unfold rd_T60 rd_L4
            rw [Int.toNat_natCast]
            exact getD_mem _ _ _ (by omega))
          exact (hrel.2.2.1 n hn).1
        rw [hall] at hno
        cases hno
      simpa using hne
    · exact ht
end Go.Proofs.YtlhnpbdpojcbeaaDoor
end
section
open Go Go.RowKit
namespace Go.Proofs.YtlhnpbdpojcbeaaDoor
open Go.Proofs.YtlhnpbdpojcbeaaDoorW.PrintWords
open PPackAll Go.Shelf
set_option linter.unusedVariables false
set_option linter.unusedSimpArgs false
theorem in_is (n lo hi : Int) : swingleref26_in.f n lo hi = some (withinF n lo hi) := by
  unfold swingleref26_in.f withinF
  by_cases h : n ≥ lo
  · rw [if_pos h]
    simp [h]
  · rw [if_neg h]
    simp [h]
set_option maxHeartbeats 1000000 in
theorem rmeets_calls (P : Option Addr) (pc : Nat) (p : List Int) (r : S68) (w : World) (hp : Kd.C (Kd.int .i64) w P p.length p) (h0 : 0 ≤ r.f0) (h1 : r.f0 < p.length) :
    Calls Tryd.prog 58 #[.slice P p.length pc, .agg #[.int .i64 r.f0, .int .i64 r.f1, .int .i64 r.f2]] w fun e w' => e = .returned (.bool (meetsF p r)) ∧ Below w.heap.size w w' := by
  unfold meetsF
  obtain ⟨ad, e, hc⟩ := Kd.at_int hp r.f0 h0 h1
  subst e
  have hin := fun W => swingleref26_in.calls (rd p r.f0) r.f1 r.f2 _ W (in_is (rd p r.f0) r.f1 r.f2)
  generalize withinF (rd p r.f0) r.f1 r.f2 = b at hin ⊢
  have hlt := World.block_lt_of_cell? w _ hc
  have hc2 := pw_cell_below (w1 := w.alloc (.cells #[.int .i64 r.f0, .int .i64 r.f1, .int .i64 r.f2] 68)) (by (repeat (first | exact Below.refl _ _ | refine pw_below_drewN ?_ _ | refine below_drew ?_ | refine Below.alloc ?_ (by first | omega | (simp; done) | (simp; omega)) _ | refine Below.setCell ?_ (by first | omega | (simp; done) | (simp; omega)) _))) hc
  have hb2 : Below w.heap.size w (w.alloc (.cells #[.int .i64 r.f0, .int .i64 r.f1, .int .i64 r.f2] 68)) := by (repeat (first | exact Below.refl _ _ | refine pw_below_drewN ?_ _ | refine below_drew ?_ | refine Below.alloc ?_ (by first | omega | (simp; done) | (simp; omega)) _ | refine Below.setCell ?_ (by first | omega | (simp; done) | (simp; omega)) _))
  have Hhin := Lib.hid hin
  have Hhb2 := Lib.hid hb2
  clear hin hb2
  clear hp hc
  go_enter Tryd.func58, Tryd.ntmps58
  go_wp2
  go_quiet ((go_at_call 45; exact Calls.quiet_of ((Hhin.out _).mono (fun e w1 h => ⟨h.1, h.2.out⟩))))
  go_wp2
  go_ret
  exact ⟨rfl, by (repeat (first | exact Below.refl _ _ | refine pw_below_drewN ?_ _ | refine below_drew ?_ | refine Below.alloc ?_ (by first | omega | (simp; done) | (simp; omega)) _ | refine Below.setCell ?_ (by first | omega | (simp; done) | (simp; omega)) _))⟩
def keepF (x : List (List S60)) (gs : List S68) (c : S49) (p : List Int) : Bool :=
  if c.f0 = -1 then meetsF p (rngOf x gs c) else if rd p c.f0 ≠ c.f1 then true else if c.f2 then !meetsF p (rngOf x gs c) else meetsF p (rngOf x gs c)
def KeepIs (A : Option Addr) (ca : Nat) (x : List (List S60)) (B : Option Addr) (d : Nat) (gs : List S68) (c : S49) (P : Option Addr) (pc : Nat) (p : List Int) (w : World) (b : Bool) : Prop :=
  Calls Tryd.prog 20 #[.agg #[.slice A x.length ca], .slice B gs.length d, .agg #[.int .i64 c.f0, .int .i64 c.f1, .bool c.f2, .int .i64 c.f3], .slice P p.length pc] w fun e w' => e = .returned (.bool b) ∧ Below w.heap.size w w'
set_option maxHeartbeats 2000000 in
theorem keeps_goal (A : Option Addr) (ca : Nat) (x : List (List S60)) (B : Option Addr) (d : Nat) (gs : List S68) (c : S49) (P : Option Addr) (pc : Nat) (p : List Int) (w : World)
    (hg : k68.C w B gs.length gs) (hp : Kd.C (Kd.int .i64) w P p.length p) (h0 : c.f0 = -1) (h3 : 0 ≤ c.f3) (h4 : c.f3 < gs.length) (h5 : 0 ≤ (rd_T68 gs c.f3).f0) (h6 : (rd_T68 gs c.f3).f0 < p.length) :
    KeepIs A ca x B d gs c P pc p w (meetsF p (rd_T68 gs c.f3)) := by
  unfold KeepIs
  obtain ⟨ad, e, q0, q1, q2⟩ := at_T68 hg c.f3 h3 h4
  subst e
  have hm := fun (W : World) (hb : Below w.heap.size w W) => rmeets_calls P pc p (rd_T68 gs c.f3) W (Kd.C_below hp hb) h5 h6
  generalize meetsF p (rd_T68 gs c.f3) = b at hm ⊢
  generalize rd_T68 gs c.f3 = r at *
  have lt := World.block_lt_of_cell? w _ q0
  have Hhm := Lib.hid hm
  clear hm
  clear hg hp
  go_enter Tryd.func20, Tryd.ntmps20
  go_wp2_with fail
  refine (Hhm.out _ ?_).mono ?_
  · (repeat (first | exact Below.refl _ _ | refine pw_below_drewN ?_ _ | refine below_drew ?_ | refine Below.alloc ?_ (by first | omega | (simp; done) | (simp; omega)) _ | refine Below.setCell ?_ (by first | omega | (simp; done) | (simp; omega)) _))
  rintro e V ⟨rfl, hb⟩
  have hb2 : Below w.heap.size w V := by
    refine Below.trans ?_ (hb.mono ?_)
    · (repeat (first | exact Below.refl _ _ | refine pw_below_drewN ?_ _ | refine below_drew ?_ | refine Below.alloc ?_ (by first | omega | (simp; done) | (simp; omega)) _ | refine Below.setCell ?_ (by first | omega | (simp; done) | (simp; omega)) _))
    · simp; try omega
  have Hhb2 := Lib.hid hb2
  clear hb2
  clear hb
  go_wp2
  go_ret
  exact ⟨rfl, Hhb2.out⟩
set_option maxHeartbeats 2000000 in
theorem keeps_other (A : Option Addr) (ca : Nat) (x : List (List S60)) (B : Option Addr) (d : Nat) (gs : List S68) (c : S49) (P : Option Addr) (pc : Nat) (p : List Int) (w : World)
    (hp : Kd.C (Kd.int .i64) w P p.length p) (h0 : 0 ≤ c.f0) (h1 : c.f0 < p.length) (hne : rd p c.f0 ≠ c.f1) :
    KeepIs A ca x B d gs c P pc p w true := by
  unfold KeepIs
  obtain ⟨ad, e, q0⟩ := Kd.at_int hp c.f0 h0 h1
  subst e
  have hn1 : (c.f0 == (-1 : Int)) = false := by simp; omega
  have hn2 : (rd p c.f0 != c.f1) = true := by simpa using hne
  have hn3 : ¬ (c.f0 = (-1 : Int)) := by omega
  have lt := World.block_lt_of_cell? w _ q0
  clear hp
  go_enter Tryd.func20, Tryd.ntmps20
  go_wp2
  go_quiet (fail)
  go_wp2
  go_ret
  exact ⟨rfl, by (repeat (first | exact Below.refl _ _ | refine pw_below_drewN ?_ _ | refine below_drew ?_ | refine Below.alloc ?_ (by first | omega | (simp; done) | (simp; omega)) _ | refine Below.setCell ?_ (by first | omega | (simp; done) | (simp; omega)) _))⟩
set_option maxHeartbeats 4000000 in
theorem keeps_need (A : Option Addr) (ca : Nat) (x : List (List S60)) (B : Option Addr) (d : Nat) (gs : List S68) (c : S49) (P : Option Addr) (pc : Nat) (p : List Int) (w : World)
    (hx : Kd.C (Kd.slice 60 k60) w A x.length x) (hp : Kd.C (Kd.int .i64) w P p.length p) (hpl : p.length = x.length) (h0 : 0 ≤ c.f0) (h1 : c.f0 < x.length) (hr : rd p c.f0 = c.f1)
    (h2 : 0 ≤ c.f1) (h3 : c.f1 < (rd_L4 x c.f0).length) (h4 : c.f2 = false) (h5 : 0 ≤ c.f3) (h6 : c.f3 < (relOf x c).f0.length) (h7 : 0 ≤ (rd_T68 (relOf x c).f0 c.f3).f0) (h9 : (rd_T68 (relOf x c).f0 c.f3).f0 < p.length) :
    KeepIs A ca x B d gs c P pc p w (meetsF p (rd_T68 (relOf x c).f0 c.f3)) := by
  unfold KeepIs
  obtain ⟨ad, A0, c0, e, hc, hl, hi⟩ := at_L4 hx c.f0 h0 h1
  subst e
  obtain ⟨ad2, B0, e0, B1, e1, e, q0, q1, l0, g0, l1, g1⟩ := at_T60 hi c.f1 h2 h3
  subst e
  obtain ⟨ad3, e, c0, c1, c2⟩ := at_T68 g0 c.f3 h5 h6
  subst e
  obtain ⟨adp, e, ha⟩ := Kd.at_int hp c.f0 h0 (by omega)
  subst e
  have hne : (c.f0 == -1) = false := by rw [beq_eq_false_iff_ne]; omega
  have hr' : (rd p c.f0 != c.f1) = false := by simpa using hr
  have hpl' : c.f0 < (p.length : Int) := by omega
  have hm' := fun (W : World) (hb : Below w.heap.size w W) => rmeets_calls (some adp) pc p _ W (Kd.C_below hp hb) h7 h9
  rw [h4]
  change c.f3 < ((relOf x c).f0.length : Int) at h6
  change _ = some (Value.slice _ (relOf x c).f0.length e0) at q0
  change _ = some (Value.slice _ (relOf x c).f1.length e1) at q1
  change _ = some (Value.int .i64 (rd_T68 (relOf x c).f0 c.f3).f0) at c0
  change _ = some (Value.int .i64 (rd_T68 (relOf x c).f0 c.f3).f1) at c1
  change _ = some (Value.int .i64 (rd_T68 (relOf x c).f0 c.f3).f2) at c2
  generalize hrr : rd_T68 (relOf x c).f0 c.f3 = r at c0 c1 c2 hm' h7 h9 ⊢
  generalize (relOf x c).f0.length = N0 at *
  generalize (relOf x c).f1.length = N1 at *
  generalize meetsF p r = b at hm' ⊢
  have w4 := World.block_lt_of_cell? w _ ha
  have Hhm' := Lib.hid hm'
  have Hhc := Lib.hid hc
  have Hq0 := Lib.hid q0
  have Hq1 := Lib.hid q1
  have Hc0 := Lib.hid c0
  have Hc1 := Lib.hid c1
  have Hc2 := Lib.hid c2
  clear hm' hc q0 q1 c0 c1 c2
  clear hx hl hi l0 g0 l1 g1 h7 h9 hr h4 hp hrr hpl
  go_enter Tryd.func20, Tryd.ntmps20
  go_wp2
  go_quiet (fail)
  go_wp2
  obtain ⟨V, hV⟩ : ∃ V, V = ((w.alloc (.cells #[.slice (some ad) x.length ca] 24)).alloc (.cells #[.int .i64 c.f0, .int .i64 c.f1, .bool false, .int .i64 c.f3] 49)).drewN nq := ⟨_, rfl⟩
  rw [← hV]
  have hbV : Below w.heap.size w V := by rw [hV]; (repeat (first | exact Below.refl _ _ | refine pw_below_drewN ?_ _ | refine below_drew ?_ | refine Below.alloc ?_ (by first | omega | (simp; done) | (simp; omega)) _ | refine Below.setCell ?_ (by first | omega | (simp; done) | (simp; omega)) _))
  have hsz : V.heap.size = w.heap.size + 1 + 1 := by rw [hV]; simp
  have b0 : V.cell? ⟨w.heap.size, 0, none⟩ = some (.slice (some ad) x.length ca) := by rw [hV]; simp [go_sem]
  have b1 : V.cell? ⟨w.heap.size + 1, 0, none⟩ = some (.int .i64 c.f0) := by rw [hV]; simp [go_sem]
  have b2 : V.cell? ⟨w.heap.size + 1, 1, none⟩ = some (.int .i64 c.f1) := by rw [hV]; simp [go_sem]
  have b3 : V.cell? ⟨w.heap.size + 1, 2, none⟩ = some (.bool false) := by rw [hV]; simp [go_sem]
  have b4 : V.cell? ⟨w.heap.size + 1, 3, none⟩ = some (.int .i64 c.f3) := by rw [hV]; simp [go_sem]
  have x0 := pw_cell_below hbV Hhc.out
  have x1 := pw_cell_below hbV Hq0.out
  have x2 := pw_cell_below hbV Hq1.out
  have z0 := pw_cell_below hbV Hc0.out
  have z1 := pw_cell_below hbV Hc1.out
  have z2 := pw_cell_below hbV Hc2.out
  have w0 := World.block_lt_of_cell? V _ x0
  have w1 := World.block_lt_of_cell? V _ x1
  have w2 := World.block_lt_of_cell? V _ x2
  have w3 := World.block_lt_of_cell? V _ z0
  have ltV : w.heap.size < V.heap.size := by omega
  have ltV1 : w.heap.size + 1 < V.heap.size := by omega
  have HhbV := Lib.hid hbV
  have Hhsz := Lib.hid hsz
  clear hbV hsz
  clear hV
  go_region
  go_wp2_with fail
  refine (Hhm'.out _ ?_).mono ?_
  · refine HhbV.out.trans (Below.mono ?_ HhbV.out.size)
    (repeat (first | exact Below.refl _ _ | refine pw_below_drewN ?_ _ | refine below_drew ?_ | refine Below.alloc ?_ (by first | omega | (simp; done) | (simp; omega)) _ | refine Below.setCell ?_ (by first | omega | (simp; done) | (simp; omega)) _))
  rintro e w' ⟨rfl, hb⟩
  have hb2 : Below w.heap.size w w' := by
    refine HhbV.out.trans (Below.mono (Below.trans ?_ (hb.mono ?_)) HhbV.out.size)
    · (repeat (first | exact Below.refl _ _ | refine pw_below_drewN ?_ _ | refine below_drew ?_ | refine Below.alloc ?_ (by first | omega | (simp; done) | (simp; omega)) _ | refine Below.setCell ?_ (by first | omega | (simp; done) | (simp; omega)) _))
    · simp; try omega
  have Hhb2 := Lib.hid hb2
  clear hb2
  clear hb
  go_wp2
  go_ret
  exact ⟨rfl, Hhb2.out⟩
set_option maxHeartbeats 4000000 in
theorem keeps_bar (A : Option Addr) (ca : Nat) (x : List (List S60)) (B : Option Addr) (d : Nat) (gs : List S68) (c : S49) (P : Option Addr) (pc : Nat) (p : List Int) (w : World)
    (hx : Kd.C (Kd.slice 60 k60) w A x.length x) (hp : Kd.C (Kd.int .i64) w P p.length p) (hpl : p.length = x.length) (h0 : 0 ≤ c.f0) (h1 : c.f0 < x.length) (hr : rd p c.f0 = c.f1)
    (h2 : 0 ≤ c.f1) (h3 : c.f1 < (rd_L4 x c.f0).length) (h4 : c.f2 = true) (h5 : 0 ≤ c.f3) (h6 : c.f3 < (relOf x c).f1.length) (h7 : 0 ≤ (rd_T68 (relOf x c).f1 c.f3).f0) (h9 : (rd_T68 (relOf x c).f1 c.f3).f0 < p.length) :
    KeepIs A ca x B d gs c P pc p w (!meetsF p (rd_T68 (relOf x c).f1 c.f3)) := by
  unfold KeepIs
  obtain ⟨ad, A0, c0, e, hc, hl, hi⟩ := at_L4 hx c.f0 h0 h1
  subst e
  obtain ⟨ad2, B0, e0, B1, e1, e, q0, q1, l0, g0, l1, g1⟩ := at_T60 hi c.f1 h2 h3
  subst e
  obtain ⟨ad3, e, c0, c1, c2⟩ := at_T68 g1 c.f3 h5 h6
  subst e
  obtain ⟨adp, e, ha⟩ := Kd.at_int hp c.f0 h0 (by omega)
  subst e
  have hne : (c.f0 == -1) = false := by rw [beq_eq_false_iff_ne]; omega
  have hr' : (rd p c.f0 != c.f1) = false := by simpa using hr
  have hpl' : c.f0 < (p.length : Int) := by omega
  have hm' := fun (W : World) (hb : Below w.heap.size w W) => rmeets_calls (some adp) pc p _ W (Kd.C_below hp hb) h7 h9
  rw [h4]
  change c.f3 < ((relOf x c).f1.length : Int) at h6
  change _ = some (Value.slice _ (relOf x c).f0.length e0) at q0
  change _ = some (Value.slice _ (relOf x c).f1.length e1) at q1
  change _ = some (Value.int .i64 (rd_T68 (relOf x c).f1 c.f3).f0) at c0
  change _ = some (Value.int .i64 (rd_T68 (relOf x c).f1 c.f3).f1) at c1
  change _ = some (Value.int .i64 (rd_T68 (relOf x c).f1 c.f3).f2) at c2
  generalize hrr : rd_T68 (relOf x c).f1 c.f3 = r at c0 c1 c2 hm' h7 h9 ⊢
  generalize (relOf x c).f0.length = N0 at *
  generalize (relOf x c).f1.length = N1 at *
  generalize meetsF p r = b at hm' ⊢
  have w4 := World.block_lt_of_cell? w _ ha
  have Hhm' := Lib.hid hm'
  have Hhc := Lib.hid hc
  have Hq0 := Lib.hid q0
  have Hq1 := Lib.hid q1
  have Hc0 := Lib.hid c0
  have Hc1 := Lib.hid c1
  have Hc2 := Lib.hid c2
  clear hm' hc q0 q1 c0 c1 c2
  clear hx hl hi l0 g0 l1 g1 h7 h9 hr h4 hp hrr hpl
  go_enter Tryd.func20, Tryd.ntmps20
  go_wp2
  go_quiet (fail)
  go_wp2
  obtain ⟨V, hV⟩ : ∃ V, V = ((w.alloc (.cells #[.slice (some ad) x.length ca] 24)).alloc (.cells #[.int .i64 c.f0, .int .i64 c.f1, .bool true, .int .i64 c.f3] 49)).drewN nq := ⟨_, rfl⟩
  rw [← hV]
  have hbV : Below w.heap.size w V := by rw [hV]; (repeat (first | exact Below.refl _ _ | refine pw_below_drewN ?_ _ | refine below_drew ?_ | refine Below.alloc ?_ (by first | omega | (simp; done) | (simp; omega)) _ | refine Below.setCell ?_ (by first | omega | (simp; done) | (simp; omega)) _))
  have hsz : V.heap.size = w.heap.size + 1 + 1 := by rw [hV]; simp
  have b0 : V.cell? ⟨w.heap.size, 0, none⟩ = some (.slice (some ad) x.length ca) := by rw [hV]; simp [go_sem]
  have b1 : V.cell? ⟨w.heap.size + 1, 0, none⟩ = some (.int .i64 c.f0) := by rw [hV]; simp [go_sem]
  have b2 : V.cell? ⟨w.heap.size + 1, 1, none⟩ = some (.int .i64 c.f1) := by rw [hV]; simp [go_sem]
  have b3 : V.cell? ⟨w.heap.size + 1, 2, none⟩ = some (.bool true) := by rw [hV]; simp [go_sem]
  have b4 : V.cell? ⟨w.heap.size + 1, 3, none⟩ = some (.int .i64 c.f3) := by rw [hV]; simp [go_sem]
  have x0 := pw_cell_below hbV Hhc.out
  have x1 := pw_cell_below hbV Hq0.out
  have x2 := pw_cell_below hbV Hq1.out
  have z0 := pw_cell_below hbV Hc0.out
  have z1 := pw_cell_below hbV Hc1.out
  have z2 := pw_cell_below hbV Hc2.out
  have w0 := World.block_lt_of_cell? V _ x0
  have w1 := World.block_lt_of_cell? V _ x1
  have w2 := World.block_lt_of_cell? V _ x2
  have w3 := World.block_lt_of_cell? V _ z0
  have ltV : w.heap.size < V.heap.size := by omega
  have ltV1 : w.heap.size + 1 < V.heap.size := by omega
  have HhbV := Lib.hid hbV
  have Hhsz := Lib.hid hsz
  clear hbV hsz
  clear hV
  go_region
  go_wp2_with fail
  refine (Hhm'.out _ ?_).mono ?_
  · refine HhbV.out.trans (Below.mono ?_ HhbV.out.size)
    (repeat (first | exact Below.refl _ _ | refine pw_below_drewN ?_ _ | refine below_drew ?_ | refine Below.alloc ?_ (by first | omega | (simp; done) | (simp; omega)) _ | refine Below.setCell ?_ (by first | omega | (simp; done) | (simp; omega)) _))
  rintro e w' ⟨rfl, hb⟩
  have hb2 : Below w.heap.size w w' := by
    refine HhbV.out.trans (Below.mono (Below.trans ?_ (hb.mono ?_)) HhbV.out.size)
    · (repeat (first | exact Below.refl _ _ | refine pw_below_drewN ?_ _ | refine below_drew ?_ | refine Below.alloc ?_ (by first | omega | (simp; done) | (simp; omega)) _ | refine Below.setCell ?_ (by first | omega | (simp; done) | (simp; omega)) _))
    · simp; try omega
  have Hhb2 := Lib.hid hb2
  clear hb2
  clear hb
  go_wp2
  go_ret
  exact ⟨rfl, Hhb2.out⟩
theorem keeps_calls (A : Option Addr) (ca : Nat) (x : List (List S60)) (B : Option Addr) (d : Nat) (gs : List S68) (c : S49) (P : Option Addr) (pc : Nat) (p : List Int) (w : World)
    (hx : Kd.C (Kd.slice 60 k60) w A x.length x) (hok : OkIdx x) (hg : k68.C w B gs.length gs) (hgo : OkGoals x gs) (hp : Kd.C (Kd.int .i64) w P p.length p) (hpl : p.length = x.length) (hc : OkClause x gs c) :
    Calls Tryd.prog 20 #[.agg #[.slice A x.length ca], .slice B gs.length d, .agg #[.int .i64 c.f0, .int .i64 c.f1, .bool c.f2, .int .i64 c.f3], .slice P p.length pc] w fun e w' => e = .returned (.bool (keepF x gs c p)) ∧ Below w.heap.size w w' := by
  have hrel : ∀ (h0 : 0 ≤ c.f0) (h1 : c.f0 < x.length) (h2 : 0 ≤ c.f1) (h3 : c.f1 < (rd_L4 x c.f0).length), OkRel x c.f0.toNat (relOf x c) := by
    intro h0 h1 h2 h3
    refine (hok.2.2 c.f0.toNat (by omega)).2 _ ?_
    unfold relOf rd_T60 rd_L4
    exact getD_mem _ _ _ (by unfold rd_L4 at h3; omega)
  show KeepIs A ca x B d gs c P pc p w (keepF x gs c p)
  rcases hc with ⟨h0, h3, h4⟩ | ⟨h0, h1, h2, h3, h5, h6⟩
  · have e : keepF x gs c p = meetsF p (rd_T68 gs c.f3) := by unfold keepF rngOf; rw [if_pos h0, if_pos h0]
    have hr := hgo.2 (rd_T68 gs c.f3) (getD_mem _ _ _ (by omega))
    rw [e]
    exact keeps_goal A ca x B d gs c P pc p w hg hp h0 h3 h4 hr.1 (by have := hr.2.1; omega)
  · have hn : ¬ c.f0 = -1 := by omega
    by_cases hne : rd p c.f0 = c.f1
    · have hrl := hrel h0 h1 h2 h3
      cases hb : c.f2 with
      | true =>
        rw [hb] at h6
        have h7 : c.f3 < ((relOf x c).f1.length : Int) := by simpa using h6
        have hr := (hrl.2.2.2 (rd_T68 (relOf x c).f1 c.f3) (getD_mem _ _ _ (by omega))).1
        have e : keepF x gs c p = !meetsF p (rd_T68 (relOf x c).f1 c.f3) := by unfold keepF rngOf; simp [hn, hne, hb]
        rw [e]
        exact keeps_bar A ca x B d gs c P pc p w hx hp hpl h0 h1 hne h2 h3 hb h5 h7 hr.1 (by have := hr.2.1; omega)
      | false =>
        rw [hb] at h6
        have h7 : c.f3 < ((relOf x c).f0.length : Int) := by simpa using h6
        have hr := (hrl.2.2.1 (rd_T68 (relOf x c).f0 c.f3) (getD_mem _ _ _ (by omega))).1
        have e : keepF x gs c p = meetsF p (rd_T68 (relOf x c).f0 c.f3) := by unfold keepF rngOf; simp [hn, hne, hb]
        rw [e]
        exact keeps_need A ca x B d gs c P pc p w hx hp hpl h0 h1 hne h2 h3 hb h5 h7 hr.1 (by have := hr.2.1; omega)
    · have e : keepF x gs c p = true := by unfold keepF; simp [hn, hne]
      rw [e]
      exact keeps_other A ca x B d gs c P pc p w hp h0 (by omega) hne
set_option maxHeartbeats 1000000 in
theorem packall1_calls (A : Option Addr) (ca : Nat) (x : List (List S60)) (B : Option Addr) (d : Nat) (gs : List S68) (c : S49) (P : Option Addr) (pc : Nat) (p : List Int) (bx bl bp : Nat) (w : World)
    (hx : Kd.C (Kd.slice 60 k60) w A x.length x) (hok : OkIdx x) (hg : k68.C w B gs.length gs) (hgo : OkGoals x gs) (hp : Kd.C (Kd.int .i64) w P p.length p) (hpl : p.length = x.length) (hc : OkClause x gs c)
    (e0 : w.cell? ⟨bx, 0, none⟩ = some (.slice A x.length ca)) (e1 : w.cell? ⟨bl, 0, none⟩ = some (.slice B gs.length d)) (e2 : w.cell? ⟨bp, 0, none⟩ = some (.slice P p.length pc)) :
    Calls Tryd.prog 19 #[.agg #[.int .i64 c.f0, .int .i64 c.f1, .bool c.f2, .int .i64 c.f3], .pointer (some ⟨bx, 0, none⟩), .pointer (some ⟨bl, 0, none⟩), .pointer (some ⟨bp, 0, none⟩)] w fun e w' => e = .returned (.bool (!keepF x gs c p)) ∧ Below w.heap.size w w' := by
  have hk := fun (W : World) (hb : Below w.heap.size w W) => keeps_calls A ca x B d gs c P pc p W (Kd.C_below hx hb) hok (Kd.C_below hg hb) hgo (Kd.C_below hp hb) hpl hc
  have l0 := World.block_lt_of_cell? w _ e0
  have l1 := World.block_lt_of_cell? w _ e1
  have l2 := World.block_lt_of_cell? w _ e2
  generalize keepF x gs c p = b at hk ⊢
  have Hhk := Lib.hid hk
  clear hk
  clear hx hok hg hgo hp hpl hc
  go_enter Tryd.func19, Tryd.ntmps19
  go_wp2_with fail
  refine (Hhk.out _ ?_).mono ?_
  · (repeat (first | exact Below.refl _ _ | refine pw_below_drewN ?_ _ | refine below_drew ?_ | refine Below.alloc ?_ (by first | omega | (simp; done) | (simp; omega)) _ | refine Below.setCell ?_ (by first | omega | (simp; done) | (simp; omega)) _))
  rintro e V ⟨rfl, hb⟩
  have hb2 : Below w.heap.size w V := by
    refine Below.trans ?_ (hb.mono ?_)
    · (repeat (first | exact Below.refl _ _ | refine pw_below_drewN ?_ _ | refine below_drew ?_ | refine Below.alloc ?_ (by first | omega | (simp; done) | (simp; omega)) _ | refine Below.setCell ?_ (by first | omega | (simp; done) | (simp; omega)) _))
    · simp; try omega
  have Hhb2 := Lib.hid hb2
  clear hb2
  clear hb
  go_wp2
  go_ret
  exact ⟨rfl, Hhb2.out⟩
theorem anyBreaks_calls (A : Option Addr) (ca : Nat) (x : List (List S60)) (B : Option Addr) (d : Nat) (gs : List S68) (C : Option Addr) (cc : Nat) (cl : List S49) (P : Option Addr) (pc : Nat) (p : List Int) (bx bl bp : Nat) (w : World)
    (hx : Kd.C (Kd.slice 60 k60) w A x.length x) (hok : OkIdx x) (hg : k68.C w B gs.length gs) (hgo : OkGoals x gs) (hp : Kd.C (Kd.int .i64) w P p.length p) (hpl : p.length = x.length) (hcl : k49.C w C cl.length cl) (hc : ∀ c ∈ cl, OkClause x gs c)
    (e0 : w.cell? ⟨bx, 0, none⟩ = some (.slice A x.length ca)) (e1 : w.cell? ⟨bl, 0, none⟩ = some (.slice B gs.length d)) (e2 : w.cell? ⟨bp, 0, none⟩ = some (.slice P p.length pc)) :
    Calls Tryd.prog 18 #[.slice C cl.length cc, .func (.func 19) #[] #[.pointer (some ⟨bx, 0, none⟩), .pointer (some ⟨bl, 0, none⟩), .pointer (some ⟨bp, 0, none⟩)]] w fun e w' => e = .returned (.bool (cl.any fun c => !keepF x gs c p)) ∧ Below w.heap.size w w' :=
  has49_calls C cc cl _ (fun c => OkClause x gs c) _ w hcl hc ⟨19, _, _, rfl, enters_of Tryd.func19 (by kernel_rfl) rfl, fun V c cs hV hd hK => by
    obtain rfl := k49_open hK
    exact packall1_calls A ca x B d gs c P pc p bx bl bp V (Kd.C_below hx hV) hok (Kd.C_below hg hV) hgo (Kd.C_below hp hV) hpl hd (pw_cell_below hV e0) (pw_cell_below hV e1) (pw_cell_below hV e2)⟩
end Go.Proofs.YtlhnpbdpojcbeaaDoor
end
section
open Go Go.RowKit
namespace Go.Proofs.YtlhnpbdpojcbeaaDoor
open Go.Proofs.YtlhnpbdpojcbeaaDoorW.PrintWords
open PPackAll Go.Shelf
attribute [local go_sem] Oper.semAt_some
set_option linter.unusedVariables false
set_option linter.unusedSimpArgs false
abbrev RI (w : World) (base : Nat) (v : Value) (xs : List Int) : Prop := (Kd.int .i64).R 3 w base (fun _ => True) v xs
theorem RI.keep {w w' : World} {base : Nat} {v : Value} {xs : List Int} {S : Nat → Prop} (h : RI w base v xs) (hk : Keep S w w') (hS : ∀ k cs, base ≤ k → w.heap[k]? = some (.cells cs 3 (0, 0)) → ¬ S k) : RI w' base v xs := by
  refine Kd.R_mono (Kd.R_step (Kd.R_bound h) ?_) (fun _ _ => trivial)
  rintro k ⟨_, k1, k2, q, hq, cs, hc⟩ hlt
  have hq3 : q = 3 := by simpa [Kd.int, Kd.scalar] using hq
  subst hq3
  exact hk.block k hlt (hS k cs k1 hc)
theorem RI.own {w : World} {base : Nat} {v : Value} {xs : List Int} (h : RI w base v xs) : ∃ inner, w.ownsRow base 3 1 v xs.length inner ∧ ∀ (w' : World) (v' : Value) (n : Int), w'.ownsRow base 3 1 v' (xs.length + 1) (inner ++ [.int .i64 n]) → RI w' base v' (xs ++ [n]) := by
  obtain ⟨_, inner, ho, hr⟩ := h
  refine ⟨inner, ho, fun w' v' n ho' => ⟨fun _ _ => trivial, inner ++ [.int .i64 n], ?_, ?_⟩⟩
  · rw [List.length_append]; exact ho'
  · exact Reps.snoc (hr.imp_ (fun _ _ h => h)) rfl rfl
theorem info3 : ∃ i, Tryd.prog.info? 3 = some i ∧ i.zero = some (.int .i64 0) ∧ i.size = 1 ∧ i.bytes = 8 := by
  obtain ⟨i0, hi, hz⟩ := Option.map_eq_some_iff.1 info3s
  simp only [Prod.mk.injEq] at hz
  exact ⟨i0, hi, hz.1, hz.2.1, hz.2.2⟩
structure CoCtx (w : World) (bs s m : Nat) (V : World) : Prop where
  keep : Keep (fun k => k = bs) w V
  bs : V.heap[bs]? = some (wordBox (remF s m))
  out : ∃ v, V.heap[w.heap.size]? = some (.cells #[v] 30 (0, 0)) ∧ RI V (w.heap.size + 1) v (((memL s).take m).map Int.ofNat)
theorem CoCtx.putLoop {w : World} {bs s m l : Nat} {V : World} (h : CoCtx w bs s m V) (hbs : bs < w.heap.size) (hl : w.heap.size < l) {o o' : Obj} (hlo : V.heap[l]? = some o) (ho : ∀ cs, o ≠ .cells cs 3 (0, 0)) : CoCtx w bs s m (V.putObj l o') := by
  have kq : Keep (fun i => i = l) V (V.putObj l o') := (Keep.refl (fun i => i = l) _).putObj (.inl rfl) _
  obtain ⟨v, h1, h2⟩ := h.out
  refine ⟨h.keep.trans2 kq (fun k hk h => by omega), kq.at_ h.bs (by omega), v, kq.at_ h1 (by omega), RI.keep h2 kq (fun k cs _ hc hkl => ?_)⟩
  subst hkl
  rw [hlo] at hc
  exact ho cs (Option.some.inj hc)
set_option maxHeartbeats 4000000 in
theorem appendSeq_calls (bs s : Nat) (w : World) (hs32 : s < 32) (hT : TabAt 1 Lib.deBruijn64tab w) (hT0 : bs ≠ 1) (hbs : w.heap[bs]? = some (wordBox s)) :
    Calls Tryd.prog 79 #[.slice none 0 0, .func (.func 74) #[] #[.pointer (some ⟨bs, 0, none⟩)]] w fun e w' =>
      ∃ v, e = .returned v ∧ RI w' (w.heap.size + 1) v ((memL s).map Int.ofNat) ∧ Keep (fun k => k = bs) w w' := by
  have lb := (Array.getElem?_eq_some_iff.1 hbs).1
  have HhT := Lib.hid hT
  have Hhbs := Lib.hid hbs
  clear hT hbs
  refine (callsIn_wide (n := 3)).1 ?_
  refine callsIn_of_wp_marks Tryd.func79 rfl trivial ?_ rfl
  simp only [Tryd.ntmps79, List.size_toArray, List.length_cons, List.length_nil, Nat.reduceAdd, Nat.reduceSub, Array.replicate_succ, Array.replicate_zero, List.push_toArray, List.append_toArray, List.nil_append, List.cons_append]
  obtain ⟨V3, hV3⟩ : ∃ V3, V3 = w.alloc (.cells #[.slice none 0 0] 30 (0, 0)) := ⟨_, rfl⟩
  have hcut := Lib.hid (show w.alloc (.cells #[.slice none 0 0] 30 (0, 0)) = V3 from hV3.symm)
  have c3 : CoCtx w bs s 0 V3 := by
    refine ⟨by rw [hV3]; exact (Keep.refl _ _).alloc _, ?_, .slice none 0 0, ?_, Kd.R_nil _ _ _ _ _⟩
    · rw [hV3, heap_alloc_if, if_neg (by omega)]; exact Hhbs.out
    · rw [hV3, heap_alloc_if, if_pos rfl]
  have s3 : V3.heap.size = w.heap.size + 1 := by rw [hV3]; simp
  clear hV3
  have Hc3 := Lib.hid c3
  have Hs3 := Lib.hid s3
  clear c3 s3
  gi_wp2
  rw [hcut.out]
  refine range_wide (gf := 74) rfl (enters_of Tryd.func74 (by kernel_rfl) rfl) ?_
  intro fn rec W1 hrec hW1
  dsimp only at hrec
  have s3 := Hs3.out
  obtain ⟨JJ, hJJ⟩ : ∃ JJ : Nat → World → Prop, JJ = fun m V => CoCtx w bs s m V ∧ V.heap[V3.heap.size + 1]? = some (.loop (rec .ready none)) ∧ V.heap[V3.heap.size]? = some (.deferred (some [])) := ⟨_, rfl⟩
  have hW1s : W1.heap.size = V3.heap.size + 1 + 1 := by rw [hW1]; simp
  have hkW1 : Below V3.heap.size V3 W1 := by rw [hW1]; (repeat (first | exact Below.refl _ _ | refine pw_below_drewN ?_ _ | refine below_drew ?_ | refine Below.alloc ?_ (by first | omega | (simp; done) | (simp; omega)) _ | refine Below.setCell ?_ (by first | omega | (simp; done) | (simp; omega)) _))
  refine (members_iter (V3.heap.size + 1) bs s hs32 JJ (fun _ _ => False) ?_ ?_ W1 ?_ 2).mono ?_
  · intro m V hj
    rw [hJJ] at hj
    obtain ⟨h1, h3, h4⟩ := hj
    exact ⟨h1.bs, fun j hj => h1.keep.cell (HhT.out j hj) (fun h => hT0 (by simpa using h.symm))⟩
  · intro m V hm hj
    rw [hJJ] at hj
    obtain ⟨h1, h6, h7⟩ := hj
    refine yield_wide (by rw [hrec] at h6; exact h6) rfl ?_
    intro nn
    have hrun := run_beginRound (P := Tryd.prog) h6 (by rw [hrec]; rfl)
    have h6' : (V.putObj (V3.heap.size + 1) (.loop { rec .ready none with state := .busy })).heap[V3.heap.size + 1]? = some (.loop { rec .ready none with state := .busy }) := World.putObj_heap_same (Array.getElem?_eq_some_iff.1 h6).1
    have kp : Keep (fun i => i = V3.heap.size + 1) V (V.putObj (V3.heap.size + 1) (.loop { rec .ready none with state := .busy })) := (Keep.refl (fun i => i = V3.heap.size + 1) _).putObj (.inl rfl) _
    have c4 := h1.putLoop (o' := .loop { rec .ready none with state := .busy }) lb (by omega) h6 (fun cs h => by cases h)
    obtain ⟨V4, hV4⟩ : ∃ V4, V4 = V.putObj (V3.heap.size + 1) (.loop { rec .ready none with state := .busy }) := ⟨_, rfl⟩
    rw [← hV4] at h6' kp hrun c4
    have d7 := kp.at_ h7 (by omega)
    obtain ⟨v, o0, oR⟩ := c4.out
    obtain ⟨t0, t1⟩ := one_cell o0
    have lt := World.block_lt_of_cell? V4 _ t0
    have hml := memL_len s
    have hlen : (((memL s).take m).map Int.ofNat).length = m := by simp; omega
    obtain ⟨inner, hown, hnext⟩ := oR.own
    rw [hlen] at hown hnext
    obtain ⟨i0, hi, hz0, hz1, hz2⟩ := info3
    have hend : ∀ (w' : World) (v' : Value) (n : Nat), n = (memL s).getD m 0 → w'.ownsRow (w.heap.size + 1) 3 1 v' (m + 1) (inner ++ [.int .i64 (n : Int)]) → V4.grownBy w' v.ownBlock →
        ∀ o, o = .loop (rec .ready none) → 
        ((w'.setCell ⟨w.heap.size, 0, none⟩ v').putObj (V3.heap.size + 1) o).heap[bs]? = some (wordBox (remF s m)) ∧
        JJ (m + 1) (((w'.setCell ⟨w.heap.size, 0, none⟩ v').putObj (V3.heap.size + 1) o).setCell ⟨bs, 0, none⟩ (.int .u64 (remF s (m + 1)))) ∧ (w'.setCell ⟨w.heap.size, 0, none⟩ v').heap[V3.heap.size + 1]? = some (.loop { rec .ready none with state := .busy }) := by
      intro w' v' n hn ho hg o hob
      have hty : ∀ k, v.ownBlock = some k → w.heap.size + 1 ≤ k ∧ ∃ cells, V4.heap[k]? = some (.cells cells 3 (0, 0)) := fun k hk => ⟨own_base hown k hk, own_typed hown k hk⟩
      have nbs : some bs ≠ v.ownBlock := fun h => by have := (hty bs h.symm).1; omega
      have nl : some (V3.heap.size + 1) ≠ v.ownBlock := fun h => by
        obtain ⟨cells, hc⟩ := (hty _ h.symm).2
        rw [h6'] at hc; cases hc
      have nd : some V3.heap.size ≠ v.ownBlock := fun h => by
        obtain ⟨cells, hc⟩ := (hty _ h.symm).2
        rw [d7] at hc; cases hc
      have nw : some w.heap.size ≠ v.ownBlock := fun h => by have := (hty _ h.symm).1; omega
      have l6 := (Array.getElem?_eq_some_iff.1 h6').1
      have kt : Keep (fun i => i = w.heap.size) w' (w'.setCell ⟨w.heap.size, 0, none⟩ v') := (Keep.refl (fun i => i = w.heap.size) _).setCell (p := ⟨w.heap.size, 0, none⟩) (.inl rfl) _
      have x1 := kt.at_ ((hg.block bs (by omega) nbs).trans c4.bs) (by omega)
      have x2 := kt.at_ ((hg.block _ l6 nl).trans h6') (by omega)
      have x3 := kt.at_ ((hg.block _ (by omega) nd).trans d7) (by omega)
      have x4 := heap_setCell_same w' w.heap.size 0 _ _ v' ((hg.block _ (by omega) nw).trans o0)
      have hR1 := hnext w' v' n ho
      have hR2 : RI (w'.setCell ⟨w.heap.size, 0, none⟩ v') (w.heap.size + 1) v' _ := RI.keep hR1 kt (fun k cs h1 _ h2 => by omega)
      have kq : Keep (fun i => i = V3.heap.size + 1) (w'.setCell ⟨w.heap.size, 0, none⟩ v') ((w'.setCell ⟨w.heap.size, 0, none⟩ v').putObj (V3.heap.size + 1) o) := (Keep.refl (fun i => i = V3.heap.size + 1) _).putObj (.inl rfl) _
      have y1 := kq.at_ x1 (by omega)
      have ks : Keep (fun i => i = bs) ((w'.setCell ⟨w.heap.size, 0, none⟩ v').putObj (V3.heap.size + 1) o) (((w'.setCell ⟨w.heap.size, 0, none⟩ v').putObj (V3.heap.size + 1) o).setCell ⟨bs, 0, none⟩ (.int .u64 (remF s (m + 1)))) := (Keep.refl (fun i => i = bs) _).setCell (p := ⟨bs, 0, none⟩) (.inl rfl) _
      refine ⟨y1, ?_, x2⟩
      rw [hJJ]
      refine ⟨⟨?_, ?_, v', ks.at_ (kq.at_ (by simpa using x4) (by omega)) (by omega), ?_⟩, ks.at_ ?_ (by omega), ks.at_ (kq.at_ x3 (by omega)) (by omega)⟩
      · have k1 : Keep (fun k => k = bs ∨ w.heap.size ≤ k) V4 w' := ⟨hg.os, hg.tape, hg.output, hg.size, fun k hk hn => hg.block k hk (fun h => by have := (hty k h.symm).1; omega)⟩
        refine ((((c4.keep.trans2 k1 (fun k hk h => by omega)).trans2 kt (fun k hk h => by omega)).trans2 kq (fun k hk h => by omega)).trans2 ks (fun k hk h => h))
      · have := heap_setCell_same _ bs 0 _ _ (.int .u64 (remF s (m + 1))) y1
        simpa [wordBox] using this
      · have e : ((memL s).take (m + 1)).map Int.ofNat = ((memL s).take m).map Int.ofNat ++ [(n : Int)] := by
          rw [List.take_succ_eq_append_getElem hm, List.map_append, hn, List.getD_eq_getElem?_getD, List.getElem?_eq_getElem hm]
          rfl
        rw [e]
        refine RI.keep (RI.keep hR2 kq (fun k cs _ hc hkl => ?_)) ks (fun k cs h1 _ h2 => by omega)
        subst hkl
        rw [x2] at hc
        cases hc
      · rw [World.putObj_heap_same (Array.getElem?_eq_some_iff.1 x2).1, hob]
    clear h1 h6 h7 kp hV4 hW1 hW1s hkW1
    generalize (memL s).getD m 0 = n at hend ⊢
    have hnew : ∀ j u, [Value.int .i64 (n : Int)][j]? = some u → (V4.alloc (.cells #[.int .i64 (n : Int)] 3 (0, 0))).cell? ((⟨V4.heap.size, 0, none⟩ : Addr).add j) = some u := by
      simpa using World.news_of_block (cs := #[.int .i64 (n : Int)]) (t := 3) (fr := (0, 0)) (heap_alloc_new V4 (.cells #[.int .i64 (n : Int)] 3))
    have hne : some w.heap.size ≠ v.ownBlock := Kd.R_ne oR o0 (by decide)
    have Hhrun := Lib.hid hrun
    have Hh6' := Lib.hid h6'
    have Hc4 := Lib.hid c4
    have Hd7 := Lib.hid d7
    have HoR := Lib.hid oR
    have Hhend := Lib.hid hend
    have HhJJ := Lib.hid hJJ
    have Hhrec := Lib.hid hrec
    have Ho0 := Lib.hid o0
    have Hs3 := Lib.hid s3
    have Hhnext := Lib.hid hnext
    have Hhnew := Lib.hid hnew
    have Hhown := Lib.hid hown
    have Hhi := Lib.hid hi
    have Hhz0 := Lib.hid hz0
    have Hhz1 := Lib.hid hz1
    have Hhz2 := Lib.hid hz2
    have Hhne := Lib.hid hne
    clear hrun h6' c4 d7 oR hend hJJ hrec o0 s3 hnext hnew hown hi hz0 hz1 hz2 hne
    gi_wp2
    refine ⟨_, Hhrun.out, ?_⟩
    gi_wp2_with (gi_at_builtin; refine wpListIn_append_own _ rfl _ _ 30 rfl (w.heap.size + 1) 3 i0 (.int .i64 0) 1 8 Tryd.underlying30 Hhi.out Hhz0.out Hhz1.out Hhz2.out rfl (by decide) _ _ _ rfl (Hhown.out.alloc _) ⟨V4.heap.size, 0, none⟩ 1 1 [.int .i64 (n : Int)] rfl rfl Hhnew.out (by simp [Value.oneCell']) (by simp only [maxLen]; omega) (by omega) (by simp; omega) ?_)
    intro v' w1 hown' hg _
    obtain ⟨g', cap', rfl⟩ : ∃ g' cap', v' = .slice (some ⟨g', 0, none⟩) (m + 1) cap' := by
      rcases hown'.2 with ⟨_, h⟩ | ⟨g, cap, cur, e, _⟩
      · omega
      · exact ⟨g, cap, e⟩
    have hg4 : V4.grownBy w1 v.ownBlock := World.grownBy.trans (World.grownBy_alloc V4 _ _) hg
    have b0 := (hg4.block w.heap.size lt Hhne.out).trans Ho0.out
    obtain ⟨u0, u1⟩ := one_cell b0
    have lu := World.block_lt_of_cell? w1 _ u0
    have hfin := Hhend.out w1 _ n rfl hown' hg4
    have hfin2 := hfin (.loop (rec .ready none)) rfl
    have Hhown' := Lib.hid hown'
    have Hhg := Lib.hid hg
    have Hhg4 := Lib.hid hg4
    have Hb0 := Lib.hid b0
    have Hhfin := Lib.hid hfin
    have Hhfin2 := Lib.hid hfin2
    clear hown' hg hg4 b0 hfin hfin2
    gi_wp2
    refine ⟨_, _, run_endRound none Hhfin2.out.2.2, rfl, ?_⟩
    have := Hhfin.out (.loop { { rec .ready none with state := .busy } with state := if (none : Option Code).isNone then .ready else .done, pending := none }) (by rw [Hhrec.out]; rfl)
    exact ⟨this.1, this.2.1⟩
  · rw [hJJ]
    have := heap_two V3 (.deferred (some [])) (.loop (rec .ready none))
    rw [← hW1] at this
    have hc := Hc3.out
    obtain ⟨v, o0, oR⟩ := hc.out
    refine ⟨⟨hc.keep.trans (Keep.ofBelow hkW1 _), (hkW1.block _ (by omega)).trans hc.bs, v, (hkW1.block _ (by omega)).trans o0, Kd.R_below oR hkW1⟩, this.2, this.1⟩
  · have hjj := Lib.hid hJJ
    have hrr := Lib.hid hrec
    clear hJJ hrec hW1 hW1s hkW1
    rintro e V ⟨rfl, hj | ⟨m, hm, hj⟩⟩
    · rw [hjj.out] at hj
      obtain ⟨h1, h5, h6⟩ := hj
      have hrun := run_endLoop (P := Tryd.prog) h5 (by rw [hrr.out]; simp [loopRec])
      have c7 := h1.putLoop (o' := Obj.loop { rec .ready none with state := .exhausted }) lb (by omega) h5 (fun cs h => by cases h)
      have kq : ∀ o, Keep (fun i => i = V3.heap.size + 1) V (V.putObj (V3.heap.size + 1) o) := fun o => (Keep.refl (fun i => i = V3.heap.size + 1) _).putObj (.inl rfl) _
      have d7 := (kq (Obj.loop { rec .ready none with state := .exhausted })).at_ h6 (by omega)
      generalize hV7 : V.putObj (V3.heap.size + 1) (Obj.loop { rec .ready none with state := .exhausted }) = V7 at hrun c7 d7
      rw [show (rec .ready none).pending = none from by rw [hrr.out]; rfl] at hrun
      refine ⟨none, V7, hrun, ?_⟩
      obtain ⟨v, o0, oR⟩ := c7.out
      rw [List.take_length] at oR
      obtain ⟨A0, n0, e0, -, -⟩ := Kd.R_reads oR
      rw [List.length_map] at e0
      obtain ⟨t0, t1⟩ := one_cell o0
      have lt := World.block_lt_of_cell? V7 _ t0
      have hfin : ∀ (tmps : Array Value), tmps.getD 4 undef = v → bodyPostM Fence.wide 3 Tryd.prog Tryd.f79 (fun e w' => ∃ v, e = .returned v ∧ RI w' (w.heap.size + 1) v ((memL s).map Int.ofNat) ∧ Keep (fun k => k = bs) w w') .ret { tmps, defers := [{ target := .collected V3.heap.size, args := #[] }] } V7 := by
        intro tmps h4
        have kd : Keep (fun i => i = V3.heap.size) V7 (V7.putObj V3.heap.size (.deferred none)) := (Keep.refl (fun i => i = V3.heap.size) _).putObj (.inl rfl) _
        refine ⟨by simp, .inl ⟨V3.heap.size, _, rfl, run_takeDeferred d7, v, ?_, v, rfl, RI.keep oR kd (fun k cs _ hc hkl => ?_), c7.keep.trans2 kd (fun k hk h => by omega)⟩⟩
        · rw [← h4]; exact results_tmp rfl _ _ _
        · subst hkl; rw [d7] at hc; cases hc
      subst e0
      have Hhfin := Lib.hid hfin
      have Hc7 := Lib.hid c7
      have Hd7 := Lib.hid d7
      have Ho0 := Lib.hid o0
      have HoR := Lib.hid oR
      have Hs3 := Lib.hid s3
      clear hfin c7 d7 o0 oR s3
      clear kq hV7 h1 h5 h6 hrun
      gi_wp2
      refine Hhfin.out _ ?_
      rfl
    · exact hj.elim
theorem collect_calls (bs s : Nat) (w : World) (hs32 : s < 32) (hT : TabAt 1 Lib.deBruijn64tab w) (hT0 : bs ≠ 1) (hbs : w.heap[bs]? = some (wordBox s)) :
    Calls Tryd.prog 44 #[.func (.func 74) #[] #[.pointer (some ⟨bs, 0, none⟩)]] w fun e w' =>
      ∃ v, e = .returned v ∧ RI w' (w.heap.size + 1) v ((memL s).map Int.ofNat) ∧ Keep (fun k => k = bs) w w' := by
  have hc := Lib.hid (appendSeq_calls bs s w hs32 hT hT0 hbs)
  clear hT hbs
  go_enter Tryd.func44, Tryd.ntmps44
  go_wp2_with fail
  refine hc.out.mono ?_
  rintro e V ⟨v, rfl, hR, hk⟩
  have HhR := Lib.hid hR
  have Hhk := Lib.hid hk
  clear hR hk
  go_wp2
  go_ret
  exact ⟨_, rfl, HhR.out, Hhk.out⟩
end Go.Proofs.YtlhnpbdpojcbeaaDoor
end
section
open Go Go.RowKit
namespace Go.Proofs.YtlhnpbdpojcbeaaDoor
open Go.Proofs.YtlhnpbdpojcbeaaDoorW.PrintWords
open PPackAll Go.Shelf
set_option linter.unusedVariables false
def noDefer (ops : List Oper) : Bool := ops.all fun o => match o.op with | .defer _ => false | _ => true
theorem noDefer_spec {ops : List Oper} (h : noDefer ops = true) {o : Oper} (ho : o ∈ ops) : ∀ c, o.op ≠ .defer c := by
  intro c hc
  have := List.all_eq_true.1 h o ho
  rw [hc] at this
  cases this
theorem wpIn_of_quiet_round {l n : Nat} {C : World → Prop} {o : Oper} {a : Act} {K : Act → Prop} {K' : Act → World → Prop} {Q' : Exit → Act → World → Prop} {w : World} (hnd : ∀ c, o.op ≠ .defer c) (hw : C w)
    (h : ∀ a w', C w' → K a → K' a w') (hh : o.quiet Tryd.prog a C K) : o.wpIn (Fence.wide.inRound l) n Tryd.prog a w K' Q' := by
  obtain ⟨v, h1, h2⟩ := hh
  have h3 := h1 w hw
  unfold Oper.quietAt at h3
  unfold Oper.wpIn
  refine ⟨fun _ _ => trivial, ?_⟩
  rw [Oper.semAt_eq _ _ _ hnd]
  generalize (execOp a.eval o).run Tryd.prog w = r at *
  cases r with
  | ok x w' =>
    cases x <;> simp only [Oper.quietUpon] at h3 <;> simp only [Oper.uponIn]
    case value u =>
      obtain ⟨e1, e2⟩ := h3
      rw [e1, e2]
      exact h _ _ hw h2
    case skip =>
      obtain ⟨e1, e2⟩ := h3
      rw [e1, ← e2]
      exact h _ _ hw h2
    case enter f args =>
      obtain ⟨e1, hc⟩ := h3
      rw [e1]
      exact ⟨wideN _, (CallsIn.inRound _ (callsIn_wide.2 hc)).mono fun e w'' ⟨he, hw''⟩ => by subst he; exact h _ _ hw'' h2⟩
  | halt x w' => simp only [Oper.quietUpon] at h3
theorem wpAnyIn_of_quiet_round {l n : Nat} {C : World → Prop} {ops : Array Oper} {md : Region.Mode} (hnd : noDefer ops.toList = true) {Q : Act → Prop} {Q' : Exit → Act → World → Prop} (hQ : ∀ a w, C w → Q a → Q' .normal a w) :
    ∀ (fuel : Nat) (listed : Array Bool) (a : Act) (w : World), C w → wpAnyQ Tryd.prog md ops C Q fuel listed a → wpAnyIn (Fence.wide.inRound l) n Tryd.prog md ops Q' fuel listed a w
  | 0, _, _, _, hw, h => ⟨h.1, hQ _ _ hw h.2⟩
  | fuel + 1, listed, a, w, hw, h => by
    refine ⟨fun h0 => hQ _ _ hw (h.1 h0), fun i hi => ?_⟩
    have hh := h.2 i hi
    have hnext := fun a' w' hw' => wpAnyIn_of_quiet_round (l := l) (n := n) (md := md) hnd hQ fuel (listed.setIfInBounds i true) a' w' hw'
    unfold qOp at hh
    unfold wpOpIn
    split
    · rename_i ho; simp only [ho] at hh; exact hnext _ _ hw hh
    · rename_i o ho
      simp only [ho] at hh
      have hm : o ∈ ops.toList := by
        have := Array.mem_of_getElem? ho
        simpa using this
      split
      · rename_i hwd; simp only [hwd, if_true] at hh; exact wpIn_of_quiet_round (noDefer_spec hnd hm) hw hnext hh
      · rename_i hwd; simp only [hwd] at hh; exact ⟨fun _ _ => trivial, hnext _ _ hw hh⟩
theorem wpIn_region_quiet_round {l n id : Nat} {ops : List Oper} {Q : Exit → Act → World → Prop} {a : Act} {w : World} (C : World → Prop) (hm : Tryd.prog.follows .mixedOrders = true) (hB : Region.lexB .any ops.toArray = true) (hnd : noDefer ops = true)
    (hC : C { w with drawn := w.drawn + 1 }) (h : wpQuiet Tryd.prog ops.toArray C (fun a' => ∀ w', C w' → Q .normal a' w') ops a) : (Code.region id ops.toArray true).wpIn (Fence.wide.inRound l) n Tryd.prog Q a w := by
  simp only [Region.lexB, Bool.and_eq_true] at hB
  refine wpIn_region_any hm (wpAnyIn_of_quiet_round (Q := fun a' => ∀ w', C w' → Q .normal a' w') hnd (fun _ w' hw' h => h w' hw') _ _ _ _ hC ?_)
  have := wpAnyQ_lex (C := C) (md := .any) hB.1 ops 0 (Array.replicate ops.toArray.size false) a (by simp) (by simpa using hB.2) h
  simpa using this
theorem quiet_val {C : World → Prop} {ops : Array Oper} {Q : Act → Prop} {a : Act} {o : Oper} {rest : List Oper} (v : Value) (hg : Region.wanted o (yielded ops a.tmps) = true)
    (h1 : ∀ w, C w → o.quietAt Tryd.prog a C w v) (h2 : wpQuiet Tryd.prog ops C Q rest (a.put o.dst v)) : wpQuiet Tryd.prog ops C Q (o :: rest) a := by
  show (if _ then _ else _)
  rw [if_pos hg]
  exact ⟨v, h1, h2⟩
theorem len8 {α : Type} {p : List α} (h : p.length = 8) : ∃ a b c d e f g i, p = [a, b, c, d, e, f, g, i] := by
  match p, h with
  | [a, b, c, d, e, f, g, i], _ => exact ⟨a, b, c, d, e, f, g, i, rfl⟩
theorem size84 : (Tryd.prog.info? 84).map (·.size) = some 1 := by kernel_rfl
theorem cof84 : Tryd.prog.cellsOf 84 = 1 := by kernel_rfl
theorem run_eql85 (p q : List Nat) (hp : p.length = 8) (hq : q.length = 8) (W : World) : (Op.equal 85 (.agg (leftA p)) (.agg (leftA q))).run Tryd.prog W = .ok (p == q) W := by
  obtain ⟨a0, a1, a2, a3, a4, a5, a6, a7, rfl⟩ := len8 hp
  obtain ⟨b0, b1, b2, b3, b4, b5, b6, b7, rfl⟩ := len8 hq
  obtain ⟨i, hi⟩ : ∃ i, Tryd.prog.info? 84 = some i := by
    have := size84
    cases h : Tryd.prog.info? 84 with
    | none => rw [h] at this; cases this
    | some i => exact ⟨i, rfl⟩
  unfold Op.equal
  rw [show Op.maxDepth = 9999 + 1 from rfl, run_equalIn_array W 9999 _ _ Tryd.underlying85 hi]
  simp [leftA, Op.eqItems, part, go_sem, cof84, List.range, List.range.loop]
  repeat' split
  all_goals (simp_all; try omega)
theorem eq85In {F : Fence} {n : Nat} {ops : Array Oper} {rest : List Oper} {o : Oper} {a : Act} {w : World} {Q : Exit → Act → World → Prop}
    (hgd : Region.wanted o (yielded ops a.tmps) = true) (x y : Operand) (ho : o.op = .binOp .eql 85 x y 85) (p q : List Nat) (hx : a.eval x = .agg (leftA p)) (hy : a.eval y = .agg (leftA q)) (hp : p.length = 8) (hq : q.length = 8)
    (h : wpListIn F n Tryd.prog ops Q rest (a.put o.dst (.bool (p == q))) w) : wpListIn F n Tryd.prog ops Q (o :: rest) a w :=
  wpListIn_step fun K hK => by
    rw [if_pos hgd]
    refine ⟨fun f hf => by simp [Oper.about, ho] at hf, ?_⟩
    rw [Oper.semAt_eq _ _ _ (by simp [ho])]
    have hl := run_eql85 p q hp hq w
    have he : (execOp a.eval o).run Tryd.prog w = .ok (.value (.bool (p == q))) w := by
      unfold execOp
      rw [ho]
      simp only [hx, hy]
      have hge : Tryd.prog.eqGuardType Tryd.prog.depth 85 = false := by kernel_rfl
      generalize leftA p = A at *
      generalize leftA q = B at *
      simp [eqGuard, binOp, hl, hge, go_sem]
    rw [he]
    exact hK _ _ h
structure Stopped (p : Prop) : Prop where
  out : p
theorem stop_at {F : Fence} {n : Nat} {ops : Array Oper} {rest : List Oper} {a : Act} {w : World} {Q : Exit → Act → World → Prop} (k : Nat) {op : Op} {t : TypeId} {g : Option (Nat × Bool)} {af : Array Edge} {ps : String}
    (h : Stopped (wpListIn F n Tryd.prog ops Q (⟨some k, op, t, ps, af, g⟩ :: rest) a w)) : wpListIn F n Tryd.prog ops Q (⟨some k, op, t, ps, af, g⟩ :: rest) a w := h.out
theorem stop_atw {ops : Array Oper} {rest : List Oper} {a : Act} {w : World} {Q : Exit → Act → World → Prop} (k : Nat) {op : Op} {t : TypeId} {g : Option (Nat × Bool)} {af : Array Edge} {ps : String}
    (h : Stopped (wpList Tryd.prog ops Q (⟨some k, op, t, ps, af, g⟩ :: rest) a w)) : wpList Tryd.prog ops Q (⟨some k, op, t, ps, af, g⟩ :: rest) a w := h.out
end Go.Proofs.YtlhnpbdpojcbeaaDoor
end
