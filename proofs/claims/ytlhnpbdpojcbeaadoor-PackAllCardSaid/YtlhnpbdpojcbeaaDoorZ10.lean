/- Lemmas of this proof, part 10. -/
import Derived.Test.YtlhnpbdpojcbeaaDoorZ0
import Derived.Test.YtlhnpbdpojcbeaaDoorZ1
import Derived.Test.YtlhnpbdpojcbeaaDoorZ2
import Derived.Test.YtlhnpbdpojcbeaaDoorZ3
import Derived.Test.YtlhnpbdpojcbeaaDoorZ4
import Derived.Test.YtlhnpbdpojcbeaaDoorZ5
import Derived.Test.YtlhnpbdpojcbeaaDoorZ6
import Derived.Test.YtlhnpbdpojcbeaaDoorZ7
import Derived.Test.YtlhnpbdpojcbeaaDoorZ8
import Derived.Test.YtlhnpbdpojcbeaaDoorZ9
import Derived.Deep.RegionWith
import Derived.WideKeyArr
import Derived.MapKept
import Derived.MapFrom
import Derived.RangeFuncRecord
import Derived.Deep.RegionHeld3
import Derived.Shelf.Spec.TrailingZeros
section
open Go Go.RowKit
namespace Go.Proofs.YtlhnpbdpojcbeaaDoor
open Go.Proofs.YtlhnpbdpojcbeaaDoorW.PrintWords
open PPackAll Go.Shelf
set_option linter.unusedVariables false
set_option linter.unusedSimpArgs false
def bestR (x : List (List S60)) (gs : List S68) (cl : List S49) : Option (List Int) := (eachF x gs cl (fun s _ _ => (true, s)) (bestF x gs) x.length 0 zeros8 none).2
def ClPost (cl : List S49) (W : World) (e : Ending) (V : World) : Prop := ∃ C cc, e = .returned (.slice C cl.length cc) ∧ k49.R 49 V W.heap.size (fun _ => True) (.slice C cl.length cc) cl ∧ Below W.heap.size W V
def SearchPost (bo b0 : Nat) (s : Option (List Int)) (w : World) (e : Ending) (V : World) : Prop := e = .returned (.tuple #[]) ∧ outJ bo s V ∧ Below b0 w V
def BestIs (s : Option (List Int)) (w : World) (e : Ending) (w' : World) : Prop :=
  ∃ v, e = .returned (.tuple #[v, .int .i64 (if s = none then 5 else 0)]) ∧ (Kd.int .i64).R 3 w' w.heap.size (fun _ => True) v (s.getD []) ∧ Below w.heap.size w w'
theorem search_best (A : Option Addr) (c : Nat) (x : List (List S60)) (B : Option Addr) (d : Nat) (gs : List S68) (cl : List S49) (w W : World) (C : Option Addr) (cc bm bx bo : Nat)
    (hx : Kd.C (Kd.slice 60 k60) w A x.length x) (hok : OkIdx x) (hg : k68.C w B gs.length gs) (hgo : OkGoals x gs) (hkc : ∀ k ∈ cl, OkClause x gs k)
    (hb : Below w.heap.size w W) (hc : k49.C W C cl.length cl) (hE : MkBox A c x.length B gs.length d bm bx W) (hJ : outJ bo none W) (h0 : w.heap.size ≤ bo) (h1 : bm < bo) (h2 : bx < bo)
    (hcb : ∀ V, Keep (fun k => k = bo ∨ W.heap.size ≤ k) W V → k49.C V C cl.length cl) :
    Calls Tryd.prog 32 #[.agg #[.slice A x.length c, .slice B gs.length d], .slice C cl.length cc, .func (.func 34) #[] #[], .func (.func 35) #[] #[.pointer (some ⟨bm, 0, none⟩), .pointer (some ⟨bx, 0, none⟩), .pointer (some ⟨bo, 0, none⟩)]] W
      (SearchPost bo bo (bestR x gs cl) W) := by
  have hbo := outJ_lt hJ
  have H : EachHyp A c x B d gs C cc cl (fun V => Below w.heap.size w V ∧ Keep (fun k => k = bo ∨ W.heap.size ≤ k) W V) (outJ bo) (fun k => k = bo) W.heap.size (fun s _ _ => (true, s)) (bestF x gs) (.func (.func 34) #[] #[]) (.func (.func 35) #[] #[.pointer (some ⟨bm, 0, none⟩), .pointer (some ⟨bx, 0, none⟩), .pointer (some ⟨bo, 0, none⟩)]) := by
    refine ⟨hok, hgo, hkc, fun V hV => ⟨Kd.C_below hx hV.1, Kd.C_below hg hV.1, hcb V hV.2⟩, fun b h => by omega, ?_, ?_, ?_, ?_⟩
    · intro V V' k1 k2 k3
      exact ⟨k3.1.trans (k2.below _ (by have := hb.size; omega) (fun k _ h => by have := hb.size; omega)), k3.2.trans2 k2 (fun k _ h => h)⟩
    · intro s V V' k1 k2 k3
      exact outJ_frm k3 k2 hbo
    · refine ⟨34, _, rfl, enters_of Tryd.func34 (by kernel_rfl) rfl, ?_⟩
      intro V s p many k1 k2 k3 hin k4 k5
      refine (always_calls p many V).mono ?_
      rintro e V' ⟨rfl, hb'⟩
      exact ⟨rfl, outJ_keep k5 (Keep.ofBelow hb' (fun _ => False)) (fun h => h) (fun _ _ _ _ h => h), Keep.ofBelow hb' _⟩
    · refine ⟨35, _, rfl, enters_of Tryd.func35 (by kernel_rfl) rfl, ?_⟩
      intro V s p k1 k2 hin k3 k4
      exact best1_calls A c x B d gs p V bm bx bo s (Kd.C_below hx k3.1) (Kd.C_below hg k3.1) hok hgo k2 hin (hE.keep k3.2 (by omega) (by omega)) k4 (by omega) (by omega)
  refine (each_calls A c x B d gs C cc cl _ _ _ _ _ _ _ W none H ⟨hb, Keep.refl _ _⟩ hJ).mono ?_
  rintro e V ⟨k1, k2, k3⟩
  exact ⟨k1, k2, k3.below _ (by omega) (fun k _ h => by omega)⟩
theorem search_best' (A : Option Addr) (c : Nat) (x : List (List S60)) (B : Option Addr) (d : Nat) (gs : List S68) (cl : List S49) (w W W5 : World) (C : Option Addr) (cc bm bx bo : Nat)
    (hx : Kd.C (Kd.slice 60 k60) w A x.length x) (hok : OkIdx x) (hg : k68.C w B gs.length gs) (hgo : OkGoals x gs) (hkc : ∀ k ∈ cl, OkClause x gs k)
    (hb5 : Below w.heap.size w W5) (hE : MkBox A c x.length B gs.length d bm bx W5) (hJ : outJ bo none W5) (h0 : w.heap.size ≤ bo) (h1 : bm < bo) (h2 : bx < bo)
    (hb : Below W5.heap.size W5 W) (hc : k49.R 49 W W5.heap.size (fun _ => True) (.slice C cl.length cc) cl) :
    Calls Tryd.prog 32 #[.agg #[.slice A x.length c, .slice B gs.length d], .slice C cl.length cc, .func (.func 34) #[] #[], .func (.func 35) #[] #[.pointer (some ⟨bm, 0, none⟩), .pointer (some ⟨bx, 0, none⟩), .pointer (some ⟨bo, 0, none⟩)]] W
      (SearchPost bo w.heap.size (bestR x gs cl) w) := by
  have hbo := outJ_lt hJ
  have rd : ∀ V, k49.R 49 V W5.heap.size (fun _ => True) (.slice C cl.length cc) cl → k49.C V C cl.length cl := by
    intro V h
    obtain ⟨C', cc', e, _, hr⟩ := Kd.R_reads h
    cases e
    exact hr
  refine (search_best A c x B d gs cl w W C cc bm bx bo hx hok hg hgo hkc (hb5.trans (hb.mono hb5.size)) (rd W hc) (hE.keep (Keep.ofBelow hb (fun _ => False)) (fun h => h) (fun h => h)) (outJ_keep hJ (Keep.ofBelow hb (fun _ => False)) (fun h => h) (fun _ _ _ _ h => h)) h0 h1 h2 ?_).mono ?_
  · intro V hk
    refine rd V (Kd.R_mono (Kd.R_step (Kd.R_bound hc) ?_) (fun _ _ => trivial))
    rintro k ⟨_, k1, k2, _⟩ _
    exact hk.block k k2 (by omega)
  · rintro e V ⟨k1, k2, k3⟩
    exact ⟨k1, k2, hb5.trans ((hb.mono hb5.size).trans (k3.mono h0))⟩
set_option maxHeartbeats 4000000 in
theorem Best_calls (A : Option Addr) (c : Nat) (x : List (List S60)) (B : Option Addr) (d : Nat) (gs : List S68) (w : World) (kf : Nat) (cl : List S49)
    (hx : Kd.C (Kd.slice 60 k60) w A x.length x) (hok : OkIdx x) (hg : k68.C w B gs.length gs) (hgo : OkGoals x gs) (hcx : x.length ≤ c) (hcg : gs.length ≤ d)
    (hcl : pack_market_clauses.f kf x gs = some cl) (hkc : ∀ k ∈ cl, OkClause x gs k) :
    Calls Tryd.prog 7 #[.agg #[.slice A x.length c], .slice B gs.length d] w (BestIs (bestR x gs cl) w) := by
  have hchk := fun (W : World) (hb : Below w.heap.size w W) => check_calls A c x B d gs W (Kd.C_below hx hb) hok (Kd.C_below hg hb) hgo
  have hcls : ∀ (W : World) (hb : Below w.heap.size w W), Calls Tryd.prog 33 #[.agg #[.slice A x.length c, .slice B gs.length d]] W (ClPost cl W) := by
    intro W hb
    refine (pack_market_clauses.calls kf A c x B d gs cl W (Kd.C_below hx hb) hcx (Kd.C_below hg hb) hcg hcl).mono ?_
    rintro e V ⟨v, rfl, ho, hb2⟩
    obtain ⟨C, cc, rfl, hlc, hrd⟩ := Kd.R_reads ho
    exact ⟨C, cc, rfl, Kd.R_mono ho (fun _ _ => trivial), hb2⟩
  have Hhchk := Lib.hid hchk
  have Hhcls := Lib.hid hcls
  have Hhx := Lib.hid hx
  have Hhok := Lib.hid hok
  have Hhg := Lib.hid hg
  have Hhgo := Lib.hid hgo
  have Hhcl := Lib.hid hcl
  have Hhkc := Lib.hid hkc
  clear hchk hcls hx hok hg hgo hcl hkc
  have fin : ∀ (V : World) (VA : Option Addr) (vn vc bo : Nat), outJ bo (bestR x gs cl) V → V.heap[bo]? = some (.cells #[.slice VA vn vc] 30 (0, 0)) → Below w.heap.size w V →
      w.heap.size ≤ bo → ∀ n : Int, n = (if VA = none then 5 else 0) → BestIs (bestR x gs cl) w (.returned (.tuple #[.slice VA vn vc, .int .i64 n])) V := by
    intro V VA vn vc bo hJ hb hw h0 n hn
    unfold BestIs
    cases hs : bestR x gs cl with
    | none =>
      rw [hs] at hJ
      have hJ' : V.heap[bo]? = some (.cells #[.slice none 0 0] 30 (0, 0)) := hJ
      rw [hb] at hJ'
      cases hJ'
      refine ⟨_, by rw [hn]; rfl, Kd.R_nil _ _ _ _ _, hw⟩
    | some l =>
      rw [hs] at hJ
      obtain ⟨v, h1, h2, h3⟩ := hJ
      rw [hb] at h1
      cases h1
      obtain ⟨A2, c2, e2, hl2, hr2⟩ := Kd.R_reads h2
      have hVA : VA ≠ none := by
        rintro rfl
        cases e2
        have := (C_none hr2).2
        omega
      refine ⟨_, by rw [hn, if_neg hVA]; rfl, Kd.R_mono (Kd.R_lower h2 (by omega)) (fun _ _ => trivial), hw⟩
  have Hfin := Lib.hid fin
  clear fin
  go_enter Tryd.func7, Tryd.ntmps7
  go_wp2_with fail
  refine (Hhchk.out _ (by (repeat (first | exact Below.refl _ _ | refine pw_below_drewN ?_ _ | refine below_drew ?_ | refine Below.alloc ?_ (by first | omega | (simp; done) | (simp; omega)) _ | refine Below.setCell ?_ (by first | omega | (simp; done) | (simp; omega)) _)))).mono ?_
  rintro e V1 ⟨rfl, hb⟩
  have b1 : Below w.heap.size w V1 := by
    refine Below.trans ?_ (hb.mono ?_)
    · (repeat (first | exact Below.refl _ _ | refine pw_below_drewN ?_ _ | refine below_drew ?_ | refine Below.alloc ?_ (by first | omega | (simp; done) | (simp; omega)) _ | refine Below.setCell ?_ (by first | omega | (simp; done) | (simp; omega)) _))
    · simp; try omega
  have d0 := hb.cell (p := ⟨w.heap.size, 0, none⟩) (by simp)
  simp at d0
  have l0 := World.block_lt_of_cell? V1 _ d0
  have Hb1 := Lib.hid b1
  clear b1
  clear hb
  obtain ⟨W5, hW5⟩ : ∃ W5, W5 = (V1.alloc (.cells #[.slice A x.length c, .slice B gs.length d] 73 (0, 0))).alloc (.cells #[.slice none 0 0] 30 (0, 0)) := ⟨_, rfl⟩
  have b5 : Below w.heap.size w W5 := by
    rw [hW5]; exact Hb1.out.trans (Below.mono (by (repeat (first | exact Below.refl _ _ | refine pw_below_drewN ?_ _ | refine below_drew ?_ | refine Below.alloc ?_ (by first | omega | (simp; done) | (simp; omega)) _ | refine Below.setCell ?_ (by first | omega | (simp; done) | (simp; omega)) _))) Hb1.out.size)
  have m0 : W5.cell? ⟨V1.heap.size, 0, none⟩ = some (.slice A x.length c) := by rw [hW5]; simp [go_sem]
  have m1 : W5.cell? ⟨V1.heap.size, 1, none⟩ = some (.slice B gs.length d) := by rw [hW5]; simp [go_sem]
  have m2 : W5.cell? ⟨w.heap.size, 0, none⟩ = some (.slice A x.length c) := by rw [hW5]; simp [go_sem, d0, l0]
  have j5 : outJ (V1.heap.size + 1) none W5 := by rw [hW5]; show _ = _; rw [heap_alloc_if, if_pos (by simp)]
  have l5 : V1.heap.size + 1 < W5.heap.size := outJ_lt j5
  have hs1 := Hb1.out.size
  have hsearch := fun (W : World) (C : Option Addr) (cc : Nat) => search_best' A c x B d gs cl w W W5 C cc V1.heap.size w.heap.size (V1.heap.size + 1) Hhx.out Hhok.out Hhg.out Hhgo.out Hhkc.out b5 ⟨m0, m1, m2⟩ j5 (by omega) (by omega) (by omega)
  have hcut := Lib.hid (show (V1.alloc (.cells #[.slice A x.length c, .slice B gs.length d] 73 (0, 0))).alloc (.cells #[.slice none 0 0] 30 (0, 0)) = W5 from hW5.symm)
  have hdrew : ∀ n, Below W5.heap.size W5 (W5.drewN n) := fun n => by (repeat (first | exact Below.refl _ _ | refine pw_below_drewN ?_ _ | refine below_drew ?_ | refine Below.alloc ?_ (by first | omega | (simp; done) | (simp; omega)) _ | refine Below.setCell ?_ (by first | omega | (simp; done) | (simp; omega)) _))
  have Hb5 := Lib.hid b5
  have Hhsearch := Lib.hid hsearch
  have Hj5 := Lib.hid j5
  have Hhdrew := Lib.hid hdrew
  clear b5 hsearch j5 hdrew
  clear hW5
  go_wp2_with fail
  rw [hcut.out]
  clear d0
  go_region_with (first
    | (go_at_call 33
       refine (Hhcls.out _ ?_).mono ?_
       · exact Hb5.out.trans ((Hhdrew.out 1).mono Hb5.out.size)
       rintro e V ⟨C, cc, rfl, hR, hb⟩
       have bV : Below W5.heap.size W5 V := (Hhdrew.out 1).trans (hb.mono (Nat.le_refl _))
       have n0 := pw_cell_below bV m0
       have n1 := pw_cell_below bV m1
       have hfn := Hhsearch.out V C cc bV hR
       have lV := bV.size
       have HbV := Lib.hid bV
       have Hfn := Lib.hid hfn
       clear hR hb bV hfn)
    | (go_at_call 32
       refine Hfn.out.mono ?_
       rintro e V2 ⟨rfl, hJ, hbw⟩
       have HJ := Lib.hid hJ
       have Hbw := Lib.hid hbw
       clear hJ hbw))
  all_goals
    obtain ⟨v, j0, VA, vn, vc, hv, j1, j2⟩ := outJ_box HJ.out
    subst hv
    obtain ⟨y0, y1⟩ := one_cell j0
    have lo := outJ_lt HJ.out
    have hnil := fun W => Lib.run_eql_slice_nil (P := Tryd.prog) W 30 3 VA vn vc 0 0 Tryd.underlying30
    have hres := Hfin.out V2 VA vn vc _ HJ.out j0 Hbw.out (by omega)
    have Hj0 := Lib.hid j0
    have Hj1 := Lib.hid j1
    have Hhres := Lib.hid hres
    clear j0 j1 hres
    clear m0 m1 m2
    rcases VA with _ | ad
    · have e := j2 rfl
      cases e
      clear j2
      go_wp2
      go_ret2
      exact Hhres.out _ rfl
    · clear j2
      go_wp2
      go_ret2
      exact Hhres.out _ rfl
end Go.Proofs.YtlhnpbdpojcbeaaDoor
end
section
open Go Go.RowKit
namespace Go.Proofs.YtlhnpbdpojcbeaaDoor
open Go.Proofs.YtlhnpbdpojcbeaaDoorW.PrintWords
open PPackAll Go.Shelf
theorem wf_i64 (a : Int) (h : -1 ≤ a ∧ a < 1000) : (Lit.int .i64 a).wf = true := by
  have e : IntKind.i64.min = -9223372036854775808 := rfl
  simp [Lit.wf, e]
  omega
theorem arr78 : Go.WideMaps.ArrKey Tryd.prog 78 3 8 := ⟨by kernel_rfl, by kernel_rfl, by kernel_rfl, by kernel_rfl⟩
theorem key78law : Go.WideMaps.KeyLaw Tryd.prog 78 := arr78.law
theorem lits3 (D : Nat) (a : Int) (h : (Lit.int .i64 a).wf = true) : Tryd.prog.keyLits (D + 1) 3 [.int .i64 a] = some [.int .i64 a] := by
  have e : Tryd.prog.underlying 3 = some (.int .i64) := Tryd.underlying3
  simp [Program.keyLits, e, h]
theorem key78 (q : List Int) (hq : q.length = 8) (hw : ∀ a ∈ q, -1 ≤ a ∧ a < 1000) : ∃ l, keyOf Tryd.prog 78 (planV q) = some l := by
  match q, hq with
  | [a0, a1, a2, a3, a4, a5, a6, a7], _ =>
    have e : Tryd.prog.underlying 78 = some (.array 8 3) := Tryd.underlying78
    have hk : Tryd.prog.keyType 78 = true := arr78.keyType ⟨_, rfl⟩
    have hf : (planV [a0, a1, a2, a3, a4, a5, a6, a7]).formed Tryd.prog 78 = true := by kernel_rfl
    have hc : Tryd.prog.cellsOf 78 = 8 := by kernel_rfl
    have hc3 : Tryd.prog.cellsOf 3 = 1 := by kernel_rfl
    obtain ⟨n, hn⟩ : ∃ n, Tryd.prog.types.size = n + 1 := ⟨_, rfl⟩
    have hl : ∃ ls, Tryd.prog.keyLits (Tryd.prog.types.size + 1) 78 (planV [a0, a1, a2, a3, a4, a5, a6, a7]).cells.toList = some ls := by
      rw [hn]
      have w0 := lits3 n a0 (wf_i64 _ (hw _ (by simp)))
      have w1 := lits3 n a1 (wf_i64 _ (hw _ (by simp)))
      have w2 := lits3 n a2 (wf_i64 _ (hw _ (by simp)))
      have w3 := lits3 n a3 (wf_i64 _ (hw _ (by simp)))
      have w4 := lits3 n a4 (wf_i64 _ (hw _ (by simp)))
      have w5 := lits3 n a5 (wf_i64 _ (hw _ (by simp)))
      have w6 := lits3 n a6 (wf_i64 _ (hw _ (by simp)))
      have w7 := lits3 n a7 (wf_i64 _ (hw _ (by simp)))
      have ec : (planV [a0, a1, a2, a3, a4, a5, a6, a7]).cells.toList = [.int .i64 a0, .int .i64 a1, .int .i64 a2, .int .i64 a3, .int .i64 a4, .int .i64 a5, .int .i64 a6, .int .i64 a7] := by simp [planV, planA, Value.cells]
      rw [ec]
      unfold Program.keyLits
      rw [e]
      simp [hc, hc3, List.range, List.range.loop, w0, w1, w2, w3, w4, w5, w6, w7]
    obtain ⟨ls, hls⟩ := hl
    unfold keyOf
    rw [e]
    dsimp only
    rw [if_pos (by rw [hk, hf]; rfl), hls]
    exact ⟨_, rfl⟩
def diffF (q old : List Int) : Nat := ((List.range 8).filter fun (i : Nat) => rd q i != rd old i).length
def small (q : List Int) : Prop := ∀ a ∈ q, -1 ≤ a ∧ a < 1000
def Memo (old : List Int) (es : List MapEntry) : Prop := ∀ e ∈ es, ∃ q : List Int, q.length = 8 ∧ small q ∧ e.key = planV q ∧ e.val = .int .i64 (diffF q old)
theorem Memo.keys {old : List Int} {es : List MapEntry} (h : Memo old es) : ∀ e ∈ es, ∃ l, keyOf Tryd.prog 78 e.key = some l := by
  intro e he
  obtain ⟨q, h1, h2, h3, _⟩ := h e he
  obtain ⟨l, hl⟩ := key78 q h1 h2
  exact ⟨l, by rw [h3]; exact hl⟩
theorem planV_inj {a b : List Int} (h : planV a = planV b) : a = b := by
  unfold planV planA at h
  injection h with h
  have h2 : a.map (Value.int .i64) = b.map (Value.int .i64) := by simpa using congrArg Array.toList h
  have : ∀ (a b : List Int), a.map (Value.int .i64) = b.map (Value.int .i64) → a = b := by
    intro a
    induction a with
    | nil => intro b h; cases b <;> simp_all
    | cons x a ih =>
      intro b h
      cases b with
      | nil => simp at h
      | cons y b =>
        simp at h
        rw [h.1, ih b (by simpa using h.2)]
  exact this a b h2
theorem under96 : Tryd.prog.underlying 96 = some (.map 78 3) := Tryd.underlying96
theorem memo_look {w : World} {b : Nat} {es : Array MapEntry} {clock : Nat} {old q : List Int} (hb : w.heap[b]? = some (.map es clock)) (hm : Memo old es.toList) (hq : q.length = 8) (hs : small q) :
    (Instr.lookup 96 (.map (some b)) (planV q) true).run Tryd.prog w = .ok (.tuple #[.int .i64 0, .bool false]) w ∨
    (Instr.lookup 96 (.map (some b)) (planV q) true).run Tryd.prog w = .ok (.tuple #[.int .i64 (diffF q old), .bool true]) w := by
  obtain ⟨l, hl⟩ := key78 q hq hs
  have hz : (zeroValue 3).run Tryd.prog w = .ok (.int .i64 0) w := by kernel_rfl
  rcases key78law.find w hl es.toList hm.keys with ⟨h1, h2⟩ | ⟨j, e0, h1, h2, h3⟩
  · exact .inl (by simp [Instr.lookup, run_underlying under96, MapKept.run_getObj_map hb, key78law.check w _ hl, h1, hz, Result.andThen])
  · obtain ⟨q', a1, a2, a3, a4⟩ := hm e0 (List.mem_of_getElem? h2)
    have e : q' = q := planV_inj (a3.symm.trans h3)
    subst e
    exact .inr (by simp [Instr.lookup, run_underlying under96, MapKept.run_getObj_map hb, key78law.check w _ hl, h1, Result.andThen, a4])
theorem memo_put {w : World} {b : Nat} {es : Array MapEntry} {clock : Nat} {old q : List Int} (hb : w.heap[b]? = some (.map es clock)) (hm : Memo old es.toList) (hq : q.length = 8) (hs : small q) :
    ∃ es' clock', (Instr.mapUpdate 96 (.map (some b)) (planV q) (.int .i64 (diffF q old))).run Tryd.prog w = .ok () (w.putObj b (.map es' clock')) ∧ Memo old es'.toList := by
  obtain ⟨l, hl⟩ := key78 q hq hs
  rcases key78law.find w hl es.toList hm.keys with ⟨h1, h2⟩ | ⟨j, e0, h1, h2, h3⟩
  · refine ⟨es.push ⟨planV q, .int .i64 (diffF q old), clock⟩, clock + 1, ?_, ?_⟩
    · simp [Instr.mapUpdate, run_underlying under96, MapKept.run_getObj_map hb, key78law.check w false hl, h1, MapKept.run_setObj_map _ hb, Result.andThen, World.putObj]
    · intro x hx
      simp only [Array.toList_push, List.mem_append, List.mem_singleton] at hx
      rcases hx with hx | rfl
      · exact hm x hx
      · exact ⟨q, hq, hs, rfl, rfl⟩
  · have hj : es[j]? = some e0 := by simpa using h2
    refine ⟨es.modify j (fun e' => { e' with key := planV q, val := .int .i64 (diffF q old) }), clock, ?_, ?_⟩
    · simp [Instr.mapUpdate, run_underlying under96, MapKept.run_getObj_map hb, key78law.check w false hl, h1, hj, h3, key78law.stays w hl, MapKept.run_setObj_map _ hb, Result.andThen, World.putObj]
    · intro x hx
      rcases MapFrom.mem_modify hx with hx | ⟨e', _, rfl⟩
      · exact hm x hx
      · exact ⟨q, hq, hs, rfl, rfl⟩
end Go.Proofs.YtlhnpbdpojcbeaaDoor
end
section
open Go Go.RowKit
namespace Go.Proofs.YtlhnpbdpojcbeaaDoor
open Go.Proofs.YtlhnpbdpojcbeaaDoorW.PrintWords
open PPackAll Go.Shelf
set_option linter.unusedVariables false
set_option linter.unusedSimpArgs false
def mixL (p old : List Int) (many k : Nat) : List Int := (List.range 8).map fun (i : Nat) => if many ≤ i ∧ i < k then rd old i else rd p i
theorem mixL_length (p old : List Int) (many k : Nat) : (mixL p old many k).length = 8 := by simp [mixL]
theorem mixL_rd (p old : List Int) (many k i : Nat) (hi : i < 8) : rd (mixL p old many k) i = if many ≤ i ∧ i < k then rd old i else rd p i := by
  conv => lhs; unfold rd mixL
  rw [Int.toNat_natCast, List.getD_eq_getElem?_getD]
  simp [hi]
theorem ext8 {a b : List Int} (ha : a.length = 8) (hb : b.length = 8) (h : ∀ i : Nat, i < 8 → rd a i = rd b i) : a = b := by
  apply List.ext_getElem (by omega)
  intro i h1 h2
  have := h i (by omega)
  unfold rd at this
  rw [Int.toNat_natCast, List.getD_eq_getElem?_getD, List.getD_eq_getElem?_getD] at this
  simpa [h1, h2] using this
theorem rd_set (p : List Int) (k : Nat) (v : Int) (hk : k < p.length) (i : Nat) : rd (p.set k v) i = if i = k then v else rd p i := by
  unfold rd
  rw [Int.toNat_natCast, List.getD_eq_getElem?_getD, List.getD_eq_getElem?_getD]
  by_cases hc : i = k
  · subst hc; simp [hk]
  · rw [if_neg hc, List.getElem?_set_ne (by omega)]
theorem mixL_start (p old : List Int) (many : Nat) (hp : p.length = 8) : mixL p old many many = p := by
  refine ext8 (mixL_length _ _ _ _) hp ?_
  intro i hi
  rw [mixL_rd _ _ _ _ _ hi, if_neg (by omega)]
theorem mixL_step (p old : List Int) (many k : Nat) (h1 : many ≤ k) (h2 : k < 8) : (mixL p old many k).set k (rd old k) = mixL p old many (k + 1) := by
  refine ext8 (by rw [List.length_set]; exact mixL_length _ _ _ _) (mixL_length _ _ _ _) ?_
  intro i hi
  rw [rd_set _ _ _ (by rw [mixL_length]; exact h2), mixL_rd _ _ _ _ _ hi, mixL_rd _ _ _ _ _ hi]
  by_cases hc : i = k
  · subst hc; rw [if_pos rfl, if_pos ⟨h1, by omega⟩]
  · rw [if_neg hc]
    by_cases h3 : many ≤ i ∧ i < k
    · rw [if_pos h3, if_pos ⟨h3.1, by omega⟩]
    · rw [if_neg h3, if_neg (by omega)]
theorem small_rd {q : List Int} (hq : small q) (hl : q.length = 8) (i : Nat) (hi : i < 8) : -1 ≤ rd q i ∧ rd q i < 1000 := by
  have : rd q i ∈ q := by
    unfold rd; rw [Int.toNat_natCast]; exact getD_mem _ _ _ (by omega)
  exact hq _ this
theorem small_of {q : List Int} (hl : q.length = 8) (h : ∀ i : Nat, i < 8 → -1 ≤ rd q i ∧ rd q i < 1000) : small q := by
  intro a ha
  obtain ⟨i, hi, rfl⟩ := List.mem_iff_getElem.1 ha
  have := h i (by omega)
  unfold rd at this
  rw [Int.toNat_natCast, List.getD_eq_getElem?_getD] at this
  simpa [hi] using this
def farF (old p : List Int) (many : Nat) : Nat := diffF (mixL p old many 8) old
def cntF (q old : List Int) (k : Nat) : Nat := ((List.range k).filter fun (i : Nat) => rd q i != rd old i).length
theorem cntF_succ (q old : List Int) (k : Nat) : cntF q old (k + 1) = cntF q old k + if rd q k != rd old k then 1 else 0 := by
  unfold cntF
  rw [List.range_succ, List.filter_append, List.length_append]
  simp only [List.filter_cons, List.filter_nil]
  split <;> simp_all
theorem cntF_le (q old : List Int) (k : Nat) : cntF q old k ≤ k := by
  unfold cntF
  exact Nat.le_trans (List.length_filter_le _ _) (by simp)
def MemoAt (old : List Int) (b : Nat) (W : World) : Prop := ∃ es clock, W.heap[b]? = some (.map es clock) ∧ Memo old es.toList
def FarPost (old p : List Int) (many b : Nat) (w : World) (e : Ending) (w' : World) : Prop :=
  e = .returned (.int .i64 (farF old p many)) ∧ MemoAt old b w' ∧ Keep (fun k => k = b) w w'
set_option maxHeartbeats 4000000 in
theorem far_calls (p old : List Int) (many bo bm b : Nat) (w : World) (hp : p.length = 8) (hold : old.length = 8) (hso : small old) (hm8 : many ≤ 8) (hsp : ∀ i : Nat, i < many → -1 ≤ rd p i ∧ rd p i < 1000)
    (h0 : w.heap[bo]? = some (.cells (planA old) 78 (0, 0))) (h1 : w.cell? ⟨bm, 0, none⟩ = some (.map (some b))) (h2 : MemoAt old b w) (hne : bo ≠ b) :
    Calls Tryd.prog 47 #[planV p, .int .i64 many, .pointer (some ⟨bo, 0, none⟩), .pointer (some ⟨bm, 0, none⟩)] w (FarPost old p many b w) := by
  have lo := (Array.getElem?_eq_some_iff.1 h0).1
  have lm := World.block_lt_of_cell? w _ h1
  have lb : b < w.heap.size := by obtain ⟨es, cl, hb, _⟩ := h2; exact (Array.getElem?_eq_some_iff.1 hb).1
  unfold planV
  generalize hP : planA p = P
  have HP := Lib.hid hP
  have Hh0 := Lib.hid h0
  have Hh2 := Lib.hid h2
  have Hhsp := Lib.hid hsp
  have Hhso := Lib.hid hso
  clear h0 h2 hsp hso
  clear hP
  go_enter Tryd.func47, Tryd.ntmps47
  go_wp2
  go_loopw [7] (fun v W => ∃ k : Nat, v = .int .i64 k ∧ many ≤ k ∧ k ≤ 8 ∧ Below w.heap.size w W ∧ W.heap[w.heap.size]? = some (.cells (planA (mixL p old many k)) 78 (0, 0)))
    (fun v _ => 8 - (intOf v).toNat)
  case atStart =>
    refine ⟨many, rfl, Nat.le_refl _, hm8, by (repeat (first | exact Below.refl _ _ | refine pw_below_drewN ?_ _ | refine below_drew ?_ | refine Below.alloc ?_ (by first | omega | (simp; done) | (simp; omega)) _ | refine Below.setCell ?_ (by first | omega | (simp; done) | (simp; omega)) _)), ?_⟩
    rw [heap_alloc_if, if_pos rfl, mixL_start p old many hp, HP.out]
  case round =>
    obtain ⟨k, rfl, hk0, hk, hb, q1⟩ := hrel
    obtain ⟨wi, hwi⟩ : ∃ wi, wi = wr := ⟨_, rfl⟩
    rw [← hwi] at hb q1 ⊢
    clear hwi
    have hbo := (hb.block bo lo).trans Hh0.out
    have hmb : MemoAt old b wi := by
      obtain ⟨es, cl, hb1, hb2⟩ := Hh2.out
      exact ⟨es, cl, (hb.block b lb).trans hb1, hb2⟩
    have hbm := pw_cell_below hb h1
    have hsz := hb.size
    rcases Nat.lt_or_ge k 8 with hlt | hge
    · obtain ⟨y1, y2⟩ := row_cell q1 k (by rw [mixL_length]; exact hlt)
      obtain ⟨x1, x2⟩ := row_cell hbo k (by omega)
      have s1 := setCell_row q1 k (rd old k)
      rw [mixL_step p old many k hk0 hlt] at s1
      have l1 : w.heap.size < wi.heap.size := (Array.getElem?_eq_some_iff.1 q1).1
      have Hhb := Lib.hid hb
      have Hq1 := Lib.hid q1
      have Hhbo := Lib.hid hbo
      have Hhmb := Lib.hid hmb
      have Hs1 := Lib.hid s1
      clear hb q1 hbo hmb s1
      go_wp2
      go_roundw
      case rel => exact ⟨k + 1, by go_num, by omega, by omega, Hhb.out.setCell (by simp) _, Hs1.out⟩
      case measure => first | (simp [intOf]; done) | (simp [intOf]; omega)
    · have hk8 : k = 8 := by omega
      have hge2 : ¬ ((k : Int) < 8) := by omega
      have l1 : w.heap.size < wi.heap.size := (Array.getElem?_eq_some_iff.1 q1).1
      have q2 : wi.heap[w.heap.size]? = some (.cells (planA (mixL p old many 8)) 78 (0, 0)) := by rw [q1, hk8]
      have hq8 := mixL_length p old many 8
      have hsm : small (mixL p old many 8) := by
        refine small_of hq8 (fun i hi => ?_)
        rw [mixL_rd _ _ _ _ _ hi]
        by_cases hc : many ≤ i ∧ i < 8
        · rw [if_pos hc]; exact small_rd Hhso.out hold i hi
        · rw [if_neg hc]; exact Hhsp.out i (by omega)
      have hfar : farF old p many = diffF (mixL p old many 8) old := rfl
      obtain ⟨es, cl, hb1, hb2⟩ := hmb
      have hlook := memo_look hb1 hb2 hq8 hsm
      have hput := memo_put (q := mixL p old many 8) hb1 hb2 hq8 hsm
      generalize mixL p old many 8 = q at q2 hq8 hsm hfar hlook hput
      clear q1
      have Hhb := Lib.hid hb
      have Hq2 := Lib.hid q2
      have Hhbo := Lib.hid hbo
      have Hhsm := Lib.hid hsm
      have Hhfar := Lib.hid hfar
      have Hhput := Lib.hid hput
      have Hhb1 := Lib.hid hb1
      have Hhb2 := Lib.hid hb2
      have Hhk8 := Lib.hid hk8
      clear hb q2 hbo hsm hfar hput hb1 hb2 hk8
      have hkw : ∀ V, Below wi.heap.size wi V → Keep (fun k => k = b) w V := fun V h => Keep.ofBelow (Hhb.out.trans (h.mono Hhb.out.size)) _
      have fin : ∀ V, MemoAt old b V → Keep (fun k => k = b) w V → FarPost old p many b w (.returned (.int .i64 (diffF q old))) V := fun V h1 h2 => ⟨by rw [Hhfar.out], h1, h2⟩
      have Hfin := Lib.hid fin
      have Hhkw := Lib.hid hkw
      clear fin hkw
      rcases hlook with hlook | hlook
      · go_wp2_with (refine ld78 (o := ⟨some 23, .load 78 _, _, _, _, _⟩) (by rfl) _ (by rfl) _ (by rfl) q 78 hq8 Hq2.out ?_)
        clear hlook
        go_loopw [8, 29] (fun v8 v29 W => ∃ i : Nat, v8 = .int .i64 (cntF q old i) ∧ v29 = .int .i64 i ∧ i ≤ 8 ∧ Below wi.heap.size wi W)
          (fun _ v29 _ => 8 - (intOf v29).toNat)
        case atStart => exact ⟨0, rfl, rfl, by omega, Below.refl _ _⟩
        case round =>
          obtain ⟨i, rfl, rfl, hi, hb9⟩ := hrel
          obtain ⟨wj, hwj⟩ : ∃ wj, wj = wr := ⟨_, rfl⟩
          rw [← hwj] at hb9 ⊢
          clear hwj
          have hc := cntF_le q old i
          have hcs := cntF_succ q old i
          rcases Nat.lt_or_ge i 8 with hlt | hge3
          · have q3 := (hb9.block _ l1).trans Hq2.out
            have bo3 := (hb9.block bo (by omega)).trans Hhbo.out
            obtain ⟨y1, y2⟩ := row_cell q3 i (by omega)
            obtain ⟨x1, x2⟩ := row_cell bo3 i (by omega)
            have ly := World.block_lt_of_cell? wj _ y1
            have lx := World.block_lt_of_cell? wj _ x1
            have hdr : ∀ n, Below wi.heap.size wi (wj.drewN n) := fun n => by exact pw_below_drewN hb9 n
            by_cases hne2 : rd q i = rd old i
            · have hneb : (rd q i != rd old i) = false := by simpa using hne2
              rw [hneb] at hcs
              have hcs2 : cntF q old (i + 1) = cntF q old i := by simpa using hcs
              have Hhdr := Lib.hid hdr
              have Hhb9 := Lib.hid hb9
              have Hq3 := Lib.hid q3
              have Hbo3 := Lib.hid bo3
              have Hhcs2 := Lib.hid hcs2
              have Hhne2 := Lib.hid hne2
              clear hdr hb9 q3 bo3 hcs2 hne2
              clear hcs
              go_wp2
              go_quiet (fail)
              go_wp2
              go_roundw
              case rel => exact ⟨i + 1, by rw [Hhcs2.out], by go_num, by omega, Hhdr.out _⟩
              case measure => first | (simp [intOf]; done) | (simp [intOf]; omega)
            · have hneb : (rd q i != rd old i) = true := by simpa using hne2
              rw [hneb] at hcs
              have hcs2 : cntF q old (i + 1) = cntF q old i + 1 := by simpa using hcs
              have Hhdr := Lib.hid hdr
              have Hhb9 := Lib.hid hb9
              have Hq3 := Lib.hid q3
              have Hbo3 := Lib.hid bo3
              have Hhcs2 := Lib.hid hcs2
              have Hhne2 := Lib.hid hne2
              clear hdr hb9 q3 bo3 hcs2 hne2
              clear hcs
              go_wp2
              go_quiet (fail)
              go_wp2
              go_roundw
              case rel => exact ⟨i + 1, by rw [Hhcs2.out]; go_num, by go_num, by omega, Hhdr.out _⟩
              case measure => first | (simp [intOf]; done) | (simp [intOf]; omega)
          · have hi8 : i = 8 := by omega
            have hn : ((cntF q old i : Nat) : Int) = ((diffF q old : Nat) : Int) := by rw [hi8]; rfl
            have q3 := (hb9.block _ l1).trans Hq2.out
            have hb3 := (hb9.block b (by omega)).trans Hhb1.out
            obtain ⟨es', cl', hrun, hm'⟩ := memo_put hb3 Hhb2.out hq8 Hhsm.out
            have hge4 : ¬ ((i : Int) < 8) := by omega
            have hbm3 := pw_cell_below hb9 hbm
            have hfin := Hfin.out (wj.putObj b (.map es' cl')) ⟨es', cl', World.putObj_heap_same (by have := hb9.size; omega), hm'⟩ ((Hhkw.out wj hb9).putObj (.inl rfl) _)
            rw [← hn] at hrun hfin
            have lm3 := World.block_lt_of_cell? wj _ hbm3
            have lq3 := (Array.getElem?_eq_some_iff.1 q3).1
            have Hq3 := Lib.hid q3
            have Hhb3 := Lib.hid hb3
            have Hhb9 := Lib.hid hb9
            have Hhfin := Lib.hid hfin
            have Hhi8 := Lib.hid hi8
            have Hhn := Lib.hid hn
            clear q3 hb3 hb9 hfin hi8 hn
            clear hcs hc
            go_wp2_with (refine ld78 (o := ⟨some 43, .load 78 _, _, _, _, _⟩) (by rfl) _ (by rfl) _ (by rfl) q 78 hq8 Hq3.out ?_)
            go_ret
            exact Hhfin.out
      · go_wp2_with (refine ld78 (o := ⟨some 23, .load 78 _, _, _, _, _⟩) (by rfl) _ (by rfl) _ (by rfl) q 78 hq8 Hq2.out ?_)
        go_ret
        exact Hfin.out _ ⟨es, cl, Hhb1.out, Hhb2.out⟩ (Hhkw.out _ (Below.refl _ _))
end Go.Proofs.YtlhnpbdpojcbeaaDoor
end
section
open Go Go.RowKit
namespace Go.Proofs.YtlhnpbdpojcbeaaDoor
open Go.Proofs.YtlhnpbdpojcbeaaDoorW.PrintWords
open PPackAll Go.Shelf
set_option linter.unusedVariables false
set_option linter.unusedSimpArgs false
structure NrBox (old : List Int) (bo bm b bf bb : Nat) (s : Nat) (W : World) : Prop where
  hbo : W.heap[bo]? = some (.cells (planA old) 78 (0, 0))
  hbm : W.cell? ⟨bm, 0, none⟩ = some (.map (some b))
  hb : MemoAt old b W
  hbf : W.cell? ⟨bf, 0, none⟩ = some (.func (.func 47) #[] #[.pointer (some ⟨bo, 0, none⟩), .pointer (some ⟨bm, 0, none⟩)])
  hbb : W.heap[bb]? = some (.cells #[.int .i64 s] 3 (0, 0))
theorem NrBox.below {old : List Int} {bo bm b bf bb s : Nat} {W W' : World} (h : NrBox old bo bm b bf bb s W) (hb : Below W.heap.size W W') : NrBox old bo bm b bf bb s W' := by
  obtain ⟨h1, h2, ⟨es, cl, h3, h3'⟩, h4, h5⟩ := h
  exact ⟨(hb.block _ (Array.getElem?_eq_some_iff.1 h1).1).trans h1, pw_cell_below hb h2, ⟨es, cl, (hb.block _ (Array.getElem?_eq_some_iff.1 h3).1).trans h3, h3'⟩, pw_cell_below hb h4, (hb.block _ (Array.getElem?_eq_some_iff.1 h5).1).trans h5⟩
theorem NrBox.put {old : List Int} {bo bm b bf bb s : Nat} {W W' : World} (h : NrBox old bo bm b bf bb s W) (hk : Keep (fun k => k = b) W W') (hm : MemoAt old b W') (n0 : bo ≠ b) (n1 : bm ≠ b) (n2 : bf ≠ b) (n3 : bb ≠ b) : NrBox old bo bm b bf bb s W' :=
  ⟨hk.at_ h.hbo n0, hk.cell h.hbm n1, hm, hk.cell h.hbf n2, hk.at_ h.hbb n3⟩
def AskRest (old : List Int) (bo bm b bf bb s pb : Nat) (p : List Int) (w W : World) : Prop := NrBox old bo bm b bf bb s W ∧ Keep (fun k => k = b) w W ∧ W.heap[pb]? = some (.cells (planA p) 78 (0, 0))
def AskS (old : List Int) (bo bm b bf bb s pb : Nat) (a0 a1 a2 a3 a4 a5 a6 a7 : Int) (w W : World) : Prop :=
  W.cell? ⟨bf, 0, none⟩ = some (.func (.func 47) #[] #[.pointer (some ⟨bo, 0, none⟩), .pointer (some ⟨bm, 0, none⟩)]) ∧ W.cell? ⟨bb, 0, none⟩ = some (.int .i64 s) ∧
  W.cell? ⟨pb, 0, none⟩ = some (.int .i64 a0) ∧ W.cell? ⟨pb, 1, none⟩ = some (.int .i64 a1) ∧ W.cell? ⟨pb, 2, none⟩ = some (.int .i64 a2) ∧ W.cell? ⟨pb, 3, none⟩ = some (.int .i64 a3) ∧ W.cell? ⟨pb, 4, none⟩ = some (.int .i64 a4) ∧ W.cell? ⟨pb, 5, none⟩ = some (.int .i64 a5) ∧ W.cell? ⟨pb, 6, none⟩ = some (.int .i64 a6) ∧ W.cell? ⟨pb, 7, none⟩ = some (.int .i64 a7) ∧ Hid (AskRest old bo bm b bf bb s pb [a0, a1, a2, a3, a4, a5, a6, a7] w W)
theorem AskRest.mk_ {old : List Int} {bo bm b bf bb s pb : Nat} {a0 a1 a2 a3 a4 a5 a6 a7 : Int} {w W : World} (h : AskRest old bo bm b bf bb s pb [a0, a1, a2, a3, a4, a5, a6, a7] w W) : AskS old bo bm b bf bb s pb a0 a1 a2 a3 a4 a5 a6 a7 w W := by
  obtain ⟨h1, h2, h3⟩ := h
  refine ⟨h1.hbf, (one_cell h1.hbb).1, (row_cell h3 0 (by simp)).1, (row_cell h3 1 (by simp)).1, (row_cell h3 2 (by simp)).1, (row_cell h3 3 (by simp)).1, (row_cell h3 4 (by simp)).1, (row_cell h3 5 (by simp)).1, (row_cell h3 6 (by simp)).1, (row_cell h3 7 (by simp)).1, Lib.hid ⟨h1, h2, h3⟩⟩
theorem AskRest.drewN {old : List Int} {bo bm b bf bb s pb : Nat} {p : List Int} {w W : World} (h : AskRest old bo bm b bf bb s pb p w W) (n : Nat) : AskRest old bo bm b bf bb s pb p w (W.drewN n) :=
  ⟨h.1.below (pw_below_drewN (Below.refl _ _) n), h.2.1.drewN n, h.2.2⟩
theorem list8 {p : List Int} (hp : p.length = 8) : ∃ a0 a1 a2 a3 a4 a5 a6 a7, p = [a0, a1, a2, a3, a4, a5, a6, a7] := by
  match p, hp with
  | [a0, a1, a2, a3, a4, a5, a6, a7], _ => exact ⟨a0, a1, a2, a3, a4, a5, a6, a7, rfl⟩
def FarPost' (F : Nat) (old : List Int) (b : Nat) (w : World) (e : Ending) (w' : World) : Prop := e = .returned (.int .i64 F) ∧ MemoAt old b w' ∧ Keep (fun k => k = b) w w'
set_option maxHeartbeats 4000000 in
theorem asks_calls (p old : List Int) (many bo bm b bf bb s : Nat) (w : World) (hp : p.length = 8) (hold : old.length = 8) (hso : small old) (hm8 : many ≤ 8) (hsp : ∀ i : Nat, i < many → -1 ≤ rd p i ∧ rd p i < 1000)
    (hE : NrBox old bo bm b bf bb s w) (n0 : bo ≠ b) (n1 : bm ≠ b) (n2 : bf ≠ b) (n3 : bb ≠ b) :
    Calls Tryd.prog 48 #[planV p, .int .i64 many, .pointer (some ⟨bf, 0, none⟩), .pointer (some ⟨bb, 0, none⟩)] w fun e w' =>
      e = .returned (.bool (decide (farF old p many < s))) ∧ MemoAt old b w' ∧ Keep (fun k => k = b) w w' := by
  have hfar : ∀ W, NrBox old bo bm b bf bb s W → Calls Tryd.prog 47 #[planV p, .int .i64 many, .pointer (some ⟨bo, 0, none⟩), .pointer (some ⟨bm, 0, none⟩)] W (FarPost' (farF old p many) old b W) :=
    fun W h => far_calls p old many bo bm b W hp hold hso hm8 hsp h.hbo h.hbm h.hb n0
  have lb : b < w.heap.size := by obtain ⟨es, cl, hb, _⟩ := hE.hb; exact (Array.getElem?_eq_some_iff.1 hb).1
  have lf := World.block_lt_of_cell? w _ hE.hbf
  have lbb := (Array.getElem?_eq_some_iff.1 hE.hbb).1
  generalize farF old p many = F at hfar ⊢
  obtain ⟨a0, a1, a2, a3, a4, a5, a6, a7, rfl⟩ := list8 hp
  · clear hp
    have hst : ∀ W, AskRest old bo bm b bf bb s w.heap.size [a0, a1, a2, a3, a4, a5, a6, a7] w W → ∀ W', FarPost' F old b W (.returned (.int .i64 F)) W' → AskRest old bo bm b bf bb s w.heap.size [a0, a1, a2, a3, a4, a5, a6, a7] w W' := by
      intro W h W' h'
      exact ⟨h.1.put h'.2.2 h'.2.1 n0 n1 n2 n3, h.2.1.trans h'.2.2, h'.2.2.at_ h.2.2 (by show w.heap.size ≠ b; omega)⟩
    have h0 : AskRest old bo bm b bf bb s w.heap.size [a0, a1, a2, a3, a4, a5, a6, a7] w (w.alloc (.cells #[.int .i64 a0, .int .i64 a1, .int .i64 a2, .int .i64 a3, .int .i64 a4, .int .i64 a5, .int .i64 a6, .int .i64 a7] 78 (0, 0))) := by
      refine ⟨hE.below (by (repeat (first | exact Below.refl _ _ | refine pw_below_drewN ?_ _ | refine below_drew ?_ | refine Below.alloc ?_ (by first | omega | (simp; done) | (simp; omega)) _ | refine Below.setCell ?_ (by first | omega | (simp; done) | (simp; omega)) _))), (Keep.refl _ _).alloc _, ?_⟩
      rw [heap_alloc_if, if_pos rfl]; rfl
    have h1 := AskRest.mk_ (h0.drewN 1)
    have ep : planV [a0, a1, a2, a3, a4, a5, a6, a7] = .agg #[.int .i64 a0, .int .i64 a1, .int .i64 a2, .int .i64 a3, .int .i64 a4, .int .i64 a5, .int .i64 a6, .int .i64 a7] := rfl
    rw [ep] at hfar ⊢
    have Hr1 := Lib.hid (h0.drewN 1)
    have Hhfar := Lib.hid hfar
    have Hhst := Lib.hid hst
    have Hh0 := Lib.hid h0
    have Hh1 := Lib.hid h1
    have HhE := Lib.hid hE
    clear hfar hst h0 h1 hE
    clear hso hsp
    go_enter Tryd.func48, Tryd.ntmps48
    go_wp2_with fail
    go_region_held3 (fun W => W.cell? ⟨bf, 0, none⟩ = some (.func (.func 47) #[] #[.pointer (some ⟨bo, 0, none⟩), .pointer (some ⟨bm, 0, none⟩)]) ∧ W.cell? ⟨bb, 0, none⟩ = some (.int .i64 s) ∧ W.cell? ⟨w.heap.size, 0, none⟩ = some (.int .i64 a0) ∧ W.cell? ⟨w.heap.size, 1, none⟩ = some (.int .i64 a1) ∧ W.cell? ⟨w.heap.size, 2, none⟩ = some (.int .i64 a2) ∧ W.cell? ⟨w.heap.size, 3, none⟩ = some (.int .i64 a3) ∧ W.cell? ⟨w.heap.size, 4, none⟩ = some (.int .i64 a4) ∧ W.cell? ⟨w.heap.size, 5, none⟩ = some (.int .i64 a5) ∧ W.cell? ⟨w.heap.size, 6, none⟩ = some (.int .i64 a6) ∧ W.cell? ⟨w.heap.size, 7, none⟩ = some (.int .i64 a7) ∧ Hid (AskRest old bo bm b bf bb s w.heap.size [a0, a1, a2, a3, a4, a5, a6, a7] w W)) (first | exact Hh1.out | exact Hh2.out) (first
      | (go_at_call 47
         refine (Hhfar.out _ ?_).mono ?_
         · exact Hr1.out.1
         rintro e V ⟨rfl, hm, hk⟩
         have r2 := Hhst.out _ Hr1.out V ⟨rfl, hm, hk⟩
         have Hr2 := Lib.hid r2
         have Hh2 := Lib.hid (AskRest.mk_ r2)
         clear hm hk r2))
    go_wp2
    go_ret
    exact ⟨rfl, Hr2.out.1.hb, Hr2.out.2.1⟩
def TellRest (old : List Int) (bo bm b bf bb bk bx bt : Nat) (A : Option Addr) (c nx : Nat) (B : Option Addr) (ng d pb : Nat) (p : List Int) (w W : World) : Prop :=
  (∃ s, NrBox old bo bm b bf bb s W) ∧ MkBox A c nx B ng d bk bx W ∧ (∃ o, outJ bt o W) ∧ Keep (fun k => k = b ∨ k = bb ∨ k = bt) w W ∧ W.heap[pb]? = some (.cells (planA p) 78 (0, 0))
theorem TellRest.below {old : List Int} {bo bm b bf bb bk bx bt : Nat} {A : Option Addr} {c nx : Nat} {B : Option Addr} {ng d pb : Nat} {p : List Int} {w W W' : World}
    (h : TellRest old bo bm b bf bb bk bx bt A c nx B ng d pb p w W) (hb : Below W.heap.size W W') : TellRest old bo bm b bf bb bk bx bt A c nx B ng d pb p w W' := by
  obtain ⟨⟨s, h1⟩, h2, ⟨o, h3⟩, h4, h5⟩ := h
  exact ⟨⟨s, h1.below hb⟩, h2.keep (Keep.ofBelow hb (fun _ => False)) (fun h => h) (fun h => h), ⟨o, outJ_keep h3 (Keep.ofBelow hb (fun _ => False)) (fun h => h) (fun _ _ _ _ h => h)⟩, h4.trans (Keep.ofBelow hb _), (hb.block _ (Array.getElem?_eq_some_iff.1 h5).1).trans h5⟩
def NrJ (old : List Int) (bo bm b bf bb bt : Nat) (s : Nat × Option (List Int)) (W : World) : Prop := NrBox old bo bm b bf bb s.1 W ∧ outJ bt s.2 W
section
variable {old : List Int} {bo bm b bf bb bk bx bt : Nat} {A : Option Addr} {c nx : Nat} {B : Option Addr} {ng d pb : Nat} {w W : World}
theorem TellRest.mk_ {a0 a1 a2 a3 a4 a5 a6 a7 : Int} (h : TellRest old bo bm b bf bb bk bx bt A c nx B ng d pb [a0, a1, a2, a3, a4, a5, a6, a7] w W) : W.cell? ⟨bx, 0, none⟩ = some (.slice A nx c) ∧ W.cell? ⟨bf, 0, none⟩ = some (.func (.func 47) #[] #[.pointer (some ⟨bo, 0, none⟩), .pointer (some ⟨bm, 0, none⟩)]) ∧ W.cell? ⟨pb, 0, none⟩ = some (.int .i64 a0) ∧ W.cell? ⟨pb, 1, none⟩ = some (.int .i64 a1) ∧ W.cell? ⟨pb, 2, none⟩ = some (.int .i64 a2) ∧ W.cell? ⟨pb, 3, none⟩ = some (.int .i64 a3) ∧ W.cell? ⟨pb, 4, none⟩ = some (.int .i64 a4) ∧ W.cell? ⟨pb, 5, none⟩ = some (.int .i64 a5) ∧ W.cell? ⟨pb, 6, none⟩ = some (.int .i64 a6) ∧ W.cell? ⟨pb, 7, none⟩ = some (.int .i64 a7) ∧ Hid (TellRest old bo bm b bf bb bk bx bt A c nx B ng d pb [a0, a1, a2, a3, a4, a5, a6, a7] w W) := by
  obtain ⟨⟨s, h1⟩, h2, h3, h4, h5⟩ := h
  refine ⟨h2.2.2, h1.hbf, (row_cell h5 0 (by simp)).1, (row_cell h5 1 (by simp)).1, (row_cell h5 2 (by simp)).1, (row_cell h5 3 (by simp)).1, (row_cell h5 4 (by simp)).1, (row_cell h5 5 (by simp)).1, (row_cell h5 6 (by simp)).1, (row_cell h5 7 (by simp)).1, Lib.hid ⟨⟨s, h1⟩, h2, h3, h4, h5⟩⟩
variable {p : List Int} (ho : bx < bk ∧ bk < bo ∧ bo < bb ∧ bb < b ∧ b < bm ∧ bm < bf ∧ bf < bt ∧ bt < pb)
include ho
theorem TellRest.far_ {W' : World} (h : TellRest old bo bm b bf bb bk bx bt A c nx B ng d pb p w W) (hm : MemoAt old b W') (hk : Keep (fun k => k = b) W W') : TellRest old bo bm b bf bb bk bx bt A c nx B ng d pb p w W' := by
  obtain ⟨⟨s, h1⟩, h2, ⟨o, h3⟩, h4, h5⟩ := h
  obtain ⟨es, cl, hb1, hb2⟩ := h1.hb
  exact ⟨⟨s, h1.put hk hm (by omega) (by omega) (by omega) (by omega)⟩, h2.keep hk (by omega) (by omega), ⟨o, outJ_keep h3 hk (by omega) (fun k cs _ hc hkb => by subst hkb; rw [hb1] at hc; cases hc)⟩,
    h4.trans (hk.mono (fun _ _ h => .inl h)), hk.at_ h5 (by omega)⟩
theorem TellRest.R_far {W' : World} (h : TellRest old bo bm b bf bb bk bx bt A c nx B ng d pb p w W) (hk : Keep (fun k => k = b) W W') {v : Value} {l : List Int} (hR : (Kd.int .i64).R 3 W (bt + 1) (fun k => bt < k) v l) :
    (Kd.int .i64).R 3 W' (bt + 1) (fun k => bt < k) v l :=
  Kd.R_step hR (fun k hk' hlt => hk.block k hlt (by have : bt < k := hk'; omega))
theorem TellRest.st_b (h : TellRest old bo bm b bf bb bk bx bt A c nx B ng d pb p w W) (n : Nat) : TellRest old bo bm b bf bb bk bx bt A c nx B ng d pb p w (W.setCell ⟨bb, 0, none⟩ (.int .i64 n)) := by
  obtain ⟨⟨s, h1⟩, h2, ⟨o, h3⟩, h4, h5⟩ := h
  have hk : Keep (fun k => k = bb) W (W.setCell ⟨bb, 0, none⟩ (.int .i64 n)) := (Keep.refl (fun k => k = bb) _).setCell (p := ⟨bb, 0, none⟩) (.inl rfl) _
  obtain ⟨es, cl, hb1, hb2⟩ := h1.hb
  have hbb := heap_setCell_same W bb 0 _ _ (.int .i64 n) h1.hbb
  refine ⟨⟨n, hk.at_ h1.hbo (by omega), hk.cell h1.hbm (by show ¬ bm = bb; omega), ⟨es, cl, hk.at_ hb1 (by omega), hb2⟩, hk.cell h1.hbf (by show ¬ bf = bb; omega), by simpa using hbb⟩, h2.keep hk (by omega) (by omega),
    ⟨o, outJ_keep h3 hk (by omega) (fun k cs hlt hc hkb => by omega)⟩, h4.trans (hk.mono (fun _ _ h => .inr (.inl h))), hk.at_ h5 (by omega)⟩
theorem TellRest.st_t (h : TellRest old bo bm b bf bb bk bx bt A c nx B ng d pb p w W) {v : Value} {l : List Int} (hR : (Kd.int .i64).R 3 W (bt + 1) (fun k => bt < k) v l) (hl : 0 < l.length) :
    TellRest old bo bm b bf bb bk bx bt A c nx B ng d pb p w (W.setCell ⟨bt, 0, none⟩ v) ∧ outJ bt (some l) (W.setCell ⟨bt, 0, none⟩ v) := by
  obtain ⟨⟨s, h1⟩, h2, ⟨o, h3⟩, h4, h5⟩ := h
  have hk : Keep (fun k => k = bt) W (W.setCell ⟨bt, 0, none⟩ v) := (Keep.refl (fun k => k = bt) _).setCell (p := ⟨bt, 0, none⟩) (.inl rfl) _
  obtain ⟨es, cl, hb1, hb2⟩ := h1.hb
  obtain ⟨v0, hv0, _⟩ := outJ_box h3
  have hbt := heap_setCell_same W bt 0 _ _ v hv0
  have hj : outJ bt (some l) (W.setCell ⟨bt, 0, none⟩ v) := ⟨v, by simpa using hbt, Kd.R_far (p := ⟨bt, 0, none⟩) hR (fun k hk => by have : bt < k := hk; show k ≠ bt; omega) _, hl⟩
  refine ⟨⟨⟨s, hk.at_ h1.hbo (by omega), hk.cell h1.hbm (by show ¬ bm = bt; omega), ⟨es, cl, hk.at_ hb1 (by omega), hb2⟩, hk.cell h1.hbf (by show ¬ bf = bt; omega), hk.at_ h1.hbb (by omega)⟩, h2.keep hk (by omega) (by omega),
    ⟨_, hj⟩, h4.trans (hk.mono (fun _ _ h => .inr (.inr h))), hk.at_ h5 (by omega)⟩, hj⟩
theorem TellRest.end_ (h : TellRest old bo bm b bf bb bk bx bt A c nx B ng d pb p w W) {v : Value} {l : List Int} (hR : (Kd.int .i64).R 3 W (bt + 1) (fun k => bt < k) v l) (hl : 0 < l.length) (n : Nat) :
    NrJ old bo bm b bf bb bt (n, some l) ((W.setCell ⟨bt, 0, none⟩ v).setCell ⟨bb, 0, none⟩ (.int .i64 n)) ∧ Keep (fun k => k = b ∨ k = bb ∨ k = bt) w ((W.setCell ⟨bt, 0, none⟩ v).setCell ⟨bb, 0, none⟩ (.int .i64 n)) := by
  obtain ⟨h1, h2⟩ := TellRest.st_t ho h hR hl
  have h3 := TellRest.st_b ho h1 n
  obtain ⟨⟨s0, g0⟩, _, _, _, _⟩ := h1
  obtain ⟨⟨s, g1⟩, g2, g3, g4, g5⟩ := h3
  have hbb := heap_setCell_same _ bb 0 _ _ (.int .i64 n) g0.hbb
  have hk : Keep (fun k => k = bb) (W.setCell ⟨bt, 0, none⟩ v) ((W.setCell ⟨bt, 0, none⟩ v).setCell ⟨bb, 0, none⟩ (.int .i64 n)) := (Keep.refl (fun k => k = bb) _).setCell (p := ⟨bb, 0, none⟩) (.inl rfl) _
  exact ⟨⟨⟨g1.hbo, g1.hbm, g1.hb, g1.hbf, by simpa using hbb⟩, outJ_keep h2 hk (by omega) (fun k cs hlt hc hkb => by omega)⟩, g4⟩
omit ho in
theorem TellRest.cells_ (h : TellRest old bo bm b bf bb bk bx bt A c nx B ng d pb p w W) : ∃ (s : Nat) (v : Value), W.cell? ⟨bb, 0, none⟩ = some (.int .i64 s) ∧ W.frozen? ⟨bb, 0, none⟩ = false ∧ W.cell? ⟨bt, 0, none⟩ = some v ∧ W.frozen? ⟨bt, 0, none⟩ = false := by
  obtain ⟨⟨s, h1⟩, h2, ⟨o, h3⟩, h4, h5⟩ := h
  obtain ⟨v0, hv0, _⟩ := outJ_box h3
  exact ⟨s, v0, (one_cell h1.hbb).1, (one_cell h1.hbb).2, (one_cell hv0).1, (one_cell hv0).2⟩
end
theorem clone_val {w' : World} {base bt : Nat} {v : Value} {l : List Int} (h : (Kd.int .i64).R 3 w' base (fun k => base ≤ k) v l) (hl : 0 < l.length) (hb : bt < base) {n : Nat} (hn : l.length = n) : ∃ ad c, v = .slice (some ad) n c ∧ (Kd.int .i64).R 3 w' (bt + 1) (fun k => bt < k) (.slice (some ad) n c) l := by
  subst hn
  obtain ⟨A2, c2, e2, hl2, hr2⟩ := Kd.R_reads h
  rcases A2 with _ | ad2
  · have := (C_none hr2).2; omega
  · subst e2
    exact ⟨ad2, c2, rfl, Kd.R_mono (Kd.R_lower h (by omega)) (fun k hk => by show bt < k; have : base ≤ k := hk; omega)⟩
def nearF (x : List (List S60)) (gs : List S68) (old : List Int) (s : Nat × Option (List Int)) (p : List Int) : Bool × (Nat × Option (List Int)) :=
  if faultF x gs p = (0, 0) then (true, (farF old p x.length, some (p.take x.length))) else (true, s)
set_option maxHeartbeats 4000000 in
theorem tells_calls (A : Option Addr) (c : Nat) (x : List (List S60)) (B : Option Addr) (d : Nat) (gs : List S68) (p old : List Int) (bo bm b bf bb bk bx bt : Nat) (s : Nat × Option (List Int)) (w : World)
    (hx : Kd.C (Kd.slice 60 k60) w A x.length x) (hg : k68.C w B gs.length gs) (hok : OkIdx x) (hgo : OkGoals x gs) (hp : p.length = 8) (hpl : InP x p x.length)
    (hold : old.length = 8) (hso : small old) (hE : MkBox A c x.length B gs.length d bk bx w) (hJ : NrJ old bo bm b bf bb bt s w)
    (hd : bx < bk ∧ bk < bo ∧ bo < bb ∧ bb < b ∧ b < bm ∧ bm < bf ∧ bf < bt) :
    Calls Tryd.prog 49 #[planV p, .pointer (some ⟨bk, 0, none⟩), .pointer (some ⟨bx, 0, none⟩), .pointer (some ⟨bf, 0, none⟩), .pointer (some ⟨bt, 0, none⟩), .pointer (some ⟨bb, 0, none⟩)] w fun e w' =>
      e = .returned (.bool (nearF x gs old s p).1) ∧ NrJ old bo bm b bf bb bt (nearF x gs old s p).2 w' ∧ Keep (fun k => k = b ∨ k = bb ∨ k = bt) w w' := by
  have h8 := hok.2.1
  have h1 := hok.1
  have hsp : ∀ i : Nat, i < x.length → -1 ≤ rd p i ∧ rd p i < 1000 := fun i hi => by
    have := hpl i hi
    have h5 := (hok.2.2 i hi).1
    omega
  have hfar : ∀ W s, NrBox old bo bm b bf bb s W → Calls Tryd.prog 47 #[planV p, .int .i64 x.length, .pointer (some ⟨bo, 0, none⟩), .pointer (some ⟨bm, 0, none⟩)] W (FarPost' (farF old p x.length) old b W) :=
    fun W s h => far_calls p old x.length bo bm b W hp hold hso h8 hsp h.hbo h.hbm h.hb (by omega)
  have hflt := fun (W : World) (hb : Below w.heap.size w W) => fault_calls A c x B d gs p W (Kd.C_below hx hb) (Kd.C_below hg hb) hok hgo hp hpl
  have hcl := fun (W : World) (hW : W.heap[w.heap.size]? = some (.cells (planA p) 78 (0, 0))) => clone3_calls (some ⟨w.heap.size, 0, none⟩) 8 (p.take x.length) W (take_reads hW x.length (by omega) (by omega)) (by simp; omega)
  have hlen : (p.take x.length).length = x.length := by simp; omega
  rw [hlen] at hcl
  have hrow : ∀ V, Below (w.alloc (.cells (planA p) 78 (0, 0))).heap.size (w.alloc (.cells (planA p) 78 (0, 0))) V → V.heap[w.heap.size]? = some (.cells (planA p) 78 (0, 0)) := fun V hb =>
    (hb.block _ (by simp)).trans (by rw [heap_alloc_if, if_pos rfl])
  have hb1 : Below w.heap.size w (w.alloc (.cells (planA p) 78 (0, 0))) := by (repeat (first | exact Below.refl _ _ | refine pw_below_drewN ?_ _ | refine below_drew ?_ | refine Below.alloc ?_ (by first | omega | (simp; done) | (simp; omega)) _ | refine Below.setCell ?_ (by first | omega | (simp; done) | (simp; omega)) _))
  have lt1 := outJ_lt hJ.2
  have lx := World.block_lt_of_cell? w _ hE.2.2
  have lk := World.block_lt_of_cell? w _ hE.1
  have fin : ∀ (V : World) (q : Bool × (Nat × Option (List Int))), nearF x gs old s p = q → NrJ old bo bm b bf bb bt q.2 V → Keep (fun k => k = b ∨ k = bb ∨ k = bt) w V →
      (q.1 = (nearF x gs old s p).1 ∧ NrJ old bo bm b bf bb bt (nearF x gs old s p).2 V ∧ Keep (fun k => k = b ∨ k = bb ∨ k = bt) w V) := by
    intro V q he hj hk; rw [he]; exact ⟨rfl, hj, hk⟩
  obtain ⟨e0, e1, e2⟩ := hE
  have hE : MkBox A c x.length B gs.length d bk bx w := ⟨e0, e1, e2⟩
  generalize hF : farF old p x.length = F at hfar
  obtain ⟨a0, a1, a2, a3, a4, a5, a6, a7, rfl⟩ := list8 hp
  clear hp
  have ep : planA [a0, a1, a2, a3, a4, a5, a6, a7] = #[.int .i64 a0, .int .i64 a1, .int .i64 a2, .int .i64 a3, .int .i64 a4, .int .i64 a5, .int .i64 a6, .int .i64 a7] := rfl
  have ep2 : planV [a0, a1, a2, a3, a4, a5, a6, a7] = .agg #[.int .i64 a0, .int .i64 a1, .int .i64 a2, .int .i64 a3, .int .i64 a4, .int .i64 a5, .int .i64 a6, .int .i64 a7] := rfl
  have hsl := fun W => slice78 ⟨w.heap.size, 0, none⟩ x.length h8 W
  by_cases hz : faultF x gs [a0, a1, a2, a3, a4, a5, a6, a7] = (0, 0)
  · have e : nearF x gs old s [a0, a1, a2, a3, a4, a5, a6, a7] = (true, (farF old [a0, a1, a2, a3, a4, a5, a6, a7] x.length, some ([a0, a1, a2, a3, a4, a5, a6, a7].take x.length))) := by unfold nearF; rw [if_pos hz]
    have fin2 := fun V => fin V _ e
    rw [hz, ep2] at hflt
    rw [ep2] at hfar ⊢
    rw [ep] at hrow hb1
    have Hhfar := Lib.hid hfar
    have Hhflt := Lib.hid hflt
    have Hhcl := Lib.hid hcl
    have Hhrow := Lib.hid hrow
    have Hhb1 := Lib.hid hb1
    have Hfin2 := Lib.hid fin2
    have Hfin := Lib.hid fin
    have HhE := Lib.hid hE
    have HhJ := Lib.hid hJ
    have He := Lib.hid e
    have HhF := Lib.hid hF
    have Hhz := Lib.hid hz
    clear hfar hflt hcl hrow hb1 fin2 fin hE hJ e hF hz
    clear hx hg hok hgo hpl hso hsp ep ep2
    go_enter Tryd.func49, Tryd.ntmps49
    go_wp2_with fail
    refine (Hhflt.out _ Hhb1.out).mono ?_
    rintro en V ⟨rfl, hb⟩
    have hbV : Below w.heap.size w V := Hhb1.out.trans (hb.mono (by simp))
    have rV := Hhrow.out V hb
    have f0 := pw_cell_below hbV e2
    have ht0 : TellRest old bo bm b bf bb bk bx bt A c x.length B gs.length d w.heap.size [a0, a1, a2, a3, a4, a5, a6, a7] w V :=
      ⟨⟨s.1, HhJ.out.1.below hbV⟩, HhE.out.keep (Keep.ofBelow hbV (fun _ => False)) (fun h => h) (fun h => h), ⟨s.2, outJ_keep HhJ.out.2 (Keep.ofBelow hbV (fun _ => False)) (fun h => h) (fun _ _ _ _ h => h)⟩, Keep.ofBelow hbV _, rV⟩
    have ho : bx < bk ∧ bk < bo ∧ bo < bb ∧ bb < b ∧ b < bm ∧ bm < bf ∧ bf < bt ∧ bt < w.heap.size := by omega
    have ht1 := ht0.below (pw_below_drewN (Below.refl _ V) 1)
    have hs1 := TellRest.mk_ ht1
    have hl0 : 0 < ([a0, a1, a2, a3, a4, a5, a6, a7].take x.length).length := by omega
    have hsV : w.heap.size ≤ V.heap.size := hbV.size
    have HhbV := Lib.hid hbV
    have HrV := Lib.hid rV
    have Hht0 := Lib.hid ht0
    have Hht1 := Lib.hid ht1
    have Hhs1 := Lib.hid hs1
    have Hho := Lib.hid ho
    have Hhl0 := Lib.hid hl0
    clear hbV rV ht0 ht1 hs1 ho hl0
    clear hb e0 e1
    go_wp2_with fail
    go_region_held3 (fun W => W.cell? ⟨bx, 0, none⟩ = some (.slice A x.length c) ∧ W.cell? ⟨bf, 0, none⟩ = some (.func (.func 47) #[] #[.pointer (some ⟨bo, 0, none⟩), .pointer (some ⟨bm, 0, none⟩)]) ∧ W.cell? ⟨w.heap.size, 0, none⟩ = some (.int .i64 a0) ∧ W.cell? ⟨w.heap.size, 1, none⟩ = some (.int .i64 a1) ∧ W.cell? ⟨w.heap.size, 2, none⟩ = some (.int .i64 a2) ∧ W.cell? ⟨w.heap.size, 3, none⟩ = some (.int .i64 a3) ∧ W.cell? ⟨w.heap.size, 4, none⟩ = some (.int .i64 a4) ∧ W.cell? ⟨w.heap.size, 5, none⟩ = some (.int .i64 a5) ∧ W.cell? ⟨w.heap.size, 6, none⟩ = some (.int .i64 a6) ∧ W.cell? ⟨w.heap.size, 7, none⟩ = some (.int .i64 a7) ∧ Hid (TellRest old bo bm b bf bb bk bx bt A c x.length B gs.length d w.heap.size [a0, a1, a2, a3, a4, a5, a6, a7] w W)) (first | exact Hhs1.out | exact HcS.out | exact HfS.out | exact TellRest.mk_ (TellRest.st_t Hho.out (by first | exact HfT.out | exact HcT.out) (by first | exact HfR.out | exact HcR.out) Hhl0.out).1 | exact TellRest.mk_ (TellRest.st_b Hho.out (TellRest.st_t Hho.out (by first | exact HfT.out | exact HcT.out) (by first | exact HfR.out | exact HcR.out) Hhl0.out).1 _) | exact TellRest.mk_ (TellRest.st_b Hho.out (by first | exact HfT.out | exact HcT.out) _) | exact TellRest.mk_ (TellRest.st_t Hho.out (TellRest.st_b Hho.out (by first | exact HfT.out | exact HcT.out) _) (by first | exact HfR.out | exact HcR.out) Hhl0.out).1) (first
      | (go_at_call 37
         refine (Hhcl.out _ ?_).mono ?_
         · first | exact HfT.out.2.2.2.2 | exact Hht1.out.2.2.2.2
         rintro en V2 ⟨v2, rfl, hR, hb2⟩
         have HcT := Lib.hid (TellRest.below (by first | exact HfT.out | exact Hht1.out) hb2)
         have HcS := Lib.hid (TellRest.mk_ HcT.out)
         obtain ⟨ad2, c2, rfl, hR2⟩ := clone_val (bt := bt) hR Hhl0.out (by first | (have := HfT.out.2.2.2.1.size; have := Hho.out; omega) | (have := Hho.out; have := hsV; have := hb2.size; show bt < V.heap.size; omega)) hlen
         have HcR := Lib.hid hR2
         obtain ⟨s2, v0, yb0, yb1, yt0, yt1⟩ := HcT.out.cells_
         clear hR hb2 hR2)
      | (go_at_call 47
         obtain ⟨s3, hnb⟩ : ∃ s3, NrBox old bo bm b bf bb s3 _ := by first | exact HcT.out.1 | exact Hht1.out.1
         refine (Hhfar.out _ s3 hnb).mono ?_
         rintro en V2 ⟨rfl, hm, hk⟩
         have HfT := Lib.hid (TellRest.far_ Hho.out (by first | exact HcT.out | exact Hht1.out) hm hk)
         have HfS := Lib.hid (TellRest.mk_ HfT.out)
         try have HfR := Lib.hid (TellRest.R_far Hho.out HcT.out hk HcR.out)
         obtain ⟨s2, v0, yb0, yb1, yt0, yt1⟩ := HfT.out.cells_
         clear hm hk hnb))
    have hE2 := TellRest.end_ Hho.out (by first | exact HfT.out | exact HcT.out) (by first | exact HfR.out | exact HcR.out) Hhl0.out F
    obtain ⟨q0, q1, q2⟩ := Hfin2.out _ (by rw [HhF.out]; exact hE2.1) hE2.2
    have Hq := Lib.hid (And.intro q0 (And.intro q1 q2))
    clear hE2 q0 q1 q2
    go_wp2
    go_ret
    exact ⟨by (rw [← Hq.out.1]; try rfl), Hq.out.2.1, Hq.out.2.2⟩
  · have e : nearF x gs old s [a0, a1, a2, a3, a4, a5, a6, a7] = (true, s) := by unfold nearF; rw [if_neg hz]
    have fin2 := fun V => fin V _ e
    have hne : ((faultF x gs [a0, a1, a2, a3, a4, a5, a6, a7]).1 == 0) = false := by
      rw [beq_eq_false_iff_ne]; exact fun h => hz (faultF_zero x gs _ h)
    rw [ep2] at hflt
    rw [ep2] at hfar ⊢
    rw [ep] at hrow hb1
    generalize faultF x gs [a0, a1, a2, a3, a4, a5, a6, a7] = ff at hflt hne
    obtain ⟨f1, f2⟩ := ff
    have Hhfar := Lib.hid hfar
    have Hhflt := Lib.hid hflt
    have Hhcl := Lib.hid hcl
    have Hhrow := Lib.hid hrow
    have Hhb1 := Lib.hid hb1
    have Hfin2 := Lib.hid fin2
    have Hfin := Lib.hid fin
    have HhE := Lib.hid hE
    have HhJ := Lib.hid hJ
    have He := Lib.hid e
    have HhF := Lib.hid hF
    have Hhz := Lib.hid hz
    clear hfar hflt hcl hrow hb1 fin2 fin hE hJ e hF hz
    clear hx hg hok hgo hpl hso hsp ep ep2
    go_enter Tryd.func49, Tryd.ntmps49
    go_wp2_with fail
    refine (Hhflt.out _ Hhb1.out).mono ?_
    rintro en V ⟨rfl, hb⟩
    have hbV : Below w.heap.size w V := Hhb1.out.trans (hb.mono (by simp))
    obtain ⟨q0, q1, q2⟩ := Hfin2.out V ⟨HhJ.out.1.below hbV, outJ_keep HhJ.out.2 (Keep.ofBelow hbV (fun _ => False)) (fun h => h) (fun _ _ _ _ h => h)⟩ (Keep.ofBelow hbV _)
    have Hq := Lib.hid (And.intro q0 (And.intro q1 q2))
    have HhbV := Lib.hid hbV
    clear hbV
    clear hb e0 e1 q0 q1 q2
    go_wp2
    go_ret
    exact ⟨by (rw [← Hq.out.1]; try rfl), Hq.out.2.1, Hq.out.2.2⟩
end Go.Proofs.YtlhnpbdpojcbeaaDoor
end
section
open Go Go.RowKit
namespace Go.Proofs.YtlhnpbdpojcbeaaDoor
open Go.Proofs.YtlhnpbdpojcbeaaDoorW.PrintWords
open PPackAll Go.Shelf
set_option linter.unusedVariables false
set_option linter.unusedSimpArgs false
theorem NrBox.keep {old : List Int} {bo bm b bf bb s : Nat} {S : Nat → Prop} {W W' : World} (h : NrBox old bo bm b bf bb s W) (hk : Keep S W W') (n0 : ¬ S bo) (n1 : ¬ S bm) (n2 : ¬ S b) (n3 : ¬ S bf) (n4 : ¬ S bb) : NrBox old bo bm b bf bb s W' := by
  obtain ⟨h1, h2, ⟨es, cl, h3, h3'⟩, h4, h5⟩ := h
  exact ⟨hk.at_ h1 n0, hk.cell h2 n1, ⟨es, cl, hk.at_ h3 n2, h3'⟩, hk.cell h4 n3, hk.at_ h5 n4⟩
def askF (old : List Int) (s : Nat × Option (List Int)) (p : List Int) (many : Nat) : Bool × (Nat × Option (List Int)) := (decide (farF old p many < s.1), s)
def nearR (x : List (List S60)) (gs : List S68) (old : List Int) (cl : List S49) : Nat × Option (List Int) := (eachF x gs cl (askF old) (nearF x gs old) x.length 0 zeros8 (x.length + 1, none)).2
def NearPost (old : List Int) (bo bm b bf bb bt b0 : Nat) (s : Nat × Option (List Int)) (w W : World) (e : Ending) (V : World) : Prop := e = .returned (.tuple #[]) ∧ NrJ old bo bm b bf bb bt s V ∧ Below b0 w V ∧ Keep (fun k => k = b ∨ k = bb ∨ k = bt) W V
theorem search_near (A : Option Addr) (c : Nat) (x : List (List S60)) (B : Option Addr) (d : Nat) (gs : List S68) (old : List Int) (cl : List S49) (w W W5 : World) (C : Option Addr) (cc bo bm b bf bb bk bx bt : Nat)
    (hx : Kd.C (Kd.slice 60 k60) w A x.length x) (hok : OkIdx x) (hg : k68.C w B gs.length gs) (hgo : OkGoals x gs) (hkc : ∀ k ∈ cl, OkClause x gs k)
    (hold : old.length = 8) (hso : small old)
    (hb5 : Below w.heap.size w W5) (hE5 : MkBox A c x.length B gs.length d bk bx W5) (hJ5 : NrJ old bo bm b bf bb bt (x.length + 1, none) W5)
    (ho : bx < bk ∧ bk < bo ∧ bo < bb ∧ bb < b ∧ b < bm ∧ bm < bf ∧ bf < bt) (hwb : w.heap.size ≤ bb)
    (hb : Below W5.heap.size W5 W) (hc : k49.R 49 W W5.heap.size (fun _ => True) (.slice C cl.length cc) cl) :
    Calls Tryd.prog 32 #[.agg #[.slice A x.length c, .slice B gs.length d], .slice C cl.length cc, .func (.func 48) #[] #[.pointer (some ⟨bf, 0, none⟩), .pointer (some ⟨bb, 0, none⟩)], .func (.func 49) #[] #[.pointer (some ⟨bk, 0, none⟩), .pointer (some ⟨bx, 0, none⟩), .pointer (some ⟨bf, 0, none⟩), .pointer (some ⟨bt, 0, none⟩), .pointer (some ⟨bb, 0, none⟩)]] W
      (NearPost old bo bm b bf bb bt w.heap.size (nearR x gs old cl) w W) := by
  have hbt5 := outJ_lt hJ5.2
  have hrd : ∀ V, k49.R 49 V W5.heap.size (fun _ => True) (.slice C cl.length cc) cl → k49.C V C cl.length cl := by
    intro V h
    obtain ⟨C', cc', e, _, hr⟩ := Kd.R_reads h
    cases e
    exact hr
  have kb : Keep (fun _ => False) W5 W := Keep.ofBelow hb _
  have hE : MkBox A c x.length B gs.length d bk bx W := hE5.keep kb (fun h => h) (fun h => h)
  have hJ : NrJ old bo bm b bf bb bt (x.length + 1, none) W := ⟨hJ5.1.keep kb (fun h => h) (fun h => h) (fun h => h) (fun h => h) (fun h => h), outJ_keep hJ5.2 kb (fun h => h) (fun _ _ _ _ h => h)⟩
  have hbw : Below w.heap.size w W := hb5.trans (hb.mono hb5.size)
  have hsz := hb.size
  have hbt := outJ_lt hJ.2
  have hsW := hbw.size
  have hok2 := hok
  obtain ⟨h1, h8, hrel⟩ := hok2
  have hsm : ∀ p many, many ≤ x.length → InP x p many → ∀ i : Nat, i < many → -1 ≤ rd p i ∧ rd p i < 1000 := by
    intro p many hm h i hi
    have := h i hi
    have h5 := (hrel i (by omega)).1
    omega
  have H : EachHyp A c x B d gs C cc cl (fun V => Below w.heap.size w V ∧ Keep (fun k => (k = b ∨ k = bb ∨ k = bt) ∨ W.heap.size ≤ k) W V) (NrJ old bo bm b bf bb bt) (fun k => k = b ∨ k = bb ∨ k = bt) W.heap.size (askF old) (nearF x gs old)
      (.func (.func 48) #[] #[.pointer (some ⟨bf, 0, none⟩), .pointer (some ⟨bb, 0, none⟩)]) (.func (.func 49) #[] #[.pointer (some ⟨bk, 0, none⟩), .pointer (some ⟨bx, 0, none⟩), .pointer (some ⟨bf, 0, none⟩), .pointer (some ⟨bt, 0, none⟩), .pointer (some ⟨bb, 0, none⟩)]) := by
    refine ⟨hok, hgo, hkc, fun V hV => ⟨Kd.C_below hx hV.1, Kd.C_below hg hV.1, ?_⟩, fun b h => by omega, ?_, ?_, ?_, ?_⟩
    · refine hrd V (Kd.R_mono (Kd.R_step (Kd.R_bound hc) ?_) (fun _ _ => trivial))
      rintro k ⟨_, k1, k2, _⟩ _
      exact hV.2.block k k2 (by omega)
    · intro V V' k1 k2 k3
      exact ⟨k3.1.trans (k2.below _ (by omega) (fun k _ h => by omega)), k3.2.trans2 k2 (fun k _ h => h)⟩
    · intro s V V' k1 k2 k3
      exact ⟨k3.1.keep k2 (fun h => by have := h.1; omega) (fun h => by have := h.1; omega) (fun h => by have := h.1; omega) (fun h => by have := h.1; omega) (fun h => by have := h.1; omega), outJ_frm k3.2 k2 hbt⟩
    · refine ⟨48, _, rfl, enters_of Tryd.func48 (by kernel_rfl) rfl, ?_⟩
      intro V s p many k1 k2 k3 hin k4 k5
      refine (asks_calls p old many bo bm b bf bb s.1 V k2 hold hso (by omega) (hsm p many k3 hin) k5.1 (by omega) (by omega) (by omega) (by omega)).mono ?_
      rintro e V' ⟨rfl, hm, hk⟩
      obtain ⟨es, cl', hb1, hb2⟩ := k5.1.hb
      exact ⟨rfl, ⟨k5.1.put hk hm (by omega) (by omega) (by omega) (by omega), outJ_keep k5.2 hk (by omega) (fun k cs _ hc hkb => by subst hkb; rw [hb1] at hc; cases hc)⟩, hk.mono (fun _ _ h => .inl h)⟩
    · refine ⟨49, _, rfl, enters_of Tryd.func49 (by kernel_rfl) rfl, ?_⟩
      intro V s p k1 k2 hin k3 k4
      exact tells_calls A c x B d gs p old bo bm b bf bb bk bx bt s V (Kd.C_below hx k3.1) (Kd.C_below hg k3.1) hok hgo k2 hin hold hso (hE.keep k3.2 (by omega) (by omega)) k4 ho
  refine (each_calls A c x B d gs C cc cl _ _ _ _ _ _ _ W (x.length + 1, none) H ⟨hbw, Keep.refl _ _⟩ hJ).mono ?_
  rintro e V ⟨k1, k2, k3⟩
  exact ⟨k1, k2, hbw.trans (k3.below _ (by omega) (fun k _ h => by omega)), k3⟩
theorem run_makeMap96 (W : World) : (Instr.makeMap 96 none).run Tryd.prog W = .ok (.map (some W.heap.size)) (W.alloc (.map #[] 0)) := by
  have e : Tryd.prog.underlying 96 = some (.map 78 3) := Tryd.underlying96
  first | kernel_rfl | (simp [Instr.makeMap, run_underlying e, go_sem]; done)
attribute [local go_sem] run_makeMap96
theorem near_boxes (V : World) (old : List Int) (bo n : Nat) (hbo : V.heap[bo]? = some (.cells (planA old) 78 (0, 0))) :
    NrJ old bo (V.heap.size + 1 + 1) (V.heap.size + 1) (V.heap.size + 1 + 1 + 1) V.heap.size (V.heap.size + 1 + 1 + 1 + 1) (n + 1, none) (((((V.alloc (.cells #[.int .i64 ((n : Int) + 1)] 3 (0, 0))).alloc (.map #[] 0)).alloc (.cells #[.map (some (V.heap.size + 1))] 96 (0, 0))).alloc (.cells #[.func (.func 47) #[] #[.pointer (some ⟨bo, 0, none⟩), .pointer (some ⟨V.heap.size + 1 + 1, 0, none⟩)]] 98 (0, 0))).alloc (.cells #[.slice none 0 0] 30 (0, 0))) := by
  have lo := (Array.getElem?_eq_some_iff.1 hbo).1
  refine ⟨⟨?_, ?_, ⟨#[], 0, ?_, fun e he => by simp at he⟩, ?_, ?_⟩, ?_⟩
  · rw [heap_alloc_if, if_neg (by first | omega | (simp; done) | (simp; omega)), heap_alloc_if, if_neg (by first | omega | (simp; done) | (simp; omega)), heap_alloc_if, if_neg (by first | omega | (simp; done) | (simp; omega)), heap_alloc_if, if_neg (by first | omega | (simp; done) | (simp; omega)), heap_alloc_if, if_neg (by first | omega | (simp; done) | (simp; omega))]
    exact hbo
  · refine (one_cell (t := 96) ?_).1
    rw [heap_alloc_if, if_neg (by first | omega | (simp; done) | (simp; omega)), heap_alloc_if, if_neg (by first | omega | (simp; done) | (simp; omega)), heap_alloc_if, if_pos (by simp)]
  · rw [heap_alloc_if, if_neg (by first | omega | (simp; done) | (simp; omega)), heap_alloc_if, if_neg (by first | omega | (simp; done) | (simp; omega)), heap_alloc_if, if_neg (by first | omega | (simp; done) | (simp; omega)), heap_alloc_if, if_pos (by simp)]
  · refine (one_cell (t := 98) ?_).1
    rw [heap_alloc_if, if_neg (by first | omega | (simp; done) | (simp; omega)), heap_alloc_if, if_pos (by simp)]
  · rw [heap_alloc_if, if_neg (by first | omega | (simp; done) | (simp; omega)), heap_alloc_if, if_neg (by first | omega | (simp; done) | (simp; omega)), heap_alloc_if, if_neg (by first | omega | (simp; done) | (simp; omega)), heap_alloc_if, if_neg (by first | omega | (simp; done) | (simp; omega)), heap_alloc_if, if_pos (by simp)]
    simp
  · show _ = _
    rw [heap_alloc_if, if_pos (by simp)]
def NearIs (s : Nat × Option (List Int)) (w : World) (e : Ending) (w' : World) : Prop :=
  ∃ v, e = .returned (.tuple #[v, .int .i64 (if s.2 = none then 0 else s.1), .int .i64 (if s.2 = none then 5 else 0)]) ∧ (Kd.int .i64).R 3 w' w.heap.size (fun _ => True) v (s.2.getD []) ∧ Below w.heap.size w w'
set_option maxHeartbeats 4000000 in
theorem Closest_calls (A : Option Addr) (c : Nat) (x : List (List S60)) (B : Option Addr) (d : Nat) (gs : List S68) (L : Option Addr) (ll : Nat) (l : List Int) (w : World) (kf : Nat) (cl : List S49)
    (hx : Kd.C (Kd.slice 60 k60) w A x.length x) (hok : OkIdx x) (hg : k68.C w B gs.length gs) (hgo : OkGoals x gs) (hcx : x.length ≤ c) (hcg : gs.length ≤ d)
    (hl : Kd.C (Kd.int .i64) w L l.length l) (hlen : l.length = x.length) (hr : ∀ i, i < l.length → -1 ≤ rd l i ∧ rd l i < ((x.getD i []).length : Int))
    (hcl : pack_market_clauses.f kf x gs = some cl) (hkc : ∀ k ∈ cl, OkClause x gs k) :
    Calls Tryd.prog 13 #[.agg #[.slice A x.length c], .slice B gs.length d, .slice L l.length ll] w (NearIs (nearR x gs (pad l) cl) w) := by
  have h8 := hok.2.1
  have h5 := hok.2.2
  have hpl : (pad l).length = 8 := pad_length l (by omega)
  have hso : small (pad l) := by
    refine small_of hpl (fun i hi => ?_)
    unfold rd pad
    rw [Int.toNat_natCast, List.getD_eq_getElem?_getD]
    by_cases hc : i < l.length
    · rw [List.getElem?_append_left hc]
      have := hr i hc
      unfold rd at this
      rw [Int.toNat_natCast, List.getD_eq_getElem?_getD] at this
      have := (h5 i (by omega)).1
      omega
    · rw [List.getElem?_append_right (by omega)]
      rw [List.getElem?_replicate]
      split <;> simp
  have hchk := fun (W : World) (hb : Below w.heap.size w W) => check_calls A c x B d gs W (Kd.C_below hx hb) hok (Kd.C_below hg hb) hgo
  have hpln := fun (W : World) (hb : Below w.heap.size w W) => planned_calls A c x B gs.length d L ll l W (Kd.C_below hx hb) hok (Kd.C_below hl hb) hlen hr
  have hcls : ∀ (W : World) (hb : Below w.heap.size w W), Calls Tryd.prog 33 #[.agg #[.slice A x.length c, .slice B gs.length d]] W (ClPost cl W) := by
    intro W hb
    refine (pack_market_clauses.calls kf A c x B d gs cl W (Kd.C_below hx hb) hcx (Kd.C_below hg hb) hcg hcl).mono ?_
    rintro e V ⟨v, rfl, ho, hb2⟩
    obtain ⟨C, cc, rfl, hlc, hrd⟩ := Kd.R_reads ho
    exact ⟨C, cc, rfl, Kd.R_mono ho (fun _ _ => trivial), hb2⟩
  have hst : ∀ V : World, (V.alloc (.cells #[.int .i64 0, .int .i64 0, .int .i64 0, .int .i64 0, .int .i64 0, .int .i64 0, .int .i64 0, .int .i64 0] 78 (0, 0))).heap[V.heap.size]? = some (.cells (planA (List.replicate 8 0)) 78 (0, 0)) := by
    intro V; rw [heap_alloc_if, if_pos rfl, planA_zero]
  have Hhchk := Lib.hid hchk
  have Hhpln := Lib.hid hpln
  have Hhcls := Lib.hid hcls
  have Hhx := Lib.hid hx
  have Hhok := Lib.hid hok
  have Hhg := Lib.hid hg
  have Hhgo := Lib.hid hgo
  have Hhcl := Lib.hid hcl
  have Hhkc := Lib.hid hkc
  have Hhlen := Lib.hid hlen
  have Hhso := Lib.hid hso
  have Hhst := Lib.hid hst
  clear hchk hpln hcls hx hok hg hgo hcl hkc hlen hso hst
  clear hl hr h5
  have fin : ∀ (V : World) (VA : Option Addr) (vn vc bt : Nat), outJ bt (nearR x gs (pad l) cl).2 V → V.heap[bt]? = some (.cells #[.slice VA vn vc] 30 (0, 0)) → Below w.heap.size w V →
      w.heap.size ≤ bt → ∀ n k : Int, n = (if VA = none then 0 else ((nearR x gs (pad l) cl).1 : Int)) → k = (if VA = none then 5 else 0) →
      NearIs (nearR x gs (pad l) cl) w (.returned (.tuple #[.slice VA vn vc, .int .i64 n, .int .i64 k])) V ∧ ∀ m, NearIs (nearR x gs (pad l) cl) w (.returned (.tuple #[.slice VA vn vc, .int .i64 n, .int .i64 k])) (V.drewN m) := by
    intro V VA vn vc bt hJ hb hw h0 n k hn hk
    have main : NearIs (nearR x gs (pad l) cl) w (.returned (.tuple #[.slice VA vn vc, .int .i64 n, .int .i64 k])) V := by
      unfold NearIs
      generalize nearR x gs (pad l) cl = sr at *
      obtain ⟨s1, s2⟩ := sr
      cases s2 with
      | none =>
        have hJ' : V.heap[bt]? = some (.cells #[.slice none 0 0] 30 (0, 0)) := hJ
        rw [hb] at hJ'
        cases hJ'
        exact ⟨_, by rw [hn, hk]; rfl, Kd.R_nil _ _ _ _ _, hw⟩
      | some l =>
        obtain ⟨v, h1, h2, h3⟩ := hJ
        rw [hb] at h1
        cases h1
        obtain ⟨A2, c2, e2, hl2, hr2⟩ := Kd.R_reads h2
        have hVA : VA ≠ none := by
          rintro rfl
          cases e2
          have := (C_none hr2).2
          omega
        exact ⟨_, by rw [hn, hk, if_neg hVA, if_neg hVA]; rfl, Kd.R_mono (Kd.R_lower h2 (by omega)) (fun _ _ => trivial), hw⟩
    refine ⟨main, fun m => ?_⟩
    obtain ⟨v, e, hR, hb2⟩ := main
    exact ⟨v, e, Kd.R_below hR (pw_below_drewN (Below.refl _ _) m), pw_below_drewN hb2 m⟩
  have Hfin := Lib.hid fin
  clear fin
  go_enter Tryd.func13, Tryd.ntmps13
  go_wp2_with fail
  refine (Hhchk.out _ (by (repeat (first | exact Below.refl _ _ | refine pw_below_drewN ?_ _ | refine below_drew ?_ | refine Below.alloc ?_ (by first | omega | (simp; done) | (simp; omega)) _ | refine Below.setCell ?_ (by first | omega | (simp; done) | (simp; omega)) _)))).mono ?_
  rintro e V1 ⟨rfl, hb⟩
  have b1 : Below w.heap.size w V1 := by
    refine Below.trans ?_ (hb.mono ?_)
    · (repeat (first | exact Below.refl _ _ | refine pw_below_drewN ?_ _ | refine below_drew ?_ | refine Below.alloc ?_ (by first | omega | (simp; done) | (simp; omega)) _ | refine Below.setCell ?_ (by first | omega | (simp; done) | (simp; omega)) _))
    · simp; try omega
  have d0 := hb.cell (p := ⟨w.heap.size, 0, none⟩) (by simp)
  simp at d0
  have l0 := World.block_lt_of_cell? V1 _ d0
  have Hb1 := Lib.hid b1
  clear b1
  clear hb
  go_wp2_with fail
  refine (Hhpln.out _ ?_).mono ?_
  · exact Hb1.out.trans (Below.mono (by (repeat (first | exact Below.refl _ _ | refine pw_below_drewN ?_ _ | refine below_drew ?_ | refine Below.alloc ?_ (by first | omega | (simp; done) | (simp; omega)) _ | refine Below.setCell ?_ (by first | omega | (simp; done) | (simp; omega)) _))) Hb1.out.size)
  rintro e V2 ⟨rfl, hb⟩
  have b2 : Below w.heap.size w V2 := by
    refine Hb1.out.trans (Below.mono (Below.trans ?_ (hb.mono ?_)) Hb1.out.size)
    · (repeat (first | exact Below.refl _ _ | refine pw_below_drewN ?_ _ | refine below_drew ?_ | refine Below.alloc ?_ (by first | omega | (simp; done) | (simp; omega)) _ | refine Below.setCell ?_ (by first | omega | (simp; done) | (simp; omega)) _))
    · simp; try omega
  have m0 := hb.cell (p := ⟨V1.heap.size, 0, none⟩) (by simp)
  have m1 := hb.cell (p := ⟨V1.heap.size, 1, none⟩) (by simp)
  have m2 := pw_cell_below (((Below.refl V1.heap.size V1).alloc (Nat.le_refl _) _).trans (hb.mono (by simp))) d0
  simp [go_sem] at m0 m1
  have l1 := World.block_lt_of_cell? V2 _ m0
  have Hb2 := Lib.hid b2
  clear b2
  clear hb d0 Hhchk Hhpln
  go_wp2_with (refine st78w (o := ⟨none, .store 78 _ _, _, _, _, _⟩) (by rfl) _ _ (by rfl) V2.heap.size (by rfl) (List.replicate 8 0) (pad l) 78 (by rfl) hpl (by rfl) (Hhst.out V2) ?_)
  intro V3 r3 k3
  have b3 : Below V2.heap.size V2 V3 := (((Below.refl _ V2).alloc (Nat.le_refl _) _).trans (k3.below _ (by simp) (fun k h1 h2 => by omega)))
  have n0 := pw_cell_below b3 m0
  have n1 := pw_cell_below b3 m1
  have n2 := pw_cell_below b3 m2
  have hbV3 : Below w.heap.size w V3 := Hb2.out.trans (b3.mono Hb2.out.size)
  have l3 : V2.heap.size < V3.heap.size := (Array.getElem?_eq_some_iff.1 r3).1
  have l4 := World.block_lt_of_cell? V3 _ n2
  have Hr3 := Lib.hid r3
  have HhbV3 := Lib.hid hbV3
  clear r3 hbV3
  clear k3 b3 m0 m1 m2 Hhst
  obtain ⟨W5, hW5⟩ : ∃ W5, W5 = ((((V3.alloc (.cells #[.int .i64 ((x.length : Int) + 1)] 3 (0, 0))).alloc (.map #[] 0)).alloc (.cells #[.map (some (V3.heap.size + 1))] 96 (0, 0))).alloc (.cells #[.func (.func 47) #[] #[.pointer (some ⟨V2.heap.size, 0, none⟩), .pointer (some ⟨V3.heap.size + 1 + 1, 0, none⟩)]] 98 (0, 0))).alloc (.cells #[.slice none 0 0] 30 (0, 0)) := ⟨_, rfl⟩
  have b5' : Below V3.heap.size V3 W5 := by rw [hW5]; (repeat (first | exact Below.refl _ _ | refine pw_below_drewN ?_ _ | refine below_drew ?_ | refine Below.alloc ?_ (by first | omega | (simp; done) | (simp; omega)) _ | refine Below.setCell ?_ (by first | omega | (simp; done) | (simp; omega)) _))
  have b5 : Below w.heap.size w W5 := HhbV3.out.trans (b5'.mono HhbV3.out.size)
  have a0 := pw_cell_below b5' n0
  have a1 := pw_cell_below b5' n1
  have a2 := pw_cell_below b5' n2
  have s5 : W5.heap.size = V3.heap.size + 1 + 1 + 1 + 1 + 1 := by rw [hW5]; simp
  have j5 : NrJ (pad l) V2.heap.size (V3.heap.size + 1 + 1) (V3.heap.size + 1) (V3.heap.size + 1 + 1 + 1) V3.heap.size (V3.heap.size + 1 + 1 + 1 + 1) (x.length + 1, none) W5 := by
    rw [hW5]; exact near_boxes V3 (pad l) V2.heap.size x.length Hr3.out
  have hs1 := Hb1.out.size
  have hs2 := Hb2.out.size
  have hs3 := HhbV3.out.size
  have hsearch := fun (W : World) (C : Option Addr) (cc : Nat) => search_near A c x B d gs (pad l) cl w W W5 C cc V2.heap.size (V3.heap.size + 1 + 1) (V3.heap.size + 1) (V3.heap.size + 1 + 1 + 1) V3.heap.size V1.heap.size w.heap.size (V3.heap.size + 1 + 1 + 1 + 1) Hhx.out Hhok.out Hhg.out Hhgo.out Hhkc.out hpl Hhso.out b5 ⟨a0, a1, a2⟩ j5 (by omega) (by omega)
  have hcut := Lib.hid (show ((((V3.alloc (.cells #[.int .i64 ((x.length : Int) + 1)] 3 (0, 0))).alloc (.map #[] 0)).alloc (.cells #[.map (some (V3.heap.size + 1))] 96 (0, 0))).alloc (.cells #[.func (.func 47) #[] #[.pointer (some ⟨V2.heap.size, 0, none⟩), .pointer (some ⟨V3.heap.size + 1 + 1, 0, none⟩)]] 98 (0, 0))).alloc (.cells #[.slice none 0 0] 30 (0, 0)) = W5 from hW5.symm)
  have hdrew : ∀ n, Below W5.heap.size W5 (W5.drewN n) := fun n => by (repeat (first | exact Below.refl _ _ | refine pw_below_drewN ?_ _ | refine below_drew ?_ | refine Below.alloc ?_ (by first | omega | (simp; done) | (simp; omega)) _ | refine Below.setCell ?_ (by first | omega | (simp; done) | (simp; omega)) _))
  have Hb5 := Lib.hid b5
  have Hb5' := Lib.hid b5'
  have Hhsearch := Lib.hid hsearch
  have Hj5 := Lib.hid j5
  have Hhdrew := Lib.hid hdrew
  clear b5 b5' hsearch j5 hdrew
  clear hW5
  go_wp2_with fail
  rw [hcut.out]
  go_region_held3 (fun W => W.cell? ⟨V1.heap.size, 0, none⟩ = some (.slice A x.length c) ∧ W.cell? ⟨V1.heap.size, 1, none⟩ = some (.slice B gs.length d)) (first | exact ⟨pw_cell_below (Hhdrew.out 1) a0, pw_cell_below (Hhdrew.out 1) a1⟩ | exact ⟨q0, q1⟩ | exact ⟨y0, y1⟩) (first
    | (go_at_call 33
       refine (Hhcls.out _ ?_).mono ?_
       · exact Hb5.out.trans ((Hhdrew.out 1).mono Hb5.out.size)
       rintro e V ⟨C, cc, rfl, hR, hb⟩
       have bV : Below W5.heap.size W5 V := (Hhdrew.out 1).trans (hb.mono (Nat.le_refl _))
       have q0 := pw_cell_below bV a0
       have q1 := pw_cell_below bV a1
       have hfn := Hhsearch.out V C cc bV hR
       have Hfn := Lib.hid hfn
       clear hR hb bV hfn)
    | (go_at_call 32
       refine Hfn.out.mono ?_
       rintro e V6 ⟨rfl, hJ, hbw, hk6⟩
       have y0 := hk6.cell q0 (by show ¬ (_ ∨ _ ∨ _); simp only; omega)
       have y1 := hk6.cell q1 (by show ¬ (_ ∨ _ ∨ _); simp only; omega)
       have HJ := Lib.hid hJ
       have Hbw := Lib.hid hbw
       clear hJ hbw hk6))
  all_goals
    obtain ⟨v, j0, VA, vn, vc, hv, j1, j2⟩ := outJ_box HJ.out.2
    subst hv
    obtain ⟨z0, z1⟩ := one_cell j0
    obtain ⟨u0, u1⟩ := one_cell HJ.out.1.hbb
    have lo := outJ_lt HJ.out.2
    have hnil := fun W => Lib.run_eql_slice_nil (P := Tryd.prog) W 30 3 VA vn vc 0 0 Tryd.underlying30
    have hres := fun n k => Hfin.out V6 VA vn vc _ HJ.out.2 j0 Hbw.out (by omega) n k
    have hdr := fun m => pw_below_drewN Hbw.out m
    have Hj0 := Lib.hid j0
    have Hj1 := Lib.hid j1
    have Hhres := Lib.hid hres
    clear j0 j1 hres
    clear n0 n1 n2 a0 a1 a2 q0 q1 y0 y1
    rcases VA with _ | ad
    · have e := j2 rfl
      cases e
      clear j2
      go_wp2
      refine bodyPost_ret (results_tmp3 rfl _ _ _) rfl ?_
      exact (Hhres.out _ _ rfl rfl).1
    · clear j2
      go_wp2
      go_quiet (fail)
      go_wp2
      refine bodyPost_ret (results_tmp3 rfl _ _ _) rfl ?_
      exact (Hhres.out _ _ rfl rfl).2 _
end Go.Proofs.YtlhnpbdpojcbeaaDoor
end
section
open Go Go.RowKit
namespace Go.Proofs.YtlhnpbdpojcbeaaDoor
open Go.Proofs.YtlhnpbdpojcbeaaDoorW.PrintWords
open PPackAll Go.Shelf
set_option linter.unusedVariables false
set_option linter.unusedSimpArgs false
def barF (j n : Int) (r : S68) : Bool := (r.f0 == j) && withinF n r.f1 r.f2
theorem barred1_calls (r : S68) (j n : Int) (bj bn : Nat) (w : World) (h0 : w.cell? ⟨bj, 0, none⟩ = some (.int .i64 j)) (h1 : w.cell? ⟨bn, 0, none⟩ = some (.int .i64 n)) :
    Calls Tryd.prog 78 #[.agg #[.int .i64 r.f0, .int .i64 r.f1, .int .i64 r.f2], .pointer (some ⟨bj, 0, none⟩), .pointer (some ⟨bn, 0, none⟩)] w fun e w' => e = .returned (.bool (barF j n r)) ∧ Below w.heap.size w w' := by
  have lj := World.block_lt_of_cell? w _ h0
  have ln := World.block_lt_of_cell? w _ h1
  have hw := fun W => within_calls n r.f1 r.f2 W
  unfold barF
  by_cases h : r.f0 = j
  · have hb : (r.f0 == j) = true := by simpa using h
    have Hhw := Lib.hid hw
    have Hh := Lib.hid h
    clear hw h
    go_enter Tryd.func78, Tryd.ntmps78
    go_wp2_with fail
    refine (Hhw.out _).mono ?_
    rintro e V ⟨rfl, rfl⟩
    go_wp2
    go_ret
    refine ⟨?_, by (repeat (first | exact Below.refl _ _ | refine pw_below_drewN ?_ _ | refine below_drew ?_ | refine Below.alloc ?_ (by first | omega | (simp; done) | (simp; omega)) _ | refine Below.setCell ?_ (by first | omega | (simp; done) | (simp; omega)) _))⟩
    simp [hb]
  · have hb : (r.f0 == j) = false := by simpa using h
    have Hhw := Lib.hid hw
    have Hh := Lib.hid h
    clear hw h
    go_enter Tryd.func78, Tryd.ntmps78
    go_wp2_with fail
    go_ret
    refine ⟨?_, by (repeat (first | exact Below.refl _ _ | refine pw_below_drewN ?_ _ | refine below_drew ?_ | refine Below.alloc ?_ (by first | omega | (simp; done) | (simp; omega)) _ | refine Below.setCell ?_ (by first | omega | (simp; done) | (simp; omega)) _))⟩
    simp [hb]
theorem barred_calls (A : Option Addr) (c : Nat) (x : List (List S60)) (B : Option Addr) (n d : Nat) (i k j m : Int) (w : World)
    (hx : Kd.C (Kd.slice 60 k60) w A x.length x) (h0 : 0 ≤ i) (hi : i < x.length) (hk0 : 0 ≤ k) (hk : k < (rd_L4 x i).length) :
    Calls Tryd.prog 43 #[.agg #[.slice A x.length c, .slice B n d], .int .i64 i, .int .i64 k, .int .i64 j, .int .i64 m] w fun e w' => e = .returned (.bool ((rd_T60 (rd_L4 x i) k).f1.any (barF j m))) ∧ Below w.heap.size w w' := by
  obtain ⟨ad, A0, c0, e, hc, hl, hr⟩ := at_L4 hx i h0 hi
  subst e
  obtain ⟨ad2, B0, e0, B1, e1, e, q0, q1, l0, g0, l1, g1⟩ := at_T60 hr k hk0 hk
  subst e
  have lt1 := World.block_lt_of_cell? w _ hc
  have lt2 := World.block_lt_of_cell? w _ q0
  have hf := fun (W : World) (bj bn : Nat) (hb : Below w.heap.size w W) (a0 : W.cell? ⟨bj, 0, none⟩ = some (.int .i64 j)) (a1 : W.cell? ⟨bn, 0, none⟩ = some (.int .i64 m)) =>
    has68_calls B1 e1 (rd_T60 (rd_L4 x i) k).f1 (.func (.func 78) #[] #[.pointer (some ⟨bj, 0, none⟩), .pointer (some ⟨bn, 0, none⟩)]) (fun _ => True) (barF j m) W (Kd.C_below g1 hb) (fun _ _ => trivial)
      ⟨78, _, _, rfl, enters_of Tryd.func78 (by kernel_rfl) rfl, fun V r cs hV _ hK => by
        obtain rfl := k68_open hK
        exact barred1_calls r j m bj bn V (pw_cell_below hV a0) (pw_cell_below hV a1)⟩
  have hlen : ((rd_L4 x i).length : Int) ≤ 9223372036854775807 := by have := hr.2.1; omega
  generalize (rd_T60 (rd_L4 x i) k).f1.length = N1 at *
  have Hhf := Lib.hid hf
  clear hf
  clear hr g0 g1 hx hl l0 l1
  generalize (rd_L4 x i).length = L at *
  have hb3 : Below w.heap.size w (((w.alloc (Obj.cells #[Value.slice (some ad) x.length c, Value.slice B n d] 73)).alloc (Obj.cells #[.int .i64 j] 3)).alloc (Obj.cells #[.int .i64 m] 3)) := by (repeat (first | exact Below.refl _ _ | refine pw_below_drewN ?_ _ | refine below_drew ?_ | refine Below.alloc ?_ (by first | omega | (simp; done) | (simp; omega)) _ | refine Below.setCell ?_ (by first | omega | (simp; done) | (simp; omega)) _))
  have y1 := pw_cell_below hb3 hc
  have y2 := pw_cell_below hb3 q0
  have y3 := pw_cell_below hb3 q1
  have Hhb3 := Lib.hid hb3
  clear hb3
  clear hc q0 q1
  go_enter Tryd.func43, Tryd.ntmps43
  go_wp2_with fail
  refine (Hhf.out _ _ _ Hhb3.out (by simp [go_sem]) (by simp [go_sem])).mono ?_
  rintro e V ⟨rfl, hb⟩
  have hbV := Hhb3.out.trans (hb.mono (by simp; omega))
  have HhbV := Lib.hid hbV
  clear hbV
  clear hb
  go_wp2
  go_ret
  exact ⟨rfl, HhbV.out⟩
end Go.Proofs.YtlhnpbdpojcbeaaDoor
end
section
open Go Go.RowKit
namespace Go.Proofs.YtlhnpbdpojcbeaaDoor
open Go.Proofs.YtlhnpbdpojcbeaaDoorW.PrintWords
open PPackAll Go.Shelf
attribute [local go_sem] Oper.semAt_some
set_option linter.unusedVariables false
set_option linter.unusedSimpArgs false
set_option maxHeartbeats 1000000 in
theorem tz64_core (x k idx : Nat) (w : World) (hx0 : ((x : Int) == 0) = false)
    (key : IntKind.u64.wrap (bits BinOp.and IntKind.u64 (x : Int) (IntKind.u64.wrap (-(x : Int))) * 285870213051353865) / 288230376151711744 = (idx : Int))
    (hi : idx < 64) (hk : k < 64) (hcell : w.cell? ⟨1, idx, none⟩ = some (.int .u8 k)) :
    Calls Tryd.prog 91 #[.int .u64 x] w fun e w' => e = .returned (.int .i64 k) ∧ w' = w := by
  go_enter Tryd.func91, Tryd.ntmps91
  go_wp2_with (simp only [key])
  go_ret
  exact ⟨rfl, rfl⟩
theorem tz_calls (x : Nat) (hx0 : x ≠ 0) (hx : x < 18446744073709551616) (w : World) (hT : TabAt 1 Lib.deBruijn64tab w) :
    Calls Tryd.prog 75 #[.int .u64 x] w fun e w' => e = .returned (.int .i64 (Lib.ctz 64 x)) ∧ w' = w := by
  obtain ⟨hlow, hk⟩ := Lib.lowest_bit 64 x hx0 hx
  obtain ⟨hi, htab⟩ := Lib.deBruijn64_at _ hk
  have hcell := hT _ hi
  rw [htab] at hcell
  have c64 := tz64_core x _ _ w (by simp; omega) (tz64_key x _ hx hx0 hlow) hi hk hcell
  have hw : IntKind.u64.wrap (x : Int) = (x : Int) := by rw [IntKind.wrap_u64]; omega
  have hc := Lib.hid c64
  clear c64 hcell htab
  go_enter Tryd.func75, Tryd.ntmps75
  go_wp2_with fail
  refine hc.out.mono ?_
  rintro e V ⟨rfl, rfl⟩
  go_wp2
  go_ret
  exact ⟨rfl, rfl⟩
def remF (s : Nat) : Nat → Nat
  | 0 => s
  | k + 1 => remF s k &&& (remF s k - 1)
def memL (s : Nat) : List Nat := (List.range 5).filter fun i => s.testBit i
theorem rem_facts : ∀ s : Fin 32, ∀ k : Fin 6, (k.val < (memL s.val).length → remF s.val k.val ≠ 0 ∧ remF s.val k.val < 32 ∧ Lib.ctz 64 (remF s.val k.val) = (memL s.val).getD k.val 0) ∧ (k.val = (memL s.val).length → remF s.val k.val = 0) := by
  decide +kernel
theorem memL_len (s : Nat) : (memL s).length ≤ 5 := Nat.le_trans (List.length_filter_le _ _) (by simp)
theorem rem_at {s k : Nat} (hs : s < 32) (hk : k < (memL s).length) : remF s k ≠ 0 ∧ remF s k < 32 ∧ Lib.ctz 64 (remF s k) = (memL s).getD k 0 := (rem_facts ⟨s, hs⟩ ⟨k, by have := memL_len s; omega⟩).1 hk
theorem rem_end {s : Nat} (hs : s < 32) : remF s (memL s).length = 0 := (rem_facts ⟨s, hs⟩ ⟨_, by have := memL_len s; omega⟩).2 rfl
set_option maxHeartbeats 2000000 in
theorem members_iter (l bs s : Nat) (hs : s < 32) (J Jx : Nat → World → Prop)
    (hJ : ∀ k W, J k W → W.heap[bs]? = some (wordBox (remF s k)) ∧ TabAt 1 Lib.deBruijn64tab W)
    (hY : ∀ k W, k < (memL s).length → J k W → YieldW l #[.int .i64 ((memL s).getD k 0 : Nat)] W fun e W' => (e = .returned (.bool true) ∧ W'.heap[bs]? = some (wordBox (remF s k)) ∧ J (k + 1) (W'.setCell ⟨bs, 0, none⟩ (.int .u64 (remF s (k + 1))))) ∨ (e = .returned (.bool false) ∧ Jx k W'))
    (W : World) (h0 : J 0 W) (n : Nat) :
    CallsIn Fence.wide n Tryd.prog 74 #[.func (.yield l) #[] #[], .pointer (some ⟨bs, 0, none⟩)] W fun e W' =>
      e = .returned (.tuple #[]) ∧ (J (memL s).length W' ∨ ∃ k, k < (memL s).length ∧ Jx k W') := by
  refine callsIn_of_wp Tryd.func74 rfl trivial ?_ rfl
  simp only [Tryd.ntmps74, List.size_toArray, List.length_cons, List.length_nil, Nat.reduceAdd, Nat.reduceSub, Array.replicate_succ, Array.replicate_zero, List.push_toArray, List.append_toArray, List.nil_append, List.cons_append]
  have hw : ∀ k : Nat, Fence.wide.depth.isSome = true → 1 ≤ k := fun k h => by simp [Fence.wide] at h
  have hend := rem_end hs
  have hat := fun k (hk : k < (memL s).length) => rem_at hs hk
  generalize hn : (memL s).length = N at *
  have Hhw := Lib.hid hw
  have HhJ := Lib.hid hJ
  have HhY := Lib.hid hY
  have Hh0 := Lib.hid h0
  have Hhat := Lib.hid hat
  have Hhend := Lib.hid hend
  have Hhn := Lib.hid hn
  clear hw hJ hY h0 hat hend hn
  gi_wp2
  gi_loopw [] (fun wr => ∃ k : Nat, k ≤ N ∧ J k wr) (fun wr => (intOf ((wr.cell? ⟨bs, 0, none⟩).getD undef)).toNat)
  case atStart => exact ⟨0, Nat.zero_le _, Hh0.out⟩
  case round =>
    obtain ⟨k, hk, hj⟩ := hrel
    obtain ⟨r0, hT⟩ := HhJ.out k wr hj
    obtain ⟨c0, c1⟩ := one_cell r0
    have lb := World.block_lt_of_cell? wr _ c0
    rcases Nat.lt_or_ge k N with hlt | hge
    · obtain ⟨q0, q1, q2⟩ := Hhat.out k hlt
      have hne : ((remF s k : Int) != 0) = true := by simp; omega
      obtain ⟨fn, tmps, assign, body, hy, hR⟩ := HhY.out k wr hlt hj
      have hR := Lib.hid hR
      have hz := tz_calls (remF s k) q0 (by omega) wr hT
      rw [q2] at hz
      generalize (memL s).getD k 0 = mk at hy hz q2
      have Hhj := Lib.hid hj
      have Hr0 := Lib.hid r0
      have HhT := Lib.hid hT
      have Hhz := Lib.hid hz
      have Hq0 := Lib.hid q0
      have Hq1 := Lib.hid q1
      have Hq2 := Lib.hid q2
      clear hj r0 hT hz q0 q1 q2
      gi_wp2_with fail
      refine ⟨trivial, Hhw.out _, (callsIn_wide.2 Hhz.out).mono ?_⟩
      rintro e V ⟨rfl, rfl⟩
      gi_wp2
      refine ⟨Hhw.out _, (hR.out _).mono ?_⟩
      clear hR hy hne
      rintro e W1 (⟨rfl, r1, hJ1⟩ | ⟨rfl, hx1⟩)
      · obtain ⟨y0, y1⟩ := one_cell r1
        have lb1 := World.block_lt_of_cell? W1 _ y0
        have hlt2 : remF s (k + 1) < remF s k := by
          show remF s k &&& (remF s k - 1) < remF s k
          have := Nat.and_le_right (n := remF s k) (m := remF s k - 1)
          have := Hq0.out
          omega
        have e1 : IntKind.u64.wrap ((remF s k : Int) - 1) = ((remF s k - 1 : Nat) : Int) := by
          have := Hq0.out; have := Hq1.out
          rw [IntKind.wrap_u64]; omega
        have e2 : bits BinOp.and IntKind.u64 (remF s k : Int) ((remF s k - 1 : Nat) : Int) = (remF s (k + 1) : Int) := by
          have := Hq1.out
          rw [bits_and_u64_nat _ _ (by omega) (by omega)]; rfl
        have hrow : (W1.setCell ⟨bs, 0, none⟩ (.int .u64 (remF s (k + 1)))).cell? ⟨bs, 0, none⟩ = some (.int .u64 (remF s (k + 1))) := by
          refine (one_cell (t := 84) ?_).1
          have := heap_setCell_same W1 bs 0 _ _ (.int .u64 (remF s (k + 1))) r1
          simpa using this
        generalize remF s (k + 1) = R' at *
        generalize hrk : remF s k = Rk at *
        have HhJ1 := Lib.hid hJ1
        have Hr1 := Lib.hid r1
        have Hhrow := Lib.hid hrow
        have Hhlt2 := Lib.hid hlt2
        have Hhrk := Lib.hid hrk
        clear hJ1 r1 hrow hlt2 hrk
        gi_wp2
        refine ⟨⟨k + 1, by omega, HhJ1.out⟩, ?_⟩
        rw [Hhrow.out, c0]
        have := Hhlt2.out
        simp [intOf]; omega
      · have Hhx1 := Lib.hid hx1
        clear hx1
        gi_wp2
        exact bodyPost_ret (results_none rfl _ _ _) rfl ⟨rfl, .inr ⟨k, hlt, Hhx1.out⟩⟩
    · have hkN : k = N := by omega
      subst hkN
      rw [Hhend.out] at c0
      gi_wp2
      exact bodyPost_end (results_none rfl _ _ _) rfl ⟨rfl, .inl hj⟩
theorem members_calls (s : Nat) (w : World) :
    Calls Tryd.prog 39 #[.int .u64 s] w fun e w' => e = .returned (.func (.func 74) #[] #[.pointer (some ⟨w.heap.size, 0, none⟩)]) ∧ w' = w.alloc (wordBox s) := by
  go_enter Tryd.func39, Tryd.ntmps39
  go_wp2
  go_ret
  exact ⟨rfl, rfl⟩
end Go.Proofs.YtlhnpbdpojcbeaaDoor
end
