/- Lemmas of this proof, part 3. -/
import Derived.Test.YtlhnpbdpojcbeaaDoorZ0
import Derived.Test.YtlhnpbdpojcbeaaDoorZ1
import Derived.Test.YtlhnpbdpojcbeaaDoorZ2
import Derived.RegionTactic
import Derived.ChangeAlike
import Derived.Laws.Bits64b
section
open Go Go.RowKit
namespace Go.Proofs.YtlhnpbdpojcbeaaDoor
open Go.Proofs.YtlhnpbdpojcbeaaDoorW.PrintWords
open PPackAll Go.Shelf
attribute [local go_sem] Oper.semAt_some
set_option linter.unusedVariables false
set_option linter.unusedSimpArgs false
theorem Keep.trans2 {S T : Nat → Prop} {a b c : World} (h : Keep S a b) (k : Keep T b c) (hT : ∀ i, i < a.heap.size → T i → S i) : Keep S a c :=
  ⟨k.os.trans h.os, k.tape.trans h.tape, k.output.trans h.output, Nat.le_trans h.size k.size, fun i hi hS => (k.block i (Nat.lt_of_lt_of_le hi h.size) (fun ht => hS (hT i hi ht))).trans (h.block i hi hS)⟩
theorem ld78In {F : Fence} {n : Nat} {ops : Array Oper} {rest : List Oper} {o : Oper} {a : Act} {w : World} {Q : Exit → Act → World → Prop}
    (hgd : Region.wanted o (yielded ops a.tmps) = true) (x : Operand) (ho : o.op = .load 78 x) (g : Nat) (hx : a.eval x = .pointer (some ⟨g, 0, none⟩)) (p : List Int) (t : Nat) (hp : p.length = 8)
    (hg : w.heap[g]? = some (.cells (planA p) t (0, 0))) (h : wpListIn F n Tryd.prog ops Q rest (a.put o.dst (planV p)) w) : wpListIn F n Tryd.prog ops Q (o :: rest) a w :=
  wpListIn_step fun K hK => by
    rw [if_pos hgd]
    refine ⟨fun f hf => by simp [Oper.about, ho] at hf, ?_⟩
    rw [Oper.semAt_eq _ _ _ (by simp [ho])]
    have hl := run_loadVar_row (P := Tryd.prog) w g t 78 (planA p) (0, 0) _ hg Tryd.underlying78 rfl (by rw [planA_size, hp]; exact cells78)
    unfold execOp
    simp only [ho, hx, Instr.loadAt, Instr.sureAddr, Sem.run_bind, Sem.run_pure, Result.andThen_ok, hl]
    exact hK _ _ h
section
variable {σ : Type}
def loopF (step : Int → σ → Bool × σ) (m : Nat) : Nat → σ → Bool × σ
  | 0, s => (true, s)
  | r + 1, s => if (step (choice m (m - r)) s).1 then loopF step m r (step (choice m (m - r)) s).2 else (false, (step (choice m (m - r)) s).2)
def eachF (x : List (List S60)) (gs : List S68) (cl : List S49) (wf : σ → List Int → Nat → Bool × σ) (ff : σ → List Int → Bool × σ) : Nat → Nat → List Int → σ → Bool × σ
  | 0, many, p, s =>
    if cl.any (fun k => brokenF x gs k p many) then (true, s)
    else if (wf s p many).1 = false then (true, (wf s p many).2)
    else ff (wf s p many).2 p
  | D + 1, many, p, s =>
    if cl.any (fun k => brokenF x gs k p many) then (true, s)
    else if (wf s p many).1 = false then (true, (wf s p many).2)
    else loopF (fun n s => eachF x gs cl wf ff D (many + 1) (p.set many n) s) (rd_L4 x many).length ((rd_L4 x many).length + 1) (wf s p many).2
end
def EnvW (A : Option Addr) (c nx : Nat) (B : Option Addr) (d ng : Nat) (C : Option Addr) (cc nc : Nat) (wantsV foundV : Value) (b0 : Nat) (W : World) : Prop :=
  W.cell? ⟨b0, 0, none⟩ = some (.slice A nx c) ∧ W.cell? ⟨b0, 1, none⟩ = some (.slice B ng d) ∧ W.cell? ⟨b0 + 1, 0, none⟩ = some (.slice C nc cc) ∧
  W.cell? ⟨b0 + 2, 0, none⟩ = some wantsV ∧ W.cell? ⟨b0 + 3, 0, none⟩ = some foundV ∧
  W.cell? ⟨b0 + 4, 0, none⟩ = some (.func (.func 64) #[] #[.pointer (some ⟨b0 + 1, 0, none⟩), .pointer (some ⟨b0, 0, none⟩), .pointer (some ⟨b0 + 2, 0, none⟩), .pointer (some ⟨b0 + 3, 0, none⟩), .pointer (some ⟨b0 + 4, 0, none⟩)])
def Frm (W : World) (b : Nat) : Prop :=
  match W.heap[b]? with
  | some (.cells _ 78 _) | some (.cells _ 4 _) | some (.loop _) | some (.deferred _) => True
  | _ => False
def InP (x : List (List S60)) (p : List Int) (many : Nat) : Prop := ∀ i : Nat, i < many → -1 ≤ rd p i ∧ rd p i < ((x.getD i []).length : Int)
theorem InP.set {x : List (List S60)} {p : List Int} {many : Nat} (h : InP x p many) (hm : many < p.length) {n : Int} (h0 : -1 ≤ n) (h1 : n < ((x.getD many []).length : Int)) : InP x (p.set many n) (many + 1) := by
  intro i hi
  have e : rd (p.set many n) i = if i = many then n else rd p i := by
    unfold rd
    rw [Int.toNat_natCast, List.getD_eq_getElem?_getD, List.getD_eq_getElem?_getD]
    by_cases hc : i = many
    · subst hc; simp [hm]
    · rw [if_neg hc, List.getElem?_set_ne (by omega)]
  rw [e]
  split
  · rename_i hc; subst hc; exact ⟨h0, h1⟩
  · exact h i (by omega)
structure EachHyp {σ : Type} (A : Option Addr) (c : Nat) (x : List (List S60)) (B : Option Addr) (d : Nat) (gs : List S68) (C : Option Addr) (cc : Nat) (cl : List S49)
    (G : World → Prop) (J : σ → World → Prop) (Fp : Nat → Prop) (b0 : Nat) (wf : σ → List Int → Nat → Bool × σ) (ff : σ → List Int → Bool × σ) (wantsV foundV : Value) : Prop where
  ok : OkIdx x
  okg : OkGoals x gs
  okc : ∀ k ∈ cl, OkClause x gs k
  reads : ∀ W, G W → Kd.C (Kd.slice 60 k60) W A x.length x ∧ k68.C W B gs.length gs ∧ k49.C W C cl.length cl
  fp : ∀ b, Fp b → b < b0
  stabG : ∀ W W', b0 ≤ W.heap.size → Keep (fun b => Fp b ∨ b0 ≤ b) W W' → G W → G W'
  stabJ : ∀ s W W', b0 ≤ W.heap.size → Keep (fun b => b0 ≤ b ∧ Frm W b) W W' → J s W → J s W'
  wants : ∃ g caps, wantsV = .func (.func g) #[] caps ∧ (∀ args w, (callFunc g args).run Tryd.prog w = .ok (.enter g args) w) ∧
    ∀ W s p (many : Nat), b0 ≤ W.heap.size → p.length = 8 → many ≤ x.length → InP x p many → G W → J s W → Calls Tryd.prog g (#[planV p, .int .i64 many] ++ caps) W fun e W' =>
      e = .returned (.bool (wf s p many).1) ∧ J (wf s p many).2 W' ∧ Keep Fp W W'
  found : ∃ g caps, foundV = .func (.func g) #[] caps ∧ (∀ args w, (callFunc g args).run Tryd.prog w = .ok (.enter g args) w) ∧
    ∀ W s p, b0 ≤ W.heap.size → p.length = 8 → InP x p x.length → G W → J s W → Calls Tryd.prog g (#[planV p] ++ caps) W fun e W' =>
      e = .returned (.bool (ff s p).1) ∧ J (ff s p).2 W' ∧ Keep Fp W W'
section
variable {σ : Type} {A : Option Addr} {c : Nat} {x : List (List S60)} {B : Option Addr} {d : Nat} {gs : List S68} {C : Option Addr} {cc : Nat} {cl : List S49}
    {G : World → Prop} {J : σ → World → Prop} {Fp : Nat → Prop} {b0 : Nat} {wf : σ → List Int → Nat → Bool × σ} {ff : σ → List Int → Bool × σ} {wantsV foundV : Value}
theorem EnvW.keep {nx ng nc : Nat} (hfp : ∀ b, Fp b → b < b0) {W W' : World} (h : EnvW A c nx B d ng C cc nc wantsV foundV b0 W) (hk : Keep (fun b => Fp b ∨ b0 + 5 ≤ b) W W') :
    EnvW A c nx B d ng C cc nc wantsV foundV b0 W' := by
  obtain ⟨h0, h1, h2, h3, h4, h5⟩ := h
  have hS : ∀ j, j < 5 → ¬ (Fp (b0 + j) ∨ b0 + 5 ≤ b0 + j) := by
    intro j hj h
    rcases h with h | h
    · have := hfp _ h; omega
    · omega
  exact ⟨hk.cell h0 (hS 0 (by omega)), hk.cell h1 (hS 0 (by omega)), hk.cell h2 (hS 1 (by omega)), hk.cell h3 (hS 2 (by omega)), hk.cell h4 (hS 3 (by omega)), hk.cell h5 (hS 4 (by omega))⟩
def Each1 (A : Option Addr) (c : Nat) (x : List (List S60)) (B : Option Addr) (d : Nat) (gs : List S68) (C : Option Addr) (cc : Nat) (cl : List S49)
    (G : World → Prop) (J : σ → World → Prop) (Fp : Nat → Prop) (b0 : Nat) (wf : σ → List Int → Nat → Bool × σ) (ff : σ → List Int → Bool × σ) (wantsV foundV : Value) (D : Nat) : Prop :=
  ∀ (many : Nat) (p : List Int) (s : σ) (W : World), many + D = x.length → p.length = 8 → InP x p many → b0 + 5 ≤ W.heap.size → EnvW A c x.length B d gs.length C cc cl.length wantsV foundV b0 W → G W → J s W →
    Calls Tryd.prog 64 #[planV p, .int .i64 many, .pointer (some ⟨b0 + 1, 0, none⟩), .pointer (some ⟨b0, 0, none⟩), .pointer (some ⟨b0 + 2, 0, none⟩), .pointer (some ⟨b0 + 3, 0, none⟩), .pointer (some ⟨b0 + 4, 0, none⟩)] W
      fun e W' => e = .returned (.bool (eachF x gs cl wf ff D many p s).1) ∧ J (eachF x gs cl wf ff D many p s).2 W' ∧ Keep Fp W W'
theorem one_cell {w : World} {g t : Nat} {v : Value} (h : w.heap[g]? = some (.cells #[v] t (0, 0))) : w.cell? ⟨g, 0, none⟩ = some v ∧ w.frozen? ⟨g, 0, none⟩ = false :=
  ⟨by rw [cell_of_row w g 0 _ _ _ h]; rfl, frozen_of_row w g 0 _ _ h⟩
theorem results64 {tmps : Array Value} {w : World} {g : Nat} {b : Bool} (h9 : tmps.getD 9 undef = .pointer (some ⟨g, 0, none⟩)) (hc : w.cell? ⟨g, 0, none⟩ = some (.bool b)) :
    (results Tryd.f64 tmps).run Tryd.prog w = .ok (.bool b) w := by
  have h9' : tmps[9]?.getD undef = .pointer (some ⟨g, 0, none⟩) := by simpa using h9
  have hr : Tryd.f64.results = #[.cell 9 4] := rfl
  simp [results, hr, h9', asAddr, go_sem, hc]
structure Ctx {σ : Type} (A : Option Addr) (c nx : Nat) (B : Option Addr) (d ng : Nat) (C : Option Addr) (cc nc : Nat) (wantsV foundV : Value) (b0 : Nat) (G : World → Prop) (J : σ → World → Prop) (Fp : Nat → Prop)
    (W : World) (many : Nat) (V : World) (q : List Int) (r : Bool) (s : σ) : Prop where
  keep : Keep Fp W V
  bp : V.heap[W.heap.size]? = some (.cells (planA q) 78 (0, 0))
  bm : V.heap[W.heap.size + 1]? = some (.cells #[.int .i64 many] 3 (0, 0))
  br : V.heap[W.heap.size + 1 + 1]? = some (.cells #[.bool r] 4 (0, 0))
  env : EnvW A c nx B d ng C cc nc wantsV foundV b0 V
  g : G V
  j : J s V
  size : W.heap.size + 3 ≤ V.heap.size
set_option maxHeartbeats 4000000 in
theorem each1_step (H : EachHyp A c x B d gs C cc cl G J Fp b0 wf ff wantsV foundV) (D : Nat) (ih : ∀ D', D' < D → Each1 A c x B d gs C cc cl G J Fp b0 wf ff wantsV foundV D') :
    Each1 A c x B d gs C cc cl G J Fp b0 wf ff wantsV foundV D := by
  intro many p s W hD hp hin hb0 hE hG hJ
  have h8 := H.ok.2.1
  have hm8 : many ≤ 8 := by omega
  obtain ⟨gw, capsw, hwV, egw, hcw⟩ := H.wants
  obtain ⟨gf, capsf, hfV, egf, hcf⟩ := H.found
  subst hwV hfV
  obtain ⟨e0, e1, e2, e3, e4, e5⟩ := hE
  have hE : EnvW A c x.length B d gs.length C cc cl.length (.func (.func gw) #[] capsw) (.func (.func gf) #[] capsf) b0 W := ⟨e0, e1, e2, e3, e4, e5⟩
  have hq : ∀ V : World, Keep (fun b => Fp b ∨ b0 + 5 ≤ b) W V → V.heap[W.heap.size]? = some (.cells (planA p) 78 (0, 0)) → V.cell? ⟨W.heap.size + 1, 0, none⟩ = some (.int .i64 many) →
      Calls Tryd.prog 18 #[.slice C cl.length cc, .func (.func 65) #[] #[.pointer (some ⟨b0, 0, none⟩), .pointer (some ⟨W.heap.size, 0, none⟩), .pointer (some ⟨W.heap.size + 1, 0, none⟩)]] V fun e w' =>
        e = .returned (.bool (cl.any (fun k => brokenF x gs k p many))) ∧ Below V.heap.size V w' := by
    intro V hk q0 q1
    have hG2 := H.stabG W V (by omega) (hk.mono (fun k _ h => h.imp id (fun h => by omega))) hG
    obtain ⟨r0, r1, r2⟩ := H.reads V hG2
    have hE2 := hE.keep H.fp hk
    exact has49_calls C cc cl _ _ _ V r2 H.okc (clause_fn A c x B d gs p many V b0 W.heap.size (W.heap.size + 1) 78 r0 r1 H.ok H.okg hp hE2.1 hE2.2.1 q0 q1)
  have fin : ∀ (b : Bool) (s' : σ) (V : World), eachF x gs cl wf ff D many p s = (b, s') → J s' V → Keep Fp W V → J (eachF x gs cl wf ff D many p s).2 V ∧ Keep Fp W V ∧ b = (eachF x gs cl wf ff D many p s).1 := by
    intro b s' V he hj hk; rw [he]; exact ⟨hj, hk, rfl⟩
  refine (callsIn_wide (n := 3)).1 ?_
  refine callsIn_of_wp_marks Tryd.func64 rfl trivial ?_ rfl
  simp only [Tryd.ntmps64, List.size_toArray, List.length_cons, List.length_nil, Nat.reduceAdd, Nat.reduceSub, Array.replicate_succ, Array.replicate_zero, List.push_toArray, List.append_toArray, List.nil_append, List.cons_append]
  unfold planV
  generalize hP : planA p = P
  have HP := Lib.hid hP
  clear hP
  have le0 : b0 < W.heap.size := by omega
  have le1 : b0 + 1 < W.heap.size := by omega
  have le2 : b0 + 2 < W.heap.size := by omega
  have le3 : b0 + 3 < W.heap.size := by omega
  have le4 : b0 + 4 < W.heap.size := by omega
  have HH := Lib.hid H
  have Hih := Lib.hid ih
  have Hhcw := Lib.hid hcw
  have Hhcf := Lib.hid hcf
  have HhE := Lib.hid hE
  have HhG := Lib.hid hG
  have HhJ := Lib.hid hJ
  have Hhq := Lib.hid hq
  have Hfin := Lib.hid fin
  have Hhin := Lib.hid hin
  clear H ih hcw hcf hE hG hJ hq fin hin
  -- the context lives on
  have hstep : ∀ (V V' : World) (q : List Int) (r : Bool) (s1 s2 : σ), Ctx A c x.length B d gs.length C cc cl.length (.func (.func gw) #[] capsw) (.func (.func gf) #[] capsf) b0 G J Fp W many V q r s1 → Keep Fp V V' → J s2 V' → Ctx A c x.length B d gs.length C cc cl.length (.func (.func gw) #[] capsw) (.func (.func gf) #[] capsf) b0 G J Fp W many V' q r s2 := by
    intro V V' q r s1 s2 h hk hj
    have hn : ∀ j, ¬ Fp (W.heap.size + j) := fun j hj => by have := HH.out.fp _ hj; omega
    exact ⟨h.keep.trans hk, hk.at_ h.bp (hn 0), hk.at_ h.bm (hn 1), hk.at_ h.br (hn 2), h.env.keep HH.out.fp (hk.mono (fun k _ h => .inl h)), HH.out.stabG V V' (by have := h.size; omega) (hk.mono (fun k _ h => .inl h)) h.g, hj, by have := h.size; have := hk.size; omega⟩
  have hstore : ∀ (V : World) (q : List Int) (r b : Bool) (s1 : σ), Ctx A c x.length B d gs.length C cc cl.length (.func (.func gw) #[] capsw) (.func (.func gf) #[] capsf) b0 G J Fp W many V q r s1 → Ctx A c x.length B d gs.length C cc cl.length (.func (.func gw) #[] capsw) (.func (.func gf) #[] capsf) b0 G J Fp W many (V.setCell ⟨W.heap.size + 1 + 1, 0, none⟩ (.bool b)) q b s1 := by
    intro V q r b s1 h
    have k1 : Keep Fp V (V.setCell ⟨W.heap.size + 1 + 1, 0, none⟩ (.bool b)) → True := fun _ => trivial
    have hs := h.size
    have kb : Keep (fun k => W.heap.size + 1 + 1 ≤ k) V (V.setCell ⟨W.heap.size + 1 + 1, 0, none⟩ (.bool b)) := (Keep.refl _ _).setCell (p := ⟨W.heap.size + 1 + 1, 0, none⟩) (.inl (Nat.le_refl (W.heap.size + 1 + 1))) _
    have kb0 : Keep (fun k => b0 ≤ k ∧ Frm V k) V (V.setCell ⟨W.heap.size + 1 + 1, 0, none⟩ (.bool b)) := (Keep.refl (fun k => b0 ≤ k ∧ Frm V k) _).setCell (p := ⟨W.heap.size + 1 + 1, 0, none⟩) (.inl ⟨by show b0 ≤ W.heap.size + 1 + 1; omega, by unfold Frm; simp only; rw [h.br]; trivial⟩) _
    refine ⟨h.keep.setCell (.inr (by simp; omega)) _, kb.at_ h.bp (by omega), kb.at_ h.bm (by omega), ?_, h.env.keep HH.out.fp (kb.mono (fun k _ h => .inr (by omega))), HH.out.stabG V _ (by omega) (kb.mono (fun k _ h => .inr (by omega))) h.g, HH.out.stabJ s1 V _ (by omega) kb0 h.j, by have := kb.size; omega⟩
    have := heap_setCell_same V (W.heap.size + 1 + 1) 0 _ _ (.bool b) h.br
    simpa using this
  have hend : ∀ (V : World) (q : List Int) (b : Bool) (s1 : σ) (tmps : Array Value), Ctx A c x.length B d gs.length C cc cl.length (.func (.func gw) #[] capsw) (.func (.func gf) #[] capsf) b0 G J Fp W many V q b s1 → eachF x gs cl wf ff D many p s = (b, s1) → tmps.getD 9 undef = .pointer (some ⟨W.heap.size + 1 + 1, 0, none⟩) →
      bodyPostM Fence.wide 3 Tryd.prog Tryd.f64 (fun e W' => e = .returned (.bool (eachF x gs cl wf ff D many p s).1) ∧ J (eachF x gs cl wf ff D many p s).2 W' ∧ Keep Fp W W') .ret { tmps, defers := [] } V := by
    intro V q b s1 tmps h he h9
    obtain ⟨f1, f2, f3⟩ := Hfin.out b s1 V he h.j h.keep
    exact ⟨.bool b, results64 h9 (one_cell h.br).1, by rw [← f3], f1, f2⟩
  have hfar : ∀ (V V' : World) (q : List Int) (r : Bool) (s1 : σ), Ctx A c x.length B d gs.length C cc cl.length (.func (.func gw) #[] capsw) (.func (.func gf) #[] capsf) b0 G J Fp W many V q r s1 → Keep (fun k => W.heap.size + 1 + 1 < k ∧ Frm V k) V V' → Ctx A c x.length B d gs.length C cc cl.length (.func (.func gw) #[] capsw) (.func (.func gf) #[] capsf) b0 G J Fp W many V' q r s1 := by
    intro V V' q r s1 h hk'
    have hk := hk'.mono (T := fun k => W.heap.size + 1 + 1 < k) (fun k _ h => h.1)
    have hs := h.size
    exact ⟨h.keep.trans2 hk (fun k hk' h' => by omega), hk.at_ h.bp (by omega), hk.at_ h.bm (by omega), hk.at_ h.br (by omega), h.env.keep HH.out.fp (hk.mono (fun k _ h => .inr (by omega))), HH.out.stabG V _ (by omega) (hk.mono (fun k _ h => .inr (by omega))) h.g, HH.out.stabJ s1 V _ (by omega) (hk'.mono (fun k _ h => ⟨by have := h.1; omega, h.2⟩)) h.j, by have := hk.size; omega⟩
  have hset : ∀ (V : World) (q : List Int) (r : Bool) (v : Int) (s1 : σ), Ctx A c x.length B d gs.length C cc cl.length (.func (.func gw) #[] capsw) (.func (.func gf) #[] capsf) b0 G J Fp W many V q r s1 → Ctx A c x.length B d gs.length C cc cl.length (.func (.func gw) #[] capsw) (.func (.func gf) #[] capsf) b0 G J Fp W many (V.setCell ⟨W.heap.size, many, none⟩ (.int .i64 v)) (q.set many v) r s1 := by
    intro V q r v s1 h
    have hs := h.size
    have kb : Keep (fun k => k = W.heap.size) V (V.setCell ⟨W.heap.size, many, none⟩ (.int .i64 v)) := (Keep.refl (fun k => k = W.heap.size) _).setCell (p := ⟨W.heap.size, many, none⟩) (.inl rfl) _
    exact ⟨h.keep.trans2 kb (fun k hk' h' => by omega), setCell_row h.bp many v, kb.at_ h.bm (by omega), kb.at_ h.br (by omega), h.env.keep HH.out.fp (kb.mono (fun k _ h => .inr (by omega))), HH.out.stabG V _ (by omega) (kb.mono (fun k _ h => .inr (by omega))) h.g, HH.out.stabJ s1 V _ (by omega) (kb.mono (fun k _ h' => ⟨by omega, by subst h'; unfold Frm; rw [h.bp]; trivial⟩)) h.j, by have := kb.size; omega⟩
  have hendM : ∀ (V : World) (q : List Int) (b : Bool) (s1 : σ) (tmps : Array Value) (D0 : Nat), Ctx A c x.length B d gs.length C cc cl.length (.func (.func gw) #[] capsw) (.func (.func gf) #[] capsf) b0 G J Fp W many V q b s1 → eachF x gs cl wf ff D many p s = (b, s1) → tmps.getD 9 undef = .pointer (some ⟨W.heap.size + 1 + 1, 0, none⟩) →
      V.heap[D0]? = some (.deferred (some [])) → W.heap.size + 1 + 1 < D0 →
      bodyPostM Fence.wide 3 Tryd.prog Tryd.f64 (fun e W' => e = .returned (.bool (eachF x gs cl wf ff D many p s).1) ∧ J (eachF x gs cl wf ff D many p s).2 W' ∧ Keep Fp W W') .ret { tmps, defers := [{ target := .collected D0, args := #[] }] } V := by
    intro V q b s1 tmps D0 h he h9 hD hD0
    have h' := hfar V (V.putObj D0 (.deferred none)) q b s1 h ((Keep.refl (fun k => W.heap.size + 1 + 1 < k ∧ Frm V k) _).putObj (.inl ⟨hD0, by unfold Frm; rw [hD]; trivial⟩) _)
    obtain ⟨f1, f2, f3⟩ := Hfin.out b s1 _ he h'.j h'.keep
    exact ⟨by simp, .inl ⟨D0, _, rfl, run_takeDeferred hD, .bool b, results64 h9 (one_cell h'.br).1, by rw [← f3], f1, f2⟩⟩
  have Hhstep := Lib.hid hstep
  have Hhstore := Lib.hid hstore
  have Hhend := Lib.hid hend
  have Hhfar := Lib.hid hfar
  have Hhset := Lib.hid hset
  have HhendM := Lib.hid hendM
  clear hstep hstore hend hfar hset hendM
  gi_wp2_with fail
  refine ⟨trivial, (callsIn_wide.2 (Hhq.out _ ?_ ?_ ?_)).mono ?_⟩
  · exact (((Keep.refl _ W).alloc _).alloc _).alloc _
  · rw [HP.out, heap_alloc_if, if_neg (by simp; omega), heap_alloc_if, if_neg (by simp), heap_alloc_if, if_pos rfl]
  · simp [go_sem]
  rintro e V ⟨rfl, hb⟩
  have c1 : Ctx A c x.length B d gs.length C cc cl.length (.func (.func gw) #[] capsw) (.func (.func gf) #[] capsf) b0 G J Fp W many V p false s := by
    have k1 : Keep Fp W V := ((((Keep.refl _ W).alloc _).alloc _).alloc _).trans (Keep.ofBelow hb _)
    have k2 : Keep (fun b => b0 ≤ b ∧ Frm W b) W V := ((((Keep.refl _ W).alloc _).alloc _).alloc _).trans (Keep.ofBelow hb _)
    refine ⟨k1, ?_, ?_, ?_, HhE.out.keep HH.out.fp (k1.mono (fun k _ h => .inl h)), HH.out.stabG W V (by omega) (k1.mono (fun k _ h => .inl h)) HhG.out, HH.out.stabJ s W V (by omega) k2 HhJ.out, by have := hb.size; simp at this; omega⟩
    · rw [hb.block _ (by simp; omega), HP.out, heap_alloc_if, if_neg (by simp; omega), heap_alloc_if, if_neg (by simp), heap_alloc_if, if_pos rfl]
    · rw [hb.block _ (by simp), heap_alloc_if, if_neg (by simp), heap_alloc_if, if_pos (by simp)]
    · rw [hb.block _ (by simp), heap_alloc_if, if_pos (by simp)]
  clear hb
  have hc1 := Lib.hid c1
  cases hany : cl.any (fun k => brokenF x gs k p many) with
  | true =>
    have HA := Lib.hid hany
    clear hany
    obtain ⟨r0, r1⟩ := one_cell c1.br
    clear c1
    gi_wp2
    refine ⟨fun _ h => (by cases h), ?_⟩
    gi_wp2
    exact Hhend.out _ p true s _ (Hhstore.out _ _ _ true _ hc1.out) (by have := HA.out; cases D <;> simp [eachF, this]) rfl
  | false =>
    have HA := Lib.hid hany
    clear hany
    obtain ⟨e0, e1, e2, e3, e4, e5⟩ := c1.env
    obtain ⟨m0, m1⟩ := one_cell c1.bm
    clear c1
    gi_wp2_with (refine ld78In (o := ⟨some 16, _, _, _, _, _⟩) rfl _ rfl _ rfl p 78 hp hc1.out.bp ?_)
    refine ⟨trivial, (callsIn_wide.2 (Hhcw.out V s p many (by have := hc1.out.size; omega) hp (by omega) Hhin.out hc1.out.g hc1.out.j)).mono ?_⟩
    rintro e V2 ⟨rfl, hj2, hk2⟩
    have hc2 := Lib.hid (Hhstep.out V V2 p false s _ hc1.out hk2 hj2)
    clear hj2 hk2 e0 e1 e2 e3 e4 e5 m0 m1
    cases hw : (wf s p many).1 with
    | false =>
      have Hhw := Lib.hid hw
      clear hw
      obtain ⟨r0, r1⟩ := one_cell hc2.out.br
      gi_wp2
      exact Hhend.out _ p true _ _ (Hhstore.out _ _ _ true _ hc2.out) (by have h1 := HA.out; have h2 := Hhw.out; cases D <;> simp [eachF, h1, h2]) rfl
    | true =>
      have Hhw := Lib.hid hw
      clear hw
      obtain ⟨e0, e1, e2, e3, e4, e5⟩ := hc2.out.env
      obtain ⟨m0, m1⟩ := one_cell hc2.out.bm
      obtain ⟨r0, r1⟩ := one_cell hc2.out.br
      cases D with
      | zero =>
        have hmx : ((many : Int) == (x.length : Int)) = true := by simp; omega
        have HhD := Lib.hid hD
        clear hD
        gi_wp2_with (refine ld78In (o := ⟨some 28, _, _, _, _, _⟩) rfl _ rfl _ rfl p 78 hp hc2.out.bp ?_)
        refine ⟨trivial, (callsIn_wide.2 (Hhcf.out V2 _ p (by have := hc2.out.size; omega) hp (by rw [show x.length = many from by have := HhD.out; omega]; exact Hhin.out) hc2.out.g hc2.out.j)).mono ?_⟩
        rintro e V3 ⟨rfl, hj3, hk3⟩
        have hc3 := Lib.hid (Hhstep.out V2 V3 p false _ _ hc2.out hk3 hj3)
        clear hj3 hk3 e0 e1 e2 e3 e4 e5 m0 m1 r0 r1
        obtain ⟨r0, r1⟩ := one_cell hc3.out.br
        gi_wp2
        exact Hhend.out _ p _ _ _ (Hhstore.out _ _ _ _ _ hc3.out) (by have h1 := HA.out; have h2 := Hhw.out; simp [eachF, h1, h2]) rfl
      | succ D =>
        have hmx : ((many : Int) == (x.length : Int)) = false := by simp; omega
        have hltm : many < x.length := by omega
        have HhD := Lib.hid hD
        clear hD
        gi_wp2_with fail
        refine ⟨trivial, (callsIn_wide.2 (choices_calls A c x.length B gs.length d many V2)).mono ?_⟩
        rintro e V3 ⟨rfl, hV3⟩
        have k3 : Keep Fp V2 V3 := by rw [hV3]; exact ((Keep.refl _ _).alloc _).alloc _
        have kb3 : Keep (fun k => b0 ≤ k ∧ Frm V2 k) V2 V3 := by rw [hV3]; exact ((Keep.refl _ _).alloc _).alloc _
        have hc3 := Lib.hid (Hhstep.out V2 V3 p false _ _ hc2.out k3 (HH.out.stabJ _ _ _ (by have := hc2.out.size; omega) kb3 hc2.out.j))
        have ch0 := (heap_two V2 (.cells #[.slice A x.length c, .slice B gs.length d] 73) (.cells #[.int .i64 many] 3)).1
        have ch1 := (heap_two V2 (.cells #[.slice A x.length c, .slice B gs.length d] 73) (.cells #[.int .i64 many] 3)).2
        rw [← hV3] at ch0 ch1
        have s3 : V3.heap.size = V2.heap.size + 1 + 1 := by rw [hV3]; simp
        clear hV3 k3 kb3 e0 e1 e2 e3 e4 e5 m0 m1 r0 r1
        have Hch0 := Lib.hid ch0
        have Hch1 := Lib.hid ch1
        have Hs3 := Lib.hid s3
        clear ch0 ch1 s3
        gi_wp2
        refine range_wide (gf := 85) rfl (enters_of Tryd.func85 (by kernel_rfl) rfl) ?_
        intro fn rec W1 hrec hW1
        dsimp only at hrec
        have hs2 := hc2.out.size
        have hs3 : V2.heap.size + 1 + 1 ≤ V3.heap.size := by have := Hs3.out; omega
        -- the rounds
        have hm5 := (HH.out.ok.2.2 many hltm).1
        have hml : (rd_L4 x many).length ≤ 5 := by unfold rd_L4; rw [Int.toNat_natCast]; exact hm5
        have Hml2 := Lib.hid (show (rd_L4 x many).length = (x.getD many []).length by unfold rd_L4; rw [Int.toNat_natCast])
        obtain ⟨JJ, hJJ⟩ : ∃ JJ : Nat → World → Prop, JJ = fun k V => ∃ q s', Ctx A c x.length B d gs.length C cc cl.length (.func (.func gw) #[] capsw) (.func (.func gf) #[] capsf) b0 G J Fp W many V q false s' ∧ (∀ n, q.set many n = p.set many n) ∧ q.length = 8 ∧
            loopF (fun n s => eachF x gs cl wf ff D (many + 1) (p.set many n) s) (rd_L4 x many).length ((rd_L4 x many).length + 1) (wf s p many).2 = loopF (fun n s => eachF x gs cl wf ff D (many + 1) (p.set many n) s) (rd_L4 x many).length ((rd_L4 x many).length + 1 - k) s' ∧
            V.heap[V3.heap.size + 1]? = some (.loop (rec .ready none)) ∧ V.heap[V3.heap.size]? = some (.deferred (some [])) ∧
            V.heap[V2.heap.size]? = some (.cells #[.slice A x.length c, .slice B gs.length d] 73 (0, 0)) ∧ V.heap[V2.heap.size + 1]? = some (.cells #[.int .i64 many] 3 (0, 0)) := ⟨_, rfl⟩
        obtain ⟨JX, hJX⟩ : ∃ JX : Nat → World → Prop, JX = fun k V => ∃ q s', Ctx A c x.length B d gs.length C cc cl.length (.func (.func gw) #[] capsw) (.func (.func gf) #[] capsf) b0 G J Fp W many V q false s' ∧
            loopF (fun n s => eachF x gs cl wf ff D (many + 1) (p.set many n) s) (rd_L4 x many).length ((rd_L4 x many).length + 1) (wf s p many).2 = (false, s') ∧
            V.heap[V3.heap.size + 1]? = some (.loop (rec .done (some .ret))) ∧ V.heap[V3.heap.size]? = some (.deferred (some [])) := ⟨_, rfl⟩
        have hW1s : W1.heap.size = V3.heap.size + 1 + 1 := by rw [hW1]; simp
        have hkW1 : Keep Fp V3 W1 := by rw [hW1]; exact ((Keep.refl _ _).alloc _).alloc _
        have hkb1 : Keep (fun k => b0 ≤ k ∧ Frm V3 k) V3 W1 := by rw [hW1]; exact ((Keep.refl _ _).alloc _).alloc _
        have hkf1 : Keep (fun k => V3.heap.size ≤ k) V3 W1 := by rw [hW1]; exact ((Keep.refl _ _).alloc _).alloc _
        refine (choices_iter (V3.heap.size + 1) V2.heap.size (V2.heap.size + 1) A c x many _ hltm rfl hml (by omega) JJ JX ?_ ?_ W1 ?_ 2).mono ?_
        · -- what the iterator reads
          intro k V hj
          rw [hJJ] at hj
          obtain ⟨q, s', h1, h2, h3, h4, h5, h6, h7, h8⟩ := hj
          exact ⟨by rw [cell_of_row _ _ _ _ _ _ h7]; rfl, (one_cell h8).1, (HH.out.reads V h1.g).1⟩
        · -- a round
          intro k V hk hj
          rw [hJJ] at hj
          obtain ⟨q, s', h1, h2, h3, h4, h5, h6, h7, h8'⟩ := hj
          refine yield_wide (by rw [hrec] at h5; exact h5) rfl ?_
          intro nn
          have hs1 := h1.size
          -- the record is busy
          have h5' : (V.putObj (V3.heap.size + 1) (.loop { rec .ready none with state := .busy })).heap[V3.heap.size + 1]? = some (.loop { rec .ready none with state := .busy }) := World.putObj_heap_same (Array.getElem?_eq_some_iff.1 h5).1
          have kp : Keep (fun i => i = V3.heap.size + 1) V (V.putObj (V3.heap.size + 1) (.loop { rec .ready none with state := .busy })) := (Keep.refl (fun i => i = V3.heap.size + 1) _).putObj (.inl rfl) _
          have hbr := run_beginRound (P := Tryd.prog) h5 (by rw [hrec]; rfl)
          obtain ⟨V4, hV4⟩ : ∃ V4, V4 = V.putObj (V3.heap.size + 1) (.loop { rec .ready none with state := .busy }) := ⟨_, rfl⟩
          rw [← hV4] at h5' kp hbr
          have c4 := Hhfar.out V V4 q false s' h1 (kp.mono (fun i _ h => ⟨by omega, by subst h; unfold Frm; rw [h5]; trivial⟩))
          have d6 := kp.at_ h6 (by omega)
          have d7 := kp.at_ h7 (by omega)
          have d8 := kp.at_ h8' (by omega)
          have hn9 : ∀ j, W.heap.size ≤ j → ¬ Fp j := fun j hj hf => by have := HH.out.fp _ hf; omega
          -- the choice is stored
          have c5 := Hhset.out V4 q false (choice (rd_L4 x many).length k) s' c4
          have ks : Keep (fun i => i = W.heap.size) V4 (V4.setCell ⟨W.heap.size, many, none⟩ (.int .i64 (choice (rd_L4 x many).length k))) := (Keep.refl (fun k => k = W.heap.size) _).setCell (p := ⟨W.heap.size, many, none⟩) (.inl rfl) _
          have g5 := ks.at_ h5' (by omega)
          have g6 := ks.at_ d6 (by omega)
          have g7 := ks.at_ d7 (by omega)
          have g8 := ks.at_ d8 (by omega)
          have hqn : q.set many (choice (rd_L4 x many).length k) = p.set many (choice (rd_L4 x many).length k) := h2 _
          rw [hqn] at c5
          have hrun := Hih.out D (by omega) (many + 1) (p.set many (choice (rd_L4 x many).length k)) s' _ (by have := HhD.out; omega) (by rw [List.length_set]; exact hp) (Hhin.out.set (by omega) (by unfold choice; split <;> omega) (by rw [← Hml2.out]; unfold choice; split <;> omega)) (by have := c5.size; omega) c5.env c5.g c5.j
          rw [show (((many + 1 : Nat)) : Int) = (many : Int) + 1 from by omega] at hrun
          obtain ⟨n0, n1⟩ := one_cell c4.bm
          obtain ⟨p0, p1⟩ := row_cell c4.bp many (by rw [h3]; omega)
          have c4e := c4.env.2.2.2.2.2
          have hc5 := Lib.hid c5
          have hg5 := Lib.hid g5
          have hg6 := Lib.hid g6
          have hg7 := Lib.hid g7
          have hg8 := Lib.hid g8
          have hru := Lib.hid hrun
          have hbR := Lib.hid hbr
          have hh2 := Lib.hid h2
          have hh4 := Lib.hid h4
          have hjj := Lib.hid hJJ
          have hjx := Lib.hid hJX
          have hrr := Lib.hid hrec
          have hqq := Lib.hid hqn
          clear c5 g5 g6 g7 g8 hrun h2 h4 h5 h6 h7 h8' h5' kp ks d6 d7 d8 c4 h1 hV4 hn9 hbr hJJ hJX hrec hW1 hW1s hkW1 hkb1 hkf1 hqn
          gi_wp2
          refine ⟨_, hbR.out, ?_⟩
          gi_wp2_with (refine ld78In (o := ⟨some 38, _, _, _, _, _⟩) rfl _ rfl _ rfl (p.set many (choice (rd_L4 x many).length k)) 78 (by rw [List.length_set]; exact hp) hc5.out.bp ?_)
          refine ⟨trivial, wideN _, (CallsIn.inRound _ (callsIn_wide.2 hru.out)).mono ?_⟩
          rintro e V6 ⟨rfl, hj6, hk6⟩
          have c6 := Hhstep.out _ V6 _ false s' _ hc5.out hk6 hj6
          have nF : ∀ j, W.heap.size ≤ j → ¬ Fp j := fun j hj hf => by have := HH.out.fp _ hf; omega
          have y5 := hk6.at_ hg5.out (nF _ (by omega))
          have y6 := hk6.at_ hg6.out (nF _ (by omega))
          have y7 := hk6.at_ hg7.out (nF _ (by omega))
          have y8 := hk6.at_ hg8.out (nF _ (by omega))
          obtain ⟨r0, r1⟩ := one_cell c6.br
          have hc6 := Lib.hid c6
          have hy5 := Lib.hid y5
          have hy6 := Lib.hid y6
          have hy7 := Lib.hid y7
          have hy8 := Lib.hid y8
          have hnF := Lib.hid nF
          have kk : (rd_L4 x many).length + 1 - k = ((rd_L4 x many).length - k) + 1 := by omega
          have kk2 : (rd_L4 x many).length - ((rd_L4 x many).length - k) = k := by omega
          have hkk := Lib.hid kk
          have hkk2 := Lib.hid kk2
          clear c6 y5 y6 y7 y8 nF hk6 hj6 kk kk2
          cases hres : (eachF x gs cl wf ff D (many + 1) (p.set many (choice (rd_L4 x many).length k)) s').1 with
          | true =>
            have hrs := Lib.hid hres
            clear hres
            gi_wp2
            refine ⟨_, _, run_endRound none hy5.out, .inl ⟨rfl, ?_⟩⟩
            rw [hjj.out]
            have kq : Keep (fun i => i = V3.heap.size + 1) V6 (V6.putObj (V3.heap.size + 1) (.loop { { rec .ready none with state := .busy } with state := if (none : Option Code).isNone then .ready else .done, pending := none })) := (Keep.refl (fun i => i = V3.heap.size + 1) _).putObj (.inl rfl) _
            refine ⟨p.set many (choice (rd_L4 x many).length k), (eachF x gs cl wf ff D (many + 1) (p.set many (choice (rd_L4 x many).length k)) s').2, Hhfar.out _ _ _ _ _ hc6.out (kq.mono (fun i _ h => ⟨by omega, by subst h; unfold Frm; rw [hy5.out]; trivial⟩)), fun n => List.set_set .., by rw [List.length_set]; exact hp, ?_, ?_, kq.at_ hy6.out (by omega), kq.at_ hy7.out (by omega), kq.at_ hy8.out (by omega)⟩
            · rw [hh4.out, hkk.out]
              simp only [loopF, hkk2.out, hrs.out, if_true]
              rw [show (rd_L4 x many).length + 1 - (k + 1) = (rd_L4 x many).length - k from by omega]
            · rw [World.putObj_heap_same (Array.getElem?_eq_some_iff.1 hy5.out).1, hrr.out]
              rfl
          | false =>
            have hrs := Lib.hid hres
            clear hres
            gi_wp2
            have c7 := Hhstore.out _ _ _ false _ hc6.out
            have k7 : Keep (fun i => i = W.heap.size + 1 + 1) V6 (V6.setCell ⟨W.heap.size + 1 + 1, 0, none⟩ (.bool false)) := (Keep.refl (fun i => i = W.heap.size + 1 + 1) _).setCell (p := ⟨W.heap.size + 1 + 1, 0, none⟩) (.inl rfl) _
            have z5 := k7.at_ hy5.out (by omega)
            have z6 := k7.at_ hy6.out (by omega)
            refine ⟨_, _, run_endRound (some .ret) z5, .inr ⟨rfl, ?_⟩⟩
            rw [hjx.out]
            have kq : ∀ o, Keep (fun i => i = V3.heap.size + 1) (V6.setCell ⟨W.heap.size + 1 + 1, 0, none⟩ (.bool false)) ((V6.setCell ⟨W.heap.size + 1 + 1, 0, none⟩ (.bool false)).putObj (V3.heap.size + 1) o) := fun o => (Keep.refl (fun i => i = V3.heap.size + 1) _).putObj (.inl rfl) _
            refine ⟨p.set many (choice (rd_L4 x many).length k), (eachF x gs cl wf ff D (many + 1) (p.set many (choice (rd_L4 x many).length k)) s').2, Hhfar.out _ _ _ _ _ c7 ((kq _).mono (fun i _ h => ⟨by omega, by subst h; unfold Frm; rw [z5]; trivial⟩)), ?_, ?_, (kq _).at_ z6 (by omega)⟩
            · rw [hh4.out, hkk.out]
              simp [loopF, hkk2.out, hrs.out]
            · rw [World.putObj_heap_same (Array.getElem?_eq_some_iff.1 z5).1, hrr.out]
              rfl
        · rw [hJJ]
          have := heap_two V3 (.deferred (some [])) (.loop (rec .ready none))
          rw [← hW1] at this
          exact ⟨p, _, Hhstep.out V3 W1 p false _ _ hc3.out hkW1 (HH.out.stabJ _ _ _ (by omega) hkb1 hc3.out.j), fun _ => rfl, hp, rfl, this.2, this.1, hkf1.at_ Hch0.out (by omega), hkf1.at_ Hch1.out (by omega)⟩
        · -- behind the iterator
          have hjj := Lib.hid hJJ
          have hjx := Lib.hid hJX
          have hrr := Lib.hid hrec
          clear hJJ hJX hrec hW1 hW1s hkW1 hkb1 hkf1
          rintro e V ⟨rfl, hj | ⟨k, hk, hj⟩⟩
          · rw [hjj.out] at hj
            obtain ⟨q, s', h1, h2, h3, h4, h5, h6, h7, h8'⟩ := hj
            have hs1 := h1.size
            have kq : ∀ o, Keep (fun i => i = V3.heap.size + 1) V (V.putObj (V3.heap.size + 1) o) := fun o => (Keep.refl (fun i => i = V3.heap.size + 1) _).putObj (.inl rfl) _
            have hrun := run_endLoop (P := Tryd.prog) h5 (by rw [hrr.out]; simp [loopRec])
            generalize hV7 : V.putObj (V3.heap.size + 1) (Obj.loop { rec .ready none with state := .exhausted }) = V7 at hrun
            rw [show (rec .ready none).pending = none from by rw [hrr.out]; rfl] at hrun
            have kq7 : Keep (fun i => i = V3.heap.size + 1) V V7 := by rw [← hV7]; exact kq _
            refine ⟨none, V7, hrun, ?_⟩
            have c2 := Hhfar.out V V7 _ _ _ h1 (kq7.mono (fun i _ h => ⟨by omega, by subst h; unfold Frm; rw [h5]; trivial⟩))
            have d6 := kq7.at_ h6 (by omega)
            have c3' := Hhstore.out V7 _ _ true _ c2
            have k8 : Keep (fun i => i = W.heap.size + 1 + 1) V7 (V7.setCell ⟨W.heap.size + 1 + 1, 0, none⟩ (.bool true)) := (Keep.refl (fun i => i = W.heap.size + 1 + 1) _).setCell (p := ⟨W.heap.size + 1 + 1, 0, none⟩) (.inl rfl) _
            have d7 := k8.at_ d6 (by omega)
            have hc2' := Lib.hid c3'
            have hd6 := Lib.hid d7
            have hh4 := Lib.hid h4
            obtain ⟨r0, r1⟩ := one_cell c2.br
            clear c2 d6 h1 h2 h4 h5 h6 h7 h8' hrun kq kq7 hV7 c3' k8 d7
            gi_wp2
            refine HhendM.out _ _ true s' _ _ hc2'.out ?_ rfl hd6.out (by omega)
            have h1 := HA.out
            have h2 := Hhw.out
            have h4 := hh4.out
            rw [show (rd_L4 x many).length + 1 - ((rd_L4 x many).length + 1) = 0 from by omega] at h4
            simp only [eachF, h1, h2, Bool.false_eq_true, if_false, Bool.true_eq_false]
            rw [h4]
            rfl
          · rw [hjx.out] at hj
            obtain ⟨q, s', h1, h4, h5, h6⟩ := hj
            have hs1 := h1.size
            have kq : ∀ o, Keep (fun i => i = V3.heap.size + 1) V (V.putObj (V3.heap.size + 1) o) := fun o => (Keep.refl (fun i => i = V3.heap.size + 1) _).putObj (.inl rfl) _
            have hrun := run_endLoop (P := Tryd.prog) h5 (by rw [hrr.out]; simp [loopRec])
            generalize hV7 : V.putObj (V3.heap.size + 1) (Obj.loop { rec .done (some .ret) with state := .exhausted }) = V7 at hrun
            rw [show (rec .done (some .ret)).pending = some .ret from by rw [hrr.out]; rfl] at hrun
            have kq7 : Keep (fun i => i = V3.heap.size + 1) V V7 := by rw [← hV7]; exact kq _
            refine ⟨some .ret, V7, hrun, ?_⟩
            have c2 := Hhfar.out V V7 _ _ _ h1 (kq7.mono (fun i _ h => ⟨by omega, by subst h; unfold Frm; rw [h5]; trivial⟩))
            have d6 := kq7.at_ h6 (by omega)
            have hc2' := Lib.hid c2
            have hd6 := Lib.hid d6
            have hh4 := Lib.hid h4
            clear c2 d6 h1 h4 h5 h6 hrun kq kq7 hV7
            gi_wp2
            refine HhendM.out _ _ false s' _ _ hc2'.out ?_ rfl hd6.out (by omega)
            have h1 := HA.out
            have h2 := Hhw.out
            have h4 := hh4.out
            simp only [eachF, h1, h2, Bool.false_eq_true, if_false, Bool.true_eq_false]
            rw [h4]
theorem each1_all (H : EachHyp A c x B d gs C cc cl G J Fp b0 wf ff wantsV foundV) (D : Nat) : Each1 A c x B d gs C cc cl G J Fp b0 wf ff wantsV foundV D := by
  induction D using Nat.strongRecOn with
  | _ D ih => exact each1_step H D ih
end
def zeros8 : List Int := List.replicate 8 0
set_option maxHeartbeats 1000000 in
theorem each_calls {σ : Type} (A : Option Addr) (c : Nat) (x : List (List S60)) (B : Option Addr) (d : Nat) (gs : List S68) (C : Option Addr) (cc : Nat) (cl : List S49)
    (G : World → Prop) (J : σ → World → Prop) (Fp : Nat → Prop) (wf : σ → List Int → Nat → Bool × σ) (ff : σ → List Int → Bool × σ) (wantsV foundV : Value) (w : World) (s : σ)
    (H : EachHyp A c x B d gs C cc cl G J Fp w.heap.size wf ff wantsV foundV) (hG : G w) (hJ : J s w) :
    Calls Tryd.prog 32 #[.agg #[.slice A x.length c, .slice B gs.length d], .slice C cl.length cc, wantsV, foundV] w fun e W' =>
      e = .returned (.tuple #[]) ∧ J (eachF x gs cl wf ff x.length 0 zeros8 s).2 W' ∧ Keep Fp w W' := by
  obtain ⟨gw, capsw, hwV, egw, hcw⟩ := H.wants
  obtain ⟨gf, capsf, hfV, egf, hcf⟩ := H.found
  subst hwV hfV
  have hq : ∀ V, V.heap.size = w.heap.size + 5 → Keep (fun k => w.heap.size ≤ k) w V → EnvW A c x.length B d gs.length C cc cl.length (.func (.func gw) #[] capsw) (.func (.func gf) #[] capsf) w.heap.size V →
      Calls Tryd.prog 64 #[.agg #[.int .i64 0, .int .i64 0, .int .i64 0, .int .i64 0, .int .i64 0, .int .i64 0, .int .i64 0, .int .i64 0], .int .i64 0, .pointer (some ⟨w.heap.size + 1, 0, none⟩), .pointer (some ⟨w.heap.size, 0, none⟩), .pointer (some ⟨w.heap.size + 1 + 1, 0, none⟩), .pointer (some ⟨w.heap.size + 1 + 1 + 1, 0, none⟩), .pointer (some ⟨w.heap.size + 1 + 1 + 1 + 1, 0, none⟩)] V
        fun e W' => (∃ b, e = .returned (.bool b)) ∧ J (eachF x gs cl wf ff x.length 0 zeros8 s).2 W' ∧ Keep Fp w W' := by
    intro V hV hk hE
    refine (each1_all H x.length 0 zeros8 s V (by omega) rfl (fun i hi => by omega) (by omega) hE (H.stabG w V (Nat.le_refl _) (hk.mono (fun k _ h => .inr h)) hG) (H.stabJ s w V (Nat.le_refl _) (hk.mono (fun k hk' h => absurd h (by omega))) hJ)).mono ?_
    rintro e W' ⟨h1, h2, h3⟩
    exact ⟨⟨_, h1⟩, h2, (Keep.trans2 (hk.mono (T := Fp) (fun k hk' h => absurd h (by omega))) h3 (fun _ _ h => h))⟩
  have Hhq := Lib.hid hq
  have HH := Lib.hid H
  have HhG := Lib.hid hG
  have HhJ := Lib.hid hJ
  clear hq H hG hJ
  clear hcw hcf egw egf
  go_enter Tryd.func32, Tryd.ntmps32
  go_wp2_with fail
  refine (Hhq.out _ (by simp) ?_ ?_).mono ?_
  · exact (((((Keep.refl _ _).alloc _).alloc _).alloc _).alloc _).alloc _
  · refine ⟨?_, ?_, ?_, ?_, ?_, ?_⟩
    · simp [go_sem]
    · simp [go_sem]
    · simp [go_sem]
    · exact show World.cell? _ ⟨w.heap.size + 1 + 1, 0, none⟩ = _ by simp [go_sem]
    · exact show World.cell? _ ⟨w.heap.size + 1 + 1 + 1, 0, none⟩ = _ by simp [go_sem]
    · exact show World.cell? _ ⟨w.heap.size + 1 + 1 + 1 + 1, 0, none⟩ = _ by simp [go_sem]
  rintro e V ⟨⟨b, rfl⟩, h2, h3⟩
  have Hh2 := Lib.hid h2
  have Hh3 := Lib.hid h3
  clear h2 h3
  go_wp2
  go_end0
  exact ⟨rfl, Hh2.out, Hh3.out⟩
end Go.Proofs.YtlhnpbdpojcbeaaDoor
end
section
open Go Go.RowKit
namespace Go.Proofs.YtlhnpbdpojcbeaaDoor
open Go.Proofs.YtlhnpbdpojcbeaaDoorW.PrintWords
open PPackAll Go.Shelf
set_option linter.unusedVariables false
set_option linter.unusedSimpArgs false
def RelPost0 (x : List (List S60)) (p : List Int) (i : Int) (w0 w : World) (e : Ending) (w' : World) : Prop :=
  Below w.heap.size w w' ∧ ∃ A0 c0 A1 c1, e = .returned (.tuple #[.agg #[.slice A0 (rd_T60 (rd_L4 x i) (rd p i)).f0.length c0, .slice A1 (rd_T60 (rd_L4 x i) (rd p i)).f1.length c1], .bool true]) ∧
    (rd_T60 (rd_L4 x i) (rd p i)).f0.length ≤ c0 ∧ k68.C w0 A0 (rd_T60 (rd_L4 x i) (rd p i)).f0.length (rd_T60 (rd_L4 x i) (rd p i)).f0 ∧
    (rd_T60 (rd_L4 x i) (rd p i)).f1.length ≤ c1 ∧ k68.C w0 A1 (rd_T60 (rd_L4 x i) (rd p i)).f1.length (rd_T60 (rd_L4 x i) (rd p i)).f1
set_option maxHeartbeats 1000000 in
theorem release_at (A : Option Addr) (c : Nat) (x : List (List S60)) (B : Option Addr) (n d : Nat) (p : List Int) (i : Int) (w0 w : World) (hb0 : Below w0.heap.size w0 w)
    (hx : Kd.C (Kd.slice 60 k60) w0 A x.length x) (hp : p.length = 8) (h0 : 0 ≤ i) (h1 : i < 8) (hi : i < x.length) (hm : 0 ≤ rd p i) (hm2 : rd p i < (rd_L4 x i).length) :
    Calls Tryd.prog 87 #[.agg #[.slice A x.length c, .slice B n d], planV p, .int .i64 i] w (RelPost0 x p i w0 w) := by
  unfold planV
  have ha := planA_at p i (by omega)
  obtain ⟨ad, A0, c0, e, hc, hl, hr⟩ := at_L4 hx i h0 hi
  subst e
  obtain ⟨ad2, B0, e0, B1, e1, e, q0, q1, l0, g0, l1, g1⟩ := at_T60 hr (rd p i) hm hm2
  subst e
  replace hc := pw_cell_below hb0 hc
  replace q0 := pw_cell_below hb0 q0
  replace q1 := pw_cell_below hb0 q1
  have hne : (rd p i == -1) = false := by rw [beq_eq_false_iff_ne]; omega
  have z1 := World.block_lt_of_cell? w _ hc
  have z2 := World.block_lt_of_cell? w _ q0
  have z3 := World.block_lt_of_cell? w _ q1
  generalize planA p = C at ha
  have fin : ∀ W, Below w.heap.size w W → RelPost0 x p i w0 w (.returned (.tuple #[.agg #[.slice B0 (rd_T60 (rd_L4 x i) (rd p i)).f0.length e0, .slice B1 (rd_T60 (rd_L4 x i) (rd p i)).f1.length e1], .bool true])) W :=
    fun W hb => ⟨hb, B0, e0, B1, e1, rfl, l0, g0, l1, g1⟩
  have Hfin := Lib.hid fin
  clear fin
  clear hx hr l0 g0 l1 g1
  have hb3 : Below w.heap.size w (((w.alloc (Obj.cells #[Value.slice (some ad) x.length c, Value.slice B n d] 73)).alloc (Obj.cells C 78)).alloc (Obj.cells #[Value.slice none 0 0, Value.slice none 0 0] 60)) := by (repeat (first | exact Below.refl _ _ | refine pw_below_drewN ?_ _ | refine below_drew ?_ | refine Below.alloc ?_ (by first | omega | (simp; done) | (simp; omega)) _ | refine Below.setCell ?_ (by first | omega | (simp; done) | (simp; omega)) _))
  have y1 := pw_cell_below hb3 hc
  have y2 := pw_cell_below hb3 q0
  have y3 := pw_cell_below hb3 q1
  have Hhb3 := Lib.hid hb3
  clear hb3
  clear hc q0 q1
  go_enter Tryd.func87, Tryd.ntmps87
  go_wp2
  go_region
  go_wp2
  exact bodyPost_ret (v := .tuple #[.agg #[.slice B0 (rd_T60 (rd_L4 x i) (rd p i)).f0.length e0, .slice B1 (rd_T60 (rd_L4 x i) (rd p i)).f1.length e1], .bool true]) (by simp [results, Tryd.results87, go_sem]) rfl (Hfin.out _ (by (repeat (first | exact Below.refl _ _ | refine pw_below_drewN ?_ _ | refine below_drew ?_ | refine Below.alloc ?_ (by first | omega | (simp; done) | (simp; omega)) _ | refine Below.setCell ?_ (by first | omega | (simp; done) | (simp; omega)) _))))
def needsOf (x : List (List S60)) (p : List Int) (i : Nat) : List S68 := if rd p i = -1 then [] else (rd_T60 (rd_L4 x i) (rd p i)).f0
def needF (x : List (List S60)) (p : List Int) : Nat → Nat → Nat → Nat
  | 0, s, _ => s
  | F + 1, s, i => if s.testBit i then s else (needsOf x p i).foldl (fun s n => needF x p F s n.f0.toNat) (s ||| 2 ^ i)
theorem needF_succ (x : List (List S60)) (p : List Int) (F s i : Nat) : needF x p (F + 1) s i = if s.testBit i then s else (needsOf x p i).foldl (fun s n => needF x p F s n.f0.toNat) (s ||| 2 ^ i) := rfl
def unset (s : Nat) : Nat := ((List.range 8).filter fun j => !s.testBit j).length
theorem and_test (s i : Nat) (hs : s < 256) : (bits BinOp.and IntKind.u64 ((s : Int) / 2 ^ i) 1 == 1) = s.testBit i := by
  have h1 : ((s : Int) / 2 ^ i) = ((s / 2 ^ i : Nat) : Int) := by push_cast; rfl
  have h2 : s / 2 ^ i < 18446744073709551616 := Nat.lt_of_le_of_lt (Nat.div_le_self _ _) (by omega)
  rw [h1, show (1 : Int) = ((1 : Nat) : Int) from rfl, bits_and_u64_nat _ _ h2 (by omega)]
  rw [Nat.testBit, Nat.shiftRight_eq_div_pow, Nat.and_comm]
  rw [Bool.eq_iff_iff]
  simp only [beq_iff_eq, bne_iff_ne, ne_eq]
  have h3 : 1 &&& s / 2 ^ i = s / 2 ^ i % 2 := by rw [Nat.one_and_eq_mod_two]
  rw [h3]
  omega
theorem or_bit (s i : Nat) (hs : s < 256) (hi : i < 8) : bits BinOp.or IntKind.u64 (s : Int) (2 ^ i) = ((s ||| 2 ^ i : Nat) : Int) := by
  have h1 : ((2 : Int) ^ i) = ((2 ^ i : Nat) : Int) := by push_cast; rfl
  have h2 : 2 ^ i < 18446744073709551616 := Nat.lt_of_lt_of_le (Nat.pow_lt_pow_right (by omega) hi) (by omega)
  rw [h1, bits_or_u64_nat _ _ (by omega) h2]
theorem wrap_pow (i : Nat) (hi : i < 8) : IntKind.u64.wrap ((2 : Int) ^ i) = 2 ^ i := by
  have h : ∀ i : Fin 8, IntKind.u64.wrap ((2 : Int) ^ i.val) = 2 ^ i.val := by decide +kernel
  exact h ⟨i, hi⟩
theorem or_lt (s i : Nat) (hs : s < 256) (hi : i < 8) : s ||| 2 ^ i < 256 :=
  Nat.or_lt_two_pow (n := 8) hs (Nat.pow_lt_pow_right (by omega) hi)
theorem or_test (s i j : Nat) : (s ||| 2 ^ i).testBit j = (s.testBit j || decide (i = j)) := by
  rw [Nat.testBit_or, Nat.testBit_two_pow]
theorem unset_mono (s t : Nat) (h : ∀ j, s.testBit j = true → t.testBit j = true) : unset t ≤ unset s := by
  unfold unset
  rw [← List.countP_eq_length_filter, ← List.countP_eq_length_filter]
  refine List.countP_mono_left ?_
  intro j _ hj
  simp at hj ⊢
  rcases h' : s.testBit j with _ | _
  · rfl
  · rw [h j h'] at hj; cases hj
theorem unset_or (s i : Nat) (hlt : s < 256) (hi : i < 8) (hs : s.testBit i = false) : unset (s ||| 2 ^ i) < unset s := by
  have h : ∀ s : Fin 256, ∀ i : Fin 8, s.val.testBit i.val = false → unset (s.val ||| 2 ^ i.val) < unset s.val := by decide +kernel
  exact h ⟨s, hlt⟩ ⟨i, hi⟩ hs
theorem needF_mono (x : List (List S60)) (p : List Int) : ∀ (F s i j : Nat), s.testBit j = true → (needF x p F s i).testBit j = true := by
  intro F
  induction F with
  | zero => intro s i j h; exact h
  | succ F ih =>
    intro s i j h
    unfold needF
    split
    · exact h
    · have h1 : (s ||| 2 ^ i).testBit j = true := by rw [or_test, h]; rfl
      generalize (s ||| 2 ^ i) = t at h1
      induction needsOf x p i generalizing t with
      | nil => exact h1
      | cons n l ih2 => exact ih2 _ (ih _ _ _ h1)
theorem needF_lt (x : List (List S60)) (p : List Int) (hx : ∀ i, i < 8 → ∀ n ∈ needsOf x p i, n.f0.toNat < 8) : ∀ (F s i : Nat), s < 256 → i < 8 → needF x p F s i < 256 := by
  intro F
  induction F with
  | zero => intro s i h _; exact h
  | succ F ih =>
    intro s i h hi
    unfold needF
    split
    · exact h
    · have h1 := or_lt s i h hi
      have h2 := hx i hi
      generalize (s ||| 2 ^ i) = t at h1
      generalize needsOf x p i = l at h2
      induction l generalizing t with
      | nil => exact h1
      | cons n l ih2 => exact ih2 _ (ih _ _ h1 (h2 n List.mem_cons_self)) (fun m hm => h2 m (List.mem_cons_of_mem _ hm))
theorem relOf_ok (x : List (List S60)) (p : List Int) (hok : OkIdx x) (hpl : ∀ i : Nat, i < x.length → -1 ≤ rd p i ∧ rd p i < ((x.getD i []).length : Int)) (i : Nat) (hi : i < x.length) (hm : rd p i ≠ -1) : OkRel x i (rd_T60 (rd_L4 x i) (rd p i)) := by
  have hri := hpl i hi
  refine (hok.2.2 i hi).2 _ ?_
  have hlt : (rd p i).toNat < (x.getD i []).length := by omega
  have := getD_mem (x.getD i []) (rd p i).toNat z60 hlt
  unfold rd_T60 rd_L4
  rw [Int.toNat_natCast]
  exact this
theorem needsOf_lt (x : List (List S60)) (p : List Int) (hok : OkIdx x) (hpl : ∀ i : Nat, i < x.length → -1 ≤ rd p i ∧ rd p i < ((x.getD i []).length : Int)) : ∀ i, i < 8 → ∀ n ∈ needsOf x p i, n.f0.toNat < 8 := by
  intro i _ n hn
  unfold needsOf at hn
  split at hn
  · cases hn
  · rename_i hm
    rcases Nat.lt_or_ge i x.length with hi | hi
    · have := ((relOf_ok x p hok hpl i hi hm).2.2.1 n hn).1
      have h8 := hok.2.1
      have h1 := this.1
      have h2 := this.2.1
      omega
    · have : rd_L4 x (i : Int) = [] := by unfold rd_L4; rw [Int.toNat_natCast, List.getD_eq_getElem?_getD, List.getElem?_eq_none hi]; rfl
      rw [this] at hn
      unfold rd_T60 at hn
      simp [z60] at hn
def NdEnv (A : Option Addr) (c nx : Nat) (B : Option Addr) (n d : Nat) (p : List Int) (bo bx bp bf : Nat) (W : World) : Prop :=
  W.cell? ⟨bx, 0, none⟩ = some (.slice A nx c) ∧ W.cell? ⟨bx, 1, none⟩ = some (.slice B n d) ∧ W.heap[bp]? = some (.cells (planA p) 78 (0, 0)) ∧
  W.cell? ⟨bf, 0, none⟩ = some (.func (.func 95) #[] #[.pointer (some ⟨bo, 0, none⟩), .pointer (some ⟨bx, 0, none⟩), .pointer (some ⟨bp, 0, none⟩), .pointer (some ⟨bf, 0, none⟩)])
theorem NdEnv.keep {A : Option Addr} {c nx : Nat} {B : Option Addr} {n d : Nat} {p : List Int} {bo bx bp bf : Nat} {W W' : World} (h : NdEnv A c nx B n d p bo bx bp bf W) (hk : Keep (fun k => k = bo) W W') (h1 : bx ≠ bo) (h2 : bp ≠ bo) (h3 : bf ≠ bo) :
    NdEnv A c nx B n d p bo bx bp bf W' := ⟨hk.cell h.1 h1, hk.cell h.2.1 h1, hk.at_ h.2.2.1 h2, hk.cell h.2.2.2 h3⟩
def wordBox (s : Nat) : Obj := .cells #[.int .u64 s] 84 (0, 0)
def NeedC (A : Option Addr) (c : Nat) (x : List (List S60)) (B : Option Addr) (n d : Nat) (p : List Int) (w0 : World) (bo bx bp bf F : Nat) : Prop :=
  ∀ (s i : Nat) (W : World), s < 256 → i < x.length → unset s < F → Below w0.heap.size w0 W → W.heap[bo]? = some (wordBox s) → NdEnv A c x.length B n d p bo bx bp bf W →
    Calls Tryd.prog 95 #[.int .i64 i, .pointer (some ⟨bo, 0, none⟩), .pointer (some ⟨bx, 0, none⟩), .pointer (some ⟨bp, 0, none⟩), .pointer (some ⟨bf, 0, none⟩)] W fun e W' =>
      e = .returned (.tuple #[]) ∧ W'.heap[bo]? = some (wordBox (needF x p F s i)) ∧ Keep (fun k => k = bo) W W'
set_option maxHeartbeats 4000000 in
theorem need_step (A : Option Addr) (c : Nat) (x : List (List S60)) (B : Option Addr) (n d : Nat) (p : List Int) (w0 : World) (bo bx bp bf F : Nat)
    (hx : Kd.C (Kd.slice 60 k60) w0 A x.length x) (hok : OkIdx x) (hp : p.length = 8) (hpl : ∀ i : Nat, i < x.length → -1 ≤ rd p i ∧ rd p i < ((x.getD i []).length : Int))
    (h1 : w0.heap.size ≤ bo) (h2 : bx ≠ bo) (h3 : bp ≠ bo) (h4 : bf ≠ bo) (ih : NeedC A c x B n d p w0 bo bx bp bf F) : NeedC A c x B n d p w0 bo bx bp bf (F + 1) := by
  intro s i W hs hi hu hb hbo hE
  have h8 := hok.2.1
  have hi8 : i < 8 := by omega
  obtain ⟨e0, e1, e2, e3⟩ := hE
  obtain ⟨o0, o1⟩ := one_cell hbo
  have hlo := World.block_lt_of_cell? W _ o0
  cases ht : s.testBit i with
  | true =>
    have hb1 : (bits BinOp.and IntKind.u64 ((s : Int) / 2 ^ i) 1 == 1) = true := by rw [and_test s i hs, ht]
    have fin : W.heap[bo]? = some (wordBox (needF x p (F + 1) s i)) := by rw [hbo, needF_succ, if_pos ht]
    have Hfin := Lib.hid fin
    have Hht := Lib.hid ht
    have Hhbo := Lib.hid hbo
    clear fin ht hbo
    clear e0 e1 e2 e3 o1
    go_enter Tryd.func95, Tryd.ntmps95
    go_wp2
    exact bodyPost_ret (results_none rfl _ _ _) rfl ⟨rfl, Hfin.out, Keep.refl _ _⟩
  | false =>
    have hb1 : (bits BinOp.and IntKind.u64 ((s : Int) / 2 ^ i) 1 == 1) = false := by rw [and_test s i hs, ht]
    have hor : bits BinOp.or IntKind.u64 (s : Int) (IntKind.u64.wrap (2 ^ i)) = ((s ||| 2 ^ i : Nat) : Int) := by rw [wrap_pow i hi8]; exact or_bit s i hs hi8
    have Hht := Lib.hid ht
    have Hhbo := Lib.hid hbo
    have Hhor := Lib.hid hor
    clear ht hbo hor
    go_enter Tryd.func95, Tryd.ntmps95
    go_wp2_with fail
    go_region
    rw [Hhor.out]
    obtain ⟨V, hV⟩ : ∃ V, V = (W.setCell ⟨bo, 0, none⟩ (.int .u64 ((s ||| 2 ^ i : Nat) : Int))).drew := ⟨_, rfl⟩
    rw [← hV]
    have kV : Keep (fun k => k = bo) W V := by rw [hV]; exact ((Keep.refl (fun k => k = bo) _).setCell (p := ⟨bo, 0, none⟩) (.inl rfl) _).drewN 1
    have hboV : V.heap[bo]? = some (wordBox (s ||| 2 ^ i)) := by
      rw [hV]
      show (W.setCell ⟨bo, 0, none⟩ (.int .u64 ((s ||| 2 ^ i : Nat) : Int))).heap[bo]? = _
      rw [heap_setCell_same W bo 0 _ _ _ Hhbo.out]
      rfl
    have hEV := NdEnv.keep (A := A) (c := c) (nx := x.length) (B := B) (n := n) (d := d) (p := p) (bf := bf) ⟨e0, e1, e2, e3⟩ kV h2 h3 h4
    have hbV : Below w0.heap.size w0 V := hb.trans (kV.below _ (by have := hb.size; omega) (fun k _ h => by omega))
    have hs' := or_lt s i hs hi8
    have hu' : unset (s ||| 2 ^ i) < F := by have := unset_or s i hs hi8 Hht.out; omega
    clear hV e0 e1 e2 e3 o0 o1 hlo
    obtain ⟨e0, e1, e2, e3⟩ := hEV
    have lx := World.block_lt_of_cell? V _ e0
    have hEV := Lib.hid (show NdEnv A c x.length B n d p bo bx bp bf V from ⟨e0, e1, e2, e3⟩)
    have l0 := (Array.getElem?_eq_some_iff.1 e2).1
    have He2 := Lib.hid e2
    have He3 := Lib.hid e3
    have HhboV := Lib.hid hboV
    have HhbV := Lib.hid hbV
    have HkV := Lib.hid kV
    clear e2 e3 hboV hbV kV
    have hri := hpl i hi
    by_cases hm : rd p i = -1
    · have hrel := release_none A c x B n d p i V hp (by omega) (by omega) hm
      have hfinal : needF x p (F + 1) s i = s ||| 2 ^ i := by rw [needF_succ, if_neg (by rw [Hht.out]; simp)]; unfold needsOf; rw [if_pos hm]; rfl
      have Hhrel := Lib.hid hrel
      have Hhfinal := Lib.hid hfinal
      clear hrel hfinal
      go_wp2_with (refine ld78 (o := ⟨some 21, _, _, _, _, _⟩) rfl _ rfl _ rfl p 78 hp He2.out ?_)
      refine Hhrel.out.mono ?_
      rintro e V2 ⟨rfl, hb2⟩
      have k2 : Keep (fun k => k = bo) W V2 := HkV.out.trans (Keep.ofBelow hb2 _)
      have o2 := (hb2.block bo (Array.getElem?_eq_some_iff.1 HhboV.out).1).trans HhboV.out
      have Hk2 := Lib.hid k2
      have Ho2 := Lib.hid o2
      clear k2 o2
      clear hb2
      go_wp2
      refine wp_loop_once ?_
      go_wp2
      exact bodyPost_end (results_none rfl _ _ _) rfl ⟨rfl, by rw [Hhfinal.out, Below.heap_alloc _ _ _ (Array.getElem?_eq_some_iff.1 Ho2.out).1]; exact Ho2.out, Hk2.out.alloc _⟩
    · have hm0 : 0 ≤ rd p i := by omega
      have hm1 : rd p i < ((rd_L4 x i).length : Int) := by unfold rd_L4; rw [Int.toNat_natCast]; exact hri.2
      have hrel := release_at A c x B n d p i w0 V HhbV.out hx hp (by omega) (by omega) (by omega) hm0 hm1
      have hfinal : needF x p (F + 1) s i = (rd_T60 (rd_L4 x i) (rd p i)).f0.foldl (fun s n => needF x p F s n.f0.toNat) (s ||| 2 ^ i) := by rw [needF_succ, if_neg (by rw [Hht.out]; simp)]; unfold needsOf; rw [if_neg hm]
      have hrl : OkRel x i (rd_T60 (rd_L4 x i) (rd p i)) := by
        refine (hok.2.2 i hi).2 _ ?_
        have hlt : (rd p i).toNat < (x.getD i []).length := by omega
        have := getD_mem (x.getD i []) (rd p i).toNat z60 hlt
        unfold rd_T60 rd_L4
        rw [Int.toNat_natCast]
        exact this
      have hnb := needsOf_lt x p hok hpl
      have hnl : ∀ q ∈ (rd_T60 (rd_L4 x i) (rd p i)).f0, OkRange x q := fun q hq => (hrl.2.2.1 q hq).1
      have hn4 : (rd_T60 (rd_L4 x i) (rd p i)).f0.length ≤ 4 := hrl.1
      have Hhrel := Lib.hid hrel
      clear hrel
      go_wp2_with (refine ld78 (o := ⟨some 21, _, _, _, _, _⟩) rfl _ rfl _ rfl p 78 hp He2.out ?_)
      refine Hhrel.out.mono ?_
      clear Hhrel
      rintro e V2 ⟨hb2, A0, c0, A1, c1, rfl, l0', g0, -, -⟩
      generalize (rd_T60 (rd_L4 x i) (rd p i)).f0 = L at l0' g0 hfinal hnl hn4
      generalize (rd_T60 (rd_L4 x i) (rd p i)).f1.length = M1
      have k2 : Keep (fun k => k = bo) W V2 := HkV.out.trans (Keep.ofBelow hb2 _)
      have o2 := (hb2.block bo (Array.getElem?_eq_some_iff.1 HhboV.out).1).trans HhboV.out
      have hE2 := hEV.out.keep (Keep.ofBelow hb2 (fun k => k = bo)) h2 h3 h4
      have hs2 := hb2.size
      have hbV2 := HhbV.out.trans (hb2.mono HhbV.out.size)
      have Hk2 := Lib.hid k2
      have Ho2 := Lib.hid o2
      have Hg0 := Lib.hid g0
      have Hhfinal := Lib.hid hfinal
      have Hhnl := Lib.hid hnl
      have HhE2 := Lib.hid hE2
      have HhbV2 := Lib.hid hbV2
      clear k2 o2 g0 hfinal hnl hE2 hbV2
      clear hb2 e0 e1
      go_wp2
      go_loopw [29] (fun v29 W' => ∃ k : Nat, v29 = .int .i64 k ∧ k ≤ L.length ∧ Keep (fun k => k = bo) V2 W' ∧ W'.heap[bo]? = some (wordBox ((L.take k).foldl (fun s n => needF x p F s n.f0.toNat) (s ||| 2 ^ i))))
        (fun v29 _ => L.length - (intOf v29).toNat)
      case atStart =>
        exact ⟨0, rfl, Nat.zero_le _, (Keep.refl _ _).alloc _, by rw [Below.heap_alloc _ _ _ (Array.getElem?_eq_some_iff.1 Ho2.out).1]; exact Ho2.out⟩
      case round =>
        obtain ⟨k, rfl, hk, hkk, hbk⟩ := hrel
        have hE3 := HhE2.out.keep hkk h2 h3 h4
        have hbw : Below w0.heap.size w0 wr := HhbV2.out.trans (hkk.below _ (by have := HhbV2.out.size; omega) (fun k _ h => by omega))
        rcases Nat.lt_or_ge k L.length with hlt | hge
        · obtain ⟨ad, e, c0, c1, c2⟩ := at_T68 (Kd.C_below Hg0.out hbw) (k : Int) (by omega) (by omega)
          rw [Int.toNat_natCast] at c0 c1 c2
          subst e
          have hmem : rd_T68 L k ∈ L := by
            unfold rd_T68
            rw [Int.toNat_natCast]
            exact getD_mem _ _ _ hlt
          have hrange := Hhnl.out _ hmem
          have hstep : (L.take (k + 1)).foldl (fun s n => needF x p F s n.f0.toNat) (s ||| 2 ^ i) = needF x p F ((L.take k).foldl (fun s n => needF x p F s n.f0.toNat) (s ||| 2 ^ i)) (rd_T68 L k).f0.toNat := by
            rw [List.take_succ_eq_append_getElem hlt, List.foldl_append]
            unfold rd_T68
            rw [Int.toNat_natCast, List.getD_eq_getElem?_getD, List.getElem?_eq_getElem hlt]
            rfl
          have hfold : ∀ (l : List S68) (t : Nat), (∀ q ∈ l, OkRange x q) → t < 256 → unset t < F → l.foldl (fun s n => needF x p F s n.f0.toNat) t < 256 ∧ unset (l.foldl (fun s n => needF x p F s n.f0.toNat) t) < F := by
            intro l
            induction l with
            | nil => intro t _ h1 h2; exact ⟨h1, h2⟩
            | cons q l ih3 =>
              intro t hq ht1 ht2
              have hq0 := hq q List.mem_cons_self
              exact ih3 _ (fun r hr => hq r (List.mem_cons_of_mem _ hr)) (needF_lt x p hnb F t _ ht1 (by have := hq0.1; have := hq0.2.1; omega)) (Nat.lt_of_le_of_lt (unset_mono _ _ (fun j hj => needF_mono x p F t _ j hj)) ht2)
          obtain ⟨f1, f2⟩ := hfold (L.take k) _ (fun q hq => Hhnl.out q (List.mem_of_mem_take hq)) hs' hu'
          generalize (L.take k).foldl (fun s n => needF x p F s n.f0.toNat) (s ||| 2 ^ i) = sk at hbk hstep f1 f2
          have hcall := fun (o : Obj) => ih sk (rd_T68 L k).f0.toNat (wr.alloc o) f1 (by have := hrange.1; have := hrange.2.1; omega) f2 (hbw.trans (((Below.refl _ _).alloc (Nat.le_refl _) _).mono hbw.size))
            ((Below.heap_alloc _ _ _ (Array.getElem?_eq_some_iff.1 hbk).1).trans hbk) (hE3.keep ((Keep.refl _ _).alloc _) h2 h3 h4)
          rw [Int.toNat_of_nonneg hrange.1] at hcall
          obtain ⟨-, -, -, e4⟩ := hE3
          have lt4 := World.block_lt_of_cell? wr _ e4
          have lt5 := World.block_lt_of_cell? wr _ c0
          have Hhcall := Lib.hid hcall
          have Hhkk := Lib.hid hkk
          have Hhbw := Lib.hid hbw
          have Hhstep := Lib.hid hstep
          have Hhbk := Lib.hid hbk
          clear hcall hkk hbw hstep hbk
          clear hfold hrange hmem
          go_wp2_with fail
          refine (Hhcall.out _).mono ?_
          clear Hhcall
          rintro e W5 ⟨rfl, hb5, hk5⟩
          rw [← Hhstep.out] at hb5
          have k5 : Keep (fun k => k = bo) V2 W5 := (Hhkk.out.alloc _).trans hk5
          have Hhb5 := Lib.hid hb5
          have Hk5 := Lib.hid k5
          clear hb5 k5
          clear hk5
          go_wp2
          go_roundw
          case rel => exact ⟨k + 1, by go_num, by omega, Hk5.out, Hhb5.out⟩
          case measure => first | (simp [intOf]; done) | (simp [intOf]; omega)
        · have hkl : k = L.length := by omega
          have hval : wr.heap[bo]? = some (wordBox (needF x p (F + 1) s i)) := by rw [hbk, Hhfinal.out, hkl, List.take_length]
          have Hhval := Lib.hid hval
          have Hhkk := Lib.hid hkk
          have Hhbw := Lib.hid hbw
          have Hhbk := Lib.hid hbk
          clear hval hkk hbw hbk
          go_wp2
          exact bodyPost_end (results_none rfl _ _ _) rfl ⟨rfl, Hhval.out, Hk2.out.trans Hhkk.out⟩
theorem need_all (A : Option Addr) (c : Nat) (x : List (List S60)) (B : Option Addr) (n d : Nat) (p : List Int) (w0 : World) (bo bx bp bf F : Nat)
    (hx : Kd.C (Kd.slice 60 k60) w0 A x.length x) (hok : OkIdx x) (hp : p.length = 8) (hpl : ∀ i : Nat, i < x.length → -1 ≤ rd p i ∧ rd p i < ((x.getD i []).length : Int))
    (h1 : w0.heap.size ≤ bo) (h2 : bx ≠ bo) (h3 : bp ≠ bo) (h4 : bf ≠ bo) : NeedC A c x B n d p w0 bo bx bp bf F := by
  induction F with
  | zero => intro s i W _ _ h; omega
  | succ F ih => exact need_step A c x B n d p w0 bo bx bp bf F hx hok hp hpl h1 h2 h3 h4 ih
def neededF (x : List (List S60)) (gs : List S68) (p : List Int) : Nat := gs.foldl (fun s g => needF x p 9 s g.f0.toNat) 0
theorem fold_ok (x : List (List S60)) (p : List Int) (hok : OkIdx x) (hnb : ∀ i, i < 8 → ∀ n ∈ needsOf x p i, n.f0.toNat < 8) (F : Nat) :
    ∀ (l : List S68) (t : Nat), (∀ q ∈ l, OkRange x q) → t < 256 → unset t < F → l.foldl (fun s n => needF x p F s n.f0.toNat) t < 256 ∧ unset (l.foldl (fun s n => needF x p F s n.f0.toNat) t) < F := by
  have h8 := hok.2.1
  intro l
  induction l with
  | nil => intro t _ h1 h2; exact ⟨h1, h2⟩
  | cons q l ih3 =>
    intro t hq ht1 ht2
    have hq0 := hq q List.mem_cons_self
    exact ih3 _ (fun r hr => hq r (List.mem_cons_of_mem _ hr)) (needF_lt x p hnb F t _ ht1 (by have := hq0.1; have := hq0.2.1; omega)) (Nat.lt_of_le_of_lt (unset_mono _ _ (fun j hj => needF_mono x p F t _ j hj)) ht2)
set_option maxHeartbeats 4000000 in
theorem needed_calls (A : Option Addr) (c : Nat) (x : List (List S60)) (B : Option Addr) (d : Nat) (gs : List S68) (p : List Int) (w : World)
    (hx : Kd.C (Kd.slice 60 k60) w A x.length x) (hg : k68.C w B gs.length gs) (hok : OkIdx x) (hgo : OkGoals x gs) (hp : p.length = 8) (hpl : ∀ i : Nat, i < x.length → -1 ≤ rd p i ∧ rd p i < ((x.getD i []).length : Int)) :
    Calls Tryd.prog 86 #[.agg #[.slice A x.length c, .slice B gs.length d], planV p] w fun e w' => e = .returned (.int .u64 (neededF x gs p)) ∧ Below w.heap.size w w' := by
  have hnb := needsOf_lt x p hok hpl
  have hng := hgo.1
  have hcallA := need_all A c x B gs.length d p w (w.heap.size + 1 + 1) w.heap.size (w.heap.size + 1) (w.heap.size + 1 + 1 + 1) 9 hx hok hp hpl (by omega) (by omega) (by omega) (by omega)
  unfold planV
  generalize hP : planA p = P
  have HP := Lib.hid hP
  have Hhx := Lib.hid hx
  have Hhg := Lib.hid hg
  have Hhok := Lib.hid hok
  have Hhgo := Lib.hid hgo
  have HhcallA := Lib.hid hcallA
  have Hhpl := Lib.hid hpl
  have Hhnb := Lib.hid hnb
  clear hx hg hok hgo hcallA hpl hnb
  clear hP
  go_enter Tryd.func86, Tryd.ntmps86
  go_wp2
  go_loopw [13] (fun v W => ∃ k : Nat, v = .int .i64 k ∧ k ≤ gs.length ∧ Below w.heap.size w W ∧ w.heap.size + 1 + 1 + 1 < W.heap.size ∧ W.heap[w.heap.size + 1 + 1]? = some (wordBox ((gs.take k).foldl (fun s n => needF x p 9 s n.f0.toNat) 0)) ∧
      NdEnv A c x.length B gs.length d p (w.heap.size + 1 + 1) w.heap.size (w.heap.size + 1) (w.heap.size + 1 + 1 + 1) W)
    (fun v _ => gs.length - (intOf v).toNat)
  case atStart =>
    refine ⟨0, rfl, Nat.zero_le _, by (repeat (first | exact Below.refl _ _ | refine pw_below_drewN ?_ _ | refine below_drew ?_ | refine Below.alloc ?_ (by first | omega | (simp; done) | (simp; omega)) _ | refine Below.setCell ?_ (by first | omega | (simp; done) | (simp; omega)) _)), by simp, ?_, ?_, ?_, ?_, ?_⟩
    · rw [heap_alloc_if, if_neg (by simp), heap_alloc_if, if_pos (by simp)]; rfl
    · simp [go_sem]
    · simp [go_sem]
    · rw [heap_alloc_if, if_neg (by simp), heap_alloc_if, if_neg (by simp), heap_alloc_if, if_pos (by simp), HP.out]
    · simp [go_sem]
  case round =>
    obtain ⟨k, rfl, hk, hb, hsz, hbk, hE⟩ := hrel
    rcases Nat.lt_or_ge k gs.length with hlt | hge
    · obtain ⟨ad, e, c0, c1, c2⟩ := at_T68 (Kd.C_below Hhg.out hb) (k : Int) (by omega) (by omega)
      rw [Int.toNat_natCast] at c0 c1 c2
      subst e
      have hmem : rd_T68 gs k ∈ gs := by
        unfold rd_T68
        rw [Int.toNat_natCast]
        exact getD_mem _ _ _ hlt
      have hrange := Hhgo.out.2 _ hmem
      have hstep : (gs.take (k + 1)).foldl (fun s n => needF x p 9 s n.f0.toNat) 0 = needF x p 9 ((gs.take k).foldl (fun s n => needF x p 9 s n.f0.toNat) 0) (rd_T68 gs k).f0.toNat := by
        rw [List.take_succ_eq_append_getElem hlt, List.foldl_append]
        unfold rd_T68
        rw [Int.toNat_natCast, List.getD_eq_getElem?_getD, List.getElem?_eq_getElem hlt]
        rfl
      obtain ⟨f1, f2⟩ := fold_ok x p Hhok.out Hhnb.out 9 (gs.take k) 0 (fun q hq => Hhgo.out.2 q (List.mem_of_mem_take hq)) (by omega) (by decide)
      generalize (gs.take k).foldl (fun s n => needF x p 9 s n.f0.toNat) 0 = sk at hbk hstep f1 f2
      have hcall := fun (o : Obj) => HhcallA.out sk (rd_T68 gs k).f0.toNat (wr.alloc o) f1 (by have := hrange.1; have := hrange.2.1; omega) f2 (hb.trans (((Below.refl _ _).alloc (Nat.le_refl _) _).mono hb.size))
        ((Below.heap_alloc _ _ _ (Array.getElem?_eq_some_iff.1 hbk).1).trans hbk) (hE.keep ((Keep.refl _ _).alloc _) (by omega) (by omega) (by omega))
      rw [Int.toNat_of_nonneg hrange.1] at hcall
      have hE' := Lib.hid hE
      obtain ⟨-, -, -, e4⟩ := hE
      have lt5 := World.block_lt_of_cell? wr _ c0
      have Hhcall := Lib.hid hcall
      have Hhb := Lib.hid hb
      have Hhstep := Lib.hid hstep
      have Hhbk := Lib.hid hbk
      clear hcall hb hstep hbk
      clear hrange hmem
      go_wp2_with fail
      refine (Hhcall.out _).mono ?_
      clear Hhcall
      rintro e W5 ⟨rfl, hb5, hk5⟩
      rw [← Hhstep.out] at hb5
      have k5 : Keep (fun k => k = w.heap.size + 1 + 1) wr W5 := ((Keep.refl _ _).alloc _).trans hk5
      have hE5 := hE'.out.keep k5 (by omega) (by omega) (by omega)
      have hbW5 : Below w.heap.size w W5 := Hhb.out.trans (k5.below _ Hhb.out.size (fun k _ h => by omega))
      have hsz5 : w.heap.size + 1 + 1 + 1 < W5.heap.size := by have := k5.size; omega
      have Hhb5 := Lib.hid hb5
      have Hk5 := Lib.hid k5
      have HhE5 := Lib.hid hE5
      have HhbW5 := Lib.hid hbW5
      clear hb5 k5 hE5 hbW5
      clear hk5 e4
      go_wp2
      go_roundw
      case rel => exact ⟨k + 1, by go_num, by omega, HhbW5.out, hsz5, Hhb5.out, HhE5.out⟩
      case measure => first | (simp [intOf]; done) | (simp [intOf]; omega)
    · have hkl : k = gs.length := by omega
      have hval : wr.heap[w.heap.size + 1 + 1]? = some (wordBox (neededF x gs p)) := by rw [hbk, hkl, List.take_length]; rfl
      obtain ⟨o0, o1⟩ := one_cell hval
      have Hhval := Lib.hid hval
      have Hhb := Lib.hid hb
      have Hhbk := Lib.hid hbk
      have HhE := Lib.hid hE
      clear hval hb hbk hE
      go_wp2
      go_ret
      exact ⟨rfl, Hhb.out⟩
end Go.Proofs.YtlhnpbdpojcbeaaDoor
end
