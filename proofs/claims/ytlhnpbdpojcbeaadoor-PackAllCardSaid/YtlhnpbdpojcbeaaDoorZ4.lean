/- Lemmas of this proof, part 4. -/
import Derived.Test.YtlhnpbdpojcbeaaDoorZ0
import Derived.Test.YtlhnpbdpojcbeaaDoorZ1
import Derived.Test.YtlhnpbdpojcbeaaDoorZ2
import Derived.Test.YtlhnpbdpojcbeaaDoorZ3
import Derived.WalkLawsBesides
import Derived.Tactics2
import Derived.Defers
import Derived.Recover
import Derived.Laws.Pointers
import Derived.OwnWalk
import Derived.Laws.Tables
import Derived.WalkSpells
import Derived.Laws.Slices
import Derived.StillTailTactics
section
open Go Go.RowKit
namespace Go.Proofs.YtlhnpbdpojcbeaaDoor
open Go.Proofs.YtlhnpbdpojcbeaaDoorW.PrintWords
open PPackAll Go.Shelf
set_option linter.unusedVariables false
set_option linter.unusedSimpArgs false
theorem meets_fn (x : List (List S60)) (h8 : x.length ≤ 8) (p : List Int) (hp : p.length = 8) (w : World) : PredFn k68 w (.func (.func 84) #[planV p] #[]) (OkRange x) (meetsF p) := by
  refine ⟨84, _, _, rfl, enters_of Tryd.func84 (by kernel_rfl) rfl, fun W r cs hW hd hK => ?_⟩
  obtain rfl := k68_open hK
  exact meets_calls p hp r hd.1 (by have := hd.2.1; omega) W
def relAt (x : List (List S60)) (p : List Int) (i : Nat) : S60 := rd_T60 (rd_L4 x i) (rd p i)
def passB (x : List (List S60)) (p : List Int) (on : Nat) (pass i : Nat) : Bool :=
  if rd p i = -1 then false else if pass = 0 then !(relAt x p i).f0.all (meetsF p) else if pass = 1 then (relAt x p i).f1.any (meetsF p) else !on.testBit i
def goalB (gs : List S68) (p : List Int) (i : Nat) : Bool := !meetsF p (rd_T68 gs i)
def faultF (x : List (List S60)) (gs : List S68) (p : List Int) : Int × Int :=
  match (List.range gs.length).find? (goalB gs p) with
  | some i => (1, i)
  | none =>
    match (List.range x.length).find? (passB x p (neededF x gs p) 0) with
    | some i => (2, i)
    | none =>
      match (List.range x.length).find? (passB x p (neededF x gs p) 1) with
      | some i => (3, i)
      | none =>
        match (List.range x.length).find? (passB x p (neededF x gs p) 2) with
        | some i => (4, i)
        | none => (0, 0)
theorem find_first {n k : Nat} {f : Nat → Bool} (hk : k < n) (h : f k = true) (hno : ∀ j, j < k → f j = false) : (List.range n).find? f = some k := by
  rw [List.find?_eq_some_iff_getElem]
  refine ⟨h, k, by simpa using hk, by simp, ?_⟩
  intro j hj
  simp [hno j hj]
theorem find_none {n : Nat} {f : Nat → Bool} (hno : ∀ j, j < n → f j = false) : (List.range n).find? f = none := by
  rw [List.find?_eq_none]
  intro j hj
  simp [hno j (by simpa using hj)]
theorem bit_zero (s i : Nat) (hs : s < 256) : (bits BinOp.and IntKind.u64 ((s : Int) / 2 ^ i) 1 == 0) = !s.testBit i := by
  rw [← and_test s i hs]
  have h1 : ((s : Int) / 2 ^ i) = ((s / 2 ^ i : Nat) : Int) := by push_cast; rfl
  have h2 : s / 2 ^ i < 18446744073709551616 := Nat.lt_of_le_of_lt (Nat.div_le_self _ _) (by omega)
  rw [h1, show (1 : Int) = ((1 : Nat) : Int) from rfl, bits_and_u64_nat _ _ h2 (by omega)]
  rw [Nat.and_comm, Nat.one_and_eq_mod_two]
  rcases Nat.mod_two_eq_zero_or_one (s / 2 ^ i) with h | h <;> rw [h] <;> rfl
def LookPost (x : List (List S60)) (gs : List S68) (p : List Int) (w : World) (e : Ending) (w' : World) : Prop :=
  Below w.heap.size w w' ∧ (((faultF x gs p).1 = 0 ∧ e = .returned (.tuple #[])) ∨
    ((faultF x gs p).1 ≠ 0 ∧ e = .panicked [{ v := .iface 80 (.agg #[.int .i64 (faultF x gs p).1, .int .i64 (faultF x gs p).2]), recovered := false }]))
def LkEnv (A : Option Addr) (c nx : Nat) (B : Option Addr) (ng d : Nat) (p : List Int) (b0 : Nat) (W : World) : Prop :=
  W.cell? ⟨b0, 0, none⟩ = some (.slice A nx c) ∧ W.cell? ⟨b0, 1, none⟩ = some (.slice B ng d) ∧ W.heap[b0 + 1]? = some (.cells (planA p) 78 (0, 0)) ∧ b0 + 1 < W.heap.size
theorem LkEnv.later {A : Option Addr} {c nx : Nat} {B : Option Addr} {ng d : Nat} {p : List Int} {b0 : Nat} {W W' : World} (h : LkEnv A c nx B ng d p b0 W) (hb : Below W.heap.size W W') : LkEnv A c nx B ng d p b0 W' :=
  ⟨pw_cell_below hb h.1, pw_cell_below hb h.2.1, (hb.block _ h.2.2.2).trans h.2.2.1, Nat.lt_of_lt_of_le h.2.2.2 hb.size⟩
set_option maxHeartbeats 8000000 in
theorem look_calls (A : Option Addr) (c : Nat) (x : List (List S60)) (B : Option Addr) (d : Nat) (gs : List S68) (p : List Int) (w : World)
    (hx : Kd.C (Kd.slice 60 k60) w A x.length x) (hg : k68.C w B gs.length gs) (hok : OkIdx x) (hgo : OkGoals x gs) (hp : p.length = 8) (hpl : ∀ i : Nat, i < x.length → -1 ≤ rd p i ∧ rd p i < ((x.getD i []).length : Int)) :
    Calls Tryd.prog 70 #[.agg #[.slice A x.length c, .slice B gs.length d], planV p] w (LookPost x gs p w) := by
  have h8 := hok.2.1
  have h4 := hgo.1
  have hneed := fun (W : World) (hb : Below w.heap.size w W) => needed_calls A c x B d gs p W (Kd.C_below hx hb) (Kd.C_below hg hb) hok hgo hp hpl
  unfold planV
  generalize hP : planA p = P
  have HP := Lib.hid hP
  have Hhx := Lib.hid hx
  have Hhg := Lib.hid hg
  have Hhok := Lib.hid hok
  have Hhgo := Lib.hid hgo
  have Hhpl := Lib.hid hpl
  have Hhneed := Lib.hid hneed
  clear hx hg hok hgo hpl hneed
  clear hP
  go_enter Tryd.func70, Tryd.ntmps70
  go_wp2
  go_loopw [14] (fun v W => ∃ k : Nat, v = .int .i64 k ∧ k ≤ gs.length ∧ Below w.heap.size w W ∧ LkEnv A c x.length B gs.length d p w.heap.size W ∧ ∀ j, j < k → goalB gs p j = false)
    (fun v _ => gs.length - (intOf v).toNat)
  case atStart =>
    refine ⟨0, rfl, Nat.zero_le _, by (repeat (first | exact Below.refl _ _ | refine pw_below_drewN ?_ _ | refine below_drew ?_ | refine Below.alloc ?_ (by first | omega | (simp; done) | (simp; omega)) _ | refine Below.setCell ?_ (by first | omega | (simp; done) | (simp; omega)) _)), ⟨?_, ?_, ?_, ?_⟩, fun j hj => by omega⟩
    · simp [go_sem]
    · simp [go_sem]
    · rw [heap_alloc_if, if_pos (by simp), HP.out]
    · simp
  case round =>
    obtain ⟨k, rfl, hk, hb, hE, hno⟩ := hrel
    rcases Nat.lt_or_ge k gs.length with hlt | hge
    · obtain ⟨ad, e, c0, c1, c2⟩ := at_T68 (Kd.C_below Hhg.out hb) (k : Int) (by omega) (by omega)
      rw [Int.toNat_natCast] at c0 c1 c2
      subst e
      have hmem : rd_T68 gs k ∈ gs := by
        unfold rd_T68
        rw [Int.toNat_natCast]
        exact getD_mem _ _ _ hlt
      have hrange := Hhgo.out.2 _ hmem
      have hm := fun W => meets_calls p hp (rd_T68 gs k) hrange.1 (by have := hrange.2.1; omega) W
      have hgb : goalB gs p k = !withinF (rd p (rd_T68 gs k).f0) (rd_T68 gs k).f1 (rd_T68 gs k).f2 := rfl
      have lt5 := World.block_lt_of_cell? wr _ c0
      have hE' := hE
      have Hhm := Lib.hid hm
      have Hhb := Lib.hid hb
      have Hhno := Lib.hid hno
      have HhE := Lib.hid hE
      have Hhgb := Lib.hid hgb
      clear hm hb hno hE hgb
      obtain ⟨e0, e1, e2, e3⟩ := hE'
      have e2' := fun (o : Obj) => (Below.heap_alloc wr o _ e3).trans e2
      have He2' := Lib.hid e2'
      clear e2'
      clear hrange hmem e2
      go_wp2_with (refine ld78 (o := ⟨some 19, _, _, _, _, _⟩) rfl _ rfl _ rfl p 78 hp (He2'.out _) ?_)
      refine (Hhm.out _).mono ?_
      clear Hhm
      rintro e W5 ⟨rfl, hb5⟩
      have b5 : Below wr.heap.size wr W5 := ((Below.refl _ _).alloc (Nat.le_refl _) _).trans (hb5.mono (by simp))
      have hbW5 : Below w.heap.size w W5 := Hhb.out.trans (b5.mono Hhb.out.size)
      have hE5 := HhE.out.later b5
      have HhbW5 := Lib.hid hbW5
      have HhE5 := Lib.hid hE5
      clear hbW5 hE5
      clear hb5 b5 e0 e1 e3 c0 c1 c2
      cases hmt : withinF (rd p (rd_T68 gs k).f0) (rd_T68 gs k).f1 (rd_T68 gs k).f2 with
      | true =>
        have hgk : goalB gs p k = false := by rw [Hhgb.out, hmt]; rfl
        have Hhgk := Lib.hid hgk
        have Hhmt := Lib.hid hmt
        clear hgk hmt
        go_wp2
        go_roundw
        case rel => exact ⟨k + 1, by go_num, by omega, HhbW5.out, HhE5.out, fun j hj => by
          rcases Nat.lt_or_ge j k with h | h
          · exact Hhno.out j h
          · obtain rfl : j = k := by omega
            exact Hhgk.out⟩
        case measure => first | (simp [intOf]; done) | (simp [intOf]; omega)
      | false =>
        have hgk : goalB gs p k = true := by rw [Hhgb.out, hmt]; rfl
        have hF : faultF x gs p = (1, (k : Int)) := by unfold faultF; rw [find_first hlt hgk Hhno.out]
        have fin : LookPost x gs p w (.panicked [{ v := .iface 80 (.agg #[.int .i64 1, .int .i64 k]), recovered := false }]) W5 := ⟨HhbW5.out, .inr ⟨by rw [hF]; simp, by rw [hF]⟩⟩
        have Hhgk := Lib.hid hgk
        have Hhmt := Lib.hid hmt
        have Hfin := Lib.hid fin
        clear hgk hmt fin
        clear hF
        go_wp2
        exact ⟨rfl, Hfin.out⟩
    · have hkl : k = gs.length := by omega
      have hnog : (List.range gs.length).find? (goalB gs p) = none := find_none (by rw [← hkl]; exact hno)
      have hne := Hhneed.out wr hb
      have Hhkl := Lib.hid hkl
      have Hhnog := Lib.hid hnog
      have Hhb := Lib.hid hb
      have HhE := Lib.hid hE
      have Hhne := Lib.hid hne
      clear hkl hnog hb hE hne
      clear hno
      obtain ⟨e0, e1, e2, e3⟩ := HhE.out
      have He2 := Lib.hid e2
      clear e2
      go_wp2_with (refine ld78 (o := ⟨some 28, _, _, _, _, _⟩) rfl _ rfl _ rfl p 78 hp He2.out ?_)
      refine Hhne.out.mono ?_
      clear Hhne
      rintro e W5 ⟨rfl, hb5⟩
      have hbW5 : Below w.heap.size w W5 := Hhb.out.trans (hb5.mono Hhb.out.size)
      have hE5 := HhE.out.later hb5
      have HhbW5 := Lib.hid hbW5
      have HhE5 := Lib.hid hE5
      clear hbW5 hE5
      clear hb5 e0 e1 e3
      have hon2 : neededF x gs p < 256 := (fold_ok x p Hhok.out (needsOf_lt x p Hhok.out Hhpl.out) 9 gs 0 (fun q hq => Hhgo.out.2 q hq) (by omega) (by decide)).1
      have Hhon2 := Lib.hid hon2
      clear hon2
      generalize hon : neededF x gs p = on at *
      have Hhon := Lib.hid hon
      clear hon
      go_wp2
      go_loopw [30] (fun v W => ∃ (z : Int) (ps : Nat), v = .int .i64 z ∧ z = ps ∧ ps ≤ 3 ∧ Below w.heap.size w W ∧ LkEnv A c x.length B gs.length d p w.heap.size W ∧ ∀ q, q < ps → ∀ j, j < x.length → passB x p on q j = false)
        (fun v _ => 3 - (intOf v).toNat)
      case atStart => exact ⟨0, 0, rfl, rfl, by omega, HhbW5.out, HhE5.out, fun q hq => by omega⟩
      case round =>
        obtain ⟨z, ps, rfl, hz, hps, hb6, hE6, hno6⟩ := hrel
        obtain ⟨wo, hwo⟩ : ∃ wo, wo = wr := ⟨_, rfl⟩
        rw [← hwo] at hb6 hE6 ⊢
        clear hwo
        rcases Nat.lt_or_ge ps 3 with hlt3 | hge3
        · have hE7 := hE6
          obtain ⟨e0, e1, e2, e3⟩ := hE6
          have hlt3b : decide (z < 3) = true := decide_eq_true (by omega)
          have Hhb6 := Lib.hid hb6
          have HhE7 := Lib.hid hE7
          have Hhno6 := Lib.hid hno6
          have Hhz := Lib.hid hz
          clear hb6 hE7 hno6 hz
          clear e2
          go_wp2
          go_loopw [37] (fun v W => ∃ k : Nat, v = .int .i64 k ∧ k ≤ x.length ∧ Below w.heap.size w W ∧ LkEnv A c x.length B gs.length d p w.heap.size W ∧ ∀ j, j < k → passB x p on ps j = false)
            (fun v _ => x.length - (intOf v).toNat)
          case atStart => exact ⟨0, rfl, by omega, Hhb6.out, HhE7.out, fun q hq => by omega⟩
          case round =>
            clear e0 e1 e3
            obtain ⟨k, rfl, hk, hb8, hE8, hno8⟩ := hrel
            obtain ⟨wi, hwi⟩ : ∃ wi, wi = wr := ⟨_, rfl⟩
            rw [← hwi] at hb8 hE8 ⊢
            clear hwi
            rcases Nat.lt_or_ge k x.length with hltk | hgek
            · have hpk := Hhpl.out k hltk
              have hE9 := hE8
              obtain ⟨e0, e1, e2, e3⟩ := hE8
              by_cases hm : rd p k = -1
              · have hrel := release_none A c x B gs.length d p k wi hp (by omega) (by omega) hm
                have hpb : passB x p on ps k = false := by unfold passB; rw [if_pos hm]
                have Hhrel := Lib.hid hrel
                have Hhpb := Lib.hid hpb
                have Hhb8 := Lib.hid hb8
                have HhE9 := Lib.hid hE9
                have Hhno8 := Lib.hid hno8
                have He2 := Lib.hid e2
                clear hrel hpb hb8 hE9 hno8 e2
                go_wp2_with (refine ld78 (o := ⟨some 42, _, _, _, _, _⟩) rfl _ rfl _ rfl p 78 hp He2.out ?_)
                refine Hhrel.out.mono ?_
                clear Hhrel
                rintro e W9 ⟨rfl, hb9⟩
                have b9 : Below wi.heap.size wi (W9.alloc (.cells #[.slice none 0 0, .slice none 0 0] 60)) := hb9.trans (((Below.refl _ _).alloc (Nat.le_refl _) _).mono hb9.size)
                have hE10 := HhE9.out.later b9
                have hb10 : Below w.heap.size w _ := Hhb8.out.trans (b9.mono Hhb8.out.size)
                have HhE10 := Lib.hid hE10
                have Hhb10 := Lib.hid hb10
                clear hE10 hb10
                clear hb9 b9 e0 e1 e3
                go_wp2
                go_roundw
                case rel => exact ⟨k + 1, by go_num, by omega, Hhb10.out, HhE10.out, fun j hj => by
                  rcases Nat.lt_or_ge j k with h | h
                  · exact Hhno8.out j h
                  · obtain rfl : j = k := by omega
                    exact Hhpb.out⟩
                case measure => first | (simp [intOf]; done) | (simp [intOf]; omega)
              · have hm0 : 0 ≤ rd p k := by omega
                have hm1 : rd p k < ((rd_L4 x k).length : Int) := by unfold rd_L4; rw [Int.toNat_natCast]; exact hpk.2
                have hrl := relOf_ok x p Hhok.out Hhpl.out k hltk hm
                have Hhm := Lib.hid hm
                have hrel := release_at A c x B gs.length d p k w wi hb8 Hhx.out hp (by omega) (by omega) (by omega) hm0 hm1
                have Hhrel := Lib.hid hrel
                have Hhb8 := Lib.hid hb8
                have HhE9 := Lib.hid hE9
                have Hhno8 := Lib.hid hno8
                have He2 := Lib.hid e2
                have Hhrl := Lib.hid hrl
                clear hrel hb8 hE9 hno8 e2 hrl
                go_wp2_with (refine ld78 (o := ⟨some 42, _, _, _, _, _⟩) rfl _ rfl _ rfl p 78 hp He2.out ?_)
                refine Hhrel.out.mono ?_
                clear Hhrel
                rintro e W9 ⟨hb9, A0, c0, A1, c1, rfl, l0', g0, l1', g1⟩
                have hE10 := HhE9.out.later hb9
                have hb10 := Hhb8.out.trans (hb9.mono Hhb8.out.size)
                have e29 := fun (o : Obj) => (Below.heap_alloc W9 o _ hE10.2.2.2).trans hE10.2.2.1
                obtain hp0 | hp1 | hp2 : ps = 0 ∨ ps = 1 ∨ ps = 2 := by omega
                · obtain rfl : z = 0 := by have := Hhz.out; omega
                  subst hp0
                  have hcl := fun (o : Obj) => every68_calls A0 c0 (relAt x p k).f0 _ _ _ (W9.alloc o) (Kd.C_below g0 (hb10.alloc (by have := hb10.size; omega) o)) (fun n hn => (Hhrl.out.2.2.1 n hn).1) (meets_fn x h8 p hp (W9.alloc o))
                  have hpv : passB x p on 0 k = !(relAt x p k).f0.all (meetsF p) := by unfold passB; rw [if_neg Hhm.out]; simp
                  have HhE10 := Lib.hid hE10
                  have Hhb10 := Lib.hid hb10
                  have He29 := Lib.hid e29
                  have Hhcl := Lib.hid hcl
                  clear hE10 hb10 e29 hcl
                  clear hb9 e0 e1 e3 hps hlt3 hlt3b g0 g1 l0' l1'
                  go_wp2_with (refine ld78 (o := ⟨some 56, _, _, _, _, _⟩) rfl _ rfl _ rfl p 78 hp (He29.out _) ?_)
                  refine (Hhcl.out _).mono ?_
                  clear Hhcl
                  rintro e W10 ⟨rfl, hb11⟩
                  have b11 := ((Below.refl W9.heap.size W9).alloc (Nat.le_refl _) _).trans (hb11.mono (by simp))
                  have hEX := HhE10.out.later b11
                  have hbX : Below w.heap.size w W10 := Hhb10.out.trans (b11.mono Hhb10.out.size)
                  have HhEX := Lib.hid hEX
                  have HhbX := Lib.hid hbX
                  clear hEX hbX
                  clear hb11 b11
                  revert hpv
                  generalize (relAt x p k).f0.all (meetsF p) = bb
                  intro hpv
                  cases bb with
                  | true =>
                    have hpb : passB x p on 0 k = false := hpv
                    have Hhpb := Lib.hid hpb
                    clear hpb
                    clear hpv
                    go_wp2
                    go_roundw
                    case rel => exact ⟨k + 1, by go_num, by omega, HhbX.out, HhEX.out, fun j hj => by
                      rcases Nat.lt_or_ge j k with h | h
                      · exact Hhno8.out j h
                      · obtain rfl : j = k := by omega
                        exact Hhpb.out⟩
                    case measure => first | (simp [intOf]; done) | (simp [intOf]; omega)
                  | false =>
                    have hpb : passB x p on 0 k = true := hpv
                    have Hhpb := Lib.hid hpb
                    clear hpb
                    clear hpv
                    have hF : faultF x gs p = (2, (k : Int)) := by
                      unfold faultF
                      rw [Hhnog.out]; dsimp only
                      rw [Hhon.out]
                      rw [find_first hltk Hhpb.out Hhno8.out]
                    have fin : ∀ W, Below w.heap.size w W → LookPost x gs p w (.panicked [{ v := .iface 80 (.agg #[.int .i64 2, .int .i64 k]), recovered := false }]) W := fun W hW => ⟨hW, .inr ⟨by rw [hF]; simp, by rw [hF]⟩⟩
                    have Hfin := Lib.hid fin
                    clear fin
                    clear hF
                    go_wp2
                    exact ⟨rfl, Hfin.out _ HhbX.out⟩
                · obtain rfl : z = 1 := by have := Hhz.out; omega
                  subst hp1
                  have hcl := fun (o : Obj) => has68_calls A1 c1 (relAt x p k).f1 _ _ _ (W9.alloc o) (Kd.C_below g1 (hb10.alloc (by have := hb10.size; omega) o)) (fun n hn => (Hhrl.out.2.2.2 n hn).1) (meets_fn x h8 p hp (W9.alloc o))
                  have hpv : passB x p on 1 k = (relAt x p k).f1.any (meetsF p) := by unfold passB; rw [if_neg Hhm.out]; simp
                  have HhE10 := Lib.hid hE10
                  have Hhb10 := Lib.hid hb10
                  have He29 := Lib.hid e29
                  have Hhcl := Lib.hid hcl
                  clear hE10 hb10 e29 hcl
                  clear hb9 e0 e1 e3 hps hlt3 hlt3b g0 g1 l0' l1'
                  go_wp2_with (refine ld78 (o := ⟨some 70, _, _, _, _, _⟩) rfl _ rfl _ rfl p 78 hp (He29.out _) ?_)
                  refine (Hhcl.out _).mono ?_
                  clear Hhcl
                  rintro e W10 ⟨rfl, hb11⟩
                  have b11 := ((Below.refl W9.heap.size W9).alloc (Nat.le_refl _) _).trans (hb11.mono (by simp))
                  have hEX := HhE10.out.later b11
                  have hbX : Below w.heap.size w W10 := Hhb10.out.trans (b11.mono Hhb10.out.size)
                  have HhEX := Lib.hid hEX
                  have HhbX := Lib.hid hbX
                  clear hEX hbX
                  clear hb11 b11
                  revert hpv
                  generalize (relAt x p k).f1.any (meetsF p) = bb
                  intro hpv
                  cases bb with
                  | true =>
                    have hpb : passB x p on 1 k = true := hpv
                    have Hhpb := Lib.hid hpb
                    clear hpb
                    clear hpv
                    have hF : faultF x gs p = (3, (k : Int)) := by
                      unfold faultF
                      rw [Hhnog.out]; dsimp only
                      rw [Hhon.out]
                      rw [find_none (fun j hj => Hhno6.out 0 (by omega) j hj)]; dsimp only; rw [find_first hltk Hhpb.out Hhno8.out]
                    have fin : ∀ W, Below w.heap.size w W → LookPost x gs p w (.panicked [{ v := .iface 80 (.agg #[.int .i64 3, .int .i64 k]), recovered := false }]) W := fun W hW => ⟨hW, .inr ⟨by rw [hF]; simp, by rw [hF]⟩⟩
                    have Hfin := Lib.hid fin
                    clear fin
                    clear hF
                    go_wp2
                    exact ⟨rfl, Hfin.out _ HhbX.out⟩
                  | false =>
                    have hpb : passB x p on 1 k = false := hpv
                    have Hhpb := Lib.hid hpb
                    clear hpb
                    clear hpv
                    go_wp2
                    go_roundw
                    case rel => exact ⟨k + 1, by go_num, by omega, HhbX.out, HhEX.out, fun j hj => by
                      rcases Nat.lt_or_ge j k with h | h
                      · exact Hhno8.out j h
                      · obtain rfl : j = k := by omega
                        exact Hhpb.out⟩
                    case measure => first | (simp [intOf]; done) | (simp [intOf]; omega)
                · obtain rfl : z = 2 := by have := Hhz.out; omega
                  subst hp2
                  have hpv : passB x p on 2 k = !on.testBit k := by unfold passB; rw [if_neg Hhm.out]; simp
                  have hbit : (bits BinOp.and IntKind.u64 ((on : Int) / 2 ^ k) 1 == 0) = !on.testBit k := bit_zero on k Hhon2.out
                  have hEX := fun (o : Obj) => hE10.later (((Below.refl W9.heap.size W9).alloc (Nat.le_refl _) o))
                  have hbX := fun (o : Obj) => (hb10.alloc (by have := hb10.size; omega) o)
                  have HhE10 := Lib.hid hE10
                  have Hhb10 := Lib.hid hb10
                  have HhEX := Lib.hid hEX
                  have HhbX := Lib.hid hbX
                  clear hE10 hb10 hEX hbX
                  clear hb9 e0 e1 e3 hps hlt3 hlt3b g0 g1 l0' l1' e29
                  cases ht : on.testBit k with
                  | true =>
                    rw [ht] at hbit hpv
                    have hpb : passB x p on 2 k = false := hpv
                    have Hhpb := Lib.hid hpb
                    have Hht := Lib.hid ht
                    clear hpb ht
                    clear hpv
                    have hbit2 : (bits BinOp.and IntKind.u64 ((on : Int) / 2 ^ k) 1 == 0) = false := hbit
                    clear hbit
                    go_wp2
                    go_roundw
                    case rel => exact ⟨k + 1, by go_num, by omega, HhbX.out _, HhEX.out _, fun j hj => by
                      rcases Nat.lt_or_ge j k with h | h
                      · exact Hhno8.out j h
                      · obtain rfl : j = k := by omega
                        exact Hhpb.out⟩
                    case measure => first | (simp [intOf]; done) | (simp [intOf]; omega)
                  | false =>
                    rw [ht] at hbit hpv
                    have hpb : passB x p on 2 k = true := hpv
                    have Hhpb := Lib.hid hpb
                    have Hht := Lib.hid ht
                    clear hpb ht
                    clear hpv
                    have hbit2 : (bits BinOp.and IntKind.u64 ((on : Int) / 2 ^ k) 1 == 0) = true := hbit
                    clear hbit
                    have hF : faultF x gs p = (4, (k : Int)) := by
                      unfold faultF
                      rw [Hhnog.out]; dsimp only
                      rw [Hhon.out]
                      rw [find_none (fun j hj => Hhno6.out 0 (by omega) j hj)]; dsimp only; rw [find_none (fun j hj => Hhno6.out 1 (by omega) j hj)]; dsimp only; rw [find_first hltk Hhpb.out Hhno8.out]
                    have fin : ∀ W, Below w.heap.size w W → LookPost x gs p w (.panicked [{ v := .iface 80 (.agg #[.int .i64 4, .int .i64 k]), recovered := false }]) W := fun W hW => ⟨hW, .inr ⟨by rw [hF]; simp, by rw [hF]⟩⟩
                    have Hfin := Lib.hid fin
                    clear fin
                    clear hF
                    go_wp2
                    exact ⟨rfl, Hfin.out _ (HhbX.out _)⟩
            · have hkx : k = x.length := by omega
              have hnoall : ∀ q, q < ps + 1 → ∀ j, j < x.length → passB x p on q j = false := by
                intro q hq j hj
                rcases Nat.lt_or_ge q ps with h | h
                · exact Hhno6.out q h j hj
                · obtain rfl : q = ps := by omega
                  exact hno8 j (by omega)
              have Hhkx := Lib.hid hkx
              have Hhnoall := Lib.hid hnoall
              have Hhb8 := Lib.hid hb8
              have HhE8 := Lib.hid hE8
              clear hkx hnoall hb8 hE8
              clear hno8
              go_wp2
              obtain rfl := Hhz.out
              rw [show wrap64 ((ps : Int) + 1) = ((ps + 1 : Nat) : Int) by unfold wrap64; omega]
              exact ⟨⟨((ps + 1 : Nat) : Int), ps + 1, rfl, rfl, by omega, Hhb8.out, HhE8.out, Hhnoall.out⟩, by simp [intOf]; omega⟩
        · have hps3 : ps = 3 := by omega
          have hF : faultF x gs p = (0, 0) := by
            unfold faultF
            rw [Hhnog.out]; dsimp only
            rw [Hhon.out]
            rw [find_none (fun j hj => hno6 0 (by omega) j hj)]; dsimp only
            rw [find_none (fun j hj => hno6 1 (by omega) j hj)]; dsimp only
            rw [find_none (fun j hj => hno6 2 (by omega) j hj)]
          have fin : LookPost x gs p w (.returned (.tuple #[])) wo := ⟨hb6, .inl ⟨by rw [hF], rfl⟩⟩
          have hlt3b : decide (z < 3) = false := decide_eq_false (by omega)
          have Hfin := Lib.hid fin
          have Hhz := Lib.hid hz
          clear fin hz
          clear hF hno6 hE6 hb6 hps3
          go_wp2
          go_end0
          exact Hfin.out
end Go.Proofs.YtlhnpbdpojcbeaaDoor
end
section
open Go Go.RowKit
namespace Go.Proofs.YtlhnpbdpojcbeaaDoor
open Go.Proofs.YtlhnpbdpojcbeaaDoorW.PrintWords
open PPackAll Go.Shelf
set_option linter.unusedVariables false
set_option linter.unusedSimpArgs false
theorem catch_idle (p : Addr) (w : World) :
    CallsD Tryd.prog 69 #[.pointer (some p)] .returning w fun e u' w' => e = .returned (.tuple #[]) ∧ u' = .returning ∧ w' = w := by
  refine callsD_of_wpS Tryd.func69 rfl fun c₀ cs hu => ?_
  apply wpS_seq
  apply wpS_region
  simp [wpOpsS, go_sem, recoverD, hu, Tryd.ntmps69, Exit.thenS]
  apply wpS_seq
  apply wpS_region
  simp [wpOpsS, go_sem, hu, Tryd.ntmps69, Exit.thenS]
  refine wpS_cond (t := false) (by simp [Act.eval, Array.replicate]) ?_
  simp only [Bool.false_eq_true, if_false]
  refine wpS_of_wp (wp_skip ?_)
  cases c₀
  simp_all [bodyPostS, results, Tryd.results69]
theorem as80 (v : Value) (w : World) : (Instr.typeAssert (.iface 80 v) 20 80 true).run Tryd.prog w = .ok (.tuple #[v, .bool true]) w := by kernel_rfl
attribute [local go_sem] as80
theorem catch_panicking (b : Nat) (t : TypeId) (x0 x1 c d : Int) (older : List PanicEntry) (w : World) (hc : w.heap[b]? = some (.cells #[.int .i64 c, .int .i64 d] t (0, 0))) :
    CallsD Tryd.prog 69 #[.pointer (some ⟨b, 0, none⟩)] (.panicking ({ v := .iface 80 (.agg #[.int .i64 x0, .int .i64 x1]), recovered := false } :: older)) w fun e u' w' =>
      e = .returned (.tuple #[]) ∧ u' = .panicking ({ v := .iface 80 (.agg #[.int .i64 x0, .int .i64 x1]), recovered := true } :: older) ∧
        Below b w w' ∧ w'.heap[b]? = some (.cells #[.int .i64 x0, .int .i64 x1] t (0, 0)) := by
  refine callsD_of_wpS Tryd.func69 rfl fun c₀ cs hu => ?_
  simp only [Tryd.ntmps69, List.size_toArray, List.length_cons, List.length_nil, Nat.reduceAdd, Nat.reduceSub, Array.replicate_succ, Array.replicate_zero, List.push_toArray, List.append_toArray, List.nil_append, List.cons_append]
  apply wpS_seq
  apply wpS_region
  simp [wpOpsS, go_sem, recoverD, hu, Tryd.ntmps69, Exit.thenS]
  apply wpS_seq
  apply wpS_region
  simp [wpOpsS, go_sem, hu, Tryd.ntmps69, Exit.thenS]
  refine wpS_cond (t := true) (by simp [Act.eval, Array.replicate]) ?_
  simp only [if_true]
  refine wpS_of_wp ?_
  have c0 : w.cell? ⟨b, 0, none⟩ = some (.int .i64 c) := by rw [World.cell?, hc]; rfl
  have c1 : w.cell? ⟨b, 1, none⟩ = some (.int .i64 d) := by rw [World.cell?, hc]; rfl
  have z0 : w.frozen? ⟨b, 0, none⟩ = false := frozen_of_row w b 0 _ _ hc
  have z1 : w.frozen? ⟨b, 1, none⟩ = false := frozen_of_row w b 1 _ _ hc
  have lb := World.block_lt_of_cell? w _ c0
  have Hhc := Lib.hid hc
  clear hc
  generalize hQ : (fun e a' w' => bodyPostS Tryd.prog Tryd.f69 c₀ cs _ e a' (_ :: cs) w') = Q
  have HQ := Lib.hid hQ
  clear hQ
  go_wp2
  rw [← HQ.out]
  refine ⟨rfl, _, rfl, _, results_none rfl _ _ _, rfl, rfl, ?_, ?_⟩
  · (repeat (first | exact Below.refl _ _ | refine pw_below_drewN ?_ _ | refine below_drew ?_ | refine Below.alloc ?_ (by first | omega | (simp; done) | (simp; omega)) _ | refine Below.setCell ?_ (by first | omega | (simp; done) | (simp; omega)) _))
  · rw [heap_alloc_if, if_neg (by simp; omega), heap_setCell_same _ b 1 _ _ _ (heap_setCell_same w b 0 _ _ _ Hhc.out)]
    rfl
theorem results36 {tmps : Array Value} {w : World} {g : Nat} {a b : Int} (h4 : tmps.getD 4 undef = .pointer (some ⟨g, 0, none⟩)) (hc : w.heap[g]? = some (.cells #[.int .i64 a, .int .i64 b] 80 (0, 0))) :
    (results Tryd.f36 tmps).run Tryd.prog w = .ok (.agg #[.int .i64 a, .int .i64 b]) w := by
  have h4' : tmps[4]?.getD undef = .pointer (some ⟨g, 0, none⟩) := by simpa using h4
  have hr : Tryd.f36.results = #[.cell 4 80] := rfl
  have c0 : w.cell? ⟨g, 0, none⟩ = some (.int .i64 a) := by rw [World.cell?, hc]; rfl
  have c1 : w.cell? ⟨g, 1, none⟩ = some (.int .i64 b) := by rw [World.cell?, hc]; rfl
  simp [results, hr, h4', asAddr, go_sem, c0, c1]
theorem faultF_zero (x : List (List S60)) (gs : List S68) (p : List Int) (h : (faultF x gs p).1 = 0) : faultF x gs p = (0, 0) := by
  unfold faultF at *
  split at h
  · simp at h
  · split at h
    · simp at h
    · split at h
      · simp at h
      · split at h
        · simp at h
        · rename_i h1 _ h2 _ h3 _ h4
          simp only [h1, h2, h3, h4]
theorem fault_calls (A : Option Addr) (c : Nat) (x : List (List S60)) (B : Option Addr) (d : Nat) (gs : List S68) (p : List Int) (w : World)
    (hx : Kd.C (Kd.slice 60 k60) w A x.length x) (hg : k68.C w B gs.length gs) (hok : OkIdx x) (hgo : OkGoals x gs) (hp : p.length = 8) (hpl : ∀ i : Nat, i < x.length → -1 ≤ rd p i ∧ rd p i < ((x.getD i []).length : Int)) :
    Calls Tryd.prog 36 #[.agg #[.slice A x.length c, .slice B gs.length d], planV p] w fun e w' => e = .returned (.agg #[.int .i64 (faultF x gs p).1, .int .i64 (faultF x gs p).2]) ∧ Below w.heap.size w w' := by
  have hmf : ∀ (fn : Fn) (first cap : Array Value) (w : World), (Instr.makeFunc fn first cap).run Tryd.prog w = .ok (.func fn first cap) w := fun _ _ _ _ => rfl
  have hlook := fun (W : World) (hb : Below w.heap.size w W) => look_calls A c x B d gs p W (Kd.C_below hx hb) (Kd.C_below hg hb) hok hgo hp hpl
  unfold planV
  generalize hP : planA p = P
  have HP := Lib.hid hP
  have Hhlook := Lib.hid hlook
  clear hlook
  clear hP hx hg hok hgo hpl
  go_enter_defers Tryd.func36, Tryd.ntmps36
  have hrow : ∀ o1 o3 : Obj, (((w.alloc o1).alloc (.cells P 78 (0, 0))).alloc o3).heap[w.heap.size + 1]? = some (.cells (planA p) 78 (0, 0)) := by
    intro o1 o3
    rw [heap_alloc_if, if_neg (by simp), heap_alloc_if, if_pos (by simp), HP.out]
  have hbb : ∀ o1 o2 o3 : Obj, Below w.heap.size w (((w.alloc o1).alloc o2).alloc o3) := fun o1 o2 o3 => by (repeat (first | exact Below.refl _ _ | refine pw_below_drewN ?_ _ | refine below_drew ?_ | refine Below.alloc ?_ (by first | omega | (simp; done) | (simp; omega)) _ | refine Below.setCell ?_ (by first | omega | (simp; done) | (simp; omega)) _))
  have hres2 : ∀ (o1 o2 : Obj) (W : World), Below (((w.alloc o1).alloc o2).heap.size + 1) (((w.alloc o1).alloc o2).alloc (.cells #[.int .i64 0, .int .i64 0] 80 (0, 0))) W → W.heap[w.heap.size + 1 + 1]? = some (.cells #[.int .i64 0, .int .i64 0] 80 (0, 0)) := by
    intro o1 o2 W h
    rw [h.block _ (by simp), heap_alloc_if, if_pos (by simp)]
  have Hhrow := Lib.hid hrow
  have Hhbb := Lib.hid hbb
  have Hhres2 := Lib.hid hres2
  clear hrow hbb hres2
  go_wp2_with (refine ld78 (o := ⟨some 7, _, _, _, _, _⟩) rfl _ rfl _ rfl p 78 hp (Hhrow.out _ _) ?_)
  refine (Hhlook.out _ (Hhbb.out _ _ _)).mono ?_
  clear Hhlook
  rintro e V ⟨hb, hpost⟩
  have hcell := Hhres2.out _ _ V (hb.mono (by simp))
  have hbV : Below w.heap.size w V := (Hhbb.out _ _ _).trans (hb.mono (by simp; omega))
  have lV : w.heap.size + 1 + 1 < V.heap.size := (Array.getElem?_eq_some_iff.1 hcell).1
  rcases hpost with ⟨hz, rfl⟩ | ⟨hz, rfl⟩
  · have c0 : V.cell? ⟨w.heap.size + 1 + 1, 0, none⟩ = some (.int .i64 0) := by rw [World.cell?, hcell]; rfl
    have c1 : V.cell? ⟨w.heap.size + 1 + 1, 1, none⟩ = some (.int .i64 0) := by rw [World.cell?, hcell]; rfl
    have z0 : V.frozen? ⟨w.heap.size + 1 + 1, 0, none⟩ = false := frozen_of_row V _ 0 _ _ hcell
    have z1 : V.frozen? ⟨w.heap.size + 1 + 1, 1, none⟩ = false := frozen_of_row V _ 1 _ _ hcell
    have hF := faultF_zero x gs p hz
    have hfin : ∀ (x0 x1 : Int), Below w.heap.size w ((V.setCell ⟨w.heap.size + 1 + 1, 0, none⟩ (.int .i64 x0)).setCell ⟨w.heap.size + 1 + 1, 1, none⟩ (.int .i64 x1)) := fun x0 x1 => by
      refine Below.setCell (Below.setCell hbV ?_ _) ?_ _ <;> simp <;> omega
    have hrow2 : ((V.setCell ⟨w.heap.size + 1 + 1, 0, none⟩ (.int .i64 0)).setCell ⟨w.heap.size + 1 + 1, 1, none⟩ (.int .i64 0)).heap[w.heap.size + 1 + 1]? = some (.cells #[.int .i64 0, .int .i64 0] 80 (0, 0)) := by
      rw [heap_setCell_same _ _ 1 _ _ _ (heap_setCell_same V _ 0 _ _ _ hcell)]
      rfl
    have Hhcell := Lib.hid hcell
    have HhbV := Lib.hid hbV
    have Hhz := Lib.hid hz
    have HhF := Lib.hid hF
    have Hhfin := Lib.hid hfin
    have Hhrow2 := Lib.hid hrow2
    clear hcell hbV hz hF hfin hrow2
    clear hb
    go_wp2
    refine leaves_cons (f := 69) (args := #[.pointer (some ⟨w.heap.size + 1 + 1, 0, none⟩)]) (by simp) (by simp [go_sem]) ?_
    refine (catch_idle _ _).mono ?_
    rintro e u' w'' ⟨rfl, rfl, rfl⟩
    simp only [Leaves, settle]
    exact ⟨_, results36 rfl Hhrow2.out, by rw [HhF.out], Hhfin.out _ _⟩
  · have Hhcell := Lib.hid hcell
    have HhbV := Lib.hid hbV
    clear hcell hbV
    clear hb
    go_wp2
    refine leaves_cons (f := 69) (args := #[.pointer (some ⟨w.heap.size + 1 + 1, 0, none⟩)]) (by simp) (by simp [go_sem]) ?_
    refine (catch_panicking _ _ _ _ _ _ _ _ Hhcell.out).mono ?_
    rintro e u' w'' ⟨rfl, rfl, hb2, hc2⟩
    simp only [Leaves, settle, List.dropWhile_nil]
    exact ⟨_, results36 rfl hc2, rfl, HhbV.out.trans (hb2.mono (by omega))⟩
end Go.Proofs.YtlhnpbdpojcbeaaDoor
end
section
open Go Go.RowKit
namespace Go.Proofs.YtlhnpbdpojcbeaaDoor
open Go.Proofs.YtlhnpbdpojcbeaaDoorW.PrintWords
open PPackAll Go.Shelf
set_option linter.unusedVariables false
set_option linter.unusedSimpArgs false
section
variable {ops : Array Oper} {rest : List Oper} {o : Oper} {a : Act} {w : World} {Q : Exit → Act → World → Prop}
theorem st78w (hgd : o.guard = none) (x y : Operand) (ho : o.op = .store 78 x y) (g : Nat) (hx : a.eval x = .pointer (some ⟨g, 0, none⟩)) (p q : List Int) (t : Nat) (hp : p.length = 8) (hq : q.length = 8)
    (hy : a.eval y = planV q) (hg : w.heap[g]? = some (.cells (planA p) t (0, 0)))
    (h : ∀ W, W.heap[g]? = some (.cells (planA q) t (0, 0)) → Keep (fun k => k = g) w W → wpList Tryd.prog ops Q rest (a.put o.dst undef) W) : wpList Tryd.prog ops Q (o :: rest) a w :=
  st78 hgd x y ho g hx p q t hp hq hy hg (h _ (setRow_heap _ _ _ _ _ _ hg) ((Keep.refl (fun k => k = g) w).setRow (.inl rfl) _))
end
theorem Fault_calls (A : Option Addr) (c : Nat) (x : List (List S60)) (B : Option Addr) (d : Nat) (gs : List S68) (L : Option Addr) (cl : Nat) (l : List Int) (w : World)
    (hx : Kd.C (Kd.slice 60 k60) w A x.length x) (hg : k68.C w B gs.length gs) (hok : OkIdx x) (hgo : OkGoals x gs) (hl : Kd.C (Kd.int .i64) w L l.length l) (hlen : l.length = x.length)
    (hr : ∀ i, i < l.length → -1 ≤ rd l i ∧ rd l i < ((x.getD i []).length : Int)) :
    Calls Tryd.prog 25 #[.agg #[.slice A x.length c], .slice B gs.length d, .slice L l.length cl] w fun e w' =>
      e = .returned (.tuple #[.int .i64 (faultF x gs (pad l)).1, .int .i64 (faultF x gs (pad l)).2, .int .i64 0]) ∧ Below w.heap.size w w' := by
  have h8 := hok.2.1
  have hpl : (pad l).length = 8 := pad_length l (by omega)
  have hrp : ∀ i : Nat, i < x.length → -1 ≤ rd (pad l) i ∧ rd (pad l) i < ((x.getD i []).length : Int) := by
    intro i hi
    have := hr i (by omega)
    have e : rd (pad l) i = rd l i := by
      unfold rd pad
      rw [List.getD_eq_getElem?_getD, List.getD_eq_getElem?_getD, List.getElem?_append_left (by simp; omega)]
    rw [e]; exact this
  have hchk := fun (W : World) (hb : Below w.heap.size w W) => check_calls A c x B d gs W (Kd.C_below hx hb) hok (Kd.C_below hg hb) hgo
  have hpln := fun (W : World) (hb : Below w.heap.size w W) => planned_calls A c x B gs.length d L cl l W (Kd.C_below hx hb) hok (Kd.C_below hl hb) hlen hr
  have hflt := fun (W : World) (hb : Below w.heap.size w W) => fault_calls A c x B d gs (pad l) W (Kd.C_below hx hb) (Kd.C_below hg hb) hok hgo hpl hrp
  have Hhchk := Lib.hid hchk
  have Hhpln := Lib.hid hpln
  have Hhflt := Lib.hid hflt
  have Hhlen := Lib.hid hlen
  clear hchk hpln hflt hlen
  clear hx hg hok hgo hl hr hrp
  generalize faultF x gs (pad l) = ff at *
  obtain ⟨f1, f2⟩ := ff
  go_enter Tryd.func25, Tryd.ntmps25
  have hm0 : ∀ (o : Obj) (V : World), Below ((w.alloc o).alloc (.cells #[.slice A x.length c, .slice B gs.length d] 73 (0, 0))).heap.size ((w.alloc o).alloc (.cells #[.slice A x.length c, .slice B gs.length d] 73 (0, 0))) V → V.cell? ⟨w.heap.size + 1, 0, none⟩ = some (.slice A x.length c) ∧ V.cell? ⟨w.heap.size + 1, 1, none⟩ = some (.slice B gs.length d) := by
    intro o V hb
    have d0 := hb.cell (p := ⟨w.heap.size + 1, 0, none⟩) (by simp)
    have d1 := hb.cell (p := ⟨w.heap.size + 1, 1, none⟩) (by simp)
    simp at d0 d1
    exact ⟨d0, d1⟩
  have hbb : ∀ o1 o2 : Obj, Below w.heap.size w ((w.alloc o1).alloc o2) := fun o1 o2 => by (repeat (first | exact Below.refl _ _ | refine pw_below_drewN ?_ _ | refine below_drew ?_ | refine Below.alloc ?_ (by first | omega | (simp; done) | (simp; omega)) _ | refine Below.setCell ?_ (by first | omega | (simp; done) | (simp; omega)) _))
  have hst : ∀ V : World, (V.alloc (.cells #[.int .i64 0, .int .i64 0, .int .i64 0, .int .i64 0, .int .i64 0, .int .i64 0, .int .i64 0, .int .i64 0] 78 (0, 0))).heap[V.heap.size]? = some (.cells (planA (List.replicate 8 0)) 78 (0, 0)) := by
    intro V; rw [heap_alloc_if, if_pos rfl, planA_zero]
  have Hhm0 := Lib.hid hm0
  have Hhbb := Lib.hid hbb
  have Hhst := Lib.hid hst
  clear hm0 hbb hst
  go_wp2_with fail
  refine (Hhchk.out _ (Hhbb.out _ _)).mono ?_
  rintro e V ⟨rfl, hb⟩
  obtain ⟨d0, d1⟩ := Hhm0.out _ V hb
  have hbV : Below w.heap.size w V := (Hhbb.out _ _).trans (hb.mono (by simp; omega))
  have lt1 := World.block_lt_of_cell? V _ d0
  have HhbV := Lib.hid hbV
  clear hbV
  clear hb Hhchk Hhm0 Hhbb
  go_wp2_with fail
  refine (Hhpln.out _ HhbV.out).mono ?_
  rintro e V2 ⟨rfl, hb⟩
  have f0 := pw_cell_below hb d0
  have f1 := pw_cell_below hb d1
  have lt2 := World.block_lt_of_cell? V2 _ f0
  have hbV2 : Below w.heap.size w V2 := HhbV.out.trans (hb.mono HhbV.out.size)
  have HhbV2 := Lib.hid hbV2
  clear hbV2
  clear hb d0 d1 lt1 Hhpln HhbV
  go_wp2_with (refine st78w (o := ⟨none, .store 78 _ _, _, _, _, _⟩) (by rfl) _ _ (by rfl) V2.heap.size (by rfl) (List.replicate 8 0) (pad l) 78 (by rfl) hpl (by rfl) (Hhst.out V2) ?_)
  intro V3 r3 k3
  have b3 : Below V2.heap.size V2 V3 := (((Below.refl _ V2).alloc (Nat.le_refl _) _).trans (k3.below _ (by simp) (fun k h1 h2 => by omega)))
  have g0 := pw_cell_below b3 f0
  have g1 := pw_cell_below b3 f1
  have hbV3 : Below w.heap.size w V3 := HhbV2.out.trans (b3.mono HhbV2.out.size)
  have l3 : V2.heap.size < V3.heap.size := (Array.getElem?_eq_some_iff.1 r3).1
  have Hr3 := Lib.hid r3
  have HhbV3 := Lib.hid hbV3
  clear r3 hbV3
  clear k3 b3 f0 f1 lt2 Hhst
  go_wp2_with (refine ld78 (o := ⟨some 29, _, _, _, _, _⟩) rfl _ rfl _ rfl (pad l) 78 hpl Hr3.out ?_)
  refine (Hhflt.out _ HhbV3.out).mono ?_
  rintro e V4 ⟨rfl, hb⟩
  have hbV4 := HhbV3.out.trans (hb.mono HhbV3.out.size)
  have HhbV4 := Lib.hid hbV4
  clear hbV4
  clear hb g0 g1 l3 Hhflt
  go_wp2
  go_quiet (fail)
  go_wp2
  refine bodyPost_ret (results_tmp3 rfl _ _ _) rfl ⟨rfl, ?_⟩
  exact pw_below_drewN (HhbV4.out.alloc (by have := HhbV4.out.size; omega) _) _
theorem right_calls (A : Option Addr) (c : Nat) (x : List (List S60)) (B : Option Addr) (d : Nat) (gs : List S68) (L : Option Addr) (cl : Nat) (l : List Int) (w : World)
    (hx : Kd.C (Kd.slice 60 k60) w A x.length x) (hg : k68.C w B gs.length gs) (hok : OkIdx x) (hgo : OkGoals x gs) (hl : Kd.C (Kd.int .i64) w L l.length l) (hlen : l.length = x.length)
    (hr : ∀ i, i < l.length → -1 ≤ rd l i ∧ rd l i < ((x.getD i []).length : Int)) :
    Calls Tryd.prog 10 #[.agg #[.slice A x.length c], .slice B gs.length d, .slice L l.length cl] w fun e w' =>
      e = .returned (.tuple #[.bool ((faultF x gs (pad l)).1 == 0), .bool true]) ∧ Below w.heap.size w w' := by
  have h8 := hok.2.1
  have hflt := fun (W : World) (hb : Below w.heap.size w W) => Fault_calls A c x B d gs L cl l W (Kd.C_below hx hb) (Kd.C_below hg hb) hok hgo (Kd.C_below hl hb) hlen hr
  have Hhflt := Lib.hid hflt
  have Hhlen := Lib.hid hlen
  clear hflt hlen
  clear hx hg hok hgo hl hr
  generalize faultF x gs (pad l) = ff at *
  obtain ⟨f1, f2⟩ := ff
  go_enter Tryd.func10, Tryd.ntmps10
  go_wp2_with fail
  refine (Hhflt.out _ (by (repeat (first | exact Below.refl _ _ | refine pw_below_drewN ?_ _ | refine below_drew ?_ | refine Below.alloc ?_ (by first | omega | (simp; done) | (simp; omega)) _ | refine Below.setCell ?_ (by first | omega | (simp; done) | (simp; omega)) _)))).mono ?_
  rintro e V ⟨rfl, hb⟩
  have hbV : Below w.heap.size w V := ((Below.refl _ w).alloc (Nat.le_refl _) _).trans (hb.mono (by simp))
  have HhbV := Lib.hid hbV
  clear hbV
  clear hb
  go_wp2
  refine bodyPost_ret (results_tmp2 rfl _ _ _) rfl ⟨rfl, HhbV.out⟩
end Go.Proofs.YtlhnpbdpojcbeaaDoor
end
section
open Go Go.RowKit
namespace Go.Proofs.YtlhnpbdpojcbeaaDoor
open Go.Proofs.YtlhnpbdpojcbeaaDoorW.PrintWords
open PPackAll Go.Shelf
set_option linter.unusedVariables false
set_option linter.unusedSimpArgs false
def CloneIs {α : Type} (d : Kd α) (e : Nat) (xs : List α) (w : World) (en : Ending) (w' : World) : Prop :=
  ∃ v, en = .returned v ∧ d.R e w' w.heap.size (fun k => w.heap.size ≤ k) v xs ∧ Below w.heap.size w w'
theorem C_none {α : Type} {d : Kd α} {w : World} {n : Nat} {xs : List α} (h : d.C w none n xs) : xs = [] ∧ n = 0 := by
  have h1 : xs.length = n := h.1
  rcases Nat.eq_zero_or_pos n with h0 | h0
  · exact ⟨List.eq_nil_of_length_eq_zero (by omega), h0⟩
  · obtain ⟨ad, e, _⟩ := h.2.2 h0
    cases e
theorem R_empty {α : Type} (d : Kd α) (e : Nat) (w : World) (base : Nat) (hb : base ≤ w.heap.size) (ok : Nat → Prop) (hok : ok w.heap.size) : d.R e (w.alloc (.cells #[] e)) base ok (.slice (some ⟨w.heap.size, 0, none⟩) 0 0) [] :=
  ⟨fun k hk => by simp [Value.ownBlock] at hk; exact hk ▸ hok, [], by
    have := World.ownsRow_lit (base := base) (e := e) (size := d.sz) w #[] 0 hb (by simp) (by simp)
    simpa using this, Reps.none _ _⟩
theorem info49s : (Tryd.prog.info? 49).map (fun i => (i.zero, i.size, i.bytes)) = some (some (.agg #[(.int .i64 0), (.int .i64 0), (.bool false), (.int .i64 0)]), 4, 32) := by kernel_rfl
set_option maxHeartbeats 1000000 in
set_option maxRecDepth 100000 in
theorem clone49_calls (C : Option Addr) (cc : Nat) (xs : List S49) (w : World) (hr : Kd.C k49 w C xs.length xs) (hl : xs.length ≤ 1000) :
    Calls Tryd.prog 52 #[.slice C xs.length cc] w (CloneIs k49 49 xs w) := by
  rcases C with _ | ad
  · obtain ⟨hx, -⟩ := C_none hr
    subst hx
    have hnil := fun W => Lib.run_eql_slice_nil (P := Tryd.prog) W 41 49 none 0 cc 0 0 Tryd.underlying41
    go_enter Tryd.func52, Tryd.ntmps52
    go_wp2
    go_ret
    exact ⟨_, rfl, Kd.R_nil _ _ _ _ _, Below.refl _ _⟩
  · have hr' := Lib.hid (Kd.C_below hr ((Below.refl _ _).alloc (Nat.le_refl _) (.cells #[] 49)))
    have HB := Lib.hid ((Below.refl w.heap.size w).alloc (Nat.le_refl _) (.cells #[] 49))
    have hnil := fun W => Lib.run_eql_slice_nil (P := Tryd.prog) W 41 49 (some ad) xs.length cc 0 0 Tryd.underlying41
    have HO := Lib.hid (R_empty k49 49 w w.heap.size (Nat.le_refl _) (fun k => w.heap.size ≤ k) (Nat.le_refl _))
    clear hr
    go_enter Tryd.func52, Tryd.ntmps52
    go_wp2_with ((at_builtin; refine Kd.R_append_rows (P := Tryd.prog) k49 (Rr := Kd.K k49 (w.alloc (.cells #[] 49))) w.heap.size rfl _ _ 41 49 (.agg #[(.int .i64 0), (.int .i64 0), (.bool false), (.int .i64 0)]) 32 rfl Tryd.underlying41 info49s rfl (by decide) (by omega) _ [] xs (some ad) xs.length cc (fun k => w.heap.size ≤ k) (fun k => False) rfl rfl HO.out hr'.out ?c1 ?c2 ?c3 HB.out ?c4 ?c5 ?_); (case c1 => intro x cs h; obtain rfl := k49_open h; exact k49_mkM _ _ _ _); (case c2 => intro k h; exact h.elim); (case c3 => intro k h; simp at h; omega); (case c4 => simp); (case c5 => simp; omega); intro v1 w1 ho hb _ _)
    go_ret
    exact ⟨_, rfl, ho, hb⟩
theorem info68s : (Tryd.prog.info? 68).map (fun i => (i.zero, i.size, i.bytes)) = some (some (.agg #[(.int .i64 0), (.int .i64 0), (.int .i64 0)]), 3, 24) := by kernel_rfl
set_option maxHeartbeats 1000000 in
set_option maxRecDepth 100000 in
theorem clone68_calls (C : Option Addr) (cc : Nat) (xs : List S68) (w : World) (hr : Kd.C k68 w C xs.length xs) (hl : xs.length ≤ 1000) :
    Calls Tryd.prog 56 #[.slice C xs.length cc] w (CloneIs k68 68 xs w) := by
  rcases C with _ | ad
  · obtain ⟨hx, -⟩ := C_none hr
    subst hx
    have hnil := fun W => Lib.run_eql_slice_nil (P := Tryd.prog) W 25 68 none 0 cc 0 0 Tryd.underlying25
    go_enter Tryd.func56, Tryd.ntmps56
    go_wp2
    go_ret
    exact ⟨_, rfl, Kd.R_nil _ _ _ _ _, Below.refl _ _⟩
  · have hr' := Lib.hid (Kd.C_below hr ((Below.refl _ _).alloc (Nat.le_refl _) (.cells #[] 68)))
    have HB := Lib.hid ((Below.refl w.heap.size w).alloc (Nat.le_refl _) (.cells #[] 68))
    have hnil := fun W => Lib.run_eql_slice_nil (P := Tryd.prog) W 25 68 (some ad) xs.length cc 0 0 Tryd.underlying25
    have HO := Lib.hid (R_empty k68 68 w w.heap.size (Nat.le_refl _) (fun k => w.heap.size ≤ k) (Nat.le_refl _))
    clear hr
    go_enter Tryd.func56, Tryd.ntmps56
    go_wp2_with ((at_builtin; refine Kd.R_append_rows (P := Tryd.prog) k68 (Rr := Kd.K k68 (w.alloc (.cells #[] 68))) w.heap.size rfl _ _ 25 68 (.agg #[(.int .i64 0), (.int .i64 0), (.int .i64 0)]) 24 rfl Tryd.underlying25 info68s rfl (by decide) (by omega) _ [] xs (some ad) xs.length cc (fun k => w.heap.size ≤ k) (fun k => False) rfl rfl HO.out hr'.out ?c1 ?c2 ?c3 HB.out ?c4 ?c5 ?_); (case c1 => intro x cs h; obtain rfl := k68_open h; exact k68_mkM _ _ _ _); (case c2 => intro k h; exact h.elim); (case c3 => intro k h; simp at h; omega); (case c4 => simp); (case c5 => simp; omega); intro v1 w1 ho hb _ _)
    go_ret
    exact ⟨_, rfl, ho, hb⟩
theorem info3s : (Tryd.prog.info? 3).map (fun i => (i.zero, i.size, i.bytes)) = some (some (.int .i64 0), 1, 8) := by kernel_rfl
set_option maxHeartbeats 1000000 in
set_option maxRecDepth 100000 in
theorem clone3_calls (C : Option Addr) (cc : Nat) (xs : List Int) (w : World) (hr : Kd.C (Kd.int .i64) w C xs.length xs) (hl : xs.length ≤ 1000) :
    Calls Tryd.prog 37 #[.slice C xs.length cc] w (CloneIs (Kd.int .i64) 3 xs w) := by
  rcases C with _ | ad
  · obtain ⟨hx, -⟩ := C_none hr
    subst hx
    have hnil := fun W => Lib.run_eql_slice_nil (P := Tryd.prog) W 30 3 none 0 cc 0 0 Tryd.underlying30
    go_enter Tryd.func37, Tryd.ntmps37
    go_wp2
    go_ret
    exact ⟨_, rfl, Kd.R_nil _ _ _ _ _, Below.refl _ _⟩
  · have hr' := Lib.hid (Kd.C_below hr ((Below.refl _ _).alloc (Nat.le_refl _) (.cells #[] 3)))
    have HB := Lib.hid ((Below.refl w.heap.size w).alloc (Nat.le_refl _) (.cells #[] 3))
    have hnil := fun W => Lib.run_eql_slice_nil (P := Tryd.prog) W 30 3 (some ad) xs.length cc 0 0 Tryd.underlying30
    have HO := Lib.hid (R_empty (Kd.int .i64) 3 w w.heap.size (Nat.le_refl _) (fun k => w.heap.size ≤ k) (Nat.le_refl _))
    clear hr
    go_enter Tryd.func37, Tryd.ntmps37
    go_wp2_with ((at_builtin; refine Kd.R_append_rows (P := Tryd.prog) (Kd.int .i64) (Rr := Kd.K (Kd.int .i64) (w.alloc (.cells #[] 3))) w.heap.size rfl _ _ 30 3 (.int .i64 0) 8 rfl Tryd.underlying30 info3s rfl (by decide) (by omega) _ [] xs (some ad) xs.length cc (fun k => w.heap.size ≤ k) (fun k => False) rfl rfl HO.out hr'.out ?c1 ?c2 ?c3 HB.out ?c4 ?c5 ?_); (case c1 => intro x cs h; exact h); (case c2 => intro k h; exact h.elim); (case c3 => intro k h; simp at h; omega); (case c4 => simp); (case c5 => simp; omega); intro v1 w1 ho hb _ _)
    go_ret
    exact ⟨_, rfl, ho, hb⟩
end Go.Proofs.YtlhnpbdpojcbeaaDoor
end
section
open Go Go.RowKit
namespace Go.Proofs.YtlhnpbdpojcbeaaDoor
open Go.Proofs.YtlhnpbdpojcbeaaDoorW.PrintWords
open PPackAll Go.Shelf
set_option linter.unusedVariables false
set_option linter.unusedSimpArgs false
def outJ (bo : Nat) (s : Option (List Int)) (W : World) : Prop :=
  match s with
  | none => W.heap[bo]? = some (.cells #[.slice none 0 0] 30 (0, 0))
  | some l => ∃ v, W.heap[bo]? = some (.cells #[v] 30 (0, 0)) ∧ (Kd.int .i64).R 3 W (bo + 1) (fun k => bo < k) v l ∧ 0 < l.length
theorem outJ_keep {bo : Nat} {s : Option (List Int)} {S : Nat → Prop} {W W' : World} (h : outJ bo s W) (hk : Keep S W W') (hbo : ¬ S bo)
    (ht : ∀ k cs, bo < k → W.heap[k]? = some (.cells cs 3 (0, 0)) → ¬ S k) : outJ bo s W' := by
  cases s with
  | none => exact hk.at_ h hbo
  | some l =>
    obtain ⟨v, h1, h2, h3⟩ := h
    refine ⟨v, hk.at_ h1 hbo, ?_, h3⟩
    refine Kd.R_mono (Kd.R_step (Kd.R_bound h2) ?_) (fun k hk => hk.1)
    rintro k ⟨k1, k2, k3, q, hq, cs, hc⟩ hlt
    have hq3 : q = 3 := by simpa [Kd.int, Kd.scalar] using hq
    subst hq3
    exact hk.block k hlt (ht k cs k1 hc)
theorem outJ_frm {bo b0 : Nat} {s : Option (List Int)} {W W' : World} (h : outJ bo s W) (hk : Keep (fun b => b0 ≤ b ∧ Frm W b) W W') (hbo : bo < b0) : outJ bo s W' := by
  refine outJ_keep h hk (fun h => by have := h.1; omega) ?_
  rintro k cs _ hc ⟨_, hf⟩
  unfold Frm at hf
  rw [hc] at hf
  exact hf
theorem outJ_lt {bo : Nat} {s : Option (List Int)} {W : World} (h : outJ bo s W) : bo < W.heap.size := by
  cases s with
  | none => exact (Array.getElem?_eq_some_iff.1 h).1
  | some l => obtain ⟨v, h1, _⟩ := h; exact (Array.getElem?_eq_some_iff.1 h1).1
theorem outJ_box {bo : Nat} {s : Option (List Int)} {W : World} (h : outJ bo s W) : ∃ v, W.heap[bo]? = some (.cells #[v] 30 (0, 0)) ∧ ∃ A n cap, v = .slice A n cap ∧ (A = none ↔ s = none) ∧ (A = none → v = .slice none 0 0) := by
  cases s with
  | none => exact ⟨_, h, none, 0, 0, rfl, by simp, fun _ => rfl⟩
  | some l =>
    obtain ⟨v, h1, h2, h3⟩ := h
    obtain ⟨A, cap, e, hc, hr⟩ := Kd.R_reads h2
    refine ⟨v, h1, A, _, cap, e, ?_, ?_⟩
    · constructor
      · rintro rfl
        have := (C_none hr).1
        rw [this] at h3; simp at h3
      · simp
    · rintro rfl
      have := (C_none hr).1
      rw [this] at h3; simp at h3
def MkBox (A : Option Addr) (c nx : Nat) (B : Option Addr) (ng d : Nat) (bm bx : Nat) (W : World) : Prop :=
  W.cell? ⟨bm, 0, none⟩ = some (.slice A nx c) ∧ W.cell? ⟨bm, 1, none⟩ = some (.slice B ng d) ∧ W.cell? ⟨bx, 0, none⟩ = some (.slice A nx c)
theorem MkBox.keep {A : Option Addr} {c nx : Nat} {B : Option Addr} {ng d : Nat} {bm bx : Nat} {S : Nat → Prop} {W W' : World} (h : MkBox A c nx B ng d bm bx W) (hk : Keep S W W') (h1 : ¬ S bm) (h2 : ¬ S bx) : MkBox A c nx B ng d bm bx W' :=
  ⟨hk.cell h.1 h1, hk.cell h.2.1 h1, hk.cell h.2.2 h2⟩
def bestF (x : List (List S60)) (gs : List S68) (s : Option (List Int)) (p : List Int) : Bool × Option (List Int) :=
  if faultF x gs p = (0, 0) then (false, some (p.take x.length)) else (s.isNone, s)
theorem take_reads {w : World} {g t : Nat} {p : List Int} (h : w.heap[g]? = some (.cells (planA p) t (0, 0))) (n : Nat) (hn : n ≤ p.length) (hp : p.length ≤ 8) :
    Kd.C (Kd.int .i64) w (some ⟨g, 0, none⟩) (p.take n).length (p.take n) := by
  refine ⟨rfl, by simp; omega, fun _ => ⟨_, rfl, ?_⟩⟩
  intro j q hq
  refine ⟨[.int .i64 q], rfl, rfl, ?_⟩
  intro i u hu
  have hi : i = 0 := by
    rcases i with _ | i
    · rfl
    · simp at hu
  subst hi
  have hu' : u = .int .i64 q := by simpa using hu.symm
  subst hu'
  have hj : j < n ∧ p[j]? = some q := by
    rw [List.getElem?_take] at hq
    split at hq
    · exact ⟨by assumption, hq⟩
    · cases hq
  have hlt : j < p.length := by
    have := hj.2
    rw [List.getElem?_eq_some_iff] at this
    exact this.1
  have hr := (row_cell h j hlt).1
  have hz : (Kd.int IntKind.i64).sz = 1 := rfl
  have e : (⟨g, 0, none⟩ : Addr).add (j * (Kd.int IntKind.i64).sz + 0) = ⟨g, j, none⟩ := by
    rw [hz]
    simp [Addr.add]
    try omega
  rw [e, hr]
  have : rd p j = q := by
    unfold rd
    rw [Int.toNat_natCast, List.getD_eq_getElem?_getD, hj.2]; rfl
  rw [this]
theorem slice78 (a : Addr) (h : Nat) (hh : h ≤ 8) (W : World) : (Instr.sliceAt 78 (.pointer (some a)) none (some (.int .i64 (h : Int))) none).run Tryd.prog W = .ok (.slice (some a) h 8) W := by
  have e8 : Tryd.prog.arrayLen 78 = 8 := by kernel_rfl
  have es : (sizeOf (Tryd.prog.elem 78)).run Tryd.prog W = .ok 1 W := by kernel_rfl
  rw [run_sliceAt_array_h W 78 a (by kernel_rfl) .i64 (h : Int) (by omega) (by rw [e8]; omega), es, e8]
  simp [Result.andThen, slicedAt, Addr.add]
set_option maxHeartbeats 1000000 in
theorem best1_calls (A : Option Addr) (c : Nat) (x : List (List S60)) (B : Option Addr) (d : Nat) (gs : List S68) (p : List Int) (w : World) (bm bx bo : Nat) (s : Option (List Int))
    (hx : Kd.C (Kd.slice 60 k60) w A x.length x) (hg : k68.C w B gs.length gs) (hok : OkIdx x) (hgo : OkGoals x gs) (hp : p.length = 8) (hpl : InP x p x.length)
    (hE : MkBox A c x.length B gs.length d bm bx w) (hJ : outJ bo s w) (h1 : bm ≠ bo) (h2 : bx ≠ bo) :
    Calls Tryd.prog 35 #[planV p, .pointer (some ⟨bm, 0, none⟩), .pointer (some ⟨bx, 0, none⟩), .pointer (some ⟨bo, 0, none⟩)] w fun e W' =>
      e = .returned (.bool (bestF x gs s p).1) ∧ outJ bo (bestF x gs s p).2 W' ∧ Keep (fun k => k = bo) w W' := by
  have h8 := hok.2.1
  have h0 := hok.1
  have hbo := outJ_lt hJ
  have hflt := fun (W : World) (hb : Below w.heap.size w W) => fault_calls A c x B d gs p W (Kd.C_below hx hb) (Kd.C_below hg hb) hok hgo hp hpl
  have hEq := hE
  obtain ⟨e0, e1, e2⟩ := hE
  have lm := World.block_lt_of_cell? w _ e0
  have lx := World.block_lt_of_cell? w _ e2
  have fin : ∀ (b : Bool) (s' : Option (List Int)) (W : World), bestF x gs s p = (b, s') → outJ bo s' W → Keep (fun k => k = bo) w W → (b = (bestF x gs s p).1 ∧ outJ bo (bestF x gs s p).2 W ∧ Keep (fun k => k = bo) w W) := by
    intro b s' W he hj hk; rw [he]; exact ⟨rfl, hj, hk⟩
  unfold planV
  generalize hP : planA p = P
  have HP := Lib.hid hP
  have hrow : (w.alloc (.cells P 78 (0, 0))).heap[w.heap.size]? = some (.cells (planA p) 78 (0, 0)) := by rw [heap_alloc_if, if_pos rfl, hP]
  have hb1 : Below w.heap.size w (w.alloc (.cells P 78 (0, 0))) := by (repeat (first | exact Below.refl _ _ | refine pw_below_drewN ?_ _ | refine below_drew ?_ | refine Below.alloc ?_ (by first | omega | (simp; done) | (simp; omega)) _ | refine Below.setCell ?_ (by first | omega | (simp; done) | (simp; omega)) _))
  have hbf : ∀ V, Below (w.alloc (.cells P 78 (0, 0))).heap.size (w.alloc (.cells P 78 (0, 0))) V → V.heap[w.heap.size]? = some (.cells (planA p) 78 (0, 0)) := fun V hb => (hb.block _ (by simp)).trans hrow
  have Hhflt := Lib.hid hflt
  have HhEq := Lib.hid hEq
  have HhJ := Lib.hid hJ
  have Hhrow := Lib.hid hrow
  have Hhb1 := Lib.hid hb1
  have Hhbf := Lib.hid hbf
  have Hfin := Lib.hid fin
  clear hflt hEq hJ hrow hb1 hbf fin
  clear hP hx hg hok hgo hpl
  go_enter Tryd.func35, Tryd.ntmps35
  go_wp2_with (refine ld78 (o := ⟨some 7, _, _, _, _, _⟩) rfl _ rfl _ rfl p 78 hp Hhrow.out ?_)
  refine (Hhflt.out _ Hhb1.out).mono ?_
  rintro e V ⟨rfl, hb⟩
  have hbV : Below w.heap.size w V := Hhb1.out.trans (hb.mono (by simp))
  have hr := Hhbf.out V hb
  have f0 := pw_cell_below hbV e2
  have hJV : outJ bo s V := outJ_keep HhJ.out (Keep.ofBelow hbV (fun _ => False)) (fun h => h) (fun _ _ _ _ h => h)
  have lV : w.heap.size < V.heap.size := (Array.getElem?_eq_some_iff.1 hr).1
  obtain ⟨v, j0, VA, vn, vc, rfl, j1, j2⟩ := outJ_box hJV
  obtain ⟨k0, k1⟩ := one_cell j0
  clear hb e0 e1 e2 Hhflt Hhbf Hhb1 Hhrow
  by_cases hF : faultF x gs p = (0, 0)
  · have e : bestF x gs s p = (false, some (p.take x.length)) := by unfold bestF; rw [if_pos hF]
    have fin2 := fun W => Hfin.out false (some (p.take x.length)) W e
    rw [hF]
    have hcl := fun (W : World) (hW : W.heap[w.heap.size]? = some (.cells (planA p) 78 (0, 0))) => clone3_calls (some ⟨w.heap.size, 0, none⟩) 8 (p.take x.length) W (take_reads hW x.length (by omega) (by omega)) (by simp; omega)
    have hlen : (p.take x.length).length = x.length := by simp; omega
    rw [hlen] at hcl
    have hsl := fun W => slice78 ⟨w.heap.size, 0, none⟩ x.length h8 W
    have Hhcl := Lib.hid hcl
    have HhF := Lib.hid hF
    have HhbV := Lib.hid hbV
    have Hhr := Lib.hid hr
    have HhJV := Lib.hid hJV
    have Hj0 := Lib.hid j0
    have Hj1 := Lib.hid j1
    have Hj2 := Lib.hid j2
    have Hfin2 := Lib.hid fin2
    clear hcl hF hbV hr hJV j0 j1 j2 fin2
    clear e
    go_wp2_with fail
    refine (Hhcl.out V Hhr.out).mono ?_
    clear Hhcl
    rintro e V2 ⟨v2, rfl, hR, hb2⟩
    have hJ2 : outJ bo s V2 := outJ_keep HhJV.out (Keep.ofBelow hb2 (fun _ => False)) (fun h => h) (fun _ _ _ _ h => h)
    have j0' := (hb2.block bo (by have := hbo; omega)).trans Hj0.out
    obtain ⟨y0, y1⟩ := one_cell j0'
    obtain ⟨A2, c2, e2, hl2, hr2⟩ := Kd.R_reads hR
    rcases A2 with _ | ad2
    · have := (C_none hr2).2
      rw [hlen] at this; omega
    subst e2
    have hlb : bo < V2.heap.size := by have := hb2.size; omega
    have hR2 : (Kd.int .i64).R 3 V2 (bo + 1) (fun k => bo < k) (.slice (some ad2) (p.take x.length).length c2) (p.take x.length) :=
      Kd.R_mono (Kd.R_lower hR (by omega)) (fun k hk => by show bo < k; have : V.heap.size ≤ k := hk; omega)
    have hend : outJ bo (some (p.take x.length)) (V2.setCell ⟨bo, 0, none⟩ (.slice (some ad2) (p.take x.length).length c2)) := by
      refine ⟨_, ?_, Kd.R_far (p := ⟨bo, 0, none⟩) hR2 (fun k hk => by have : bo < k := hk; show k ≠ bo; omega) _, by omega⟩
      have := heap_setCell_same V2 bo 0 _ _ (.slice (some ad2) (p.take x.length).length c2) j0'
      simpa using this
    have hkeep : Keep (fun k => k = bo) w (V2.setCell ⟨bo, 0, none⟩ (.slice (some ad2) (p.take x.length).length c2)) :=
      (Keep.ofBelow (HhbV.out.trans (hb2.mono HhbV.out.size)) (fun k => k = bo)).setCell (p := ⟨bo, 0, none⟩) (.inl rfl) _
    have hnil := fun W => Lib.run_eql_slice_nil (P := Tryd.prog) W 30 3 (some ad2) x.length c2 0 0 Tryd.underlying30
    rw [hlen] at hend hkeep ⊢
    have Hhend := Lib.hid hend
    have Hhkeep := Lib.hid hkeep
    have HhR := Lib.hid hR
    have HhR2 := Lib.hid hR2
    have HhJ2 := Lib.hid hJ2
    have Hj0' := Lib.hid j0'
    have Hhb2 := Lib.hid hb2
    clear hend hkeep hR hR2 hJ2 j0' hb2
    clear hr2 k0 k1
    go_wp2
    go_ret
    obtain ⟨a, b, c⟩ := Hfin2.out _ Hhend.out Hhkeep.out
    exact ⟨by rw [← a]; rfl, b, c⟩
  · have e : bestF x gs s p = (s.isNone, s) := by unfold bestF; rw [if_neg hF]
    have fin2 := fun W => Hfin.out s.isNone s W e
    have hne : ((faultF x gs p).1 == 0) = false := by
      rw [beq_eq_false_iff_ne]; exact fun h => hF (faultF_zero x gs p h)
    generalize faultF x gs p = ff at hne ⊢
    obtain ⟨f1, f2⟩ := ff
    have hnil := fun W => Lib.run_eql_slice_nil (P := Tryd.prog) W 30 3 VA vn vc 0 0 Tryd.underlying30
    have hsn : s.isNone = VA.isNone := by
      cases s <;> cases VA <;> simp_all
    have hkV : Keep (fun k => k = bo) w V := Keep.ofBelow hbV _
    have Hfin2 := Lib.hid fin2
    have HhbV := Lib.hid hbV
    have Hhr := Lib.hid hr
    have HhJV := Lib.hid hJV
    have Hj0 := Lib.hid j0
    have Hj1 := Lib.hid j1
    have Hj2 := Lib.hid j2
    have HhkV := Lib.hid hkV
    have Hhsn := Lib.hid hsn
    clear fin2 hbV hr hJV j0 j1 j2 hkV hsn
    clear e hF
    go_wp2
    go_ret
    obtain ⟨a, b, c⟩ := Hfin2.out _ HhJV.out HhkV.out
    exact ⟨by rw [← a, Hhsn.out]; rfl, b, c⟩
end Go.Proofs.YtlhnpbdpojcbeaaDoor
end
section
open Go Go.RowKit
namespace Go.Proofs.YtlhnpbdpojcbeaaDoor
open Go.Proofs.YtlhnpbdpojcbeaaDoorW.PrintWords
open PPackAll Go.Shelf
set_option linter.unusedVariables false
set_option linter.unusedSimpArgs false
def DelIs (g n c : Nat) (xs : List S49) (i base : Nat) (ok : Nat → Prop) (w : World) (e : Ending) (w' : World) : Prop :=
  e = .returned (.slice (some ⟨g, 0, none⟩) (n - 1) c) ∧ k49.R 49 w' base ok (.slice (some ⟨g, 0, none⟩) (n - 1) c) (xs.eraseIdx i) ∧ Below base w w'
theorem info49' : (Tryd.prog.info? 49).map (·.size) = some k49.sz := by kernel_rfl
theorem run_cut3 (W : World) (g n c i : Nat) (hi : i < n) (hc : n ≤ c) : (Instr.sliceAt 41 (.slice (some ⟨g, 0, none⟩) n c) (some (.int .i64 i)) (some (.int .i64 ((i : Int) + 1))) (some (.int .i64 n))).run Tryd.prog W = .ok (.slice (some ((⟨g, 0, none⟩ : Addr).add (i * 4))) (i + 1 - i) (n - i)) W := by
  obtain ⟨i0, hi0, hs⟩ := Option.map_eq_some_iff.1 info49'
  have hs4 : i0.size = 4 := hs
  have h1 : (i : Int) + 1 ≤ (n : Int) := by omega
  have h2 : (0 : Int) ≤ (i : Int) + 1 := by omega
  have h5 : ((i : Int) + 1).toNat = i + 1 := by omega
  have h6 : n ≠ i := by omega
  simp [Instr.sliceAt, Instr.slice, run_underlying Tryd.underlying41, Instr.sliceBounds, Instr.sliceBound, asIntOf, h1, h2, h5, h6, hc, sizeOf, typeInfo, hi0, Sem.run_bind, hs4]
theorem zero49 (w : World) : (zeroValue 49).run Tryd.prog w = .ok (.agg #[(.int .i64 0), (.int .i64 0), (.bool false), (.int .i64 0)]) w := by kernel_rfl
theorem run_clear49 (W : World) (g n c base ty : Nat) (ok : Nat → Prop) (xs : List S49) (HO : k49.R 49 W base ok (.slice (some ⟨g, 0, none⟩) (n - 1) c) xs) (hn : 0 < n) (hc : n ≤ c) :
    ∃ W', (∀ m k : Nat, m = 1 → (Builtin.clear_ #[41] ty #[.slice (some ⟨g, (n - 1) * 4, none⟩) m k]).run Tryd.prog W = .ok (.tuple #[]) W') ∧ k49.R 49 W' base ok (.slice (some ⟨g, 0, none⟩) (n - 1) c) xs ∧ Below base W W' := by
  obtain ⟨hok, inner, hown, hr⟩ := HO
  have hb := own_base hown g (by simp [Value.ownBlock])
  obtain ⟨hl, h | ⟨g', cap, cur, he, hbg, hh, h1, h2, h3, h4⟩⟩ := hown
  · cases h.1
  · injection he with he1 he2 he3
    injection he1 with he1
    injection he1 with he1
    subst he1 he3
    have hxl : xs.length = n - 1 := he2.symm
    have hsz : k49.sz = 4 := rfl
    rw [hsz] at h3 h4 hl
    have hrun := run_storeCells_at (P := Tryd.prog) g ((n - 1) * 4) 49 [(.int .i64 0), (.int .i64 0), (.bool false), (.int .i64 0)] 0 cur W hh (by simp; omega) (by intro v hv; simp at hv; rcases hv with rfl | rfl | rfl <;> rfl)
    obtain ⟨NC, hNC⟩ : ∃ NC : Array Value, NC = (List.take ((n - 1) * 4 + 0) cur.toList ++ [(Value.int .i64 0), (Value.int .i64 0), (Value.bool false), (Value.int .i64 0)] ++ List.drop ((n - 1) * 4 + 0 + [(Value.int .i64 0), (.int .i64 0), (.bool false), (.int .i64 0)].length) cur.toList).toArray := ⟨_, rfl⟩
    rw [← hNC] at hrun
    have hlen : NC.size = c * 4 := by rw [hNC]; simp; omega
    have htk : NC.toList.take ((n - 1) * 4) = cur.toList.take ((n - 1) * 4) := by
      rw [hNC]
      simp only [Nat.add_zero, List.append_assoc]
      rw [List.take_append_of_le_length (by simp; omega), List.take_take, Nat.min_self]
    refine ⟨W.setRow g NC, ?_, ⟨hok, inner, ⟨by rw [hsz]; exact hl, .inr ⟨g, c, NC, by rw [hxl], hbg, setRow_heap _ _ _ _ _ _ hh, h1, h2, by rw [hsz]; exact hlen, by rw [hsz, hxl, htk]; rw [hxl] at h4; exact h4⟩⟩, ?_⟩, below_setRow (Below.refl _ _) hb _⟩
    · intro m k hm
      subst hm
      have hz : (Builtin.zeroCells #[(.int .i64 0), (.int .i64 0), (.bool false), (.int .i64 0)] 1).toList = [Value.int .i64 0, Value.int .i64 0, Value.bool false, Value.int .i64 0] := by kernel_rfl
      simp only [Builtin.clear_, Sem.run_bind, run_underlying Tryd.underlying41, Result.andThen_ok, zero49, Value.cells, hz, hrun, Sem.run_pure, List.getElem?_toArray, List.getElem?_cons_zero]
    · exact hr.imp_ (fun p q hp => k49.M_move (fun k' hk' => setRow_other _ _ _ _ (fun he => hk'.2 (by rw [he]; rfl))) hp)
set_option maxHeartbeats 2000000 in
set_option maxRecDepth 100000 in
theorem delete_calls (g n c : Nat) (xs : List S49) (i base : Nat) (ok : Nat → Prop) (w : World) (HO : k49.R 49 w base ok (.slice (some ⟨g, 0, none⟩) n c) xs) (hn : xs.length = n) (hi : i < n) (hc : n ≤ c) (h4 : c ≤ 9223372036854775807) (hb : base ≤ w.heap.size) (hn4 : n ≤ 1000) :
    Calls Tryd.prog 51 #[.slice (some ⟨g, 0, none⟩) n c, .int .i64 i, .int .i64 ((i : Int) + 1)] w (DelIs g n c xs i base ok w) := by
  have hcut := fun W => run_cut3 W g n c i hi hc
  have hne : ((i : Int) == (i : Int) + 1) = false := by rw [beq_eq_false_iff_ne]; omega
  have fin : ∀ W, k49.R 49 W base ok (.slice (some ⟨g, 0, none⟩) (n - 1) c) (xs.eraseIdx i) → Below base w W → DelIs g n c xs i base ok w (.returned (.slice (some ⟨g, 0, none⟩) (n - 1) c)) W := fun W h1 h2 => ⟨rfl, h1, h2⟩
  have HHO := Lib.hid HO
  have Hhn := Lib.hid hn
  have Hfin := Lib.hid fin
  clear HO hn fin
  have h1 : (i : Int) + 1 ≤ (n : Int) := by omega
  have h1' : i + 1 ≤ n := by omega
  have h2 : (0 : Int) ≤ (i : Int) + 1 := by omega
  have h5 : ((i : Int) + 1).toNat = i + 1 := by omega
  have hic : i ≤ c := by omega
  have hodr := Lib.hid (Kd.R_drew HHO.out)
  have hbdr := Lib.hid ((Below.refl base w).drew)
  have hA : (if c = i + 1 then some (⟨g, 0, none⟩ : Addr) else some ⟨g, (i + 1) * 4, none⟩) = if c = i + 1 then some (⟨g, 0, none⟩ : Addr) else (some (⟨g, 0, none⟩ : Addr)).map (·.add ((i + 1) * k49.sz)) := by
    simp only [Option.map_some, add_plain]; rfl
  have HhA := Lib.hid hA
  clear hA
  go_enter Tryd.func51, Tryd.ntmps51
  go_wp2
  go_still_tail 6, (by kernel_rfl)
  go_wp2_with (at_builtin; refine Kd.R_delete (P := Tryd.prog) k49 base rfl _ _ 41 49 rfl Tryd.underlying41 info49' rfl rfl HhA.out rfl hodr.out hi hbdr.out hb ?_; intro w1 ho1 hb1 hg1; obtain ⟨W2, hclr, ho2, hb2⟩ := run_clear49 w1 g n c base 0 ok _ ho1 (by omega) hc; have hc1 := fun k => hclr (n - (n - 1)) k (by omega); have hcn : ¬ (c = n - 1) := (by omega); clear hclr ho1 hg1)
  all_goals
    go_ret
    have hlast := Hfin.out _ ho2 (hb1.trans hb2)
    first
    | exact hlast
    | (have h : c = i + 1 := by assumption
       rw [h] at hlast
       exact hlast)
theorem always_calls (p : List Int) (many : Int) (w : World) : Calls Tryd.prog 34 #[planV p, .int .i64 many] w fun e w' => e = .returned (.bool true) ∧ Below w.heap.size w w' := by
  unfold planV
  generalize planA p = P
  go_enter Tryd.func34, Tryd.ntmps34
  go_wp2
  go_ret
  exact ⟨rfl, by (repeat (first | exact Below.refl _ _ | refine pw_below_drewN ?_ _ | refine below_drew ?_ | refine Below.alloc ?_ (by first | omega | (simp; done) | (simp; omega)) _ | refine Below.setCell ?_ (by first | omega | (simp; done) | (simp; omega)) _))⟩
def boolBox (b : Bool) : Obj := .cells #[.bool b] 4 (0, 0)
theorem kept1_calls (p : List Int) (bi : Nat) (b : Bool) (w : World) (hb : w.heap[bi]? = some (boolBox b)) :
    Calls Tryd.prog 80 #[planV p, .pointer (some ⟨bi, 0, none⟩)] w fun e w' => e = .returned (.bool false) ∧ w'.heap[bi]? = some (boolBox true) ∧ Keep (fun k => k = bi) w w' := by
  unfold planV
  generalize planA p = P
  obtain ⟨h0, h1⟩ := one_cell hb
  have hlt := (Array.getElem?_eq_some_iff.1 hb).1
  have fin : ∀ W, W = (w.setCell ⟨bi, 0, none⟩ (.bool true)).alloc (.cells P 78) → W.heap[bi]? = some (boolBox true) ∧ Keep (fun k => k = bi) w W := by
    rintro W rfl
    have hk : Keep (fun k => k = bi) w (w.setCell ⟨bi, 0, none⟩ (.bool true)) := (Keep.refl (fun k => k = bi) _).setCell (p := ⟨bi, 0, none⟩) (.inl rfl) _
    refine ⟨?_, hk.alloc _⟩
    have := heap_setCell_same w bi 0 #[.bool b] 4 (.bool true) hb
    rw [Below.heap_alloc _ _ _ (by have := hk.size; omega), this]
    rfl
  have Hfin := Lib.hid fin
  have Hhb := Lib.hid hb
  clear fin hb
  go_enter Tryd.func80, Tryd.ntmps80
  go_wp2
  go_ret
  obtain ⟨f1, f2⟩ := Hfin.out _ rfl
  exact ⟨rfl, f1, f2⟩
def keptF (x : List (List S60)) (gs : List S68) (cl : List S49) : Bool := (eachF x gs cl (fun s _ _ => (true, s)) (fun _ _ => (false, true)) x.length 0 zeros8 false).2
set_option maxHeartbeats 1000000 in
theorem kept_calls (A : Option Addr) (c : Nat) (x : List (List S60)) (B : Option Addr) (d : Nat) (gs : List S68) (C : Option Addr) (cc : Nat) (cl : List S49) (w : World)
    (hok : OkIdx x) (hgo : OkGoals x gs) (hkc : ∀ k ∈ cl, OkClause x gs k) (hx : Kd.C (Kd.slice 60 k60) w A x.length x) (hg : k68.C w B gs.length gs) (hc : k49.C w C cl.length cl) :
    Calls Tryd.prog 50 #[.agg #[.slice A x.length c, .slice B gs.length d], .slice C cl.length cc] w fun e w' => e = .returned (.bool (keptF x gs cl)) ∧ Below w.heap.size w w' := by
  have hq : ∀ V, V.heap.size = w.heap.size + 1 + 1 → Below w.heap.size w V → V.heap[w.heap.size + 1]? = some (boolBox false) →
      Calls Tryd.prog 32 #[.agg #[.slice A x.length c, .slice B gs.length d], .slice C cl.length cc, .func (.func 34) #[] #[], .func (.func 80) #[] #[.pointer (some ⟨w.heap.size + 1, 0, none⟩)]] V fun e W' =>
        e = .returned (.tuple #[]) ∧ W'.heap[w.heap.size + 1]? = some (boolBox (keptF x gs cl)) ∧ Below w.heap.size w W' := by
    intro V hV hb hbox
    have H : EachHyp A c x B d gs C cc cl (fun W => Below w.heap.size w W) (fun (s : Bool) W => W.heap[w.heap.size + 1]? = some (boolBox s)) (fun k => k = w.heap.size + 1) V.heap.size (fun s _ _ => (true, s)) (fun _ _ => (false, true)) (.func (.func 34) #[] #[]) (.func (.func 80) #[] #[.pointer (some ⟨w.heap.size + 1, 0, none⟩)]) := by
      refine ⟨hok, hgo, hkc, fun W hW => ⟨Kd.C_below hx hW, Kd.C_below hg hW, Kd.C_below hc hW⟩, fun b h => by omega, ?_, ?_, ?_, ?_⟩
      · intro W W' h1 h2 h3
        exact h3.trans (h2.below _ (by omega) (fun k _ h => by omega))
      · intro s W W' h1 h2 h3
        exact h2.at_ h3 (fun h => by have := h.1; omega)
      · refine ⟨34, _, rfl, enters_of Tryd.func34 (by kernel_rfl) rfl, ?_⟩
        intro W s p many h1 h2 h3 hin h4 h5
        refine (always_calls p many W).mono ?_
        rintro e W' ⟨rfl, hb'⟩
        exact ⟨rfl, (hb'.block _ (Array.getElem?_eq_some_iff.1 h5).1).trans h5, Keep.ofBelow hb' _⟩
      · refine ⟨80, _, rfl, enters_of Tryd.func80 (by kernel_rfl) rfl, ?_⟩
        intro W s p h1 h2 hin h3 h4
        exact kept1_calls p _ s W h4
    refine (each_calls A c x B d gs C cc cl _ _ _ _ _ _ _ V false H hb hbox).mono ?_
    rintro e W' ⟨h1, h2, h3⟩
    exact ⟨h1, h2, hb.trans (h3.below _ (by omega) (fun k _ h => by omega))⟩
  have Hhq := Lib.hid hq
  have Hhx := Lib.hid hx
  have Hhg := Lib.hid hg
  have Hhc := Lib.hid hc
  have Hhok := Lib.hid hok
  have Hhgo := Lib.hid hgo
  have Hhkc := Lib.hid hkc
  clear hq hx hg hc hok hgo hkc
  go_enter Tryd.func50, Tryd.ntmps50
  go_wp2_with fail
  refine (Hhq.out _ (by simp) (by (repeat (first | exact Below.refl _ _ | refine pw_below_drewN ?_ _ | refine below_drew ?_ | refine Below.alloc ?_ (by first | omega | (simp; done) | (simp; omega)) _ | refine Below.setCell ?_ (by first | omega | (simp; done) | (simp; omega)) _))) ?_).mono ?_
  · rw [heap_alloc_if, if_pos (by simp)]; rfl
  rintro e V ⟨rfl, hb, hbl⟩
  obtain ⟨h0, h1⟩ := one_cell hb
  have Hhb := Lib.hid hb
  have Hhbl := Lib.hid hbl
  clear hb hbl
  go_wp2
  go_ret
  exact ⟨rfl, Hhbl.out⟩
end Go.Proofs.YtlhnpbdpojcbeaaDoor
end
section
namespace Go.Proofs.YtlhnpbdpojcbeaaDoor.PPackAll
open Go.RowKit Go.Proofs.YtlhnpbdpojcbeaaDoorW.PrintWords Go.Proofs.YtlhnpbdpojcbeaaDoorW.PrintLast Go.Proofs.YtlhnpbdpojcbeaaDoorW.PrintMore
attribute [local go_sem] max2_int min2_int max_two min_two max_three min_three max_four min_four   -- for this text's walks alone
set_option linter.unusedVariables false
set_option linter.unusedSimpArgs false
theorem eqA49 (d : Nat) (w : World) (x0 y0 : Int) (x1 y1 : Int) (x2 y2 : Bool) (x3 y3 : Int) :
    (Op.equalIn (d + 2) 49 (.agg #[.int .i64 x0, .int .i64 x1, .bool x2, .int .i64 x3]) (.agg #[.int .i64 y0, .int .i64 y1, .bool y2, .int .i64 y3])).run Tryd.prog w = .ok (x0 == y0 && (x1 == y1 && (x2 == y2 && (x3 == y3)))) w := by
  refine eqA_of Tryd.underlying49 (by kernel_rfl) ?_
  refine eqf_cons (by rfl) (by go_simp; rfl) (by go_simp; rfl) (by go_simp) ?_
  refine eqf_cons (by rfl) (by go_simp; rfl) (by go_simp; rfl) (by go_simp) ?_
  refine eqf_cons (by rfl) (by go_simp; rfl) (by go_simp; rfl) (by go_simp) ?_
  exact eqf_last (by rfl) (by go_simp; rfl) (by go_simp; rfl) (by go_simp)
end Go.Proofs.YtlhnpbdpojcbeaaDoor.PPackAll
end
