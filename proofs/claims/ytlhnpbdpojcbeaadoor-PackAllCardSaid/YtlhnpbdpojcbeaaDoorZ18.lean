/- Lemmas of this proof, part 18. -/
import Derived.Test.YtlhnpbdpojcbeaaDoorZ0
import Derived.Test.YtlhnpbdpojcbeaaDoorZ1
import Derived.Test.YtlhnpbdpojcbeaaDoorZ2
import Derived.Test.YtlhnpbdpojcbeaaDoorZ3
import Derived.Test.YtlhnpbdpojcbeaaDoorZ4
import Derived.Test.YtlhnpbdpojcbeaaDoorZ5
import Derived.Test.YtlhnpbdpojcbeaaDoorZ6
import Derived.Test.YtlhnpbdpojcbeaaDoorZ7
import Derived.Test.YtlhnpbdpojcbeaaDoorZ8
import Derived.Test.YtlhnpbdpojcbeaaDoorZ9
import Derived.Test.YtlhnpbdpojcbeaaDoorZ10
import Derived.Test.YtlhnpbdpojcbeaaDoorZ11
import Derived.Test.YtlhnpbdpojcbeaaDoorZ12
import Derived.Test.YtlhnpbdpojcbeaaDoorZ13
import Derived.Test.YtlhnpbdpojcbeaaDoorZ14
import Derived.Test.YtlhnpbdpojcbeaaDoorZ15
import Derived.Test.YtlhnpbdpojcbeaaDoorZ16
import Derived.Test.YtlhnpbdpojcbeaaDoorZ17
import Derived.Deep.Slices
section
open Go Go.RowKit
namespace Go.Proofs.YtlhnpbdpojcbeaaDoor
open Go.Proofs.YtlhnpbdpojcbeaaDoorW.PrintWords
open PPackAll Go.Shelf
set_option linter.unusedVariables false
set_option linter.unusedSimpArgs false
theorem C_nil {α : Type} (d : Kd α) (W : World) : Kd.C d W none 0 [] := by
  obtain ⟨A, c, e, _, h⟩ := Kd.R_reads (Kd.R_nil d 3 W 0 (fun _ => True))
  cases e
  exact h
theorem bestIs_some {q : List Int} {w w' : World} {e : Ending} (h : BestIs (some q) w e w') : ∃ v, e = .returned (.tuple #[v, .int .i64 0]) ∧ (Kd.int .i64).R 3 w' w.heap.size (fun _ => True) v q ∧ Below w.heap.size w w' := by simpa [BestIs] using h
theorem bestIs_none {w w' : World} {e : Ending} (h : BestIs none w e w') : ∃ v, e = .returned (.tuple #[v, .int .i64 5]) ∧ (Kd.int .i64).R 3 w' w.heap.size (fun _ => True) v [] ∧ Below w.heap.size w w' := by simpa [BestIs] using h
theorem nearIs_some {n : Nat} {q : List Int} {w w' : World} {e : Ending} (h : NearIs (n, some q) w e w') : ∃ v, e = .returned (.tuple #[v, .int .i64 n, .int .i64 0]) ∧ (Kd.int .i64).R 3 w' w.heap.size (fun _ => True) v q ∧ Below w.heap.size w w' := by simpa [NearIs] using h
theorem nearIs_none {s : Nat × Option (List Int)} {w w' : World} {e : Ending} (hs : s.2 = none) (h : NearIs s w e w') : ∃ v, e = .returned (.tuple #[v, .int .i64 0, .int .i64 5]) ∧ (Kd.int .i64).R 3 w' w.heap.size (fun _ => True) v [] ∧ Below w.heap.size w w' := by
  obtain ⟨n, o⟩ := s
  obtain rfl : o = none := hs
  simpa [NearIs] using h
theorem coreF_len (x : List (List S60)) (gs : List S68) : ∀ (k : Nat) (cl : List S49), (coreF x gs k cl).length ≤ cl.length := by
  intro k
  induction k with
  | zero => exact fun cl => Nat.le_refl _
  | succ k ih =>
    intro cl
    unfold coreF
    refine Nat.le_trans (ih _) ?_
    split
    · exact Nat.le_refl _
    · exact List.length_eraseIdx_le ..
theorem rows_left {x : List (List S60)} {gs : List S68} {left : List Nat} (hok : OkIdx x) (hgo : OkGoals x gs) (hl : LeftOk x left) : ∀ p, RightL x gs p → ∀ i : Nat, i < x.length → 0 ≤ rd p i → rd p i ∈ (outL left x.length).getD i [] ∧ ((outL left x.length).getD i []).length ≤ 1000 := by
  intro p hp i hi h0
  rw [outL_get _ _ _ hi]
  refine ⟨law_left hok hgo hl hp hi h0, ?_⟩
  rw [List.length_map]
  exact Nat.le_trans (memL_len _) (by omega)
set_option maxRecDepth 100000 in
set_option maxHeartbeats 16000000 in
theorem packall_some (A : Option Addr) (c : Nat) (x : List (List S60)) (B : Option Addr) (d : Nat) (gs : List S68) (Y : Option Addr) (yc : Nat) (bs : List Int) (w : World) (ks kf kc : Nat)
    (hx : Kd.C (Kd.slice 60 k60) w A x.length x) (hcx : x.length ≤ c) (hg : k68.C w B gs.length gs) (hcg : gs.length ≤ d) (hy : Kd.C (Kd.int .u8) w Y bs.length bs) (hyc : bs.length ≤ yc) (hbl : bs.length ≤ 9223372036854775807) (hby : ∀ b ∈ bs, 0 ≤ b ∧ b < 256)
    (hs : swingleref26_Small.f ks x 8 = some true) (hl : gs.length ≤ 9) (hf : swinglelaw26_fine.f kf x gs = some true) (hok : OkIdx x) (hgo : OkGoals x gs) (hcl : pack_market_clauses.f kc x gs = some (allC x gs)) (hT : TabAt 1 Lib.deBruijn64tab w) (hT0 : 1 < w.heap.size)
    (b : List Int) (hbr : bestR x gs (allC x gs) = some b) :
    Calls Tryd.prog 3 #[.agg #[.slice A x.length c], .slice B gs.length d, .slice Y bs.length yc] w (Yes w) := by
  have h8x := hok.2.1
  obtain ⟨m, hmany⟩ := many_is x h8x
  have hsm := fun (W : World) (hb : Below w.heap.size w W) => swingleref26_Small.calls ks A c x 8 true W (Kd.C_below hx hb) hcx hs
  have hfn := fun (W : World) (hb : Below w.heap.size w W) => swinglelaw26_fine.calls kf A c x B d gs true W (Kd.C_below hx hb) hcx (Kd.C_below hg hb) hcg hf
  have hwk := fun (W : World) => works_calls W
  have hbest := fun (W : World) (hb : Below w.heap.size w W) => Best_calls A c x B d gs W kc (allC x gs) (Kd.C_below hx hb) hok (Kd.C_below hg hb) hgo hcx hcg hcl allC_ok
  have htrim := fun (W : World) (hb : Below w.heap.size w W) => Trim_calls A c x W (Kd.C_below hx hb) hok (fun j hj => pw_cell_below hb (hT j hj)) (Nat.lt_of_lt_of_le hT0 hb.size)
  have hplan := fun (W : World) (hb : Below w.heap.size w W) (P : Option Addr) (pc : Nat) (p : List Int) (hp : Kd.C (Kd.int .i64) W P p.length p) (hpc : p.length ≤ pc) (hin : InR x p) => plan_yes (c := c) (pc := pc) (Kd.C_below hx hb) hcx hok hp hpc hin
  have hright := fun (W : World) (hb : Below w.heap.size w W) (P : Option Addr) (pc : Nat) (p : List Int) (hp : Kd.C (Kd.int .i64) W P p.length p) (hin : InR x p) =>
    right_calls A c x B d gs P pc p W (Kd.C_below hx hb) (Kd.C_below hg hb) hok hgo hp hin.1 (fun i hi => hin.2 i (by rw [← hin.1]; exact hi))
  have hdrawn := fun (W : World) (hb : Below w.heap.size w W) => drawn_is (c := c) (yc := yc) (Kd.C_below hx hb) hcx hok (Kd.C_below hy hb) hyc hbl hby 1 (by omega)
  have hm := fun (W : World) (hb : Below w.heap.size w W) => hmany A c W (Kd.C_below hx hb) hcx
  have hnear := fun (W : World) (hb : Below w.heap.size w W) (P : Option Addr) (pc : Nat) (p : List Int) (hp : Kd.C (Kd.int .i64) W P p.length p) (hin : InR x p) =>
    Closest_calls A c x B d gs P pc p W kc (allC x gs) (Kd.C_below hx hb) hok (Kd.C_below hg hb) hgo hcx hcg hp hin.1 (fun i hi => hin.2 i (by rw [← hin.1]; exact hi)) hcl allC_ok
  have hcore := fun (W : World) (hb : Below w.heap.size w W) => core_calls A c x B d gs W kc (allC x gs) (Kd.C_below hx hb) hok (Kd.C_below hg hb) hgo hcx hcg hcl allC_ok (allC_le hok hgo)
  have hd9 : decide ((gs.length : Int) > 9) = false := decide_eq_false (by omega)
  have hl9 : ¬ (9 : Int) < gs.length := by omega
  obtain ⟨hRb, hmax⟩ := law_best_some hok hgo hbr
  have hkept : keptF x gs (allC x gs) = true := (law_kept hok hgo).2 ⟨b, hRb⟩
  have hce : coreErr x gs (allC x gs) = 5 := by unfold coreErr; rw [hkept]; rfl
  have hcr : coreRes x gs (allC x gs) = [] := by unfold coreRes; rw [hkept]; rfl
  have hrb : ((faultF x gs (pad b)).1 == 0) = true := by rw [hRb.2]; rfl
  rw [hce, hcr] at hcore
  have hh8 := h8x
  have HhRb := Lib.hid hRb
  have Hhmax := Lib.hid hmax
  have Hhrb := Lib.hid hrb
  clear hRb hmax hrb
  clear hkept hce hcr
  have Hhsm := Lib.hid hsm
  have Hhfn := Lib.hid hfn
  have Hhwk := Lib.hid hwk
  have Hhbest := Lib.hid hbest
  have Hhtrim := Lib.hid htrim
  have Hhplan := Lib.hid hplan
  have Hhright := Lib.hid hright
  have Hhdrawn := Lib.hid hdrawn
  have Hhm := Lib.hid hm
  have Hhnear := Lib.hid hnear
  have Hhcore := Lib.hid hcore
  have Hhx := Lib.hid hx
  have Hhg := Lib.hid hg
  have Hhy := Lib.hid hy
  have Hhby := Lib.hid hby
  have Hhok := Lib.hid hok
  have Hhgo := Lib.hid hgo
  have Hhh8 := Lib.hid hh8
  clear hsm hfn hwk hbest htrim hplan hright hdrawn hm hnear hcore hx hg hy hby hok hgo hh8
  clear hmany
  go_enter Tryd.func3, Tryd.ntmps3
  go_wp2_with fail
  refine (Hhsm.out _ ?_).mono ?_
  · (repeat (first | exact Below.refl _ _ | refine pw_below_drewN ?_ _ | refine below_drew ?_ | refine Below.alloc ?_ (by first | omega | (simp; done) | (simp; omega)) _ | refine Below.setCell ?_ (by first | omega | (simp; done) | (simp; omega)) _))
  rintro e V ⟨rfl, hb⟩
  have hb2 : Below w.heap.size w V := by
    refine Below.trans ?_ (hb.mono ?_)
    · (repeat (first | exact Below.refl _ _ | refine pw_below_drewN ?_ _ | refine below_drew ?_ | refine Below.alloc ?_ (by first | omega | (simp; done) | (simp; omega)) _ | refine Below.setCell ?_ (by first | omega | (simp; done) | (simp; omega)) _))
    · simp; try omega
  have b0 := hb.cell (p := ⟨w.heap.size, 0, none⟩) (by simp; omega)
  have b1 := hb.cell (p := ⟨w.heap.size + 1, 0, none⟩) (by simp)
  simp [go_sem] at b0 b1
  have Hhb2 := Lib.hid hb2
  clear hb2
  clear hb
  go_wp2_with fail
  refine (Hhfn.out _ Hhb2.out).mono ?_
  rintro e V1 ⟨rfl, hb⟩
  have E1 : Env A c x B d gs w none none none none none [] [] [] [] [] V1 := ⟨Hhb2.out.trans (hb.mono Hhb2.out.size), pw_cell_below hb b0, pw_cell_below hb b1, C_nil _ _, C_nil _ _, C_nil _ _, C_nil _ _, C_nil _ _⟩
  have bx1 := E1.bx
  have bl1 := E1.bl
  have HE1 := Lib.hid E1
  clear E1
  clear hb b0 b1 Hhb2
  dsimp only
  go_wp2_with fail
  refine (Hhbest.out V1 HE1.out.bel).mono ?_
  rw [hbr]
  rintro e2 V2 hB2
  obtain ⟨v2, rfl, hR2, hb2⟩ := bestIs_some hB2
  obtain ⟨Lb, cb, e2, hcb, hC2⟩ := Kd.R_reads hR2
  subst e2
  have E2 : Env A c x B d gs w Lb none none none none [] b [] [] [] V2 := { HE1.out.step hb2 with best := hC2 }
  have bx2 := E2.bx
  have bl2 := E2.bl
  have HE2 := Lib.hid E2
  have Hhcb := Lib.hid hcb
  clear E2 hcb
  clear hb2 hR2 hC2 bx1 bl1 hB2
  dsimp only
  go_wp2_with fail
  refine (Hhtrim.out V2 HE2.out.bel).mono ?_
  rintro e3 V3 ⟨v3, left, rfl, hlo, hR3, hb3⟩
  have hls := rows_left Hhok.out Hhgo.out hlo
  have hll := outL_length left x.length
  generalize outL left x.length = ls at hR3 hls hll
  obtain ⟨Ll, cl, e3, -, hC3⟩ := Kd.R_reads hR3
  subst e3
  have hlb : ((ls.length : Int) != (x.length : Int)) = false := by rw [hll]; simp
  have E3 : Env A c x B d gs w Lb Ll none none none ls b [] [] [] V3 := { HE2.out.step hb3 with left := hC3 }
  have bx3 := E3.bx
  have bl3 := E3.bl
  have HE3 := Lib.hid E3
  have Hhls := Lib.hid hls
  have Hhll := Lib.hid hll
  have Hhlo := Lib.hid hlo
  clear E3 hls hll hlo
  clear hb3 hR3 hC3 bx2 bl2
  dsimp only
  go_wp2_with fail
  refine (Hhplan.out V3 HE3.out.bel Lb cb b HE3.out.best Hhcb.out HhRb.out.1).mono ?_
  rintro e4 V4 ⟨rfl, hb4⟩
  have E4 := HE3.out.step hb4
  have bx4 := E4.bx
  have bl4 := E4.bl
  have HE4 := Lib.hid E4
  clear E4
  clear hb4 bx3 bl3
  dsimp only
  go_wp2_with fail
  refine (Hhright.out V4 HE4.out.bel Lb cb b HE4.out.best HhRb.out.1).mono ?_
  rw [Hhrb.out]
  rintro e5 V5 ⟨rfl, hb5⟩
  have E5 := HE4.out.step hb5
  have bx5 := E5.bx
  have bl5 := E5.bl
  have HE5 := Lib.hid E5
  clear E5
  clear hb5 bx4 bl4
  dsimp only
  go_wp2_with fail
  refine (Hhdrawn.out V5 HE5.out.bel).mono ?_
  rintro e6 V6 ⟨v6, hv, rfl, hinv, hR6, hb6⟩
  obtain ⟨Lh, ch, e6, hch, hC6⟩ := Kd.R_reads hR6
  subst e6
  have E6 : Env A c x B d gs w Lb Ll Lh none none ls b hv [] [] V6 := { HE5.out.step hb6 with hav := hC6 }
  have bx6 := E6.bx
  have bl6 := E6.bl
  have HE6 := Lib.hid E6
  have Hhinv := Lib.hid hinv
  have Hhch := Lib.hid hch
  clear E6 hinv hch
  clear hb6 hR6 hC6 bx5 bl5
  dsimp only
  go_wp2_with fail
  refine (Hhm.out V6 HE6.out.bel).mono ?_
  rintro e7 V7 ⟨rfl, hb7⟩
  have E7 := HE6.out.step hb7
  have bx7 := E7.bx
  have bl7 := E7.bl
  have HE7 := Lib.hid E7
  clear E7
  clear hb7 bx6 bl6
  by_cases hm2 : m ≤ 20000
  · rcases law_near Hhok.out Hhgo.out Hhinv.out.1 with ⟨_, hno⟩ | ⟨q, hnq, hRq, hmin⟩
    · exact absurd HhRb.out (hno b)
    have hrq : ((faultF x gs (pad q)).1 == 0) = true := by rw [hRq.2]; rfl
    have hne := fun W hb P pc hp => Hhnear.out W hb P pc hv hp Hhinv.out
    rw [hnq] at hne
    have hap := fun (W : World) (N : Option Addr) (cn : Nat) (hN : Kd.C (Kd.int .i64) W N q.length q) (hcn : q.length ≤ cn) (hh : Kd.C (Kd.int .i64) W Lh hv.length hv) => apart_is (N := x.length) hN hcn hh Hhch.out Hhh8.out hRq.1.1 Hhinv.out.1
    generalize apartN q hv x.length = ap at hne hmin hap
    have HhRq := Lib.hid hRq
    have Hhmin := Lib.hid hmin
    have Hhrq := Lib.hid hrq
    have Hhne := Lib.hid hne
    have Hhap := Lib.hid hap
    clear hRq hmin hrq hne hap
    clear hnq
    dsimp only
    go_wp2_with fail
    refine (Hhne.out V7 HE7.out.bel Lh ch HE7.out.hav).mono ?_
    rintro e8 V8 hB8
    obtain ⟨v8, rfl, hR8, hb8⟩ := nearIs_some hB8
    obtain ⟨Ln, cn, e8, hcn, hC8⟩ := Kd.R_reads hR8
    subst e8
    have E8 : Env A c x B d gs w Lb Ll Lh Ln none ls b hv q [] V8 := { HE7.out.step hb8 with near := hC8 }
    have bx8 := E8.bx
    have bl8 := E8.bl
    have HE8 := Lib.hid E8
    have Hhcn := Lib.hid hcn
    clear E8 hcn
    clear hb8 hR8 hC8 bx7 bl7 hB8
    dsimp only
    go_wp2_with fail
    refine (Hhcore.out V8 HE8.out.bel).mono ?_
    rintro e9 V9 ⟨v9, rfl, hR9, hb9⟩
    obtain ⟨Lc, cc, e9, -, hC9⟩ := Kd.R_reads hR9
    subst e9
    have E9 : Env A c x B d gs w Lb Ll Lh Ln Lc ls b hv q [] V9 := { HE8.out.step hb9 with core := hC9 }
    have bx9 := E9.bx
    have bl9 := E9.bl
    have HE9 := Lib.hid E9
    clear E9
    clear hb9 hR9 hC9 bx8 bl8
    dsimp only
    go_wp2_with fail
    refine (Hhplan.out V9 HE9.out.bel Ln cn q HE9.out.near Hhcn.out HhRq.out.1).mono ?_
    rintro e10 V10 ⟨rfl, hb10⟩
    have E10 := HE9.out.step hb10
    have bx10 := E10.bx
    have bl10 := E10.bl
    have HE10 := Lib.hid E10
    clear E10
    clear hb10 bx9 bl9
    dsimp only
    go_wp2_with fail
    refine (Hhright.out V10 HE10.out.bel Ln cn q HE10.out.near HhRq.out.1).mono ?_
    rw [Hhrq.out]
    rintro e11 V11 ⟨rfl, hb11⟩
    have E11 := HE10.out.step hb11
    have bx11 := E11.bx
    have bl11 := E11.bl
    have HE11 := Lib.hid E11
    clear E11
    clear hb11 bx10 bl10
    dsimp only
    go_wp2_with fail
    refine (Hhap.out V11 Ln cn HE11.out.near Hhcn.out HE11.out.hav).mono ?_
    rintro e12 V12 ⟨rfl, hb12⟩
    have E12 := HE11.out.step hb12
    have bx12 := E12.bx
    have bl12 := E12.bl
    have HE12 := Lib.hid E12
    clear E12
    clear hb12 bx11 bl11
    dsimp only
    go_wp2_with fail
    have hFo : Found x gs ls b hv q [] 0 5 (ap : Int) m := ⟨Hhok.out, Hhgo.out, Hhinv.out, Hhll.out, Hhls.out, by simp, by simp, .inr rfl, fun h => (by cases h), fun p hp => ⟨rfl, HhRb.out.1.1, Hhmax.out p hp⟩, fun _ p hp => ⟨HhRq.out.1.1, by have := (Hhmin.out p hp).1; omega, fun h => (Hhmin.out p hp).2 (by omega)⟩⟩
    have HhFo := Lib.hid hFo
    clear hFo
    apply coreLoop_wp A c x B d gs w Lb Ll Lh Ln Lc cc ls b hv q [] 0 5 (ap : Int) m Hhx.out hcx Hhg.out hcg HhFo.out
    · exact HE12.out
    intro v6 v22 v171 v172 v173 v174 v175 v176 v177 v178 v179 v180 Va hEa
    have HhEa := Lib.hid hEa
    clear hEa
    clear bx12 bl12
    go_wp2
    apply planLoop_wp A c x B d gs Y yc bs w Lb Ll Lh Ln Lc cb cl ch cn cc ls b hv q [] 0 5 (ap : Int) m Hhx.out hcx Hhg.out hcg Hhy.out hyc hbl Hhby.out HhFo.out Hhcb.out Hhch.out Hhcn.out Hhm.out
    rotate_left
    · exact HhEa.out
    intros
    rename_i Vb hb
    have Hhb := Lib.hid hb
    clear hb
    go_wp2_with fail
    refine (Hhwk.out Vb).mono ?_
    rintro e9 V9 ⟨rfl, hb9⟩
    have hb10 := Hhb.out.trans (hb9.mono Hhb.out.size)
    have Hhb10 := Lib.hid hb10
    clear hb10
    clear hb9
    dsimp only
    go_wp2
    go_ret
    exact ⟨rfl, Hhb10.out⟩
  · dsimp only
    go_wp2_with fail
    have hFo : Found x gs ls b hv [] [] 0 5 0 m := ⟨Hhok.out, Hhgo.out, Hhinv.out, Hhll.out, Hhls.out, by simp, by simp, .inr rfl, fun h => (by cases h), fun p hp => ⟨rfl, HhRb.out.1.1, Hhmax.out p hp⟩, fun h => absurd h (by omega)⟩
    have HhFo := Lib.hid hFo
    clear hFo
    apply coreLoop_wp A c x B d gs w Lb Ll Lh none none 0 ls b hv [] [] 0 5 0 m Hhx.out hcx Hhg.out hcg HhFo.out
    · exact HE7.out
    intro v6 v22 v171 v172 v173 v174 v175 v176 v177 v178 v179 v180 Va hEa
    have HhEa := Lib.hid hEa
    clear hEa
    clear bx7 bl7
    go_wp2
    apply planLoop_wp A c x B d gs Y yc bs w Lb Ll Lh none none cb cl ch 0 0 ls b hv [] [] 0 5 0 m Hhx.out hcx Hhg.out hcg Hhy.out hyc hbl Hhby.out HhFo.out Hhcb.out Hhch.out (Nat.le_refl _) Hhm.out
    rotate_left
    · exact HhEa.out
    intros
    rename_i Vb hb
    have Hhb := Lib.hid hb
    clear hb
    go_wp2_with fail
    refine (Hhwk.out Vb).mono ?_
    rintro e9 V9 ⟨rfl, hb9⟩
    have hb10 := Hhb.out.trans (hb9.mono Hhb.out.size)
    have Hhb10 := Lib.hid hb10
    clear hb10
    clear hb9
    dsimp only
    go_wp2
    go_ret
    exact ⟨rfl, Hhb10.out⟩
set_option maxRecDepth 100000 in
set_option maxHeartbeats 16000000 in
theorem packall_none (A : Option Addr) (c : Nat) (x : List (List S60)) (B : Option Addr) (d : Nat) (gs : List S68) (Y : Option Addr) (yc : Nat) (bs : List Int) (w : World) (ks kf kc : Nat)
    (hx : Kd.C (Kd.slice 60 k60) w A x.length x) (hcx : x.length ≤ c) (hg : k68.C w B gs.length gs) (hcg : gs.length ≤ d) (hy : Kd.C (Kd.int .u8) w Y bs.length bs) (hyc : bs.length ≤ yc) (hbl : bs.length ≤ 9223372036854775807) (hby : ∀ b ∈ bs, 0 ≤ b ∧ b < 256)
    (hs : swingleref26_Small.f ks x 8 = some true) (hl : gs.length ≤ 9) (hf : swinglelaw26_fine.f kf x gs = some true) (hok : OkIdx x) (hgo : OkGoals x gs) (hcl : pack_market_clauses.f kc x gs = some (allC x gs)) (hT : TabAt 1 Lib.deBruijn64tab w) (hT0 : 1 < w.heap.size)
    (hbr : bestR x gs (allC x gs) = none) :
    Calls Tryd.prog 3 #[.agg #[.slice A x.length c], .slice B gs.length d, .slice Y bs.length yc] w (Yes w) := by
  have h8x := hok.2.1
  obtain ⟨m, hmany⟩ := many_is x h8x
  have hsm := fun (W : World) (hb : Below w.heap.size w W) => swingleref26_Small.calls ks A c x 8 true W (Kd.C_below hx hb) hcx hs
  have hfn := fun (W : World) (hb : Below w.heap.size w W) => swinglelaw26_fine.calls kf A c x B d gs true W (Kd.C_below hx hb) hcx (Kd.C_below hg hb) hcg hf
  have hwk := fun (W : World) => works_calls W
  have hbest := fun (W : World) (hb : Below w.heap.size w W) => Best_calls A c x B d gs W kc (allC x gs) (Kd.C_below hx hb) hok (Kd.C_below hg hb) hgo hcx hcg hcl allC_ok
  have htrim := fun (W : World) (hb : Below w.heap.size w W) => Trim_calls A c x W (Kd.C_below hx hb) hok (fun j hj => pw_cell_below hb (hT j hj)) (Nat.lt_of_lt_of_le hT0 hb.size)
  have hplan := fun (W : World) (hb : Below w.heap.size w W) (P : Option Addr) (pc : Nat) (p : List Int) (hp : Kd.C (Kd.int .i64) W P p.length p) (hpc : p.length ≤ pc) (hin : InR x p) => plan_yes (c := c) (pc := pc) (Kd.C_below hx hb) hcx hok hp hpc hin
  have hright := fun (W : World) (hb : Below w.heap.size w W) (P : Option Addr) (pc : Nat) (p : List Int) (hp : Kd.C (Kd.int .i64) W P p.length p) (hin : InR x p) =>
    right_calls A c x B d gs P pc p W (Kd.C_below hx hb) (Kd.C_below hg hb) hok hgo hp hin.1 (fun i hi => hin.2 i (by rw [← hin.1]; exact hi))
  have hdrawn := fun (W : World) (hb : Below w.heap.size w W) => drawn_is (c := c) (yc := yc) (Kd.C_below hx hb) hcx hok (Kd.C_below hy hb) hyc hbl hby 1 (by omega)
  have hm := fun (W : World) (hb : Below w.heap.size w W) => hmany A c W (Kd.C_below hx hb) hcx
  have hnear := fun (W : World) (hb : Below w.heap.size w W) (P : Option Addr) (pc : Nat) (p : List Int) (hp : Kd.C (Kd.int .i64) W P p.length p) (hin : InR x p) =>
    Closest_calls A c x B d gs P pc p W kc (allC x gs) (Kd.C_below hx hb) hok (Kd.C_below hg hb) hgo hcx hcg hp hin.1 (fun i hi => hin.2 i (by rw [← hin.1]; exact hi)) hcl allC_ok
  have hcore := fun (W : World) (hb : Below w.heap.size w W) => core_calls A c x B d gs W kc (allC x gs) (Kd.C_below hx hb) hok (Kd.C_below hg hb) hgo hcx hcg hcl allC_ok (allC_le hok hgo)
  have hd9 : decide ((gs.length : Int) > 9) = false := decide_eq_false (by omega)
  have hl9 : ¬ (9 : Int) < gs.length := by omega
  have hno := law_best_none hok hgo hbr
  have hkept : keptF x gs (allC x gs) = false := by
    cases hk : keptF x gs (allC x gs) with
    | false => rfl
    | true =>
      obtain ⟨p, hp⟩ := (law_kept hok hgo).1 hk
      exact absurd hp (hno p)
  have hce : coreErr x gs (allC x gs) = 0 := by unfold coreErr; rw [hkept]; rfl
  have hlc := law_core hok hgo hce
  have hcm := coreRes_ok hok hgo
  have hc4 : (coreRes x gs (allC x gs)).length ≤ 400 := by unfold coreRes; rw [hkept]; exact Nat.le_trans (coreF_len x gs _ _) (allC_le hok hgo)
  rw [hce] at hcore
  generalize coreRes x gs (allC x gs) = core at hlc hcm hc4 hcore
  have hh8 := h8x
  have hcd : decide ((core.length : Int) > 400) = false := decide_eq_false (by omega)
  have hcd2 : ¬ ((400 : Int) < core.length) := by omega
  have Hhno := Lib.hid hno
  have Hhlc := Lib.hid hlc
  have Hhcm := Lib.hid hcm
  have Hhc4 := Lib.hid hc4
  clear hno hlc hcm hc4
  clear hkept hce
  have Hhsm := Lib.hid hsm
  have Hhfn := Lib.hid hfn
  have Hhwk := Lib.hid hwk
  have Hhbest := Lib.hid hbest
  have Hhtrim := Lib.hid htrim
  have Hhplan := Lib.hid hplan
  have Hhright := Lib.hid hright
  have Hhdrawn := Lib.hid hdrawn
  have Hhm := Lib.hid hm
  have Hhnear := Lib.hid hnear
  have Hhcore := Lib.hid hcore
  have Hhx := Lib.hid hx
  have Hhg := Lib.hid hg
  have Hhy := Lib.hid hy
  have Hhby := Lib.hid hby
  have Hhok := Lib.hid hok
  have Hhgo := Lib.hid hgo
  have Hhh8 := Lib.hid hh8
  clear hsm hfn hwk hbest htrim hplan hright hdrawn hm hnear hcore hx hg hy hby hok hgo hh8
  clear hmany
  go_enter Tryd.func3, Tryd.ntmps3
  go_wp2_with fail
  refine (Hhsm.out _ ?_).mono ?_
  · (repeat (first | exact Below.refl _ _ | refine pw_below_drewN ?_ _ | refine below_drew ?_ | refine Below.alloc ?_ (by first | omega | (simp; done) | (simp; omega)) _ | refine Below.setCell ?_ (by first | omega | (simp; done) | (simp; omega)) _))
  rintro e V ⟨rfl, hb⟩
  have hb2 : Below w.heap.size w V := by
    refine Below.trans ?_ (hb.mono ?_)
    · (repeat (first | exact Below.refl _ _ | refine pw_below_drewN ?_ _ | refine below_drew ?_ | refine Below.alloc ?_ (by first | omega | (simp; done) | (simp; omega)) _ | refine Below.setCell ?_ (by first | omega | (simp; done) | (simp; omega)) _))
    · simp; try omega
  have b0 := hb.cell (p := ⟨w.heap.size, 0, none⟩) (by simp; omega)
  have b1 := hb.cell (p := ⟨w.heap.size + 1, 0, none⟩) (by simp)
  simp [go_sem] at b0 b1
  have Hhb2 := Lib.hid hb2
  clear hb2
  clear hb
  go_wp2_with fail
  refine (Hhfn.out _ Hhb2.out).mono ?_
  rintro e V1 ⟨rfl, hb⟩
  have E1 : Env A c x B d gs w none none none none none [] [] [] [] [] V1 := ⟨Hhb2.out.trans (hb.mono Hhb2.out.size), pw_cell_below hb b0, pw_cell_below hb b1, C_nil _ _, C_nil _ _, C_nil _ _, C_nil _ _, C_nil _ _⟩
  have bx1 := E1.bx
  have bl1 := E1.bl
  have HE1 := Lib.hid E1
  clear E1
  clear hb b0 b1 Hhb2
  dsimp only
  go_wp2_with fail
  refine (Hhbest.out V1 HE1.out.bel).mono ?_
  rw [hbr]
  rintro e2 V2 hB2
  obtain ⟨v2, rfl, hR2, hb2⟩ := bestIs_none hB2
  obtain ⟨Lb, cb, e2, hcb, hC2⟩ := Kd.R_reads hR2
  subst e2
  have E2 : Env A c x B d gs w Lb none none none none [] [] [] [] [] V2 := { HE1.out.step hb2 with best := hC2 }
  have bx2 := E2.bx
  have bl2 := E2.bl
  have HE2 := Lib.hid E2
  have Hhcb := Lib.hid hcb
  clear E2 hcb
  clear hb2 hR2 hC2 bx1 bl1 hB2
  dsimp only
  go_wp2_with fail
  refine (Hhtrim.out V2 HE2.out.bel).mono ?_
  rintro e3 V3 ⟨v3, left, rfl, hlo, hR3, hb3⟩
  have hls := rows_left Hhok.out Hhgo.out hlo
  have hll := outL_length left x.length
  generalize outL left x.length = ls at hR3 hls hll
  obtain ⟨Ll, cl, e3, -, hC3⟩ := Kd.R_reads hR3
  subst e3
  have hlb : ((ls.length : Int) != (x.length : Int)) = false := by rw [hll]; simp
  have E3 : Env A c x B d gs w Lb Ll none none none ls [] [] [] [] V3 := { HE2.out.step hb3 with left := hC3 }
  have bx3 := E3.bx
  have bl3 := E3.bl
  have HE3 := Lib.hid E3
  have Hhls := Lib.hid hls
  have Hhll := Lib.hid hll
  have Hhlo := Lib.hid hlo
  clear E3 hls hll hlo
  clear hb3 hR3 hC3 bx2 bl2
  dsimp only
  go_wp2_with fail
  refine (Hhdrawn.out V3 HE3.out.bel).mono ?_
  rintro e6 V6 ⟨v6, hv, rfl, hinv, hR6, hb6⟩
  obtain ⟨Lh, ch, e6, hch, hC6⟩ := Kd.R_reads hR6
  subst e6
  have E6 : Env A c x B d gs w Lb Ll Lh none none ls [] hv [] [] V6 := { HE3.out.step hb6 with hav := hC6 }
  have bx6 := E6.bx
  have bl6 := E6.bl
  have HE6 := Lib.hid E6
  have Hhinv := Lib.hid hinv
  have Hhch := Lib.hid hch
  clear E6 hinv hch
  clear hb6 hR6 hC6 bx3 bl3
  dsimp only
  go_wp2_with fail
  refine (Hhm.out V6 HE6.out.bel).mono ?_
  rintro e7 V7 ⟨rfl, hb7⟩
  have E7 := HE6.out.step hb7
  have bx7 := E7.bx
  have bl7 := E7.bl
  have HE7 := Lib.hid E7
  clear E7
  clear hb7 bx6 bl6
  by_cases hm2 : m ≤ 20000
  · have hns : (nearR x gs (pad hv) (allC x gs)).2 = none := by
      rcases law_near Hhok.out Hhgo.out Hhinv.out.1 with ⟨h, _⟩ | ⟨q, _, hRq, _⟩
      · exact h
      · exact absurd hRq (Hhno.out q)
    have Hhns := Lib.hid hns
    clear hns
    dsimp only
    go_wp2_with fail
    refine (Hhnear.out V7 HE7.out.bel Lh ch hv HE7.out.hav Hhinv.out).mono ?_
    rintro e8 V8 hB8
    obtain ⟨v8, rfl, hR8, hb8⟩ := nearIs_none Hhns.out hB8
    obtain ⟨Ln, cn, e8, hcn, hC8⟩ := Kd.R_reads hR8
    subst e8
    have E8 : Env A c x B d gs w Lb Ll Lh Ln none ls [] hv [] [] V8 := { HE7.out.step hb8 with near := hC8 }
    have bx8 := E8.bx
    have bl8 := E8.bl
    have HE8 := Lib.hid E8
    have Hhcn := Lib.hid hcn
    clear E8 hcn
    clear hb8 hR8 hC8 bx7 bl7 hB8
    dsimp only
    go_wp2_with fail
    refine (Hhcore.out V8 HE8.out.bel).mono ?_
    rintro e9 V9 ⟨v9, rfl, hR9, hb9⟩
    obtain ⟨Lc, cc, e9, -, hC9⟩ := Kd.R_reads hR9
    subst e9
    have E9 : Env A c x B d gs w Lb Ll Lh Ln Lc ls [] hv [] core V9 := { HE8.out.step hb9 with core := hC9 }
    have bx9 := E9.bx
    have bl9 := E9.bl
    have HE9 := Lib.hid E9
    clear E9
    clear hb9 hR9 hC9 bx8 bl8
    dsimp only
    go_wp2_with fail
    have hFo : Found x gs ls [] hv [] core 5 0 0 m := ⟨Hhok.out, Hhgo.out, Hhinv.out, Hhll.out, Hhls.out, Hhcm.out, Hhc4.out, .inl rfl, fun _ => Hhlc.out, fun p hp => absurd hp (Hhno.out p), fun _ p hp => absurd hp (Hhno.out p)⟩
    have HhFo := Lib.hid hFo
    clear hFo
    apply coreLoop_wp A c x B d gs w Lb Ll Lh Ln Lc cc ls [] hv [] core 5 0 0 m Hhx.out hcx Hhg.out hcg HhFo.out
    · exact HE9.out
    intro v6 v22 v171 v172 v173 v174 v175 v176 v177 v178 v179 v180 Va hEa
    have HhEa := Lib.hid hEa
    clear hEa
    clear bx9 bl9
    go_wp2
    apply planLoop_wp A c x B d gs Y yc bs w Lb Ll Lh Ln Lc cb cl ch cn cc ls [] hv [] core 5 0 0 m Hhx.out hcx Hhg.out hcg Hhy.out hyc hbl Hhby.out HhFo.out Hhcb.out Hhch.out Hhcn.out Hhm.out
    rotate_left
    · exact HhEa.out
    intros
    rename_i Vb hb
    have Hhb := Lib.hid hb
    clear hb
    go_wp2_with fail
    refine (Hhwk.out Vb).mono ?_
    rintro e9 V9 ⟨rfl, hb9⟩
    have hb10 := Hhb.out.trans (hb9.mono Hhb.out.size)
    have Hhb10 := Lib.hid hb10
    clear hb10
    clear hb9
    dsimp only
    go_wp2
    go_ret
    exact ⟨rfl, Hhb10.out⟩
  · dsimp only
    go_wp2_with fail
    have hFo : Found x gs ls [] hv [] [] 5 5 0 m := ⟨Hhok.out, Hhgo.out, Hhinv.out, Hhll.out, Hhls.out, by simp, by simp, .inr rfl, fun h => (by cases h), fun p hp => absurd hp (Hhno.out p), fun _ p hp => absurd hp (Hhno.out p)⟩
    have HhFo := Lib.hid hFo
    clear hFo
    apply coreLoop_wp A c x B d gs w Lb Ll Lh none none 0 ls [] hv [] [] 5 5 0 m Hhx.out hcx Hhg.out hcg HhFo.out
    · exact HE7.out
    intro v6 v22 v171 v172 v173 v174 v175 v176 v177 v178 v179 v180 Va hEa
    have HhEa := Lib.hid hEa
    clear hEa
    clear bx7 bl7
    go_wp2
    apply planLoop_wp A c x B d gs Y yc bs w Lb Ll Lh none none cb cl ch 0 0 ls [] hv [] [] 5 5 0 m Hhx.out hcx Hhg.out hcg Hhy.out hyc hbl Hhby.out HhFo.out Hhcb.out Hhch.out (Nat.le_refl _) Hhm.out
    rotate_left
    · exact HhEa.out
    intros
    rename_i Vb hb
    have Hhb := Lib.hid hb
    clear hb
    go_wp2_with fail
    refine (Hhwk.out Vb).mono ?_
    rintro e9 V9 ⟨rfl, hb9⟩
    have hb10 := Hhb.out.trans (hb9.mono Hhb.out.size)
    have Hhb10 := Lib.hid hb10
    clear hb10
    clear hb9
    dsimp only
    go_wp2
    go_ret
    exact ⟨rfl, Hhb10.out⟩
end Go.Proofs.YtlhnpbdpojcbeaaDoor
end
section
open Go Go.RowKit
namespace Go.Proofs.YtlhnpbdpojcbeaaDoor
open Go.Proofs.YtlhnpbdpojcbeaaDoorW.PrintWords
open PPackAll Go.Shelf
set_option linter.unusedVariables false
set_option linter.unusedSimpArgs false
theorem packall_calls (A : Option Addr) (c : Nat) (x : List (List S60)) (B : Option Addr) (d : Nat) (gs : List S68) (Y : Option Addr) (yc : Nat) (bs : List Int) (w : World)
    (hx : Kd.C (Kd.slice 60 k60) w A x.length x) (hcx : x.length ≤ c) (hg : k68.C w B gs.length gs) (hcg : gs.length ≤ d) (hy : Kd.C (Kd.int .u8) w Y bs.length bs) (hyc : bs.length ≤ yc) (hby : ∀ b ∈ bs, 0 ≤ b ∧ b < 256)
    (hT : TabAt 1 Lib.deBruijn64tab w) (hT0 : 1 < w.heap.size) :
    Calls Tryd.prog 3 #[.agg #[.slice A x.length c], .slice B gs.length d, .slice Y bs.length yc] w (Yes w) := by
  obtain ⟨r, eS, hS⟩ := small_ev x
  obtain ⟨ks, hs⟩ := eS.get
  cases r with
  | false => exact packall_big A c x B d gs Y bs.length yc w ks hx hcx hs
  | true =>
    obtain ⟨hN, hP⟩ := hS rfl
    rcases Nat.lt_or_ge 9 gs.length with hl | hl
    · exact packall_long A c x B d gs Y bs.length yc w ks hx hcx hs hl
    · obtain ⟨r, eF, hF⟩ := fine_ev x gs hN hP hl
      obtain ⟨kf, hf⟩ := eF.get
      cases r with
      | false => exact packall_unfine A c x B d gs Y bs.length yc w ks kf hx hcx hg hcg hs hl hf
      | true =>
        obtain ⟨hok, hgo⟩ := hF rfl
        obtain ⟨kc, hcl⟩ := (clauses_ev hok hgo).get
        cases hb : bestR x gs (allC x gs) with
        | none => exact packall_none A c x B d gs Y yc bs w ks kf kc hx hcx hg hcg hy hyc hy.2.1 hby hs hl hf hok hgo hcl hT hT0 hb
        | some b => exact packall_some A c x B d gs Y yc bs w ks kf kc hx hcx hg hcg hy hyc hy.2.1 hby hs hl hf hok hgo hcl hT hT0 b hb
theorem list_choose {α : Type} {p : Nat → α → Prop} : ∀ n : Nat, (∀ i, i < n → ∃ a, p i a) → ∃ xs : List α, xs.length = n ∧ ∀ (j : Nat) a, xs[j]? = some a → p j a := by
  intro n
  induction n with
  | zero => exact fun _ => ⟨[], rfl, fun j a h => by simp at h⟩
  | succ n ih =>
    intro h
    obtain ⟨xs, hl, hx⟩ := ih (fun i hi => h i (by omega))
    obtain ⟨a, ha⟩ := h n (by omega)
    refine ⟨xs ++ [a], by simp [hl], fun j b hb => ?_⟩
    rcases Nat.lt_or_ge j n with hj | hj
    · rw [List.getElem?_append_left (by omega)] at hb
      exact hx j b hb
    · rw [List.getElem?_append_right (by omega)] at hb
      obtain rfl : j = n := by
        have := (List.getElem?_eq_some_iff.1 hb).1
        simp at this
        omega
      rw [hl, Nat.sub_self] at hb
      simp at hb
      exact hb ▸ ha
section
variable {H : Type} {enc : TypeId × Value → H} {w : World} {base : Nat} {spare : Nat → Bool} {held : Bool}
theorem opens_slice {α : Type} (d : Kd α) {t e : TypeId} (ht : Tryd.prog.underlying t = some (.slice e)) (hc : Tryd.prog.cellsOf e = d.sz)
    (he : ∀ fuel cs x, DataW.trod enc Tryd.prog w base spare held fuel e cs = some x → ∃ a, d.K w a cs) :
    ∀ fuel cs x, DataW.trod enc Tryd.prog w base spare held fuel t cs = some x → ∃ A c xs, cs = [.slice A (xs : List α).length c] ∧ xs.length ≤ c ∧ d.C w A xs.length xs := by
  intro fuel cs x h
  rcases Go.Deep.open_slice ht h with ⟨rfl, _⟩ | ⟨a, len, cap, m, n, D, Pl, rfl, hb, hl, hm, hmm, _, hi⟩
  · exact ⟨none, 0, [], rfl, Nat.le_refl _, C_nil d w⟩
  · have hle : len ≤ m := by rw [hmm]; split <;> omega
    obtain ⟨xs, hxl, hx⟩ := list_choose (p := fun i v => ∃ cs', w.cells? base (a.add (i * Tryd.prog.cellsOf e)) (Tryd.prog.cellsOf e) = some cs' ∧ d.K w v cs') len (fun i hlt => by
      obtain ⟨cs', h1, h2⟩ := hi i (by omega)
      obtain ⟨v, hv⟩ := he _ _ _ h2
      exact ⟨v, cs', h1, hv⟩)
    refine ⟨some a, cap, xs, by rw [hxl], by omega, rfl, by rw [hxl]; simp only [maxLen] at hm; omega, fun _ => ⟨a, rfl, fun j p hj => ?_⟩⟩
    obtain ⟨cs', h1, h2⟩ := hx j p hj
    obtain ⟨_, h3, h4⟩ := World.cells?_some h1
    rw [hc] at h3 h4
    refine ⟨cs', h3, h2, fun i u hu => ?_⟩
    have hil : i < d.sz := by rw [← h3]; exact (List.getElem?_eq_some_iff.1 hu).1
    have := h4 i hil
    rw [Go.Deep.add_add] at this
    rw [this]; exact hu
theorem len1 {α : Type} {cs : List α} (h : cs.length = 1) : ∃ a, cs = [a] := by
  match cs, h with
  | [a], _ => exact ⟨a, rfl⟩
theorem len2 {α : Type} {cs : List α} (h : cs.length = 2) : ∃ a b, cs = [a, b] := by
  match cs, h with
  | [a, b], _ => exact ⟨a, b, rfl⟩
theorem len3 {α : Type} {cs : List α} (h : cs.length = 3) : ∃ a b c, cs = [a, b, c] := by
  match cs, h with
  | [a, b, c], _ => exact ⟨a, b, c, rfl⟩
theorem ccell68 : Tryd.prog.cellsOf 68 = 3 := by kernel_rfl
theorem ccell60 : Tryd.prog.cellsOf 60 = 2 := by kernel_rfl
theorem ccell58 : Tryd.prog.cellsOf 58 = 1 := by kernel_rfl
theorem ccell25 : Tryd.prog.cellsOf 25 = 1 := by kernel_rfl
theorem ccell24 : Tryd.prog.cellsOf 24 = 1 := by kernel_rfl
theorem ccell22 : Tryd.prog.cellsOf 22 = 1 := by kernel_rfl
theorem ccell3 : Tryd.prog.cellsOf 3 = 1 := by kernel_rfl
theorem opens_68 : ∀ fuel cs x, DataW.trod enc Tryd.prog w base spare held fuel 68 cs = some x → ∃ a, k68.K w a cs := by
  intro fuel cs x h
  obtain ⟨xs, n, _, _, hl, hxl, hf⟩ := DataW.trod_struct Tryd.underlying68 h
  rw [ccell68] at hl
  have hx3 : xs.length = 3 := hxl
  obtain ⟨a, b, c, rfl⟩ := len3 hl
  have h0 : DataW.trod enc Tryd.prog w base spare held n 3 (([a, b, c].drop 0).take (Tryd.prog.cellsOf 3)) = xs[0]? := hf 0 _ rfl
  have h1 : DataW.trod enc Tryd.prog w base spare held n 3 (([a, b, c].drop 1).take (Tryd.prog.cellsOf 3)) = xs[1]? := hf 1 _ rfl
  have h2 : DataW.trod enc Tryd.prog w base spare held n 3 (([a, b, c].drop 2).take (Tryd.prog.cellsOf 3)) = xs[2]? := hf 2 _ rfl
  rw [List.getElem?_eq_getElem (by omega), ccell3] at h0 h1 h2
  obtain ⟨n0, e0, _, _⟩ := DataW.trod_int Tryd.underlying3 h0
  obtain ⟨n1, e1, _, _⟩ := DataW.trod_int Tryd.underlying3 h1
  obtain ⟨n2, e2, _, _⟩ := DataW.trod_int Tryd.underlying3 h2
  simp at e0 e1 e2
  subst e0 e1 e2
  exact ⟨⟨n0, n1, n2⟩, k68_mk w ⟨n0, n1, n2⟩⟩
theorem opens_25 : ∀ fuel cs x, DataW.trod enc Tryd.prog w base spare held fuel 25 cs = some x → ∃ A c xs, cs = [.slice A (xs : List S68).length c] ∧ xs.length ≤ c ∧ k68.C w A xs.length xs :=
  opens_slice k68 Tryd.underlying25 ccell68 opens_68
theorem opens_60 : ∀ fuel cs x, DataW.trod enc Tryd.prog w base spare held fuel 60 cs = some x → ∃ a, k60.K w a cs := by
  intro fuel cs x h
  obtain ⟨xs, n, _, _, hl, hxl, hf⟩ := DataW.trod_struct Tryd.underlying60 h
  rw [ccell60] at hl
  have hx3 : xs.length = 2 := hxl
  obtain ⟨a, b, rfl⟩ := len2 hl
  have h0 : DataW.trod enc Tryd.prog w base spare held n 25 (([a, b].drop 0).take (Tryd.prog.cellsOf 25)) = xs[0]? := hf 0 _ rfl
  have h1 : DataW.trod enc Tryd.prog w base spare held n 25 (([a, b].drop 1).take (Tryd.prog.cellsOf 25)) = xs[1]? := hf 1 _ rfl
  rw [List.getElem?_eq_getElem (by omega), ccell25] at h0 h1
  obtain ⟨A0, c0, l0, e0, g0, k0⟩ := opens_25 _ _ _ h0
  obtain ⟨A1, c1, l1, e1, g1, k1⟩ := opens_25 _ _ _ h1
  simp at e0 e1
  subst e0 e1
  exact ⟨⟨l0, l1⟩, k60_mk w ⟨l0, l1⟩ g0 k0 g1 k1⟩
theorem opens_58 : ∀ fuel cs x, DataW.trod enc Tryd.prog w base spare held fuel 58 cs = some x → ∃ a, (Kd.slice 60 k60).K w a cs := by
  intro fuel cs x h
  obtain ⟨A, c, xs, e, hl, hc⟩ := opens_slice k60 Tryd.underlying58 ccell60 opens_60 fuel cs x h
  exact ⟨xs, A, c, e, hl, hc⟩
theorem opens_24 : ∀ fuel cs x, DataW.trod enc Tryd.prog w base spare held fuel 24 cs = some x → ∃ A c xs, cs = [.slice A (xs : List (List S60)).length c] ∧ xs.length ≤ c ∧ (Kd.slice 60 k60).C w A xs.length xs := by
  intro fuel cs x h
  obtain ⟨xs, n, _, _, hl, hxl, hf⟩ := DataW.trod_struct Tryd.underlying24 h
  rw [ccell24] at hl
  have hx3 : xs.length = 1 := hxl
  obtain ⟨a, rfl⟩ := len1 hl
  have h0 : DataW.trod enc Tryd.prog w base spare held n 22 (([a].drop 0).take (Tryd.prog.cellsOf 22)) = xs[0]? := hf 0 _ rfl
  rw [List.getElem?_eq_getElem (by omega), ccell22] at h0
  obtain ⟨A0, c0, l0, e0, g0, k0⟩ := opens_slice (Kd.slice 60 k60) Tryd.underlying22 ccell58 opens_58 _ _ _ h0
  simp at e0
  subst e0
  exact ⟨A0, c0, l0, rfl, g0, k0⟩
theorem ccell5 : Tryd.prog.cellsOf 5 = 1 := by kernel_rfl
theorem opens_26 : ∀ fuel cs x, DataW.trod enc Tryd.prog w base spare held fuel 26 cs = some x → ∃ A c xs, cs = [.slice A (xs : List Int).length c] ∧ xs.length ≤ c ∧ (Kd.int .u8).C w A xs.length xs ∧ ∀ b ∈ xs, 0 ≤ b ∧ b < 256 := by
  intro fuel cs x h
  rcases Go.Deep.open_slice Tryd.underlying26 h with ⟨rfl, _⟩ | ⟨a, len, cap, m, n, D, Pl, rfl, hb, hl, hm, hmm, _, hi⟩
  · exact ⟨none, 0, [], rfl, Nat.le_refl _, C_nil _ w, fun b hb => by simp at hb⟩
  · have hle : len ≤ m := by rw [hmm]; split <;> omega
    rw [ccell5] at hi
    obtain ⟨xs, hxl, hx⟩ := list_choose (p := fun i (v : Int) => w.cells? base (a.add (i * 1)) 1 = some [.int .u8 v] ∧ 0 ≤ v ∧ v < 256) len (fun i hlt => by
      obtain ⟨cs', h1, h2⟩ := hi i (by omega)
      obtain ⟨v, hv, _, hw⟩ := DataW.trod_int Tryd.underlying5 h2
      subst hv
      refine ⟨v, h1, ?_⟩
      have hw' : (decide (0 ≤ v) && decide (v ≤ 255)) = true := hw
      simp only [Bool.and_eq_true, decide_eq_true_eq] at hw'
      omega)
    refine ⟨some a, cap, xs, by rw [hxl], by omega, ⟨rfl, by rw [hxl]; simp only [maxLen] at hm; omega, fun _ => ⟨a, rfl, fun j p hj => ?_⟩⟩, fun b hbm => ?_⟩
    · obtain ⟨h1, _⟩ := hx j p hj
      obtain ⟨_, _, h4⟩ := World.cells?_some h1
      refine ⟨[.int .u8 p], rfl, rfl, fun i u hu => ?_⟩
      have hil : i < 1 := (List.getElem?_eq_some_iff.1 hu).1
      have := h4 i hil
      rw [Go.Deep.add_add] at this
      exact this.trans hu
    · obtain ⟨j, hj, rfl⟩ := List.mem_iff_getElem.1 hbm
      exact (hx j _ (List.getElem?_eq_getElem hj)).2
end
end Go.Proofs.YtlhnpbdpojcbeaaDoor
end
