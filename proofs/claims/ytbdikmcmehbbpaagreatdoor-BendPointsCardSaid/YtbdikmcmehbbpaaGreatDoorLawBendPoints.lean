/-
  BendPoints: the walks that this law needs beside the shared part, what they compute, its plain statement and its row.
  Conditions: none beyond the given statement.
-/
import Derived.Test.YtbdikmcmehbbpaaGreatDoorCards
import Derived.Test.YtbdikmcmehbbpaaGreatDoorTie
import Derived.WalkKit
import Derived.ProofKit
import Derived.OpenShut
import Derived.ShutString
import Derived.ChangeOld
import Derived.Below
import Derived.SizedLaws
import Derived.Test.YtbdikmcmehbbpaaGreatDoorMB1
import Derived.Test.YtbdikmcmehbbpaaGreatDoorMB2
import Derived.Test.YtbdikmcmehbbpaaGreatDoorMB3
import Derived.Test.YtbdikmcmehbbpaaGreatDoorMB4
import Derived.Test.YtbdikmcmehbbpaaGreatDoorMxBendPoints1
namespace Go.Proofs.YtbdikmcmehbbpaaGreatDoor.Bend
open Go.RowKit Go.Proofs.YtbdikmcmehbbpaaGreatDoorW.PrintWords Go.Proofs.YtbdikmcmehbbpaaGreatDoorW.PrintLast
set_option linter.unusedVariables false
set_option linter.unusedSimpArgs false
attribute [local go_sem high] eqA49
mutual
def nl_BendPoints.l0 : Nat → ByteArray → List (S49) → Int → Int → Option (Bool)
 | 0, _, _, _, _ => none
 | k + 1, x0, x3, x4, x5 => if x5 < 2 then ((bend_Points.f k x0).bind fun bt422 => (if bt422.2 = x4 then (nl_BendPoints.j1 k x0 x3 x4 x5 bt422.1 ((bt422.1.length : Int) != (x3.length : Int))) else (nl_BendPoints.j1 k x0 x3 x4 x5 bt422.1 true))) else ((bend_Free.f k x0).bind fun bt429 => ((nr_Free.f k x0).bind fun bt431 => (if (bt429.1 != bt431.1) = true then (nl_BendPoints.j3 k x0 true) else (nl_BendPoints.j3 k x0 (bt429.2 != bt431.2)))))
def nl_BendPoints.j1 : Nat → ByteArray → List (S49) → Int → Int → List (S49) → Bool → Option (Bool)
 | 0, _, _, _, _, _, _ => none
 | k + 1, x0, x3, x4, x5, x6, x43 => if x43 = true then (some false) else (nl_BendPoints.l1 k x0 x3 x4 x5 x6 0)
def nl_BendPoints.l1 : Nat → ByteArray → List (S49) → Int → Int → List (S49) → Int → Option (Bool)
 | 0, _, _, _, _, _, _ => none
 | k + 1, x0, x3, x4, x5, x6, x8 => if x8 < (x6.length : Int) then (if 0 ≤ x8 then (if x8 < (x3.length : Int) then (if (!(((rd_T49 x6 x8).f0) == ((rd_T49 x3 x8).f0)) || (!(((rd_T49 x6 x8).f1) == ((rd_T49 x3 x8).f1)))) = true then (some false) else (nl_BendPoints.l1 k x0 x3 x4 x5 (x6.set (x8 : Int).toNat (⟨77, (rd_T49 x6 x8).f1⟩ : S49)) (wrap64 (x8 + 1)))) else (none)) else (none)) else (nl_BendPoints.l0 k x0 x3 x4 (wrap64 (x5 + 1)))
def nl_BendPoints.j3 : Nat → ByteArray → Bool → Option (Bool)
 | 0, _, _ => none
 | k + 1, x0, x80 => if x80 = true then (some false) else ((bend_Box.f x0).bind fun bt433 => ((nr_Box.f k x0).bind fun bt436 => (if bt433.1 = bt436.1 then (if bt433.2.1 = bt436.2.1 then (nl_BendPoints.j4 k x0 (bt433.2.2 != bt436.2.2)) else (nl_BendPoints.j4 k x0 true)) else (nl_BendPoints.j4 k x0 true))))
def nl_BendPoints.j4 : Nat → ByteArray → Bool → Option (Bool)
 | 0, _, _ => none
 | k + 1, x0, x105 => if x105 = true then (some false) else ((bend_Meet.f k x0).bind fun bt439 => ((nr_Meet.f k x0).bind fun bt442 => (if bt439.1 = bt442.1 then (if bt439.2.1 = bt442.2.1 then (if bt439.2.2 = bt442.2.2 then ((nl_alive.f k).bind fun t445 => (some t445)) else (some false)) else (some false)) else (some false))))
end
def nl_BendPoints.f (k : Nat) (a0 : ByteArray) : Option (Bool) := if (a0.size : Int) > 100 then ((nl_alive.f k).bind fun t417 => (some t417)) else ((nr_Points.f k a0).bind fun bt418 => (nl_BendPoints.l0 k a0 bt418.1 bt418.2 0))
theorem nl_BendPoints.mono_l : ∀ k, (∀ y0 y1 y2 y3, LeO (nl_BendPoints.l0 k y0 y1 y2 y3) (nl_BendPoints.l0 (k + 1) y0 y1 y2 y3)) ∧ (∀ y0 y1 y2 y3 y4 y5, LeO (nl_BendPoints.j1 k y0 y1 y2 y3 y4 y5) (nl_BendPoints.j1 (k + 1) y0 y1 y2 y3 y4 y5)) ∧ (∀ y0 y1 y2 y3 y4 y5, LeO (nl_BendPoints.l1 k y0 y1 y2 y3 y4 y5) (nl_BendPoints.l1 (k + 1) y0 y1 y2 y3 y4 y5)) ∧ (∀ y0 y1, LeO (nl_BendPoints.j3 k y0 y1) (nl_BendPoints.j3 (k + 1) y0 y1)) ∧ (∀ y0 y1, LeO (nl_BendPoints.j4 k y0 y1) (nl_BendPoints.j4 (k + 1) y0 y1))
 | 0 => ⟨fun _ _ _ _ r h => by simp [nl_BendPoints.l0] at h, fun _ _ _ _ _ _ r h => by simp [nl_BendPoints.j1] at h, fun _ _ _ _ _ _ r h => by simp [nl_BendPoints.l1] at h, fun _ _ r h => by simp [nl_BendPoints.j3] at h, fun _ _ r h => by simp [nl_BendPoints.j4] at h⟩
 | k + 1 => by
  obtain ⟨ih0, ih1, ih2, ih3, ih4⟩ := nl_BendPoints.mono_l k
  refine ⟨?_, ?_, ?_, ?_, ?_⟩
  · intro y0 y1 y2 y3
    unfold nl_BendPoints.l0
    repeat' first
    | (with_reducible exact ih0 _ _ _ _)
    | (with_reducible exact ih1 _ _ _ _ _ _)
    | (with_reducible exact ih2 _ _ _ _ _ _)
    | (with_reducible exact ih3 _ _)
    | (with_reducible exact ih4 _ _)
    | (with_reducible exact bend_Free.mono _ _)
    | (with_reducible exact bend_Meet.mono _ _)
    | (with_reducible exact bend_Points.mono _ _)
    | (with_reducible exact nl_alive.mono _)
    | (with_reducible exact nr_Box.mono _ _)
    | (with_reducible exact nr_Free.mono _ _)
    | (with_reducible exact nr_Meet.mono _ _)
    | (with_reducible exact nr_Points.mono _ _)
    | (with_reducible exact LeO.refl _)
    | (with_reducible exact LeO.none _)
    | (with_reducible refine LeO.ite ?_ ?_)
    | (with_reducible refine LeO.bind ?_ (fun _ => ?_))
    | exact ih0 _ _ _ _
    | exact ih1 _ _ _ _ _ _
    | exact ih2 _ _ _ _ _ _
    | exact ih3 _ _
    | exact ih4 _ _
    | exact bend_Free.mono _ _
    | exact bend_Meet.mono _ _
    | exact bend_Points.mono _ _
    | exact nl_alive.mono _
    | exact nr_Box.mono _ _
    | exact nr_Free.mono _ _
    | exact nr_Meet.mono _ _
    | exact nr_Points.mono _ _
    | exact LeO.none _
    | refine LeO.ite ?_ ?_
    | refine LeO.bind ?_ (fun _ => ?_)
  · intro y0 y1 y2 y3 y4 y5
    unfold nl_BendPoints.j1
    repeat' first
    | (with_reducible exact ih0 _ _ _ _)
    | (with_reducible exact ih1 _ _ _ _ _ _)
    | (with_reducible exact ih2 _ _ _ _ _ _)
    | (with_reducible exact ih3 _ _)
    | (with_reducible exact ih4 _ _)
    | (with_reducible exact bend_Free.mono _ _)
    | (with_reducible exact bend_Meet.mono _ _)
    | (with_reducible exact bend_Points.mono _ _)
    | (with_reducible exact nl_alive.mono _)
    | (with_reducible exact nr_Box.mono _ _)
    | (with_reducible exact nr_Free.mono _ _)
    | (with_reducible exact nr_Meet.mono _ _)
    | (with_reducible exact nr_Points.mono _ _)
    | (with_reducible exact LeO.refl _)
    | (with_reducible exact LeO.none _)
    | (with_reducible refine LeO.ite ?_ ?_)
    | (with_reducible refine LeO.bind ?_ (fun _ => ?_))
    | exact ih0 _ _ _ _
    | exact ih1 _ _ _ _ _ _
    | exact ih2 _ _ _ _ _ _
    | exact ih3 _ _
    | exact ih4 _ _
    | exact bend_Free.mono _ _
    | exact bend_Meet.mono _ _
    | exact bend_Points.mono _ _
    | exact nl_alive.mono _
    | exact nr_Box.mono _ _
    | exact nr_Free.mono _ _
    | exact nr_Meet.mono _ _
    | exact nr_Points.mono _ _
    | exact LeO.none _
    | refine LeO.ite ?_ ?_
    | refine LeO.bind ?_ (fun _ => ?_)
  · intro y0 y1 y2 y3 y4 y5
    unfold nl_BendPoints.l1
    repeat' first
    | (with_reducible exact ih0 _ _ _ _)
    | (with_reducible exact ih1 _ _ _ _ _ _)
    | (with_reducible exact ih2 _ _ _ _ _ _)
    | (with_reducible exact ih3 _ _)
    | (with_reducible exact ih4 _ _)
    | (with_reducible exact bend_Free.mono _ _)
    | (with_reducible exact bend_Meet.mono _ _)
    | (with_reducible exact bend_Points.mono _ _)
    | (with_reducible exact nl_alive.mono _)
    | (with_reducible exact nr_Box.mono _ _)
    | (with_reducible exact nr_Free.mono _ _)
    | (with_reducible exact nr_Meet.mono _ _)
    | (with_reducible exact nr_Points.mono _ _)
    | (with_reducible exact LeO.refl _)
    | (with_reducible exact LeO.none _)
    | (with_reducible refine LeO.ite ?_ ?_)
    | (with_reducible refine LeO.bind ?_ (fun _ => ?_))
    | exact ih0 _ _ _ _
    | exact ih1 _ _ _ _ _ _
    | exact ih2 _ _ _ _ _ _
    | exact ih3 _ _
    | exact ih4 _ _
    | exact bend_Free.mono _ _
    | exact bend_Meet.mono _ _
    | exact bend_Points.mono _ _
    | exact nl_alive.mono _
    | exact nr_Box.mono _ _
    | exact nr_Free.mono _ _
    | exact nr_Meet.mono _ _
    | exact nr_Points.mono _ _
    | exact LeO.none _
    | refine LeO.ite ?_ ?_
    | refine LeO.bind ?_ (fun _ => ?_)
  · intro y0 y1
    unfold nl_BendPoints.j3
    repeat' first
    | (with_reducible exact ih0 _ _ _ _)
    | (with_reducible exact ih1 _ _ _ _ _ _)
    | (with_reducible exact ih2 _ _ _ _ _ _)
    | (with_reducible exact ih3 _ _)
    | (with_reducible exact ih4 _ _)
    | (with_reducible exact bend_Free.mono _ _)
    | (with_reducible exact bend_Meet.mono _ _)
    | (with_reducible exact bend_Points.mono _ _)
    | (with_reducible exact nl_alive.mono _)
    | (with_reducible exact nr_Box.mono _ _)
    | (with_reducible exact nr_Free.mono _ _)
    | (with_reducible exact nr_Meet.mono _ _)
    | (with_reducible exact nr_Points.mono _ _)
    | (with_reducible exact LeO.refl _)
    | (with_reducible exact LeO.none _)
    | (with_reducible refine LeO.ite ?_ ?_)
    | (with_reducible refine LeO.bind ?_ (fun _ => ?_))
    | exact ih0 _ _ _ _
    | exact ih1 _ _ _ _ _ _
    | exact ih2 _ _ _ _ _ _
    | exact ih3 _ _
    | exact ih4 _ _
    | exact bend_Free.mono _ _
    | exact bend_Meet.mono _ _
    | exact bend_Points.mono _ _
    | exact nl_alive.mono _
    | exact nr_Box.mono _ _
    | exact nr_Free.mono _ _
    | exact nr_Meet.mono _ _
    | exact nr_Points.mono _ _
    | exact LeO.none _
    | refine LeO.ite ?_ ?_
    | refine LeO.bind ?_ (fun _ => ?_)
  · intro y0 y1
    unfold nl_BendPoints.j4
    repeat' first
    | (with_reducible exact ih0 _ _ _ _)
    | (with_reducible exact ih1 _ _ _ _ _ _)
    | (with_reducible exact ih2 _ _ _ _ _ _)
    | (with_reducible exact ih3 _ _)
    | (with_reducible exact ih4 _ _)
    | (with_reducible exact bend_Free.mono _ _)
    | (with_reducible exact bend_Meet.mono _ _)
    | (with_reducible exact bend_Points.mono _ _)
    | (with_reducible exact nl_alive.mono _)
    | (with_reducible exact nr_Box.mono _ _)
    | (with_reducible exact nr_Free.mono _ _)
    | (with_reducible exact nr_Meet.mono _ _)
    | (with_reducible exact nr_Points.mono _ _)
    | (with_reducible exact LeO.refl _)
    | (with_reducible exact LeO.none _)
    | (with_reducible refine LeO.ite ?_ ?_)
    | (with_reducible refine LeO.bind ?_ (fun _ => ?_))
    | exact ih0 _ _ _ _
    | exact ih1 _ _ _ _ _ _
    | exact ih2 _ _ _ _ _ _
    | exact ih3 _ _
    | exact ih4 _ _
    | exact bend_Free.mono _ _
    | exact bend_Meet.mono _ _
    | exact bend_Points.mono _ _
    | exact nl_alive.mono _
    | exact nr_Box.mono _ _
    | exact nr_Free.mono _ _
    | exact nr_Meet.mono _ _
    | exact nr_Points.mono _ _
    | exact LeO.none _
    | refine LeO.ite ?_ ?_
    | refine LeO.bind ?_ (fun _ => ?_)
theorem nl_BendPoints.mono : ∀ a0 k, LeO (nl_BendPoints.f k a0) (nl_BendPoints.f (k + 1) a0) := by
 intro a0 k
 obtain ⟨ih0, ih1, ih2, ih3, ih4⟩ := nl_BendPoints.mono_l k
 unfold nl_BendPoints.f
 repeat' first
  | (with_reducible exact ih0 _ _ _ _)
  | (with_reducible exact ih1 _ _ _ _ _ _)
  | (with_reducible exact ih2 _ _ _ _ _ _)
  | (with_reducible exact ih3 _ _)
  | (with_reducible exact ih4 _ _)
  | (with_reducible exact bend_Free.mono _ _)
  | (with_reducible exact bend_Meet.mono _ _)
  | (with_reducible exact bend_Points.mono _ _)
  | (with_reducible exact nl_alive.mono _)
  | (with_reducible exact nr_Box.mono _ _)
  | (with_reducible exact nr_Free.mono _ _)
  | (with_reducible exact nr_Meet.mono _ _)
  | (with_reducible exact nr_Points.mono _ _)
  | (with_reducible exact LeO.refl _)
  | (with_reducible exact LeO.none _)
  | (with_reducible refine LeO.ite ?_ ?_)
  | (with_reducible refine LeO.bind ?_ (fun _ => ?_))
  | exact ih0 _ _ _ _
  | exact ih1 _ _ _ _ _ _
  | exact ih2 _ _ _ _ _ _
  | exact ih3 _ _
  | exact ih4 _ _
  | exact bend_Free.mono _ _
  | exact bend_Meet.mono _ _
  | exact bend_Points.mono _ _
  | exact nl_alive.mono _
  | exact nr_Box.mono _ _
  | exact nr_Free.mono _ _
  | exact nr_Meet.mono _ _
  | exact nr_Points.mono _ _
  | exact LeO.none _
  | refine LeO.ite ?_ ?_
  | refine LeO.bind ?_ (fun _ => ?_)
set_option maxHeartbeats 8000000 in
set_option maxRecDepth 100000 in
theorem nl_BendPoints.calls (k : Nat) (a0 : ByteArray) (r : Bool) (w : World) (hL : Laid w) (h : nl_BendPoints.f k a0 = some r) :
 Calls Tryz.prog 12 #[.string a0] w fun e w' => e = .returned (.bool r) ∧ Below w.heap.size w w' := by
 have hu49 := Tryz.underlying49
 have HB := Aside0.mk (Below.refl w.heap.size w)
 have HLD := Aside0.mk hL
 clear hL
 have H : (if (a0.size : Int) > 100 then ((nl_alive.f k).bind fun t417 => (some t417)) else ((nr_Points.f k a0).bind fun bt418 => (nl_BendPoints.l0 k a0 bt418.1 bt418.2 0))) = some r := h
 clear h
 by_cases c2 : (a0.size : Int) > 100
 · rw [if_pos c2] at H
   have c2b0 : decide (100 < (a0.size : Int)) = true := decide_eq_true c2
   have c2b1 : decide (100 < a0.size) = true := decide_eq_true (by omega)
   clear c2
   replace H := Option.bind_eq_some_iff.mp H
   obtain ⟨t417, A30, H⟩ := H
   replace H : (some t417) = some r := H
   have A3 := Aside0.mk A30
   clear A30
   obtain rfl := Option.some.inj H
   go_enter Tryz.func12, Tryz.ntmps12
   go_wp2_with (first | (go_at_call 15; (with_reducible refine (nl_alive.calls k  t417 _ ?side1 A3.out).mono ?_); (case side1 => exact Laid.below HLD.out (by repeat (first | (with_reducible first | exact HB.out | apply below_alloc | apply pw_below_drewN | apply below_drew1) | exact HB.out))); rintro e w4 ⟨rfl, hb⟩; have n0_ := Aside0.mk (below_step (by repeat (first | (with_reducible first | exact HB.out | apply below_alloc | apply pw_below_drewN | apply below_drew1) | exact HB.out)) hb); clear HB; have HB := n0_; clear n0_; (try clear hb); (try clear hb2); (try clear hk); (try clear hi)))
   repeat (go_quiet (first | (go_at_call 15; (with_reducible refine (nl_alive.calls k  t417 _ ?side1 A3.out).mono ?_); (case side1 => exact Laid.below HLD.out (by repeat (first | (with_reducible first | exact HB.out | apply below_alloc | apply pw_below_drewN | apply below_drew1) | exact HB.out))); rintro e w4 ⟨rfl, hb⟩; have n0_ := Aside0.mk (below_step (by repeat (first | (with_reducible first | exact HB.out | apply below_alloc | apply pw_below_drewN | apply below_drew1) | exact HB.out)) hb); clear HB; have HB := n0_; clear n0_; (try clear hb); (try clear hb2); (try clear hk); (try clear hi))); try go_wp2_with (first | (go_at_call 15; (with_reducible refine (nl_alive.calls k  t417 _ ?side1 A3.out).mono ?_); (case side1 => exact Laid.below HLD.out (by repeat (first | (with_reducible first | exact HB.out | apply below_alloc | apply pw_below_drewN | apply below_drew1) | exact HB.out))); rintro e w4 ⟨rfl, hb⟩; have n0_ := Aside0.mk (below_step (by repeat (first | (with_reducible first | exact HB.out | apply below_alloc | apply pw_below_drewN | apply below_drew1) | exact HB.out)) hb); clear HB; have HB := n0_; clear n0_; (try clear hb); (try clear hb2); (try clear hk); (try clear hi))))
   go_ret
   exact ⟨by first | rfl | (simp [errW_none, errW_some] <;> rfl) | (simp [*, errW_none, errW_some] <;> rfl), by repeat (first | (with_reducible first | exact HB.out | apply below_alloc | apply pw_below_drewN | apply below_drew1) | exact HB.out)⟩
 · rw [if_neg c2] at H
   have c2b0 : decide (100 < (a0.size : Int)) = false := decide_eq_false c2
   have c2b1 : decide (100 < a0.size) = false := decide_eq_false (by omega)
   clear c2
   replace H := Option.bind_eq_some_iff.mp H
   obtain ⟨⟨t418, t419⟩, A50, H⟩ := H
   replace H : (nl_BendPoints.l0 k a0 t418 t419 0) = some r := H
   have A5 := Aside0.mk A50
   clear A50
   have H' := Aside0.mk H
   clear H
   go_enter Tryz.func12, Tryz.ntmps12
   go_wp2_with (first | (go_at_call 30; (with_reducible refine (nr_Points.calls k a0 t418 t419 _ A5.out).mono ?_); rintro e w6 ⟨v420, rfl, ho0, hb⟩; have n0_ := Aside0.mk (Kd.R_lower ho0 (below_size (by repeat (first | (with_reducible first | exact HB.out | apply below_alloc | apply pw_below_drewN | apply below_drew1) | exact HB.out)))); have n1_ := Aside0.mk (below_step (by repeat (first | (with_reducible first | exact HB.out | apply below_alloc | apply pw_below_drewN | apply below_drew1) | exact HB.out)) hb); clear HB; have HO421 := n0_; have HB := n1_; clear n0_ n1_; (try clear hb); (try clear hb2); (try clear hk); (try clear hi); (try clear ho0)))
   repeat (go_quiet (first | (go_at_call 30; (with_reducible refine (nr_Points.calls k a0 t418 t419 _ A5.out).mono ?_); rintro e w6 ⟨v420, rfl, ho0, hb⟩; have n0_ := Aside0.mk (Kd.R_lower ho0 (below_size (by repeat (first | (with_reducible first | exact HB.out | apply below_alloc | apply pw_below_drewN | apply below_drew1) | exact HB.out)))); have n1_ := Aside0.mk (below_step (by repeat (first | (with_reducible first | exact HB.out | apply below_alloc | apply pw_below_drewN | apply below_drew1) | exact HB.out)) hb); clear HB; have HO421 := n0_; have HB := n1_; clear n0_ n1_; (try clear hb); (try clear hb2); (try clear hk); (try clear hi); (try clear ho0))); try go_wp2_with (first | (go_at_call 30; (with_reducible refine (nr_Points.calls k a0 t418 t419 _ A5.out).mono ?_); rintro e w6 ⟨v420, rfl, ho0, hb⟩; have n0_ := Aside0.mk (Kd.R_lower ho0 (below_size (by repeat (first | (with_reducible first | exact HB.out | apply below_alloc | apply pw_below_drewN | apply below_drew1) | exact HB.out)))); have n1_ := Aside0.mk (below_step (by repeat (first | (with_reducible first | exact HB.out | apply below_alloc | apply pw_below_drewN | apply below_drew1) | exact HB.out)) hb); clear HB; have HO421 := n0_; have HB := n1_; clear n0_ n1_; (try clear hb); (try clear hb2); (try clear hk); (try clear hi); (try clear ho0))))
   go_loopg [5] k (fun kq v5 w' => ∃ (x3_1 : List (S49)) (x5_1 : Int), v5 = .int .i64 x5_1 ∧ Aside0 (nl_BendPoints.l0 kq a0 x3_1 t419 x5_1 = some r) ∧ Aside0 (kq ≤ k) ∧ Aside0 (Kd.R k49 49 w' w.heap.size (fun _ => True) v420 x3_1) ∧ Aside0 (Below w.heap.size w w'))
   case atStart => exact ⟨(t418), (0), (by first | rfl | (simp; done) | (simp [*]; done)), H', ⟨Nat.le_refl _⟩, ⟨by (with_reducible repeat (first | apply Kd.R_alloc | apply Kd.R_drewN | apply Kd.R_drew)); exact HO421.out⟩, ⟨by repeat (first | (with_reducible first | exact HB.out | apply below_alloc | apply pw_below_drewN | apply below_drew1) | exact HB.out)⟩⟩
   case round =>
    clear H'
    try clear c1
    try clear c2
    try clear c2b0
    try clear c2b1
    try clear p2
    obtain ⟨x3_1, x5_1, rfl, HA, HK1, HO_3, HB⟩ := hrel
    cases gk with
    | zero => exact absurd HA.out (by simp [nl_BendPoints.l0])
    | succ k1 =>
     have H := HA.out
     clear HA
     simp only [nl_BendPoints.l0] at H
     by_cases c7 : x5_1 < 2
     · rw [if_pos c7] at H
       have c7b0 : decide (x5_1 < 2) = true := decide_eq_true c7
       clear c7
       replace H := Option.bind_eq_some_iff.mp H
       obtain ⟨⟨t422, t423⟩, A80, H⟩ := H
       replace H : (if t423 = t419 then (nl_BendPoints.j1 k1 a0 x3_1 t419 x5_1 t422 ((t422.length : Int) != (x3_1.length : Int))) else (nl_BendPoints.j1 k1 a0 x3_1 t419 x5_1 t422 true)) = some r := H
       have A8 := Aside0.mk A80
       clear A80
       have HC9 := Aside0.mk H
       clear H
       go_upto_region 8 with (first | (go_at_call 31; (with_reducible refine (bend_Points.calls k1 a0 t422 t423 _ ?side1 A8.out).mono ?_); (case side1 => exact Laid.below HLD.out (by repeat (first | (with_reducible first | exact HB.out | apply below_alloc | apply pw_below_drewN | apply below_drew1) | exact HB.out))); rintro e w10 ⟨v424, rfl, ho0, hb⟩; have n0_ := Aside0.mk (Kd.R_elder' (by (with_reducible repeat (first | apply Kd.R_alloc | apply Kd.R_drewN | apply Kd.R_drew)); exact HO_3.out) (Kd.R_base ho0) hb); have n1_ := Aside0.mk (Kd.R_lower (Kd.R_new' ho0 (Kd.R_lt (by (with_reducible repeat (first | apply Kd.R_alloc | apply Kd.R_drewN | apply Kd.R_drew)); exact HO_3.out))) (below_size (by repeat (first | (with_reducible first | exact HB.out | apply below_alloc | apply pw_below_drewN | apply below_drew1) | exact HB.out)))); have n2_ := Aside0.mk (below_step (by repeat (first | (with_reducible first | exact HB.out | apply below_alloc | apply pw_below_drewN | apply below_drew1) | exact HB.out)) hb); clear HO_3; clear HB; have HO_3 := n0_; have HO425 := n1_; have HB := n2_; clear n0_ n1_ n2_; (try clear hb); (try clear hb2); (try clear hk); (try clear hi); (try clear ho0)))
       repeat (go_quiet (first | (go_at_call 31; (with_reducible refine (bend_Points.calls k1 a0 t422 t423 _ ?side1 A8.out).mono ?_); (case side1 => exact Laid.below HLD.out (by repeat (first | (with_reducible first | exact HB.out | apply below_alloc | apply pw_below_drewN | apply below_drew1) | exact HB.out))); rintro e w10 ⟨v424, rfl, ho0, hb⟩; have n0_ := Aside0.mk (Kd.R_elder' (by (with_reducible repeat (first | apply Kd.R_alloc | apply Kd.R_drewN | apply Kd.R_drew)); exact HO_3.out) (Kd.R_base ho0) hb); have n1_ := Aside0.mk (Kd.R_lower (Kd.R_new' ho0 (Kd.R_lt (by (with_reducible repeat (first | apply Kd.R_alloc | apply Kd.R_drewN | apply Kd.R_drew)); exact HO_3.out))) (below_size (by repeat (first | (with_reducible first | exact HB.out | apply below_alloc | apply pw_below_drewN | apply below_drew1) | exact HB.out)))); have n2_ := Aside0.mk (below_step (by repeat (first | (with_reducible first | exact HB.out | apply below_alloc | apply pw_below_drewN | apply below_drew1) | exact HB.out)) hb); clear HO_3; clear HB; have HO_3 := n0_; have HO425 := n1_; have HB := n2_; clear n0_ n1_ n2_; (try clear hb); (try clear hb2); (try clear hk); (try clear hi); (try clear ho0))); go_upto_region 8 with (first | (go_at_call 31; (with_reducible refine (bend_Points.calls k1 a0 t422 t423 _ ?side1 A8.out).mono ?_); (case side1 => exact Laid.below HLD.out (by repeat (first | (with_reducible first | exact HB.out | apply below_alloc | apply pw_below_drewN | apply below_drew1) | exact HB.out))); rintro e w10 ⟨v424, rfl, ho0, hb⟩; have n0_ := Aside0.mk (Kd.R_elder' (by (with_reducible repeat (first | apply Kd.R_alloc | apply Kd.R_drewN | apply Kd.R_drew)); exact HO_3.out) (Kd.R_base ho0) hb); have n1_ := Aside0.mk (Kd.R_lower (Kd.R_new' ho0 (Kd.R_lt (by (with_reducible repeat (first | apply Kd.R_alloc | apply Kd.R_drewN | apply Kd.R_drew)); exact HO_3.out))) (below_size (by repeat (first | (with_reducible first | exact HB.out | apply below_alloc | apply pw_below_drewN | apply below_drew1) | exact HB.out)))); have n2_ := Aside0.mk (below_step (by repeat (first | (with_reducible first | exact HB.out | apply below_alloc | apply pw_below_drewN | apply below_drew1) | exact HB.out)) hb); clear HO_3; clear HB; have HO_3 := n0_; have HO425 := n1_; have HB := n2_; clear n0_ n1_ n2_; (try clear hb); (try clear hb2); (try clear hk); (try clear hi); (try clear ho0))))
       (try simp only [Act.put, List.setIfInBounds_toArray, List.set_cons_zero, List.set_cons_succ])
       go_cut [43] (fun v43 wc => ∃ (kq : Nat) (x43_8 : Bool), v43 = .bool x43_8 ∧ Aside0 (nl_BendPoints.j1 kq a0 x3_1 t419 x5_1 t422 x43_8 = some r) ∧ Aside0 (kq ≤ k1) ∧ Aside0 (Kd.R k49 49 wc w.heap.size (fun k_ => some k_ ≠ (v424 : Value).ownBlock) v420 x3_1) ∧ Aside0 (Kd.R k49 49 wc w.heap.size (fun k_ => some k_ ≠ (v420 : Value).ownBlock) v424 t422) ∧ Aside0 (Below w.heap.size w wc))
       case first =>
        have H := HC9.out
        clear HC9
        by_cases c11 : t423 = t419
        · rw [if_pos c11] at H
          have c11b0 : (t423 == t419) = true := beq_iff_eq.mpr c11
          have c11b1 : (t423 != t419) = false := bne_eq_false_iff_eq.mpr c11
          clear c11
          (first | rw [c11b0] | (simp only [i64_w, i32_w]; rw [c11b0]) | skip)
          have H' := Aside0.mk H
          clear H
          obtain ⟨Ao12, co12, eo12⟩ := Kd.R_slice HO425.out
          subst eo12
          obtain ⟨Ao13, co13, eo13⟩ := Kd.R_slice HO_3.out
          subst eo13
          go_wp2
          repeat (go_quiet (fail); try go_wp2)
          go_meet
          case rel => exact ⟨_, (((t422.length : Int) != (x3_1.length : Int))), (by first | rfl | (simp; done) | (simp [*]; done)), H', ⟨by have := HK1.out; first | omega | exact Nat.le_refl _⟩, ⟨by (with_reducible repeat (first | apply Kd.R_alloc | apply Kd.R_drewN | apply Kd.R_drew)); exact Kd.R_mono HO_3.out (fun _ hk => hk.2)⟩, ⟨by (with_reducible repeat (first | apply Kd.R_alloc | apply Kd.R_drewN | apply Kd.R_drew)); exact Kd.R_mono HO425.out (fun _ hk => hk.2)⟩, ⟨by repeat (first | (with_reducible first | exact HB.out | apply below_alloc | apply pw_below_drewN | apply below_drew1) | exact HB.out)⟩⟩
        · rw [if_neg c11] at H
          have c11b0 : (t423 == t419) = false := beq_eq_false_iff_ne.mpr c11
          have c11b1 : (t423 != t419) = true := bne_iff_ne.mpr c11
          (first | rw [c11b0] | (simp only [i64_w, i32_w]; rw [c11b0]) | skip)
          have H' := Aside0.mk H
          clear H
          go_wp2
          repeat (go_quiet (fail); try go_wp2)
          go_meet
          case rel => exact ⟨_, (true), (by first | rfl | (simp; done) | (simp [*]; done)), H', ⟨by have := HK1.out; first | omega | exact Nat.le_refl _⟩, ⟨by (with_reducible repeat (first | apply Kd.R_alloc | apply Kd.R_drewN | apply Kd.R_drew)); exact Kd.R_mono HO_3.out (fun _ hk => hk.2)⟩, ⟨by (with_reducible repeat (first | apply Kd.R_alloc | apply Kd.R_drewN | apply Kd.R_drew)); exact Kd.R_mono HO425.out (fun _ hk => hk.2)⟩, ⟨by repeat (first | (with_reducible first | exact HB.out | apply below_alloc | apply pw_below_drewN | apply below_drew1) | exact HB.out)⟩⟩
       case rest =>
        clear HC9
        try clear c1
        try clear c2
        try clear c2b0
        try clear c2b1
        try clear p2
        try clear c7
        try clear c7b0
        try clear c11
        try clear c11b0
        try clear c11b1
        try clear c12
        try clear p2
        obtain ⟨kq, x43_8, rfl, HA, HJ8, HO_3, HO_6, HB⟩ := hcut
        cases kq with
        | zero => exact absurd HA.out (by simp [nl_BendPoints.j1])
        | succ kj8 =>
         have H := HA.out
         clear HA
         simp only [nl_BendPoints.j1] at H
         by_cases c14 : x43_8 = true
         · subst c14
           have H1 : (some false) = some r := by rw [if_pos rfl] at H; exact H
           clear H
           have H := H1
           clear H1
           obtain rfl := Option.some.inj H
           go_wp2
           repeat (go_quiet (fail); try go_wp2)
           go_ret
           exact ⟨by first | rfl | (simp [errW_none, errW_some] <;> rfl) | (simp [*, errW_none, errW_some] <;> rfl), by repeat (first | (with_reducible first | exact HB.out | apply below_alloc | apply pw_below_drewN | apply below_drew1) | exact HB.out)⟩
         · replace c14 := Bool.eq_false_iff.mpr c14
           subst c14
           have H1 : (nl_BendPoints.l1 kj8 a0 x3_1 t419 x5_1 t422 0) = some r := by rw [if_neg (show ¬ (false = true) by decide)] at H; exact H
           clear H
           have H := H1
           clear H1
           have H' := Aside0.mk H
           clear H
           go_wp2
           repeat (go_quiet (fail); try go_wp2)
           go_loopg [8] kj8 (fun kq v8 w' => ∃ (x6_3 : List (S49)) (x8_3 : Int), v8 = .int .i64 x8_3 ∧ Aside0 (nl_BendPoints.l1 kq a0 x3_1 t419 x5_1 x6_3 x8_3 = some r) ∧ Aside0 (kq ≤ kj8) ∧ Aside0 (Kd.R k49 49 w' w.heap.size (fun k_ => some k_ ≠ (v424 : Value).ownBlock) v420 x3_1) ∧ Aside0 (Kd.R k49 49 w' w.heap.size (fun k_ => some k_ ≠ (v420 : Value).ownBlock) v424 x6_3) ∧ Aside0 (Below w.heap.size w w'))
           case atStart => exact ⟨(t422), (0), (by first | rfl | (simp; done) | (simp [*]; done)), H', ⟨Nat.le_refl _⟩, ⟨by (with_reducible repeat (first | apply Kd.R_alloc | apply Kd.R_drewN | apply Kd.R_drew)); exact HO_3.out⟩, ⟨by (with_reducible repeat (first | apply Kd.R_alloc | apply Kd.R_drewN | apply Kd.R_drew)); exact HO_6.out⟩, ⟨by repeat (first | (with_reducible first | exact HB.out | apply below_alloc | apply pw_below_drewN | apply below_drew1) | exact HB.out)⟩⟩
           case round =>
            clear H'
            try clear c1
            try clear c2
            try clear c2b0
            try clear c2b1
            try clear p2
            try clear c7
            try clear c7b0
            try clear c11
            try clear c11b0
            try clear c11b1
            try clear c12
            try clear c14
            try clear p2
            obtain ⟨x6_3, x8_3, rfl, HA, HK3, HO_3, HO_6, HB⟩ := hrel
            cases gk with
            | zero => exact absurd HA.out (by simp [nl_BendPoints.l1])
            | succ k3 =>
             have H := HA.out
             clear HA
             simp only [nl_BendPoints.l1] at H
             by_cases c15 : x8_3 < (x6_3.length : Int)
             · rw [if_pos c15] at H
               have c15b0 : decide (x8_3 < (x6_3.length : Int)) = true := decide_eq_true c15
               clear c15
               by_cases c16 : 0 ≤ x8_3
               · rw [if_pos c16] at H
                 have c16b0 : decide (0 ≤ x8_3) = true := decide_eq_true c16
                 clear c16
                 by_cases c17 : x8_3 < (x3_1.length : Int)
                 · rw [if_pos c17] at H
                   have c17b0 : decide (x8_3 < (x3_1.length : Int)) = true := decide_eq_true c17
                   clear c17
                   by_cases c18 : (!(((rd_T49 x6_3 x8_3).f0) == ((rd_T49 x3_1 x8_3).f0)) || (!(((rd_T49 x6_3 x8_3).f1) == ((rd_T49 x3_1 x8_3).f1)))) = true
                   · rw [if_pos c18] at H
                     have c18b0 : (!(((rd_T49 x6_3 x8_3).f0) == ((rd_T49 x3_1 x8_3).f0)) || (!(((rd_T49 x6_3 x8_3).f1) == ((rd_T49 x3_1 x8_3).f1)))) = true := c18
                     clear c18
                     obtain rfl := Option.some.inj H
                     obtain ⟨Ao19, co19, eo19⟩ := Kd.R_slice HO_6.out
                     subst eo19
                     have p426 : 0 ≤ (x8_3 : Int) := of_decide_eq_true (by first | (with_reducible assumption) | assumption)
                     have q426 : x8_3 < (x6_3.length : Int) := of_decide_eq_true (by first | (with_reducible assumption) | assumption)
                     obtain ⟨ad426, e426, hx426_0, hx426_1⟩ := at_T49 (Kd.R_reads' HO_6.out).2.2 x8_3 p426 q426
                     cases e426
                     replace p426 := eq_true p426
                     replace q426 := eq_true q426
                     obtain ⟨Ao20, co20, eo20⟩ := Kd.R_slice HO_3.out
                     subst eo20
                     have p427 : 0 ≤ (x8_3 : Int) := of_decide_eq_true (by first | (with_reducible assumption) | assumption)
                     have q427 : x8_3 < (x3_1.length : Int) := of_decide_eq_true (by first | (with_reducible assumption) | assumption)
                     obtain ⟨ad427, e427, hx427_0, hx427_1⟩ := at_T49 (Kd.R_reads' HO_3.out).2.2 x8_3 p427 q427
                     cases e427
                     replace p427 := eq_true p427
                     replace q427 := eq_true q427
                     go_wp2
                     repeat (go_quiet (fail); try go_wp2)
                     go_ret
                     exact ⟨by first | rfl | (simp [errW_none, errW_some] <;> rfl) | (simp [*, errW_none, errW_some] <;> rfl), by repeat (first | (with_reducible first | exact HB.out | apply below_alloc | apply pw_below_drewN | apply below_drew1) | exact HB.out)⟩
                   · rw [if_neg c18] at H
                     have c18b0 : (!(((rd_T49 x6_3 x8_3).f0) == ((rd_T49 x3_1 x8_3).f0)) || (!(((rd_T49 x6_3 x8_3).f1) == ((rd_T49 x3_1 x8_3).f1)))) = false := by simpa using c18
                     clear c18
                     obtain ⟨y428, hy428⟩ : ∃ y_ : List (S49), y_ = (x6_3.set (x8_3 : Int).toNat (⟨77, (rd_T49 x6_3 x8_3).f1⟩ : S49)) := ⟨_, rfl⟩
                     replace H : (nl_BendPoints.l1 k3 a0 x3_1 t419 x5_1 y428 (wrap64 (x8_3 + 1))) = some r := by first | (rw [hy428]; with_reducible exact H) | (have H2_ := (Option.bind_some _ _).symm.trans H; rw [hy428]; with_reducible exact H2_) | (have H2_ := (Option.bind_some _ _).symm.trans H; with_reducible exact H2_) | with_reducible exact H | (rw [hy428]; exact H) | exact H
                     have Ny428 := Aside0.mk hy428
                     clear hy428
                     have H' := Aside0.mk H
                     clear H
                     obtain ⟨Ao22, co22, eo22⟩ := Kd.R_slice HO_6.out
                     subst eo22
                     have p426 : 0 ≤ (x8_3 : Int) := of_decide_eq_true (by first | (with_reducible assumption) | assumption)
                     have q426 : x8_3 < (x6_3.length : Int) := of_decide_eq_true (by first | (with_reducible assumption) | assumption)
                     obtain ⟨ad426, e426, hx426_0, hx426_1⟩ := at_T49 (Kd.R_reads' HO_6.out).2.2 x8_3 p426 q426
                     cases e426
                     replace p426 := eq_true p426
                     replace q426 := eq_true q426
                     obtain ⟨Ao23, co23, eo23⟩ := Kd.R_slice HO_3.out
                     subst eo23
                     have p427 : 0 ≤ (x8_3 : Int) := of_decide_eq_true (by first | (with_reducible assumption) | assumption)
                     have q427 : x8_3 < (x3_1.length : Int) := of_decide_eq_true (by first | (with_reducible assumption) | assumption)
                     obtain ⟨ad427, e427, hx427_0, hx427_1⟩ := at_T49 (Kd.R_reads' HO_3.out).2.2 x8_3 p427 q427
                     cases e427
                     replace p427 := eq_true p427
                     replace q427 := eq_true q427
                     have p21 : 0 ≤ (x8_3 : Int) := of_decide_eq_true (by first | (with_reducible assumption) | assumption)
                     have q21 : (x8_3 : Int) < ((x6_3.length : Int) : Int) := of_decide_eq_true (by first | (with_reducible assumption) | assumption)
                     obtain ⟨go21, co21, eo21, gb21, gl21, cl21, HG21⟩ := Kd.R_form HO_6.out (by omega)
                     (first | cases eo21 | (injection eo21 with ea_ en_ ec_; (first | subst ea_ | (injection ea_ with ea_; subst ea_)); subst ec_; clear en_))
                     have GB21 := Aside0.mk gb21
                     have GG21 := Aside0.mk HG21
                     clear gb21 gl21 HG21
                     (first | simp only [add_plain] at hx426_0 | skip)
                     (first | simp only [add_plain] at hx426_1 | skip)
                     obtain ⟨ce21, hcl21, hM21, hcc21, hfr21⟩ := Kd.R_elem HO_6.out z49 (x8_3 : Int) p21 q21
                     obtain rfl := k49_openM hM21
                     have hx21_0 : wr.cell? ⟨go21, (x8_3 : Int).toNat * 2, none⟩ = some (.int .i64 ((rd_T49 x6_3 x8_3).f0)) := hcc21 0 _ rfl
                     have hx21_1 : wr.cell? ⟨go21, (x8_3 : Int).toNat * 2 + 1, none⟩ = some (.int .i64 ((rd_T49 x6_3 x8_3).f1)) := hcc21 1 _ rfl
                     have hf21_0 : wr.frozen? ⟨go21, (x8_3 : Int).toNat * 2, none⟩ = false := hfr21 0
                     have hf21_1 : wr.frozen? ⟨go21, (x8_3 : Int).toNat * 2 + 1, none⟩ = false := hfr21 1
                     clear hcl21 hcc21 hfr21 hM21
                     replace p21 := eq_true p21
                     replace q21 := eq_true q21
                     have HX24 := Aside0.mk (show Kd.R k49 49 wr w.heap.size (fun k_ => some k_ ≠ (.slice (some ad427) x3_1.length co23 : Value).ownBlock) (.slice (some ⟨go21, 0, none⟩) x6_3.length co22) x6_3 from (by (with_reducible repeat (first | apply Kd.R_alloc | apply Kd.R_drewN | apply Kd.R_drew)); exact HO_6.out))
                     obtain ⟨ce24, hcl24, hM24, hcc24, hfr24⟩ := Kd.R_elem HX24.out z49 (x8_3 : Int) (of_decide_eq_true (by first | (with_reducible assumption) | assumption)) (by have h_ : (x8_3 : Int) < ((x6_3.length : Int) : Int) := of_decide_eq_true (by first | (with_reducible assumption) | assumption); first | exact h_ | (have e_ := (Kd.R_reads' HO_6.out).1; omega) | simpa using h_)
                     obtain rfl := k49_openM hM24
                     have HP24 := Kd.R_seg HX24.out (x8_3 : Int) (of_decide_eq_true (by first | (with_reducible assumption) | assumption)) (by have h_ : (x8_3 : Int) < ((x6_3.length : Int) : Int) := of_decide_eq_true (by first | (with_reducible assumption) | assumption); first | exact h_ | (have e_ := (Kd.R_reads' HO_6.out).1; omega) | simpa using h_) (seg := [.int .i64 77]) (j := 0) hcl24 hcc24 (show 1 ≤ 2 from by decide) (x' := (⟨77, (rd_T49 x6_3 x8_3).f1⟩ : S49)) (k49_mkM _ _ _ (⟨77, (rd_T49 x6_3 x8_3).f1⟩ : S49) ) (fun _ hk => hk)
                     have hx24_0 := hcc24 0 _ rfl
                     (try simp only [show (k49).sz = 2 from rfl, Nat.mul_one, Nat.add_zero] at hx24_0)
                     have hf24_0 := hfr24 0
                     (try simp only [show (k49).sz = 2 from rfl, Nat.mul_one, Nat.add_zero] at hf24_0)
                     clear hcl24 hcc24 hfr24 hM24
                     go_wp2_with (first | ((with_reducible refine gate_store (t := 3) (p := 62) rfl ?_); (try (rw [drewN_self wr]; generalize hq_ : World.drewN wr _ = wr; have n0_ := Aside0.mk (Kd.R_at hq_ HO_3.out); have n1_ := Aside0.mk (Kd.R_at hq_ HO_6.out); have n2_ := Aside0.mk (below_at hq_ HB.out); clear hq_ HO_3 HO_6 HB; have HO_3 := n0_; have HO_6 := n1_; have HB := n2_; clear n0_ n1_ n2_; (try (have HX24 := Aside0.mk (show Kd.R k49 49 wr w.heap.size (fun k_ => some k_ ≠ (.slice (some ad427) x3_1.length co23 : Value).ownBlock) (.slice (some ⟨go21, 0, none⟩) x6_3.length co22) x6_3 from (by (with_reducible repeat (first | apply Kd.R_alloc | apply Kd.R_drewN | apply Kd.R_drew)); exact HO_6.out)))); (try (obtain ⟨ce24, hcl24, hM24, hcc24, hfr24⟩ := Kd.R_elem HX24.out z49 (x8_3 : Int) (of_decide_eq_true (by first | (with_reducible assumption) | assumption)) (by have h_ : (x8_3 : Int) < ((x6_3.length : Int) : Int) := of_decide_eq_true (by first | (with_reducible assumption) | assumption); first | exact h_ | (have e_ := (Kd.R_reads' HO_6.out).1; omega) | simpa using h_))); (try (obtain rfl := k49_openM hM24)); (try (have HP24 := Kd.R_seg HX24.out (x8_3 : Int) (of_decide_eq_true (by first | (with_reducible assumption) | assumption)) (by have h_ : (x8_3 : Int) < ((x6_3.length : Int) : Int) := of_decide_eq_true (by first | (with_reducible assumption) | assumption); first | exact h_ | (have e_ := (Kd.R_reads' HO_6.out).1; omega) | simpa using h_) (seg := [.int .i64 77]) (j := 0) hcl24 hcc24 (show 1 ≤ 2 from by decide) (x' := (⟨77, (rd_T49 x6_3 x8_3).f1⟩ : S49)) (k49_mkM _ _ _ (⟨77, (rd_T49 x6_3 x8_3).f1⟩ : S49) ) (fun _ hk => hk))); (try (have hx24_0 := hcc24 0 _ rfl)); (try (try simp only [show (k49).sz = 2 from rfl, Nat.mul_one, Nat.add_zero] at hx24_0)); (try (have hf24_0 := hfr24 0)); (try (try simp only [show (k49).sz = 2 from rfl, Nat.mul_one, Nat.add_zero] at hf24_0)); (try (clear hcl24 hcc24 hfr24 hM24)))); refine store_event (t := 3) (p := 62) (v := ?vo_w25) (w1 := (wr.setCell ⟨go21, (x8_3 : Int).toNat * 2, none⟩ (.int .i64 77))) ?hg ?ho ?hn ?hr ?_; (case ho => rfl); (case hg => rfl); (case hn => rfl); (case hr => first | (go_simp; done) | (go_simp; rfl)); intro w25 hw; have hg : wr.grownBy w25 (some go21) := (by rw [hw]; exact HP24.2); have hp_ : Kd.R k49 49 w25 w.heap.size (fun k_ => some k_ ≠ (.slice (some ad427) x3_1.length co23 : Value).ownBlock) (.slice (some ⟨go21, 0, none⟩) x6_3.length co22) y428 := (by rw [hw, Ny428.out]; exact HP24.1); clear HP24; have n0_ := Aside0.mk (Kd.R_after (v := (.slice (some ⟨go21, 0, none⟩) x6_3.length co22)) (v1 := (.slice (some ⟨go21, 0, none⟩) x6_3.length co22)) (ok := (fun _ => True)) (by (with_reducible repeat (first | apply Kd.R_alloc | apply Kd.R_drewN | apply Kd.R_drew)); exact Kd.R_mono HO_3.out (fun _ hk => ⟨trivial, hk⟩)) hg (.inl rfl)); have n1_ := Aside0.mk (hp_); have n2_ := Aside0.mk ((by rw [hw]; exact below_set (HB.out) GB21.out : Below w.heap.size w w25)); clear HO_3; clear HO_6; clear HB; have HO_3 := n0_; have HO_6 := n1_; have HB := n2_; clear n0_ n1_ n2_; clear hg hw hp_))
                     repeat (go_quiet (first | ((with_reducible refine gate_store (t := 3) (p := 62) rfl ?_); (try (rw [drewN_self wr]; generalize hq_ : World.drewN wr _ = wr; have n0_ := Aside0.mk (Kd.R_at hq_ HO_3.out); have n1_ := Aside0.mk (Kd.R_at hq_ HO_6.out); have n2_ := Aside0.mk (below_at hq_ HB.out); clear hq_ HO_3 HO_6 HB; have HO_3 := n0_; have HO_6 := n1_; have HB := n2_; clear n0_ n1_ n2_; (try (have HX24 := Aside0.mk (show Kd.R k49 49 wr w.heap.size (fun k_ => some k_ ≠ (.slice (some ad427) x3_1.length co23 : Value).ownBlock) (.slice (some ⟨go21, 0, none⟩) x6_3.length co22) x6_3 from (by (with_reducible repeat (first | apply Kd.R_alloc | apply Kd.R_drewN | apply Kd.R_drew)); exact HO_6.out)))); (try (obtain ⟨ce24, hcl24, hM24, hcc24, hfr24⟩ := Kd.R_elem HX24.out z49 (x8_3 : Int) (of_decide_eq_true (by first | (with_reducible assumption) | assumption)) (by have h_ : (x8_3 : Int) < ((x6_3.length : Int) : Int) := of_decide_eq_true (by first | (with_reducible assumption) | assumption); first | exact h_ | (have e_ := (Kd.R_reads' HO_6.out).1; omega) | simpa using h_))); (try (obtain rfl := k49_openM hM24)); (try (have HP24 := Kd.R_seg HX24.out (x8_3 : Int) (of_decide_eq_true (by first | (with_reducible assumption) | assumption)) (by have h_ : (x8_3 : Int) < ((x6_3.length : Int) : Int) := of_decide_eq_true (by first | (with_reducible assumption) | assumption); first | exact h_ | (have e_ := (Kd.R_reads' HO_6.out).1; omega) | simpa using h_) (seg := [.int .i64 77]) (j := 0) hcl24 hcc24 (show 1 ≤ 2 from by decide) (x' := (⟨77, (rd_T49 x6_3 x8_3).f1⟩ : S49)) (k49_mkM _ _ _ (⟨77, (rd_T49 x6_3 x8_3).f1⟩ : S49) ) (fun _ hk => hk))); (try (have hx24_0 := hcc24 0 _ rfl)); (try (try simp only [show (k49).sz = 2 from rfl, Nat.mul_one, Nat.add_zero] at hx24_0)); (try (have hf24_0 := hfr24 0)); (try (try simp only [show (k49).sz = 2 from rfl, Nat.mul_one, Nat.add_zero] at hf24_0)); (try (clear hcl24 hcc24 hfr24 hM24)))); refine store_event (t := 3) (p := 62) (v := ?vo_w25) (w1 := (wr.setCell ⟨go21, (x8_3 : Int).toNat * 2, none⟩ (.int .i64 77))) ?hg ?ho ?hn ?hr ?_; (case ho => rfl); (case hg => rfl); (case hn => rfl); (case hr => first | (go_simp; done) | (go_simp; rfl)); intro w25 hw; have hg : wr.grownBy w25 (some go21) := (by rw [hw]; exact HP24.2); have hp_ : Kd.R k49 49 w25 w.heap.size (fun k_ => some k_ ≠ (.slice (some ad427) x3_1.length co23 : Value).ownBlock) (.slice (some ⟨go21, 0, none⟩) x6_3.length co22) y428 := (by rw [hw, Ny428.out]; exact HP24.1); clear HP24; have n0_ := Aside0.mk (Kd.R_after (v := (.slice (some ⟨go21, 0, none⟩) x6_3.length co22)) (v1 := (.slice (some ⟨go21, 0, none⟩) x6_3.length co22)) (ok := (fun _ => True)) (by (with_reducible repeat (first | apply Kd.R_alloc | apply Kd.R_drewN | apply Kd.R_drew)); exact Kd.R_mono HO_3.out (fun _ hk => ⟨trivial, hk⟩)) hg (.inl rfl)); have n1_ := Aside0.mk (hp_); have n2_ := Aside0.mk ((by rw [hw]; exact below_set (HB.out) GB21.out : Below w.heap.size w w25)); clear HO_3; clear HO_6; clear HB; have HO_3 := n0_; have HO_6 := n1_; have HB := n2_; clear n0_ n1_ n2_; clear hg hw hp_)); try go_wp2_with (first | ((with_reducible refine gate_store (t := 3) (p := 62) rfl ?_); (try (rw [drewN_self wr]; generalize hq_ : World.drewN wr _ = wr; have n0_ := Aside0.mk (Kd.R_at hq_ HO_3.out); have n1_ := Aside0.mk (Kd.R_at hq_ HO_6.out); have n2_ := Aside0.mk (below_at hq_ HB.out); clear hq_ HO_3 HO_6 HB; have HO_3 := n0_; have HO_6 := n1_; have HB := n2_; clear n0_ n1_ n2_; (try (have HX24 := Aside0.mk (show Kd.R k49 49 wr w.heap.size (fun k_ => some k_ ≠ (.slice (some ad427) x3_1.length co23 : Value).ownBlock) (.slice (some ⟨go21, 0, none⟩) x6_3.length co22) x6_3 from (by (with_reducible repeat (first | apply Kd.R_alloc | apply Kd.R_drewN | apply Kd.R_drew)); exact HO_6.out)))); (try (obtain ⟨ce24, hcl24, hM24, hcc24, hfr24⟩ := Kd.R_elem HX24.out z49 (x8_3 : Int) (of_decide_eq_true (by first | (with_reducible assumption) | assumption)) (by have h_ : (x8_3 : Int) < ((x6_3.length : Int) : Int) := of_decide_eq_true (by first | (with_reducible assumption) | assumption); first | exact h_ | (have e_ := (Kd.R_reads' HO_6.out).1; omega) | simpa using h_))); (try (obtain rfl := k49_openM hM24)); (try (have HP24 := Kd.R_seg HX24.out (x8_3 : Int) (of_decide_eq_true (by first | (with_reducible assumption) | assumption)) (by have h_ : (x8_3 : Int) < ((x6_3.length : Int) : Int) := of_decide_eq_true (by first | (with_reducible assumption) | assumption); first | exact h_ | (have e_ := (Kd.R_reads' HO_6.out).1; omega) | simpa using h_) (seg := [.int .i64 77]) (j := 0) hcl24 hcc24 (show 1 ≤ 2 from by decide) (x' := (⟨77, (rd_T49 x6_3 x8_3).f1⟩ : S49)) (k49_mkM _ _ _ (⟨77, (rd_T49 x6_3 x8_3).f1⟩ : S49) ) (fun _ hk => hk))); (try (have hx24_0 := hcc24 0 _ rfl)); (try (try simp only [show (k49).sz = 2 from rfl, Nat.mul_one, Nat.add_zero] at hx24_0)); (try (have hf24_0 := hfr24 0)); (try (try simp only [show (k49).sz = 2 from rfl, Nat.mul_one, Nat.add_zero] at hf24_0)); (try (clear hcl24 hcc24 hfr24 hM24)))); refine store_event (t := 3) (p := 62) (v := ?vo_w25) (w1 := (wr.setCell ⟨go21, (x8_3 : Int).toNat * 2, none⟩ (.int .i64 77))) ?hg ?ho ?hn ?hr ?_; (case ho => rfl); (case hg => rfl); (case hn => rfl); (case hr => first | (go_simp; done) | (go_simp; rfl)); intro w25 hw; have hg : wr.grownBy w25 (some go21) := (by rw [hw]; exact HP24.2); have hp_ : Kd.R k49 49 w25 w.heap.size (fun k_ => some k_ ≠ (.slice (some ad427) x3_1.length co23 : Value).ownBlock) (.slice (some ⟨go21, 0, none⟩) x6_3.length co22) y428 := (by rw [hw, Ny428.out]; exact HP24.1); clear HP24; have n0_ := Aside0.mk (Kd.R_after (v := (.slice (some ⟨go21, 0, none⟩) x6_3.length co22)) (v1 := (.slice (some ⟨go21, 0, none⟩) x6_3.length co22)) (ok := (fun _ => True)) (by (with_reducible repeat (first | apply Kd.R_alloc | apply Kd.R_drewN | apply Kd.R_drew)); exact Kd.R_mono HO_3.out (fun _ hk => ⟨trivial, hk⟩)) hg (.inl rfl)); have n1_ := Aside0.mk (hp_); have n2_ := Aside0.mk ((by rw [hw]; exact below_set (HB.out) GB21.out : Below w.heap.size w w25)); clear HO_3; clear HO_6; clear HB; have HO_3 := n0_; have HO_6 := n1_; have HB := n2_; clear n0_ n1_ n2_; clear hg hw hp_)))
                     go_roundg k3
                     case measure => have := HK1.out; have := HJ8.out; have := HK3.out; omega
                     case rel => exact ⟨(y428), (wrap64 (x8_3 + 1)), (by first | rfl | (simp; done) | (simp [*]; done)), H', ⟨by have := HK1.out; have := HJ8.out; have := HK3.out; omega⟩, ⟨by (with_reducible repeat (first | apply Kd.R_alloc | apply Kd.R_drewN | apply Kd.R_drew)); exact Kd.R_mono HO_3.out (fun _ hk => hk.2)⟩, ⟨by (with_reducible repeat (first | apply Kd.R_alloc | apply Kd.R_drewN | apply Kd.R_drew)); exact HO_6.out⟩, ⟨by repeat (first | (with_reducible first | exact HB.out | apply below_alloc | apply pw_below_drewN | apply below_drew1) | exact HB.out)⟩⟩
                 · rw [if_neg c17] at H
                   exact absurd H (by simp)
               · rw [if_neg c16] at H
                 exact absurd H (by simp)
             · rw [if_neg c15] at H
               have c15b0 : decide (x8_3 < (x6_3.length : Int)) = false := decide_eq_false c15
               clear c15
               have H' := Aside0.mk H
               clear H
               obtain ⟨Ao26, co26, eo26⟩ := Kd.R_slice HO_6.out
               subst eo26
               go_wp2
               repeat (go_quiet (fail); try go_wp2)
               go_roundg k3
               case measure => have := HK1.out; have := HJ8.out; have := HK3.out; omega
               case rel => exact ⟨(x3_1), (wrap64 (x5_1 + 1)), (by first | rfl | (simp; done) | (simp [*]; done)), H', ⟨by have := HK1.out; have := HJ8.out; have := HK3.out; omega⟩, ⟨by (with_reducible repeat (first | apply Kd.R_alloc | apply Kd.R_drewN | apply Kd.R_drew)); exact Kd.R_mono HO_3.out (fun _ hk => trivial)⟩, ⟨by repeat (first | (with_reducible first | exact HB.out | apply below_alloc | apply pw_below_drewN | apply below_drew1) | exact HB.out)⟩⟩
     · rw [if_neg c7] at H
       have c7b0 : decide (x5_1 < 2) = false := decide_eq_false c7
       clear c7
       replace H := Option.bind_eq_some_iff.mp H
       obtain ⟨⟨t429, t430⟩, A270, H⟩ := H
       replace H : ((nr_Free.f k1 a0).bind fun bt431 => (if (t429 != bt431.1) = true then (nl_BendPoints.j3 k1 a0 true) else (nl_BendPoints.j3 k1 a0 (t430 != bt431.2)))) = some r := H
       have A27 := Aside0.mk A270
       clear A270
       replace H := Option.bind_eq_some_iff.mp H
       obtain ⟨⟨t431, t432⟩, A280, H⟩ := H
       replace H : (if (t429 != t431) = true then (nl_BendPoints.j3 k1 a0 true) else (nl_BendPoints.j3 k1 a0 (t430 != t432))) = some r := H
       have A28 := Aside0.mk A280
       clear A280
       have HC29 := Aside0.mk H
       clear H
       go_upto_region 18 with (first | (go_at_call 27; (with_reducible refine (bend_Free.calls k1 a0 t429 t430 _ ?side1 A27.out).mono ?_); (case side1 => exact Laid.below HLD.out (by repeat (first | (with_reducible first | exact HB.out | apply below_alloc | apply pw_below_drewN | apply below_drew1) | exact HB.out))); rintro e w30 ⟨rfl, hb⟩; have n0_ := Aside0.mk (Kd.R_below (by (with_reducible repeat (first | apply Kd.R_alloc | apply Kd.R_drewN | apply Kd.R_drew)); exact HO_3.out) hb); have n1_ := Aside0.mk (below_step (by repeat (first | (with_reducible first | exact HB.out | apply below_alloc | apply pw_below_drewN | apply below_drew1) | exact HB.out)) hb); clear HO_3; clear HB; have HO_3 := n0_; have HB := n1_; clear n0_ n1_; (try clear hb); (try clear hb2); (try clear hk); (try clear hi)) | (go_at_call 32; (with_reducible refine (nr_Free.calls k1 a0 t431 t432 _ A28.out).mono ?_); rintro e w31 ⟨rfl, hb⟩; have n0_ := Aside0.mk (Kd.R_below (by (with_reducible repeat (first | apply Kd.R_alloc | apply Kd.R_drewN | apply Kd.R_drew)); exact HO_3.out) hb); have n1_ := Aside0.mk (below_step (by repeat (first | (with_reducible first | exact HB.out | apply below_alloc | apply pw_below_drewN | apply below_drew1) | exact HB.out)) hb); clear HO_3; clear HB; have HO_3 := n0_; have HB := n1_; clear n0_ n1_; (try clear hb); (try clear hb2); (try clear hk); (try clear hi)))
       repeat (go_quiet (first | (go_at_call 27; (with_reducible refine (bend_Free.calls k1 a0 t429 t430 _ ?side1 A27.out).mono ?_); (case side1 => exact Laid.below HLD.out (by repeat (first | (with_reducible first | exact HB.out | apply below_alloc | apply pw_below_drewN | apply below_drew1) | exact HB.out))); rintro e w30 ⟨rfl, hb⟩; have n0_ := Aside0.mk (Kd.R_below (by (with_reducible repeat (first | apply Kd.R_alloc | apply Kd.R_drewN | apply Kd.R_drew)); exact HO_3.out) hb); have n1_ := Aside0.mk (below_step (by repeat (first | (with_reducible first | exact HB.out | apply below_alloc | apply pw_below_drewN | apply below_drew1) | exact HB.out)) hb); clear HO_3; clear HB; have HO_3 := n0_; have HB := n1_; clear n0_ n1_; (try clear hb); (try clear hb2); (try clear hk); (try clear hi)) | (go_at_call 32; (with_reducible refine (nr_Free.calls k1 a0 t431 t432 _ A28.out).mono ?_); rintro e w31 ⟨rfl, hb⟩; have n0_ := Aside0.mk (Kd.R_below (by (with_reducible repeat (first | apply Kd.R_alloc | apply Kd.R_drewN | apply Kd.R_drew)); exact HO_3.out) hb); have n1_ := Aside0.mk (below_step (by repeat (first | (with_reducible first | exact HB.out | apply below_alloc | apply pw_below_drewN | apply below_drew1) | exact HB.out)) hb); clear HO_3; clear HB; have HO_3 := n0_; have HB := n1_; clear n0_ n1_; (try clear hb); (try clear hb2); (try clear hk); (try clear hi))); go_upto_region 18 with (first | (go_at_call 27; (with_reducible refine (bend_Free.calls k1 a0 t429 t430 _ ?side1 A27.out).mono ?_); (case side1 => exact Laid.below HLD.out (by repeat (first | (with_reducible first | exact HB.out | apply below_alloc | apply pw_below_drewN | apply below_drew1) | exact HB.out))); rintro e w30 ⟨rfl, hb⟩; have n0_ := Aside0.mk (Kd.R_below (by (with_reducible repeat (first | apply Kd.R_alloc | apply Kd.R_drewN | apply Kd.R_drew)); exact HO_3.out) hb); have n1_ := Aside0.mk (below_step (by repeat (first | (with_reducible first | exact HB.out | apply below_alloc | apply pw_below_drewN | apply below_drew1) | exact HB.out)) hb); clear HO_3; clear HB; have HO_3 := n0_; have HB := n1_; clear n0_ n1_; (try clear hb); (try clear hb2); (try clear hk); (try clear hi)) | (go_at_call 32; (with_reducible refine (nr_Free.calls k1 a0 t431 t432 _ A28.out).mono ?_); rintro e w31 ⟨rfl, hb⟩; have n0_ := Aside0.mk (Kd.R_below (by (with_reducible repeat (first | apply Kd.R_alloc | apply Kd.R_drewN | apply Kd.R_drew)); exact HO_3.out) hb); have n1_ := Aside0.mk (below_step (by repeat (first | (with_reducible first | exact HB.out | apply below_alloc | apply pw_below_drewN | apply below_drew1) | exact HB.out)) hb); clear HO_3; clear HB; have HO_3 := n0_; have HB := n1_; clear n0_ n1_; (try clear hb); (try clear hb2); (try clear hk); (try clear hi))))
       (try simp only [Act.put, List.setIfInBounds_toArray, List.set_cons_zero, List.set_cons_succ])
       go_cut [80] (fun v80 wc => ∃ (kq : Nat) (x80_28 : Bool), v80 = .bool x80_28 ∧ Aside0 (nl_BendPoints.j3 kq a0 x80_28 = some r) ∧ Aside0 (kq ≤ k1) ∧ Aside0 (Below w.heap.size w wc))
       case first =>
        have H := HC29.out
        clear HC29
        by_cases c32 : (t429 != t431) = true
        · rw [if_pos c32] at H
          have c32b0 : (t429 != t431) = true := c32
          (try (have c32b1 : decide (t429 = t431) = false := by simpa using c32))
          (try (have c32b2 : (t429 == t431) = false := by simpa using c32))
          (try (have c32b3 : ¬ (t429 = t431) := by simpa using c32))
          clear c32
          (first | rw [c32b0] | (simp only [i64_w, i32_w]; rw [c32b0]) | skip)
          have H' := Aside0.mk H
          clear H
          go_wp2
          repeat (go_quiet (fail); try go_wp2)
          go_meet
          case rel => exact ⟨_, (true), (by first | rfl | (simp; done) | (simp [*]; done)), H', ⟨by have := HK1.out; first | omega | exact Nat.le_refl _⟩, ⟨by repeat (first | (with_reducible first | exact HB.out | apply below_alloc | apply pw_below_drewN | apply below_drew1) | exact HB.out)⟩⟩
        · rw [if_neg c32] at H
          have c32b0 : (t429 != t431) = false := by simpa using c32
          (try (have c32b1 : decide (t429 = t431) = true := by simpa using c32))
          (try (have c32b2 : (t429 == t431) = true := by simpa using c32))
          clear c32
          (first | rw [c32b0] | (simp only [i64_w, i32_w]; rw [c32b0]) | skip)
          have H' := Aside0.mk H
          clear H
          go_wp2
          repeat (go_quiet (fail); try go_wp2)
          go_meet
          case rel => exact ⟨_, ((t430 != t432)), (by first | rfl | (simp; done) | (simp [*]; done)), H', ⟨by have := HK1.out; first | omega | exact Nat.le_refl _⟩, ⟨by repeat (first | (with_reducible first | exact HB.out | apply below_alloc | apply pw_below_drewN | apply below_drew1) | exact HB.out)⟩⟩
       case rest =>
        clear HC29
        try clear c1
        try clear c2
        try clear c2b0
        try clear c2b1
        try clear p2
        try clear q2
        try clear hx2
        try clear hf2
        try clear c3
        try clear p4
        try clear q4
        try clear hx4
        try clear p6
        try clear c7
        try clear c7b0
        try clear c11
        try clear c11b0
        try clear c11b1
        try clear c12
        try clear c14
        try clear c15
        try clear c15b0
        try clear c16
        try clear c16b0
        try clear c17
        try clear c17b0
        try clear c18
        try clear c18b0
        try clear c21
        try clear p21
        try clear q21
        try clear hx21
        try clear hf21
        try clear c24
        try clear hx24
        try clear hf24
        try clear c32
        try clear c32b0
        try clear c32b1
        try clear c32b2
        try clear hx21_0
        try clear hx21_1
        try clear hx24_0
        try clear hx426_0
        try clear hx426_1
        try clear hx427_0
        try clear hx427_1
        try clear p2
        try clear p21
        try clear p426
        try clear p427
        try clear q21
        try clear q426
        try clear q427
        obtain ⟨kq, x80_28, rfl, HA, HJ28, HB⟩ := hcut
        cases kq with
        | zero => exact absurd HA.out (by simp [nl_BendPoints.j3])
        | succ kj28 =>
         have H := HA.out
         clear HA
         simp only [nl_BendPoints.j3] at H
         by_cases c33 : x80_28 = true
         · subst c33
           have H1 : (some false) = some r := by rw [if_pos rfl] at H; exact H
           clear H
           have H := H1
           clear H1
           obtain rfl := Option.some.inj H
           go_wp2
           repeat (go_quiet (fail); try go_wp2)
           go_ret
           exact ⟨by first | rfl | (simp [errW_none, errW_some] <;> rfl) | (simp [*, errW_none, errW_some] <;> rfl), by repeat (first | (with_reducible first | exact HB.out | apply below_alloc | apply pw_below_drewN | apply below_drew1) | exact HB.out)⟩
         · replace c33 := Bool.eq_false_iff.mpr c33
           subst c33
           have H1 : ((bend_Box.f a0).bind fun bt433 => ((nr_Box.f kj28 a0).bind fun bt436 => (if bt433.1 = bt436.1 then (if bt433.2.1 = bt436.2.1 then (nl_BendPoints.j4 kj28 a0 (bt433.2.2 != bt436.2.2)) else (nl_BendPoints.j4 kj28 a0 true)) else (nl_BendPoints.j4 kj28 a0 true)))) = some r := by rw [if_neg (show ¬ (false = true) by decide)] at H; exact H
           clear H
           have H := H1
           clear H1
           replace H := Option.bind_eq_some_iff.mp H
           obtain ⟨⟨t433, t434, t435⟩, A340, H⟩ := H
           replace H : ((nr_Box.f kj28 a0).bind fun bt436 => (if t433 = bt436.1 then (if t434 = bt436.2.1 then (nl_BendPoints.j4 kj28 a0 (t435 != bt436.2.2)) else (nl_BendPoints.j4 kj28 a0 true)) else (nl_BendPoints.j4 kj28 a0 true))) = some r := H
           have A34 := Aside0.mk A340
           clear A340
           replace H := Option.bind_eq_some_iff.mp H
           obtain ⟨⟨t436, t437, t438⟩, A350, H⟩ := H
           replace H : (if t433 = t436 then (if t434 = t437 then (nl_BendPoints.j4 kj28 a0 (t435 != t438)) else (nl_BendPoints.j4 kj28 a0 true)) else (nl_BendPoints.j4 kj28 a0 true)) = some r := H
           have A35 := Aside0.mk A350
           clear A350
           have HC36 := Aside0.mk H
           clear H
           go_upto_region 22 with (first | (go_at_call 28; (with_reducible refine (bend_Box.calls a0 t433 t434 t435 _ ?side1 A34.out).mono ?_); (case side1 => exact Laid.below HLD.out (by repeat (first | (with_reducible first | exact HB.out | apply below_alloc | apply pw_below_drewN | apply below_drew1) | exact HB.out))); rintro e w37 ⟨rfl, hb⟩; have n0_ := Aside0.mk (below_step (by repeat (first | (with_reducible first | exact HB.out | apply below_alloc | apply pw_below_drewN | apply below_drew1) | exact HB.out)) hb); clear HB; have HB := n0_; clear n0_; (try clear hb); (try clear hb2); (try clear hk); (try clear hi)) | (go_at_call 33; (with_reducible refine (nr_Box.calls kj28 a0 t436 t437 t438 _ A35.out).mono ?_); rintro e w38 ⟨rfl, hb⟩; have n0_ := Aside0.mk (below_step (by repeat (first | (with_reducible first | exact HB.out | apply below_alloc | apply pw_below_drewN | apply below_drew1) | exact HB.out)) hb); clear HB; have HB := n0_; clear n0_; (try clear hb); (try clear hb2); (try clear hk); (try clear hi)))
           repeat (go_quiet (first | (go_at_call 28; (with_reducible refine (bend_Box.calls a0 t433 t434 t435 _ ?side1 A34.out).mono ?_); (case side1 => exact Laid.below HLD.out (by repeat (first | (with_reducible first | exact HB.out | apply below_alloc | apply pw_below_drewN | apply below_drew1) | exact HB.out))); rintro e w37 ⟨rfl, hb⟩; have n0_ := Aside0.mk (below_step (by repeat (first | (with_reducible first | exact HB.out | apply below_alloc | apply pw_below_drewN | apply below_drew1) | exact HB.out)) hb); clear HB; have HB := n0_; clear n0_; (try clear hb); (try clear hb2); (try clear hk); (try clear hi)) | (go_at_call 33; (with_reducible refine (nr_Box.calls kj28 a0 t436 t437 t438 _ A35.out).mono ?_); rintro e w38 ⟨rfl, hb⟩; have n0_ := Aside0.mk (below_step (by repeat (first | (with_reducible first | exact HB.out | apply below_alloc | apply pw_below_drewN | apply below_drew1) | exact HB.out)) hb); clear HB; have HB := n0_; clear n0_; (try clear hb); (try clear hb2); (try clear hk); (try clear hi))); go_upto_region 22 with (first | (go_at_call 28; (with_reducible refine (bend_Box.calls a0 t433 t434 t435 _ ?side1 A34.out).mono ?_); (case side1 => exact Laid.below HLD.out (by repeat (first | (with_reducible first | exact HB.out | apply below_alloc | apply pw_below_drewN | apply below_drew1) | exact HB.out))); rintro e w37 ⟨rfl, hb⟩; have n0_ := Aside0.mk (below_step (by repeat (first | (with_reducible first | exact HB.out | apply below_alloc | apply pw_below_drewN | apply below_drew1) | exact HB.out)) hb); clear HB; have HB := n0_; clear n0_; (try clear hb); (try clear hb2); (try clear hk); (try clear hi)) | (go_at_call 33; (with_reducible refine (nr_Box.calls kj28 a0 t436 t437 t438 _ A35.out).mono ?_); rintro e w38 ⟨rfl, hb⟩; have n0_ := Aside0.mk (below_step (by repeat (first | (with_reducible first | exact HB.out | apply below_alloc | apply pw_below_drewN | apply below_drew1) | exact HB.out)) hb); clear HB; have HB := n0_; clear n0_; (try clear hb); (try clear hb2); (try clear hk); (try clear hi))))
           (try simp only [Act.put, List.setIfInBounds_toArray, List.set_cons_zero, List.set_cons_succ])
           go_cut [105] (fun v105 wc => ∃ (kq : Nat) (x105_35 : Bool), v105 = .bool x105_35 ∧ Aside0 (nl_BendPoints.j4 kq a0 x105_35 = some r) ∧ Aside0 (kq ≤ kj28) ∧ Aside0 (Below w.heap.size w wc))
           case first =>
            have H := HC36.out
            clear HC36
            by_cases c39 : t433 = t436
            · rw [if_pos c39] at H
              have c39b0 : (t433 == t436) = true := beq_iff_eq.mpr c39
              have c39b1 : (t433 != t436) = false := bne_eq_false_iff_eq.mpr c39
              clear c39
              (first | rw [c39b0] | (simp only [i64_w, i32_w]; rw [c39b0]) | skip)
              by_cases c40 : t434 = t437
              · rw [if_pos c40] at H
                have c40b0 : (t434 == t437) = true := beq_iff_eq.mpr c40
                have c40b1 : (t434 != t437) = false := bne_eq_false_iff_eq.mpr c40
                clear c40
                have H' := Aside0.mk H
                clear H
                go_wp2
                repeat (go_quiet (fail); try go_wp2)
                go_meet
                case rel => exact ⟨_, ((t435 != t438)), (by first | rfl | (simp; done) | (simp [*]; done)), H', ⟨by have := HK1.out; have := HJ28.out; first | omega | exact Nat.le_refl _⟩, ⟨by repeat (first | (with_reducible first | exact HB.out | apply below_alloc | apply pw_below_drewN | apply below_drew1) | exact HB.out)⟩⟩
              · rw [if_neg c40] at H
                have c40b0 : (t434 == t437) = false := beq_eq_false_iff_ne.mpr c40
                have c40b1 : (t434 != t437) = true := bne_iff_ne.mpr c40
                have H' := Aside0.mk H
                clear H
                go_wp2
                repeat (go_quiet (fail); try go_wp2)
                go_meet
                case rel => exact ⟨_, (true), (by first | rfl | (simp; done) | (simp [*]; done)), H', ⟨by have := HK1.out; have := HJ28.out; first | omega | exact Nat.le_refl _⟩, ⟨by repeat (first | (with_reducible first | exact HB.out | apply below_alloc | apply pw_below_drewN | apply below_drew1) | exact HB.out)⟩⟩
            · rw [if_neg c39] at H
              have c39b0 : (t433 == t436) = false := beq_eq_false_iff_ne.mpr c39
              have c39b1 : (t433 != t436) = true := bne_iff_ne.mpr c39
              (first | rw [c39b0] | (simp only [i64_w, i32_w]; rw [c39b0]) | skip)
              have H' := Aside0.mk H
              clear H
              go_wp2
              repeat (go_quiet (fail); try go_wp2)
              go_meet
              case rel => exact ⟨_, (true), (by first | rfl | (simp; done) | (simp [*]; done)), H', ⟨by have := HK1.out; have := HJ28.out; first | omega | exact Nat.le_refl _⟩, ⟨by repeat (first | (with_reducible first | exact HB.out | apply below_alloc | apply pw_below_drewN | apply below_drew1) | exact HB.out)⟩⟩
           case rest =>
            clear HC36
            try clear c1
            try clear c2
            try clear c2b0
            try clear c2b1
            try clear p2
            try clear q2
            try clear hx2
            try clear hf2
            try clear c3
            try clear c4
            try clear p4
            try clear q4
            try clear hx4
            try clear p6
            try clear c7
            try clear c7b0
            try clear c11
            try clear c11b0
            try clear c11b1
            try clear c12
            try clear c14
            try clear c15
            try clear c15b0
            try clear c16
            try clear c16b0
            try clear c17
            try clear c17b0
            try clear c18
            try clear c18b0
            try clear c21
            try clear p21
            try clear q21
            try clear hx21
            try clear hf21
            try clear c24
            try clear hx24
            try clear hf24
            try clear c32
            try clear c32b0
            try clear c32b1
            try clear c32b2
            try clear c33
            try clear c39
            try clear c39b0
            try clear c39b1
            try clear c40
            try clear c40b0
            try clear c40b1
            try clear hx21_0
            try clear hx21_1
            try clear hx24_0
            try clear hx426_0
            try clear hx426_1
            try clear hx427_0
            try clear hx427_1
            try clear p2
            try clear p21
            try clear p4
            try clear p426
            try clear p427
            try clear p6
            try clear q2
            try clear q21
            try clear q4
            try clear q426
            try clear q427
            obtain ⟨kq, x105_35, rfl, HA, HJ35, HB⟩ := hcut
            cases kq with
            | zero => exact absurd HA.out (by simp [nl_BendPoints.j4])
            | succ kj35 =>
             have H := HA.out
             clear HA
             simp only [nl_BendPoints.j4] at H
             by_cases c41 : x105_35 = true
             · subst c41
               have H1 : (some false) = some r := by rw [if_pos rfl] at H; exact H
               clear H
               have H := H1
               clear H1
               obtain rfl := Option.some.inj H
               go_wp2
               repeat (go_quiet (fail); try go_wp2)
               go_ret
               exact ⟨by first | rfl | (simp [errW_none, errW_some] <;> rfl) | (simp [*, errW_none, errW_some] <;> rfl), by repeat (first | (with_reducible first | exact HB.out | apply below_alloc | apply pw_below_drewN | apply below_drew1) | exact HB.out)⟩
             · replace c41 := Bool.eq_false_iff.mpr c41
               subst c41
               have H1 : ((bend_Meet.f kj35 a0).bind fun bt439 => ((nr_Meet.f kj35 a0).bind fun bt442 => (if bt439.1 = bt442.1 then (if bt439.2.1 = bt442.2.1 then (if bt439.2.2 = bt442.2.2 then ((nl_alive.f kj35).bind fun t445 => (some t445)) else (some false)) else (some false)) else (some false)))) = some r := by rw [if_neg (show ¬ (false = true) by decide)] at H; exact H
               clear H
               have H := H1
               clear H1
               replace H := Option.bind_eq_some_iff.mp H
               obtain ⟨⟨t439, t440, t441⟩, A420, H⟩ := H
               replace H : ((nr_Meet.f kj35 a0).bind fun bt442 => (if t439 = bt442.1 then (if t440 = bt442.2.1 then (if t441 = bt442.2.2 then ((nl_alive.f kj35).bind fun t445 => (some t445)) else (some false)) else (some false)) else (some false))) = some r := H
               have A42 := Aside0.mk A420
               clear A420
               replace H := Option.bind_eq_some_iff.mp H
               obtain ⟨⟨t442, t443, t444⟩, A430, H⟩ := H
               replace H : (if t439 = t442 then (if t440 = t443 then (if t441 = t444 then ((nl_alive.f kj35).bind fun t445 => (some t445)) else (some false)) else (some false)) else (some false)) = some r := H
               have A43 := Aside0.mk A430
               clear A430
               by_cases c44 : t439 = t442
               · rw [if_pos c44] at H
                 have c44b0 : (t439 == t442) = true := beq_iff_eq.mpr c44
                 have c44b1 : (t439 != t442) = false := bne_eq_false_iff_eq.mpr c44
                 clear c44
                 by_cases c45 : t440 = t443
                 · rw [if_pos c45] at H
                   have c45b0 : (t440 == t443) = true := beq_iff_eq.mpr c45
                   have c45b1 : (t440 != t443) = false := bne_eq_false_iff_eq.mpr c45
                   clear c45
                   by_cases c46 : t441 = t444
                   · rw [if_pos c46] at H
                     have c46b0 : (t441 == t444) = true := beq_iff_eq.mpr c46
                     have c46b1 : (t441 != t444) = false := bne_eq_false_iff_eq.mpr c46
                     clear c46
                     replace H := Option.bind_eq_some_iff.mp H
                     obtain ⟨t445, A470, H⟩ := H
                     replace H : (some t445) = some r := H
                     have A47 := Aside0.mk A470
                     clear A470
                     obtain rfl := Option.some.inj H
                     go_wp2_with (first | (go_at_call 34; (with_reducible refine (bend_Meet.calls kj35 a0 t439 t440 t441 _ ?side1 A42.out).mono ?_); (case side1 => exact Laid.below HLD.out (by repeat (first | (with_reducible first | exact HB.out | apply below_alloc | apply pw_below_drewN | apply below_drew1) | exact HB.out))); rintro e w48 ⟨rfl, hb⟩; have n0_ := Aside0.mk (below_step (by repeat (first | (with_reducible first | exact HB.out | apply below_alloc | apply pw_below_drewN | apply below_drew1) | exact HB.out)) hb); clear HB; have HB := n0_; clear n0_; (try clear hb); (try clear hb2); (try clear hk); (try clear hi)) | (go_at_call 35; (with_reducible refine (nr_Meet.calls kj35 a0 t442 t443 t444 _ A43.out).mono ?_); rintro e w49 ⟨rfl, hb⟩; have n0_ := Aside0.mk (below_step (by repeat (first | (with_reducible first | exact HB.out | apply below_alloc | apply pw_below_drewN | apply below_drew1) | exact HB.out)) hb); clear HB; have HB := n0_; clear n0_; (try clear hb); (try clear hb2); (try clear hk); (try clear hi)) | (go_at_call 15; (with_reducible refine (nl_alive.calls kj35  t445 _ ?side1 A47.out).mono ?_); (case side1 => exact Laid.below HLD.out (by repeat (first | (with_reducible first | exact HB.out | apply below_alloc | apply pw_below_drewN | apply below_drew1) | exact HB.out))); rintro e w50 ⟨rfl, hb⟩; have n0_ := Aside0.mk (below_step (by repeat (first | (with_reducible first | exact HB.out | apply below_alloc | apply pw_below_drewN | apply below_drew1) | exact HB.out)) hb); clear HB; have HB := n0_; clear n0_; (try clear hb); (try clear hb2); (try clear hk); (try clear hi)))
                     repeat (go_quiet (first | (go_at_call 34; (with_reducible refine (bend_Meet.calls kj35 a0 t439 t440 t441 _ ?side1 A42.out).mono ?_); (case side1 => exact Laid.below HLD.out (by repeat (first | (with_reducible first | exact HB.out | apply below_alloc | apply pw_below_drewN | apply below_drew1) | exact HB.out))); rintro e w48 ⟨rfl, hb⟩; have n0_ := Aside0.mk (below_step (by repeat (first | (with_reducible first | exact HB.out | apply below_alloc | apply pw_below_drewN | apply below_drew1) | exact HB.out)) hb); clear HB; have HB := n0_; clear n0_; (try clear hb); (try clear hb2); (try clear hk); (try clear hi)) | (go_at_call 35; (with_reducible refine (nr_Meet.calls kj35 a0 t442 t443 t444 _ A43.out).mono ?_); rintro e w49 ⟨rfl, hb⟩; have n0_ := Aside0.mk (below_step (by repeat (first | (with_reducible first | exact HB.out | apply below_alloc | apply pw_below_drewN | apply below_drew1) | exact HB.out)) hb); clear HB; have HB := n0_; clear n0_; (try clear hb); (try clear hb2); (try clear hk); (try clear hi)) | (go_at_call 15; (with_reducible refine (nl_alive.calls kj35  t445 _ ?side1 A47.out).mono ?_); (case side1 => exact Laid.below HLD.out (by repeat (first | (with_reducible first | exact HB.out | apply below_alloc | apply pw_below_drewN | apply below_drew1) | exact HB.out))); rintro e w50 ⟨rfl, hb⟩; have n0_ := Aside0.mk (below_step (by repeat (first | (with_reducible first | exact HB.out | apply below_alloc | apply pw_below_drewN | apply below_drew1) | exact HB.out)) hb); clear HB; have HB := n0_; clear n0_; (try clear hb); (try clear hb2); (try clear hk); (try clear hi))); try go_wp2_with (first | (go_at_call 34; (with_reducible refine (bend_Meet.calls kj35 a0 t439 t440 t441 _ ?side1 A42.out).mono ?_); (case side1 => exact Laid.below HLD.out (by repeat (first | (with_reducible first | exact HB.out | apply below_alloc | apply pw_below_drewN | apply below_drew1) | exact HB.out))); rintro e w48 ⟨rfl, hb⟩; have n0_ := Aside0.mk (below_step (by repeat (first | (with_reducible first | exact HB.out | apply below_alloc | apply pw_below_drewN | apply below_drew1) | exact HB.out)) hb); clear HB; have HB := n0_; clear n0_; (try clear hb); (try clear hb2); (try clear hk); (try clear hi)) | (go_at_call 35; (with_reducible refine (nr_Meet.calls kj35 a0 t442 t443 t444 _ A43.out).mono ?_); rintro e w49 ⟨rfl, hb⟩; have n0_ := Aside0.mk (below_step (by repeat (first | (with_reducible first | exact HB.out | apply below_alloc | apply pw_below_drewN | apply below_drew1) | exact HB.out)) hb); clear HB; have HB := n0_; clear n0_; (try clear hb); (try clear hb2); (try clear hk); (try clear hi)) | (go_at_call 15; (with_reducible refine (nl_alive.calls kj35  t445 _ ?side1 A47.out).mono ?_); (case side1 => exact Laid.below HLD.out (by repeat (first | (with_reducible first | exact HB.out | apply below_alloc | apply pw_below_drewN | apply below_drew1) | exact HB.out))); rintro e w50 ⟨rfl, hb⟩; have n0_ := Aside0.mk (below_step (by repeat (first | (with_reducible first | exact HB.out | apply below_alloc | apply pw_below_drewN | apply below_drew1) | exact HB.out)) hb); clear HB; have HB := n0_; clear n0_; (try clear hb); (try clear hb2); (try clear hk); (try clear hi))))
                     go_ret
                     exact ⟨by first | rfl | (simp [errW_none, errW_some] <;> rfl) | (simp [*, errW_none, errW_some] <;> rfl), by repeat (first | (with_reducible first | exact HB.out | apply below_alloc | apply pw_below_drewN | apply below_drew1) | exact HB.out)⟩
                   · rw [if_neg c46] at H
                     have c46b0 : (t441 == t444) = false := beq_eq_false_iff_ne.mpr c46
                     have c46b1 : (t441 != t444) = true := bne_iff_ne.mpr c46
                     obtain rfl := Option.some.inj H
                     go_wp2_with (first | (go_at_call 34; (with_reducible refine (bend_Meet.calls kj35 a0 t439 t440 t441 _ ?side1 A42.out).mono ?_); (case side1 => exact Laid.below HLD.out (by repeat (first | (with_reducible first | exact HB.out | apply below_alloc | apply pw_below_drewN | apply below_drew1) | exact HB.out))); rintro e w51 ⟨rfl, hb⟩; have n0_ := Aside0.mk (below_step (by repeat (first | (with_reducible first | exact HB.out | apply below_alloc | apply pw_below_drewN | apply below_drew1) | exact HB.out)) hb); clear HB; have HB := n0_; clear n0_; (try clear hb); (try clear hb2); (try clear hk); (try clear hi)) | (go_at_call 35; (with_reducible refine (nr_Meet.calls kj35 a0 t442 t443 t444 _ A43.out).mono ?_); rintro e w52 ⟨rfl, hb⟩; have n0_ := Aside0.mk (below_step (by repeat (first | (with_reducible first | exact HB.out | apply below_alloc | apply pw_below_drewN | apply below_drew1) | exact HB.out)) hb); clear HB; have HB := n0_; clear n0_; (try clear hb); (try clear hb2); (try clear hk); (try clear hi)))
                     repeat (go_quiet (first | (go_at_call 34; (with_reducible refine (bend_Meet.calls kj35 a0 t439 t440 t441 _ ?side1 A42.out).mono ?_); (case side1 => exact Laid.below HLD.out (by repeat (first | (with_reducible first | exact HB.out | apply below_alloc | apply pw_below_drewN | apply below_drew1) | exact HB.out))); rintro e w51 ⟨rfl, hb⟩; have n0_ := Aside0.mk (below_step (by repeat (first | (with_reducible first | exact HB.out | apply below_alloc | apply pw_below_drewN | apply below_drew1) | exact HB.out)) hb); clear HB; have HB := n0_; clear n0_; (try clear hb); (try clear hb2); (try clear hk); (try clear hi)) | (go_at_call 35; (with_reducible refine (nr_Meet.calls kj35 a0 t442 t443 t444 _ A43.out).mono ?_); rintro e w52 ⟨rfl, hb⟩; have n0_ := Aside0.mk (below_step (by repeat (first | (with_reducible first | exact HB.out | apply below_alloc | apply pw_below_drewN | apply below_drew1) | exact HB.out)) hb); clear HB; have HB := n0_; clear n0_; (try clear hb); (try clear hb2); (try clear hk); (try clear hi))); try go_wp2_with (first | (go_at_call 34; (with_reducible refine (bend_Meet.calls kj35 a0 t439 t440 t441 _ ?side1 A42.out).mono ?_); (case side1 => exact Laid.below HLD.out (by repeat (first | (with_reducible first | exact HB.out | apply below_alloc | apply pw_below_drewN | apply below_drew1) | exact HB.out))); rintro e w51 ⟨rfl, hb⟩; have n0_ := Aside0.mk (below_step (by repeat (first | (with_reducible first | exact HB.out | apply below_alloc | apply pw_below_drewN | apply below_drew1) | exact HB.out)) hb); clear HB; have HB := n0_; clear n0_; (try clear hb); (try clear hb2); (try clear hk); (try clear hi)) | (go_at_call 35; (with_reducible refine (nr_Meet.calls kj35 a0 t442 t443 t444 _ A43.out).mono ?_); rintro e w52 ⟨rfl, hb⟩; have n0_ := Aside0.mk (below_step (by repeat (first | (with_reducible first | exact HB.out | apply below_alloc | apply pw_below_drewN | apply below_drew1) | exact HB.out)) hb); clear HB; have HB := n0_; clear n0_; (try clear hb); (try clear hb2); (try clear hk); (try clear hi))))
                     go_ret
                     exact ⟨by first | rfl | (simp [errW_none, errW_some] <;> rfl) | (simp [*, errW_none, errW_some] <;> rfl), by repeat (first | (with_reducible first | exact HB.out | apply below_alloc | apply pw_below_drewN | apply below_drew1) | exact HB.out)⟩
                 · rw [if_neg c45] at H
                   have c45b0 : (t440 == t443) = false := beq_eq_false_iff_ne.mpr c45
                   have c45b1 : (t440 != t443) = true := bne_iff_ne.mpr c45
                   obtain rfl := Option.some.inj H
                   go_wp2_with (first | (go_at_call 34; (with_reducible refine (bend_Meet.calls kj35 a0 t439 t440 t441 _ ?side1 A42.out).mono ?_); (case side1 => exact Laid.below HLD.out (by repeat (first | (with_reducible first | exact HB.out | apply below_alloc | apply pw_below_drewN | apply below_drew1) | exact HB.out))); rintro e w53 ⟨rfl, hb⟩; have n0_ := Aside0.mk (below_step (by repeat (first | (with_reducible first | exact HB.out | apply below_alloc | apply pw_below_drewN | apply below_drew1) | exact HB.out)) hb); clear HB; have HB := n0_; clear n0_; (try clear hb); (try clear hb2); (try clear hk); (try clear hi)) | (go_at_call 35; (with_reducible refine (nr_Meet.calls kj35 a0 t442 t443 t444 _ A43.out).mono ?_); rintro e w54 ⟨rfl, hb⟩; have n0_ := Aside0.mk (below_step (by repeat (first | (with_reducible first | exact HB.out | apply below_alloc | apply pw_below_drewN | apply below_drew1) | exact HB.out)) hb); clear HB; have HB := n0_; clear n0_; (try clear hb); (try clear hb2); (try clear hk); (try clear hi)))
                   repeat (go_quiet (first | (go_at_call 34; (with_reducible refine (bend_Meet.calls kj35 a0 t439 t440 t441 _ ?side1 A42.out).mono ?_); (case side1 => exact Laid.below HLD.out (by repeat (first | (with_reducible first | exact HB.out | apply below_alloc | apply pw_below_drewN | apply below_drew1) | exact HB.out))); rintro e w53 ⟨rfl, hb⟩; have n0_ := Aside0.mk (below_step (by repeat (first | (with_reducible first | exact HB.out | apply below_alloc | apply pw_below_drewN | apply below_drew1) | exact HB.out)) hb); clear HB; have HB := n0_; clear n0_; (try clear hb); (try clear hb2); (try clear hk); (try clear hi)) | (go_at_call 35; (with_reducible refine (nr_Meet.calls kj35 a0 t442 t443 t444 _ A43.out).mono ?_); rintro e w54 ⟨rfl, hb⟩; have n0_ := Aside0.mk (below_step (by repeat (first | (with_reducible first | exact HB.out | apply below_alloc | apply pw_below_drewN | apply below_drew1) | exact HB.out)) hb); clear HB; have HB := n0_; clear n0_; (try clear hb); (try clear hb2); (try clear hk); (try clear hi))); try go_wp2_with (first | (go_at_call 34; (with_reducible refine (bend_Meet.calls kj35 a0 t439 t440 t441 _ ?side1 A42.out).mono ?_); (case side1 => exact Laid.below HLD.out (by repeat (first | (with_reducible first | exact HB.out | apply below_alloc | apply pw_below_drewN | apply below_drew1) | exact HB.out))); rintro e w53 ⟨rfl, hb⟩; have n0_ := Aside0.mk (below_step (by repeat (first | (with_reducible first | exact HB.out | apply below_alloc | apply pw_below_drewN | apply below_drew1) | exact HB.out)) hb); clear HB; have HB := n0_; clear n0_; (try clear hb); (try clear hb2); (try clear hk); (try clear hi)) | (go_at_call 35; (with_reducible refine (nr_Meet.calls kj35 a0 t442 t443 t444 _ A43.out).mono ?_); rintro e w54 ⟨rfl, hb⟩; have n0_ := Aside0.mk (below_step (by repeat (first | (with_reducible first | exact HB.out | apply below_alloc | apply pw_below_drewN | apply below_drew1) | exact HB.out)) hb); clear HB; have HB := n0_; clear n0_; (try clear hb); (try clear hb2); (try clear hk); (try clear hi))))
                   go_ret
                   exact ⟨by first | rfl | (simp [errW_none, errW_some] <;> rfl) | (simp [*, errW_none, errW_some] <;> rfl), by repeat (first | (with_reducible first | exact HB.out | apply below_alloc | apply pw_below_drewN | apply below_drew1) | exact HB.out)⟩
               · rw [if_neg c44] at H
                 have c44b0 : (t439 == t442) = false := beq_eq_false_iff_ne.mpr c44
                 have c44b1 : (t439 != t442) = true := bne_iff_ne.mpr c44
                 obtain rfl := Option.some.inj H
                 go_wp2_with (first | (go_at_call 34; (with_reducible refine (bend_Meet.calls kj35 a0 t439 t440 t441 _ ?side1 A42.out).mono ?_); (case side1 => exact Laid.below HLD.out (by repeat (first | (with_reducible first | exact HB.out | apply below_alloc | apply pw_below_drewN | apply below_drew1) | exact HB.out))); rintro e w55 ⟨rfl, hb⟩; have n0_ := Aside0.mk (below_step (by repeat (first | (with_reducible first | exact HB.out | apply below_alloc | apply pw_below_drewN | apply below_drew1) | exact HB.out)) hb); clear HB; have HB := n0_; clear n0_; (try clear hb); (try clear hb2); (try clear hk); (try clear hi)) | (go_at_call 35; (with_reducible refine (nr_Meet.calls kj35 a0 t442 t443 t444 _ A43.out).mono ?_); rintro e w56 ⟨rfl, hb⟩; have n0_ := Aside0.mk (below_step (by repeat (first | (with_reducible first | exact HB.out | apply below_alloc | apply pw_below_drewN | apply below_drew1) | exact HB.out)) hb); clear HB; have HB := n0_; clear n0_; (try clear hb); (try clear hb2); (try clear hk); (try clear hi)))
                 repeat (go_quiet (first | (go_at_call 34; (with_reducible refine (bend_Meet.calls kj35 a0 t439 t440 t441 _ ?side1 A42.out).mono ?_); (case side1 => exact Laid.below HLD.out (by repeat (first | (with_reducible first | exact HB.out | apply below_alloc | apply pw_below_drewN | apply below_drew1) | exact HB.out))); rintro e w55 ⟨rfl, hb⟩; have n0_ := Aside0.mk (below_step (by repeat (first | (with_reducible first | exact HB.out | apply below_alloc | apply pw_below_drewN | apply below_drew1) | exact HB.out)) hb); clear HB; have HB := n0_; clear n0_; (try clear hb); (try clear hb2); (try clear hk); (try clear hi)) | (go_at_call 35; (with_reducible refine (nr_Meet.calls kj35 a0 t442 t443 t444 _ A43.out).mono ?_); rintro e w56 ⟨rfl, hb⟩; have n0_ := Aside0.mk (below_step (by repeat (first | (with_reducible first | exact HB.out | apply below_alloc | apply pw_below_drewN | apply below_drew1) | exact HB.out)) hb); clear HB; have HB := n0_; clear n0_; (try clear hb); (try clear hb2); (try clear hk); (try clear hi))); try go_wp2_with (first | (go_at_call 34; (with_reducible refine (bend_Meet.calls kj35 a0 t439 t440 t441 _ ?side1 A42.out).mono ?_); (case side1 => exact Laid.below HLD.out (by repeat (first | (with_reducible first | exact HB.out | apply below_alloc | apply pw_below_drewN | apply below_drew1) | exact HB.out))); rintro e w55 ⟨rfl, hb⟩; have n0_ := Aside0.mk (below_step (by repeat (first | (with_reducible first | exact HB.out | apply below_alloc | apply pw_below_drewN | apply below_drew1) | exact HB.out)) hb); clear HB; have HB := n0_; clear n0_; (try clear hb); (try clear hb2); (try clear hk); (try clear hi)) | (go_at_call 35; (with_reducible refine (nr_Meet.calls kj35 a0 t442 t443 t444 _ A43.out).mono ?_); rintro e w56 ⟨rfl, hb⟩; have n0_ := Aside0.mk (below_step (by repeat (first | (with_reducible first | exact HB.out | apply below_alloc | apply pw_below_drewN | apply below_drew1) | exact HB.out)) hb); clear HB; have HB := n0_; clear n0_; (try clear hb); (try clear hb2); (try clear hk); (try clear hi))))
                 go_ret
                 exact ⟨by first | rfl | (simp [errW_none, errW_some] <;> rfl) | (simp [*, errW_none, errW_some] <;> rfl), by repeat (first | (with_reducible first | exact HB.out | apply below_alloc | apply pw_below_drewN | apply below_drew1) | exact HB.out)⟩
/-- THE ONE PURE STATEMENT of nl_BendPoints: yours. -/
def nl_BendPoints.Pure : Prop := ∀ (a0 : ByteArray), a0.size ≤ 140737488351232 → ∃ k, nl_BendPoints.f k a0 = some true
theorem nl_BendPoints.walk (P : nl_BendPoints.Pure) (a0 : ByteArray) (w : World) (hL : Laid w) (w0 : a0.size ≤ 140737488351232) :
 Calls Tryz.prog 12 #[.string a0] w fun e w' => e = .returned (.bool true) ∧ Below w.heap.size w w' := by
 obtain ⟨k, h⟩ := P a0 w0
 refine (nl_BendPoints.calls k a0 true w hL h).mono ?_
 rintro e w' ⟨rfl, hd⟩
 exact ⟨rfl, hd⟩
end Go.Proofs.YtbdikmcmehbbpaaGreatDoor.Bend
namespace Go.Proofs.YtbdikmcmehbbpaaGreatDoor.Bend
open Go.RowKit Go.Proofs.YtbdikmcmehbbpaaGreatDoorW.PrintWords Go.Proofs.YtbdikmcmehbbpaaGreatDoorW.PrintLast
set_option linter.unusedVariables false
set_option linter.unusedSimpArgs false
theorem refPointsF_eq (S : ByteArray) (k : Nat) (hk : 120 < k) : nr_Points.f k S = some (if Sp.shape (L S) then ((Sp.pts (L S)).map mk49, 0) else ([], 5)) := by
  unfold nr_Points.f
  rw [refShape_eq S k (by omega)]
  simp only [Option.bind_some]
  cases hs : Sp.shape (L S) with
  | false => simp
  | true =>
    obtain ⟨h1, h2, h3⟩ := shape_of hs
    rw [L_length] at h2
    simp only [if_true]
    rw [refPoints_eq S (by omega) k (by omega)]
    simp
theorem points_copy (l : List Sp.Pt) (hl : l.length ≤ 100) (d : Nat) : ∀ (k i : Nat), i + d = l.length → d < k → bend_Points.l0 k ((l.take i).map mk49) (l.map mk73) (l.length : Int) (i : Int) = some (l.map mk49, 0) := by
  induction d with
  | zero =>
    intro k i hi hk
    obtain ⟨k, rfl⟩ : ∃ m, k = m + 1 := ⟨k - 1, by omega⟩
    simp only [bend_Points.l0]
    rw [if_neg (by omega), List.take_of_length_le (by omega)]
  | succ d ih =>
    intro k i hi hk
    obtain ⟨k, rfl⟩ : ∃ m, k = m + 1 := ⟨k - 1, by omega⟩
    have hil : i < l.length := by omega
    have hi4 : i ≤ 4096 := by omega
    have hr : rd_T73 (l.map mk73) (i : Int) = mk73 (l[i]) := by
      unfold rd_T73
      rw [Int.toNat_natCast, List.getD_eq_getElem?_getD, List.getElem?_map, List.getElem?_eq_getElem hil]; rfl
    have h := ih k (i + 1) (by omega) (by omega)
    rw [List.take_succ_eq_append_getElem hil, List.map_append] at h
    simp only [bend_Points.l0]
    rw [if_pos (by omega), if_pos (by omega), if_pos (by rw [List.length_map]; omega), if_pos (by rw [List.length_map, List.length_take]; omega), hr, wrapI i hi4]
    exact h
theorem pointsF_eq (S : ByteArray) (k : Nat) (hk : 120 < k) : bend_Points.f k S = some (if Sp.shape (L S) then ((Sp.pts (L S)).map mk49, 0) else ([], 5)) := by
  unfold bend_Points.f
  rw [formed_eq]
  simp only [Option.bind_some]
  cases hs : Sp.shape (L S) with
  | false => simp
  | true =>
    obtain ⟨h1, h2, h3⟩ := shape_of hs
    have hl := L_length S
    have hp := Sp.pts_length (L S)
    rw [all_eq S (by omega)]
    simp only [Option.bind_some, if_true]
    rw [places_all S (by omega) h3 k (by omega)]
    simp only [Option.bind_some]
    have := points_copy (Sp.pts (L S)) (by omega) (Sp.pts (L S)).length k 0 (by omega) (by omega)
    rw [List.length_map]
    simpa using this
theorem refFree_eq (S : ByteArray) (k : Nat) (hk : 10500 < k) : nr_Free.f k S = some (if Sp.shape (L S) then (Sp.isFree (L S), 0) else (false, 5)) := by
  unfold nr_Free.f
  rw [refShape_eq S k (by omega)]
  simp only [Option.bind_some]
  cases hs : Sp.shape (L S) with
  | false => simp
  | true =>
    obtain ⟨h1, h2, h3⟩ := shape_of hs
    rw [L_length] at h2
    obtain ⟨a, b, hm⟩ := refMeet_two S (by omega) k hk
    simp only [if_true]
    rw [hm]
    simp
theorem refBox_loop (l : List Sp.Pt) (hl : l.length ≤ 100) (hn : ∀ p ∈ l, -100 ≤ p.1 ∧ p.1 ≤ 100 ∧ -100 ≤ p.2 ∧ p.2 ≤ 100) (d : Nat) : ∀ (k i : Nat) (a b c e : Int), i + d = l.length → d < k → -100 ≤ a → a ≤ 0 → -100 ≤ b → b ≤ 0 → 0 ≤ c → c ≤ 100 → 0 ≤ e → e ≤ 100 →
    nr_Box.l0 k (l.map mk49) (i : Int) a b c e = some (((l.drop i).map (·.1)).foldl max c - ((l.drop i).map (·.1)).foldl min a + 1, ((l.drop i).map (·.2)).foldl max e - ((l.drop i).map (·.2)).foldl min b + 1, 0) := by
  induction d with
  | zero =>
    intro k i a b c e hi hk a1 a2 b1 b2 c1 c2 e1 e2
    obtain ⟨k, rfl⟩ : ∃ m, k = m + 1 := ⟨k - 1, by omega⟩
    simp only [nr_Box.l0]
    rw [if_neg (by rw [List.length_map]; omega), List.drop_eq_nil_of_le (by omega)]
    simp only [List.map_nil, List.foldl_nil]
    rw [wrap_small (c - a) (by omega) (by omega), wrap_small (e - b) (by omega) (by omega), wrap_small (c - a + 1) (by omega) (by omega), wrap_small (e - b + 1) (by omega) (by omega)]
  | succ d ih =>
    intro k i a b c e hi hk a1 a2 b1 b2 c1 c2 e1 e2
    obtain ⟨k, rfl⟩ : ∃ m, k = m + 1 := ⟨k - 1, by omega⟩
    have hil : i < l.length := by omega
    have hi4 : i ≤ 4096 := by omega
    have hr : rd_T49 (l.map mk49) (i : Int) = mk49 (l[i]) := by
      unfold rd_T49
      rw [Int.toNat_natCast, List.getD_eq_getElem?_getD, List.getElem?_map, List.getElem?_eq_getElem hil]; rfl
    obtain ⟨g1, g2, g3, g4⟩ := hn _ (List.getElem_mem hil)
    have m1 : mn a (l[i]).1 = min a (l[i]).1 := by unfold mn; omega
    have m2 : mn b (l[i]).2 = min b (l[i]).2 := by unfold mn; omega
    have m3 : mx c (l[i]).1 = max c (l[i]).1 := by unfold mx; omega
    have m4 : mx e (l[i]).2 = max e (l[i]).2 := by unfold mx; omega
    simp only [nr_Box.l0]
    rw [if_pos (by rw [List.length_map]; omega), if_pos (by omega), hr, wrapI i hi4]
    simp only [mk49]
    rw [m1, m2, m3, m4, List.drop_eq_getElem_cons hil]
    simp only [List.map_cons, List.foldl_cons]
    exact ih k (i + 1) _ _ _ _ (by omega) (by omega) (by omega) (by omega) (by omega) (by omega) (by omega) (by omega) (by omega) (by omega)
theorem refBox_eq (S : ByteArray) (k : Nat) (hk : 120 < k) : nr_Box.f k S = some (if Sp.shape (L S) then (boxW (L S), boxH (L S), 0) else (0, 0, 5)) := by
  unfold nr_Box.f
  rw [refShape_eq S k (by omega)]
  simp only [Option.bind_some]
  cases hs : Sp.shape (L S) with
  | false => simp
  | true =>
    obtain ⟨h1, h2, h3⟩ := shape_of hs
    have hl := L_length S
    have hpl := Sp.pts_length (L S)
    simp only [if_true]
    rw [refPoints_eq S (by omega) k (by omega)]
    simp only [Option.bind_some]
    have := refBox_loop (Sp.pts (L S)) (by omega) (fun p hp => by
      unfold Sp.pts at hp
      rcases List.mem_cons.1 hp with rfl | hp
      · simp
      · rcases List.mem_cons.1 hp with rfl | hp
        · simp
        · have := near_p (L S) (1, 0) (1, 0) (by decide) (by decide) (by decide) (by decide) p hp
          simp at this
          omega) (Sp.pts (L S)).length k 0 0 0 0 0 (by omega) (by omega) (by omega) (by omega) (by omega) (by omega) (by omega) (by omega) (by omega) (by omega)
    rw [if_pos (by rw [List.length_map]; omega)]
    refine Eq.trans ?_ this
    rfl
theorem meetAt_one {p : List Sp.Pt} {i j i' j' : Nat} (h : meetAt p i j) (k : meetAt p i' j') : i = i' ∧ j = j' := by
  obtain ⟨h1, h2, h3, h4, h5⟩ := h
  obtain ⟨k1, k2, k3, k4, k5⟩ := k
  have e : j = j' := by
    rcases Nat.lt_trichotomy j j' with q | q | q
    · exact absurd h3 (k5 i j h1 q)
    · exact q
    · exact absurd k3 (h5 i' j' k1 q)
  subst e
  refine ⟨?_, rfl⟩
  rcases Nat.lt_trichotomy i i' with q | q | q
  · exact absurd h3 (k4 i q)
  · exact q
  · exact absurd k3 (h4 i' q)
theorem getD73 (p : List Sp.Pt) (i j : Nat) (hi : i < p.length) (hj : j < p.length) : ((p.map mk73).getD i z73 = (p.map mk73).getD j z73) ↔ p[i]? = p[j]? := by
  rw [List.getD_eq_getElem?_getD, List.getD_eq_getElem?_getD, List.getElem?_map, List.getElem?_map, List.getElem?_eq_getElem hi, List.getElem?_eq_getElem hj]
  simp only [Option.map_some, Option.getD_some, Option.some.injEq]
  exact ⟨mk73_inj, fun e => by rw [e]⟩
theorem meet_loop (p : List Sp.Pt) (hp : p.length ≤ 100) (d : Nat) : ∀ (k j : Nat), j + d = p.length → d + 102 < k → (∀ a b, a < b → b < j → p[a]? ≠ p[b]?) →
    (∃ a b, meetAt p a b ∧ bend_Meet.l0 k (p.map mk73) (p.map mk73) (p.length : Int) (j : Int) = some ((a : Int), (b : Int), 0)) ∨ (p.Nodup ∧ bend_Meet.l0 k (p.map mk73) (p.map mk73) (p.length : Int) (j : Int) = some (0, 0, 10)) := by
  induction d with
  | zero =>
    intro k j hj hk hb
    obtain ⟨k, rfl⟩ : ∃ m, k = m + 1 := ⟨k - 1, by omega⟩
    right
    constructor
    · rw [List.nodup_iff_pairwise_ne, List.pairwise_iff_getElem]
      intro a b ha hb2 hab
      have := hb a b hab (by omega)
      rw [List.getElem?_eq_getElem ha, List.getElem?_eq_getElem hb2] at this
      exact fun e => this (by rw [e])
    · simp only [bend_Meet.l0]
      rw [if_neg (by omega)]
  | succ d ih =>
    intro k j hj hk hb
    obtain ⟨k, rfl⟩ : ∃ m, k = m + 1 := ⟨k - 1, by omega⟩
    have hjl : j < p.length := by omega
    have hj4 : j ≤ 4096 := by omega
    obtain ⟨i, hi, i1, i2, i3⟩ := index_at (p.map mk73) (by rw [List.length_map]; omega) j (by rw [List.length_map]; omega) k (by rw [List.length_map]; omega)
    simp only [bend_Meet.l0]
    have hr : rd_T73 (p.map mk73) (j : Int) = (p.map mk73).getD j z73 := rfl
    rw [if_pos (by omega), if_pos (by omega), if_pos (by rw [List.length_map]; omega), hr, hi]
    simp only [Option.bind_some]
    by_cases e : i = j
    · subst e
      rw [if_pos rfl, wrapI i hj4]
      refine ih k (i + 1) (by omega) (by omega) (fun a b hab hb2 => ?_)
      by_cases eb : b = i
      · subst eb
        exact fun h => i3 a hab ((getD73 p a b (by omega) hjl).2 h)
      · exact hb a b hab (by omega)
    · rw [if_neg (by omega)]
      exact .inl ⟨i, j, ⟨by omega, hjl, (getD73 p i j (by omega) hjl).1 i2, fun m hm h => i3 m hm ((getD73 p m j (by omega) hjl).2 h), hb⟩, rfl⟩
theorem meet_eq (S : ByteArray) (k : Nat) (hk : 10500 < k) : bend_Meet.f k S = nr_Meet.f k S ∧ ∃ a b e, bend_Meet.f k S = some (a, b, e) := by
  unfold bend_Meet.f nr_Meet.f
  rw [formed_eq, refShape_eq S k (by omega)]
  simp only [Option.bind_some]
  cases hs : Sp.shape (L S) with
  | false => exact ⟨by simp, 0, 0, 5, by simp⟩
  | true =>
    obtain ⟨h1, h2, h3⟩ := shape_of hs
    have hl := L_length S
    have hpl := Sp.pts_length (L S)
    rw [all_eq S (by omega)]
    simp only [Option.bind_some, if_true]
    rw [places_all S (by omega) h3 k (by omega)]
    simp only [Option.bind_some, List.length_map]
    rcases refMeet_eq S (by omega) k hk with ⟨a, b, m1, m2, m3⟩ | ⟨m2, m3⟩
    · rw [m2]
      simp only [Option.bind_some, if_true]
      rcases meet_loop (Sp.pts (L S)) (by omega) (Sp.pts (L S)).length k 0 (by omega) (by omega) (fun a b _ h => by omega) with ⟨a', b', n1, n2⟩ | ⟨n1, n2⟩
      · obtain ⟨e1, e2⟩ := meetAt_one m1 n1
        subst e1; subst e2
        exact ⟨n2, _, _, _, n2⟩
      · exact absurd n1 (meetAt_not_nodup m1)
    · rw [m2]
      simp only [Option.bind_some, Bool.false_eq_true, if_false]
      have hnd : (Sp.pts (L S)).Nodup := by unfold Sp.isFree at m3; exact of_decide_eq_true m3
      rcases meet_loop (Sp.pts (L S)) (by omega) (Sp.pts (L S)).length k 0 (by omega) (by omega) (fun a b _ h => by omega) with ⟨a', b', n1, n2⟩ | ⟨n1, n2⟩
      · exact absurd hnd (meetAt_not_nodup n1)
      · exact ⟨n2, _, _, _, n2⟩
theorem points_l1 (S : ByteArray) (P : List S49) (hP : P.length ≤ 100) (e t : Int) (d : Nat) : ∀ (k i : Nat) (x : List S49), x.length = P.length → i + d = P.length → (∀ m : Nat, i ≤ m → rd_T49 x (m : Int) = rd_T49 P (m : Int)) →
    nl_BendPoints.l1 (k + d + 1) S P e t x (i : Int) = nl_BendPoints.l0 k S P e (wrap64 (t + 1)) := by
  induction d with
  | zero =>
    intro k i x hx hi hm
    simp only [nl_BendPoints.l1, Nat.add_zero]
    rw [if_neg (by omega)]
  | succ d ih =>
    intro k i x hx hi hm
    have hi4 : i ≤ 4096 := by omega
    rw [show k + (d + 1) + 1 = (k + d + 1) + 1 by omega]
    simp only [nl_BendPoints.l1]
    rw [if_pos (by omega), if_pos (by omega), if_pos (by omega), hm i (Nat.le_refl _), wrapI i hi4, Int.toNat_natCast]
    simp only [beq_self_eq_true, Bool.not_true, Bool.or_self, Bool.false_eq_true, if_false]
    refine ih k (i + 1) _ (by rw [List.length_set]; exact hx) (by omega) (fun m h => ?_)
    rw [← hm m (by omega)]
    unfold rd_T49
    simp only [Int.toNat_natCast, List.getD_eq_getElem?_getD]
    rw [List.getElem?_set_ne (by omega)]
theorem points_round (S : ByteArray) (P : List S49) (hP : P.length ≤ 100) (e : Int) (hf : ∀ k, 120 < k → bend_Points.f k S = some (P, e)) (k : Nat) (hk : 120 < k) (t : Int) (ht : t < 2) :
    nl_BendPoints.l0 (k + P.length + 3) S P e t = nl_BendPoints.l0 k S P e (wrap64 (t + 1)) := by
  rw [show k + P.length + 3 = (k + P.length + 1 + 1) + 1 by omega]
  simp only [nl_BendPoints.l0]
  rw [if_pos ht, hf _ (by omega)]
  simp only [Option.bind_some, if_true, bne_self_eq_false]
  simp only [nl_BendPoints.j1]
  rw [if_neg (by decide)]
  exact points_l1 S P hP e t P.length k 0 P rfl (by omega) (fun m _ => rfl)
end Go.Proofs.YtbdikmcmehbbpaaGreatDoor.Bend
namespace Go.Proofs.YtbdikmcmehbbpaaGreatDoor.Pure
open Go.RowKit Go.Proofs.YtbdikmcmehbbpaaGreatDoor.Bend Go.Proofs.YtbdikmcmehbbpaaGreatDoorW.PrintWords
theorem points_end (S : ByteArray) (P : List S49) (e : Int) (k : Nat) (hk : 10600 < k) : nl_BendPoints.l0 (k + 3) S P e 2 = some true := by
  simp only [nl_BendPoints.l0]
  rw [if_neg (by omega), free_eq' S (k + 2) (by omega), refFree_eq S (k + 2) (by omega)]
  simp only [Option.bind_some, bne_self_eq_false, Bool.false_eq_true, if_false]
  simp only [nl_BendPoints.j3]
  have hb : bend_Box.f S = some (if Sp.shape (L S) then (boxW (L S), boxH (L S), 0) else (0, 0, 5)) := by unfold bend_Box.f; split <;> rfl
  rw [if_neg (by decide), hb, refBox_eq S (k + 1) (by omega)]
  simp only [Option.bind_some, if_true, bne_self_eq_false]
  simp only [nl_BendPoints.j4]
  obtain ⟨h1, a, b, c, h2⟩ := meet_eq S k (by omega)
  rw [if_neg (by decide), ← h1, h2, alive_at k (by omega)]
  simp
theorem BendPoints : Bend.nl_BendPoints.Pure := by
  intro a0 _
  have h2 : (2 : Int) = wrap64 (1 + 1) := by rw [Bend.wrap_small _ (by omega) (by omega)]; rfl
  have h1 : (1 : Int) = wrap64 (0 + 1) := by rw [Bend.wrap_small _ (by omega) (by omega)]; rfl
  obtain ⟨P, e, hP, hf, hr⟩ : ∃ P e, P.length ≤ 100 ∧ (∀ k, 120 < k → bend_Points.f k a0 = some (P, e)) ∧ (∀ k, 120 < k → nr_Points.f k a0 = some (P, e)) := by
    cases hs : Sp.shape (L a0) with
    | false => exact ⟨[], 5, by simp, fun k hk => by rw [pointsF_eq a0 k hk, hs]; rfl, fun k hk => by rw [refPointsF_eq a0 k hk, hs]; rfl⟩
    | true =>
      have := shape_of hs
      exact ⟨(Sp.pts (L a0)).map mk49, 0, by rw [List.length_map, Sp.pts_length]; omega, fun k hk => by rw [pointsF_eq a0 k hk, hs]; rfl, fun k hk => by rw [refPointsF_eq a0 k hk, hs]; rfl⟩
  refine ⟨20003 + P.length + 3 + P.length + 3, ?_⟩
  unfold nl_BendPoints.f
  rw [alive_at _ (by omega), hr _ (by omega)]
  by_cases h : (a0.size : Int) > 100
  · rw [if_pos h]; rfl
  · rw [if_neg h]
    simp only [Option.bind_some]
    rw [points_round a0 P hP e hf (20003 + P.length + 3) (by omega) 0 (by omega), ← h1, points_round a0 P hP e hf 20003 (by omega) 1 (by omega), ← h2]
    exact points_end a0 P e 20000 (by omega)
end Go.Proofs.YtbdikmcmehbbpaaGreatDoor.Pure
namespace Go.Proofs.YtbdikmcmehbbpaaGreatDoor.bendPoints
open Go.ChangeShapes Go.WideShapes Go.ChangeAt Go.RowKit
open Go.ChangeMaps (open_string shut_string)
set_option linter.unusedVariables false
set_option maxRecDepth 100000 in
theorem lifted (os : Os) (started : os.Started) (H : Type) (enc : TypeId × Value → H) :
    ReturnsInHanded {} Tryz.checked os 12 .any (fun w args => (Rows.bendPointsSpec.pre enc Tryz.prog Tryz.f12 Rows.bendPointsRow.domain false w args ∧ laidMetH Tryz.prog Bend.laid3 w) ∧ sizedMet enc Tryz.prog Tryz.f12 (OpenSpec.ofChange Rows.bendPointsSpec) false w args)
      (Rows.bendPointsSpec.post enc Tryz.prog Tryz.f12 false true false false) := by
  refine returnsInHanded_of_change_and (C := Tryz.checked) (X := fun w _ => laidMetH Tryz.prog Bend.laid3 w) (fun _ _ _ hh h => h.of_heap hh) Bend.own started (by kernel_rfl) Tryz.func12
    (ChangeSpec.witness_shaped (enc := enc) (C := Tryz.checked) (os := os) (X := fun w _ => laidMetH Tryz.prog Bend.laid3 w) false (Bend.startW os) #[.string ByteArray.empty] 8 (Bend.startW_os os) (World.shaped_of_RefB (by kernel_rfl) (by kernel_rfl)) (by kernel_rfl) (by kernel_rfl) (by kernel_rfl) (Bend.door_met os _)) ?_
  intro W base args ds gs before hval0 hW hcnd hsz0 hL _
  have HL := Bend.of_laid hL
  have hsz : (DataW.weightsEach Tryz.prog (Tryz.f12.params.toList ++ Rows.bendPointsSpec.plain.varTypes Tryz.prog) (ds ++ gs)).all (· ≤ reachBytes) = true := hsz0
  have hval : ∀ (j : Nat) t v, Tryz.f12.params[j]? = some t → args[j]? = some v → Value.okWide Tryz.prog W .any base t v := hval0
  have hW' := hW
  obtain ⟨p, q, hA0, hV, rfl, hfz, hnd⟩ := hW
  have hA : DataW.TrodAll enc Tryz.prog W 0 (fun _ => true) true Tryz.f12.params.toList args.toList ds p := hA0
  rw [Tryz.params12] at hA hval hsz
  obtain ⟨v0, vs0, d0, ds0, p0, q0, hargs, rfl, rfl, h0, r0⟩ := trodAll_cons hA
  obtain ⟨rfl, rfl, rfl⟩ := trodAll_nil r0
  obtain rfl : args = #[v0] := by cases args; simp_all
  obtain ⟨rfl, rfl⟩ := trodVars_none hV
  obtain ⟨a0, rfl, rfl, rfl, y0⟩ := open_string Tryz.underlying9 (hval 0 9 v0 rfl rfl) h0
  have w0 : a0.size ≤ 140737488351232 := by
    have z := sized_string hsz (j := 0) (t := 9) rfl rfl
    rw [Array.length_toList] at z
    exact z
  clear hA0 hval0 hsz0 hsz
  refine (Bend.nl_BendPoints.walk Pure.BendPoints a0 W HL w0).mono fun e W' ⟨he, bel⟩ => ?_
  subst he
  exact ⟨_, rfl, _, _, _, [], _, [], hW', trodAll_mk1 (shut_bool Tryz.underlying4 _), (trodAll_cons_mk (shut_string Tryz.underlying9 y0) trodAll_mk0), rfl, bel.frame _, fun h => by cases h⟩
theorem said : Rows.BendPointsSaid :=
  OpenClaim.holds_of_wide 12 Tryz.f12 rfl rfl rfl rfl rfl rfl rfl ⟨rfl, rfl, rfl, rfl, rfl⟩ rfl rfl rfl rfl rfl (by kernel_rfl) Tryz.func12 (by kernel_rfl)
    (of_decide_eq_true (by kernel_rfl)) (by unfold Func.isWrapper; first | (rw [if_pos (by decide +kernel)]; kernel_rfl) | (rw [if_neg (by decide +kernel)]; exact ⟨rfl, rfl⟩))
    (fun os started H enc _ => lifted os started H enc)
theorem plain (f : FuncId) (fn : Func) (hf : Tryz.pinned.checked.prog.funcNamed "neonwright/neonwrightlaw02.BendPoints" = some f) (hfn : Tryz.pinned.checked.prog.funcs[f]? = some fn) :
    true = Tryz.pinned.checked.prog.looks [] ∧ ∀ (j : Nat) t, fn.params[j]? = some t → Tryz.pinned.checked.prog.wantsStandIn t = false := by
  obtain rfl : f = 12 := Option.some.inj ((show Tryz.prog.funcNamed "neonwright/neonwrightlaw02.BendPoints" = some 12 by kernel_rfl).symm.trans hf) |>.symm
  obtain rfl : fn = Tryz.f12 := (Option.some.inj (Tryz.func12.symm.trans hfn)).symm
  refine ⟨by kernel_rfl, fun j t ht => ?_⟩
  rw [Tryz.params12] at ht
  obtain rfl : t = 9 := by simpa using Array.mem_of_getElem? ht
  exact (show Tryz.prog.wantsStandIn 9 = false by kernel_rfl)
/-- The card. -/
theorem card : Rows.BendPointsCardSaid :=
  Claim7.holds_tied_plain_at .later [] _ _ _ _ said (fun _ h => by cases h) (by kernel_rfl) (fun _ h => by cases h) bendPoints_row_tie rfl ⟨rfl, rfl⟩ (by kernel_rfl) rfl plain (by kernel_rfl)
#print axioms card
end Go.Proofs.YtbdikmcmehbbpaaGreatDoor.bendPoints
