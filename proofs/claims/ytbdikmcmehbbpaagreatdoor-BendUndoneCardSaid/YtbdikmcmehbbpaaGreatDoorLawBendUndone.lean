/-
  BendUndone: the walks of the functions that this law reaches, what they compute, its plain statement and its row; part 6.
  Conditions: none beyond the given statement.
-/
import Derived.OpenShut
import Derived.Test.YtbdikmcmehbbpaaGreatDoorCards
import Derived.Test.YtbdikmcmehbbpaaGreatDoorTie
import Derived.WalkKit
import Derived.ProofKit
import Derived.ShutString
import Derived.ChangeOld
import Derived.Below
import Derived.SizedLaws
import Derived.Test.YtbdikmcmehbbpaaGreatDoorWSized
import Derived.Test.YtbdikmcmehbbpaaGreatDoorUxBendUndone1
import Derived.Test.YtbdikmcmehbbpaaGreatDoorUxBendUndone2
import Derived.Test.YtbdikmcmehbbpaaGreatDoorUxBendUndone3
import Derived.Test.YtbdikmcmehbbpaaGreatDoorUxBendUndone4
import Derived.Test.YtbdikmcmehbbpaaGreatDoorUxBendUndone5
namespace Go.Proofs.YtbdikmcmehbbpaaGreatDoor.Bend
open Go.RowKit Go.Proofs.YtbdikmcmehbbpaaGreatDoorW.PrintWords Go.Proofs.YtbdikmcmehbbpaaGreatDoorW.PrintLast
set_option linter.unusedVariables false
set_option linter.unusedSimpArgs false
mutual
def nl_BendUndone.j0 : Nat → ByteArray → List Int → Int → Bool → Option (Bool)
 | 0, _, _, _, _ => none
 | k + 1, x0, x1, x2, x27 => if x27 = true then ((nl_alive.f k).bind fun t497 => (some t497)) else ((bend_Most.f x0).bind fun bt498 => ((bend_Orders.f x0).bind fun bt502 => (if bt498.2 = 0 then (nl_BendUndone.l0 k x0 x1 x2 bt498.1 bt502.1 bt502.2 0 0) else (if bt498.2 = bt502.2 then (if (bt498.1.length : Int) = 0 then ((nl_alive.f k).bind fun t504 => (some t504)) else (some false)) else (some false)))))
def nl_BendUndone.l0 : Nat → ByteArray → List Int → Int → List Int → Int → Int → Int → Int → Option (Bool)
 | 0, _, _, _, _, _, _, _, _ => none
 | k + 1, x0, x1, x2, x7, x9, x10, x11, x12 => if x12 < (x0.size : Int) then (if 0 ≤ x12 then (if (bt x0 x12) = 83 then (nl_BendUndone.l0 k x0 x1 x2 x7 x9 x10 x11 (wrap64 (x12 + 1))) else (nl_BendUndone.l0 k x0 x1 x2 x7 x9 x10 (wrap64 (x11 + 1)) (wrap64 (x12 + 1)))) else (none)) else (if x10 = 0 then (if (x7.length : Int) > x11 then (nl_BendUndone.j2 k x0 x1 x2 true) else (if (((x7.length : Int) == x11) != (decide (x9 > 0))) = true then (nl_BendUndone.j2 k x0 x1 x2 true) else ((nl_bends.f k x0 x7).bind fun t505 => (nl_BendUndone.j2 k x0 x1 x2 (!t505))))) else (nl_BendUndone.j2 k x0 x1 x2 true))
def nl_BendUndone.j2 : Nat → ByteArray → List Int → Int → Bool → Option (Bool)
 | 0, _, _, _, _ => none
 | k + 1, x0, x1, x2, x86 => if x86 = true then (some false) else ((bend_Good.f k x0 x1).bind fun bt506 => (if bt506.2 = 0 then (nl_BendUndone.j3 k x0 x1 x2 bt506.2 (!bt506.1)) else (nl_BendUndone.j3 k x0 x1 x2 bt506.2 true)))
def nl_BendUndone.j3 : Nat → ByteArray → List Int → Int → Int → Bool → Option (Bool)
 | 0, _, _, _, _, _ => none
 | k + 1, x0, x1, x2, x14, x98 => if x98 = true then (if x14 = 0 then ((nl_alive.f k).bind fun t508 => (some t508)) else (some false)) else (if (wrap64 ((x1.length : Int) + 1)) = 0 then (none) else (if 0 ≤ (x0.size : Int) then (if ((x0.size : Int) : Int).toNat ≤ 281474976710656 then (nl_BendUndone.l1 k x0 x1 (Int.tmod (wrap64 (x2)) (wrap64 ((x1.length : Int) + 1))) (List.replicate ((x0.size : Int) : Int).toNat 0) 0) else (none)) else (none)))
def nl_BendUndone.l1 : Nat → ByteArray → List Int → Int → List Int → Int → Option (Bool)
 | 0, _, _, _, _, _ => none
 | k + 1, x0, x1, x15, x16, x17 => if x17 < (x16.length : Int) then (if 0 ≤ x17 then (nl_BendUndone.l1 k x0 x1 x15 (x16.set (x17 : Int).toNat 83) (wrap64 (x17 + 1))) else (none)) else (nl_BendUndone.l2 k x0 x1 x15 x16 0)
def nl_BendUndone.l2 : Nat → ByteArray → List Int → Int → List Int → Int → Option (Bool)
 | 0, _, _, _, _, _ => none
 | k + 1, x0, x1, x15, x16, x18 => if x18 < x15 then (if 0 ≤ x18 then (if x18 < (x1.length : Int) then (if 0 ≤ (rd x1 x18) then (if (rd x1 x18) < (x0.size : Int) then (if (rd x1 x18) < (x16.length : Int) then (nl_BendUndone.l2 k x0 x1 x15 (x16.set ((rd x1 x18) : Int).toNat (bt x0 (rd x1 x18))) (wrap64 (x18 + 1))) else (none)) else (none)) else (none)) else (none)) else (none)) else (if 0 ≤ x15 then (if x15 ≤ (x1.length : Int) then ((bend_Good.f k (strOfNums x16) (x1.take (x15 : Int).toNat)).bind fun bt517 => (if bt517.2 = 0 then (if bt517.1 = true then ((nl_alive.f k).bind fun t519 => (some t519)) else (some false)) else (some false))) else (none)) else (none))
end
def nl_BendUndone.f (k : Nat) (a0 : ByteArray) (l1 : List Int) (a2 : Int) : Option (Bool) := if (a0.size : Int) > 100 then (nl_BendUndone.j0 k a0 l1 a2 true) else (nl_BendUndone.j0 k a0 l1 a2 (decide ((l1.length : Int) > 100)))
theorem nl_BendUndone.mono_l : ∀ k, (∀ y0 y1 y2 y3, LeO (nl_BendUndone.j0 k y0 y1 y2 y3) (nl_BendUndone.j0 (k + 1) y0 y1 y2 y3)) ∧ (∀ y0 y1 y2 y3 y4 y5 y6 y7, LeO (nl_BendUndone.l0 k y0 y1 y2 y3 y4 y5 y6 y7) (nl_BendUndone.l0 (k + 1) y0 y1 y2 y3 y4 y5 y6 y7)) ∧ (∀ y0 y1 y2 y3, LeO (nl_BendUndone.j2 k y0 y1 y2 y3) (nl_BendUndone.j2 (k + 1) y0 y1 y2 y3)) ∧ (∀ y0 y1 y2 y3 y4, LeO (nl_BendUndone.j3 k y0 y1 y2 y3 y4) (nl_BendUndone.j3 (k + 1) y0 y1 y2 y3 y4)) ∧ (∀ y0 y1 y2 y3 y4, LeO (nl_BendUndone.l1 k y0 y1 y2 y3 y4) (nl_BendUndone.l1 (k + 1) y0 y1 y2 y3 y4)) ∧ (∀ y0 y1 y2 y3 y4, LeO (nl_BendUndone.l2 k y0 y1 y2 y3 y4) (nl_BendUndone.l2 (k + 1) y0 y1 y2 y3 y4))
 | 0 => ⟨fun _ _ _ _ r h => by simp [nl_BendUndone.j0] at h, fun _ _ _ _ _ _ _ _ r h => by simp [nl_BendUndone.l0] at h, fun _ _ _ _ r h => by simp [nl_BendUndone.j2] at h, fun _ _ _ _ _ r h => by simp [nl_BendUndone.j3] at h, fun _ _ _ _ _ r h => by simp [nl_BendUndone.l1] at h, fun _ _ _ _ _ r h => by simp [nl_BendUndone.l2] at h⟩
 | k + 1 => by
  obtain ⟨ih0, ih1, ih2, ih3, ih4, ih5⟩ := nl_BendUndone.mono_l k
  refine ⟨?_, ?_, ?_, ?_, ?_, ?_⟩
  · intro y0 y1 y2 y3
    unfold nl_BendUndone.j0
    repeat' first
    | (with_reducible exact ih0 _ _ _ _)
    | (with_reducible exact ih1 _ _ _ _ _ _ _ _)
    | (with_reducible exact ih2 _ _ _ _)
    | (with_reducible exact ih3 _ _ _ _ _)
    | (with_reducible exact ih4 _ _ _ _ _)
    | (with_reducible exact ih5 _ _ _ _ _)
    | (with_reducible exact bend_Good.mono _ _ _)
    | (with_reducible exact nl_alive.mono _)
    | (with_reducible exact nl_bends.mono _ _ _)
    | (with_reducible exact LeO.refl _)
    | (with_reducible exact LeO.none _)
    | (with_reducible refine LeO.ite ?_ ?_)
    | (with_reducible refine LeO.bind ?_ (fun _ => ?_))
    | exact ih0 _ _ _ _
    | exact ih1 _ _ _ _ _ _ _ _
    | exact ih2 _ _ _ _
    | exact ih3 _ _ _ _ _
    | exact ih4 _ _ _ _ _
    | exact ih5 _ _ _ _ _
    | exact bend_Good.mono _ _ _
    | exact nl_alive.mono _
    | exact nl_bends.mono _ _ _
    | exact LeO.none _
    | refine LeO.ite ?_ ?_
    | refine LeO.bind ?_ (fun _ => ?_)
  · intro y0 y1 y2 y3 y4 y5 y6 y7
    unfold nl_BendUndone.l0
    repeat' first
    | (with_reducible exact ih0 _ _ _ _)
    | (with_reducible exact ih1 _ _ _ _ _ _ _ _)
    | (with_reducible exact ih2 _ _ _ _)
    | (with_reducible exact ih3 _ _ _ _ _)
    | (with_reducible exact ih4 _ _ _ _ _)
    | (with_reducible exact ih5 _ _ _ _ _)
    | (with_reducible exact bend_Good.mono _ _ _)
    | (with_reducible exact nl_alive.mono _)
    | (with_reducible exact nl_bends.mono _ _ _)
    | (with_reducible exact LeO.refl _)
    | (with_reducible exact LeO.none _)
    | (with_reducible refine LeO.ite ?_ ?_)
    | (with_reducible refine LeO.bind ?_ (fun _ => ?_))
    | exact ih0 _ _ _ _
    | exact ih1 _ _ _ _ _ _ _ _
    | exact ih2 _ _ _ _
    | exact ih3 _ _ _ _ _
    | exact ih4 _ _ _ _ _
    | exact ih5 _ _ _ _ _
    | exact bend_Good.mono _ _ _
    | exact nl_alive.mono _
    | exact nl_bends.mono _ _ _
    | exact LeO.none _
    | refine LeO.ite ?_ ?_
    | refine LeO.bind ?_ (fun _ => ?_)
  · intro y0 y1 y2 y3
    unfold nl_BendUndone.j2
    repeat' first
    | (with_reducible exact ih0 _ _ _ _)
    | (with_reducible exact ih1 _ _ _ _ _ _ _ _)
    | (with_reducible exact ih2 _ _ _ _)
    | (with_reducible exact ih3 _ _ _ _ _)
    | (with_reducible exact ih4 _ _ _ _ _)
    | (with_reducible exact ih5 _ _ _ _ _)
    | (with_reducible exact bend_Good.mono _ _ _)
    | (with_reducible exact nl_alive.mono _)
    | (with_reducible exact nl_bends.mono _ _ _)
    | (with_reducible exact LeO.refl _)
    | (with_reducible exact LeO.none _)
    | (with_reducible refine LeO.ite ?_ ?_)
    | (with_reducible refine LeO.bind ?_ (fun _ => ?_))
    | exact ih0 _ _ _ _
    | exact ih1 _ _ _ _ _ _ _ _
    | exact ih2 _ _ _ _
    | exact ih3 _ _ _ _ _
    | exact ih4 _ _ _ _ _
    | exact ih5 _ _ _ _ _
    | exact bend_Good.mono _ _ _
    | exact nl_alive.mono _
    | exact nl_bends.mono _ _ _
    | exact LeO.none _
    | refine LeO.ite ?_ ?_
    | refine LeO.bind ?_ (fun _ => ?_)
  · intro y0 y1 y2 y3 y4
    unfold nl_BendUndone.j3
    repeat' first
    | (with_reducible exact ih0 _ _ _ _)
    | (with_reducible exact ih1 _ _ _ _ _ _ _ _)
    | (with_reducible exact ih2 _ _ _ _)
    | (with_reducible exact ih3 _ _ _ _ _)
    | (with_reducible exact ih4 _ _ _ _ _)
    | (with_reducible exact ih5 _ _ _ _ _)
    | (with_reducible exact bend_Good.mono _ _ _)
    | (with_reducible exact nl_alive.mono _)
    | (with_reducible exact nl_bends.mono _ _ _)
    | (with_reducible exact LeO.refl _)
    | (with_reducible exact LeO.none _)
    | (with_reducible refine LeO.ite ?_ ?_)
    | (with_reducible refine LeO.bind ?_ (fun _ => ?_))
    | exact ih0 _ _ _ _
    | exact ih1 _ _ _ _ _ _ _ _
    | exact ih2 _ _ _ _
    | exact ih3 _ _ _ _ _
    | exact ih4 _ _ _ _ _
    | exact ih5 _ _ _ _ _
    | exact bend_Good.mono _ _ _
    | exact nl_alive.mono _
    | exact nl_bends.mono _ _ _
    | exact LeO.none _
    | refine LeO.ite ?_ ?_
    | refine LeO.bind ?_ (fun _ => ?_)
  · intro y0 y1 y2 y3 y4
    unfold nl_BendUndone.l1
    repeat' first
    | (with_reducible exact ih0 _ _ _ _)
    | (with_reducible exact ih1 _ _ _ _ _ _ _ _)
    | (with_reducible exact ih2 _ _ _ _)
    | (with_reducible exact ih3 _ _ _ _ _)
    | (with_reducible exact ih4 _ _ _ _ _)
    | (with_reducible exact ih5 _ _ _ _ _)
    | (with_reducible exact bend_Good.mono _ _ _)
    | (with_reducible exact nl_alive.mono _)
    | (with_reducible exact nl_bends.mono _ _ _)
    | (with_reducible exact LeO.refl _)
    | (with_reducible exact LeO.none _)
    | (with_reducible refine LeO.ite ?_ ?_)
    | (with_reducible refine LeO.bind ?_ (fun _ => ?_))
    | exact ih0 _ _ _ _
    | exact ih1 _ _ _ _ _ _ _ _
    | exact ih2 _ _ _ _
    | exact ih3 _ _ _ _ _
    | exact ih4 _ _ _ _ _
    | exact ih5 _ _ _ _ _
    | exact bend_Good.mono _ _ _
    | exact nl_alive.mono _
    | exact nl_bends.mono _ _ _
    | exact LeO.none _
    | refine LeO.ite ?_ ?_
    | refine LeO.bind ?_ (fun _ => ?_)
  · intro y0 y1 y2 y3 y4
    unfold nl_BendUndone.l2
    repeat' first
    | (with_reducible exact ih0 _ _ _ _)
    | (with_reducible exact ih1 _ _ _ _ _ _ _ _)
    | (with_reducible exact ih2 _ _ _ _)
    | (with_reducible exact ih3 _ _ _ _ _)
    | (with_reducible exact ih4 _ _ _ _ _)
    | (with_reducible exact ih5 _ _ _ _ _)
    | (with_reducible exact bend_Good.mono _ _ _)
    | (with_reducible exact nl_alive.mono _)
    | (with_reducible exact nl_bends.mono _ _ _)
    | (with_reducible exact LeO.refl _)
    | (with_reducible exact LeO.none _)
    | (with_reducible refine LeO.ite ?_ ?_)
    | (with_reducible refine LeO.bind ?_ (fun _ => ?_))
    | exact ih0 _ _ _ _
    | exact ih1 _ _ _ _ _ _ _ _
    | exact ih2 _ _ _ _
    | exact ih3 _ _ _ _ _
    | exact ih4 _ _ _ _ _
    | exact ih5 _ _ _ _ _
    | exact bend_Good.mono _ _ _
    | exact nl_alive.mono _
    | exact nl_bends.mono _ _ _
    | exact LeO.none _
    | refine LeO.ite ?_ ?_
    | refine LeO.bind ?_ (fun _ => ?_)
theorem nl_BendUndone.mono : ∀ a0 a1 a2 k, LeO (nl_BendUndone.f k a0 a1 a2) (nl_BendUndone.f (k + 1) a0 a1 a2) := by
 intro a0 a1 a2 k
 obtain ⟨ih0, ih1, ih2, ih3, ih4, ih5⟩ := nl_BendUndone.mono_l k
 unfold nl_BendUndone.f
 repeat' first
  | (with_reducible exact ih0 _ _ _ _)
  | (with_reducible exact ih1 _ _ _ _ _ _ _ _)
  | (with_reducible exact ih2 _ _ _ _)
  | (with_reducible exact ih3 _ _ _ _ _)
  | (with_reducible exact ih4 _ _ _ _ _)
  | (with_reducible exact ih5 _ _ _ _ _)
  | (with_reducible exact bend_Good.mono _ _ _)
  | (with_reducible exact nl_alive.mono _)
  | (with_reducible exact nl_bends.mono _ _ _)
  | (with_reducible exact LeO.refl _)
  | (with_reducible exact LeO.none _)
  | (with_reducible refine LeO.ite ?_ ?_)
  | (with_reducible refine LeO.bind ?_ (fun _ => ?_))
  | exact ih0 _ _ _ _
  | exact ih1 _ _ _ _ _ _ _ _
  | exact ih2 _ _ _ _
  | exact ih3 _ _ _ _ _
  | exact ih4 _ _ _ _ _
  | exact ih5 _ _ _ _ _
  | exact bend_Good.mono _ _ _
  | exact nl_alive.mono _
  | exact nl_bends.mono _ _ _
  | exact LeO.none _
  | refine LeO.ite ?_ ?_
  | refine LeO.bind ?_ (fun _ => ?_)
def nl_BendUndone.T27 : Bool × List (List Nat × List Nat) := (true, [([], []), ([], []), ([], []), ([1, 2], [1, 2]), ([3], [3]), ([], []), ([], []), ([], []), ([6, 7], [6, 7]), ([8], [8]), ([5, 9], [5, 9]), ([0, 4, 0, 1, 2, 3, 4, 5, 6, 7, 8, 9, 10], [0, 4]), ([11, 10, 0, 1, 2, 3, 4, 5, 6, 7, 8, 9, 10], [10, 11])])
def nl_BendUndone.B27 : List Nat := [0, 0, 0, 6, 14, 0, 0, 0, 192, 448, 992, 2047, 4095]
theorem nl_BendUndone.tab27 : rtab .any (opsOf Tryz.f14 27) = nl_BendUndone.T27 := by kernel_rfl
theorem nl_BendUndone.bits27 : waitsOk nl_BendUndone.T27.2 nl_BendUndone.B27 = true := by kernel_rfl
def nl_BendUndone.T28 : Bool × List (List Nat × List Nat) := (true, [([], []), ([0], [0]), ([], []), ([], []), ([2, 3], [2, 3]), ([1, 4], [1, 4]), ([5], [5]), ([6], [6]), ([6], [6]), ([7, 5, 0, 1, 2, 3, 4, 5, 6, 7], [7]), ([8, 9, 0, 1, 2, 3, 4, 5, 6, 7, 8, 9], [8])])
def nl_BendUndone.B28 : List Nat := [0, 1, 0, 0, 12, 31, 63, 127, 127, 255, 1023]
theorem nl_BendUndone.tab28 : rtab .any (opsOf Tryz.f14 28) = nl_BendUndone.T28 := by kernel_rfl
theorem nl_BendUndone.bits28 : waitsOk nl_BendUndone.T28.2 nl_BendUndone.B28 = true := by kernel_rfl
set_option maxHeartbeats 8000000 in
set_option maxRecDepth 100000 in
theorem nl_BendUndone.calls (k : Nat) (a0 : ByteArray) (A1 : Option Addr) (c1 : Nat) (l1 : List Int) (a2 : Int) (r : Bool) (w : World) (hL : Laid w) (hr1 : Kd.C (Kd.int .i64) w A1 l1.length l1) (hc1 : l1.length ≤ c1) (h : nl_BendUndone.f k a0 l1 a2 = some r) :
 Calls Tryz.prog 14 #[.string a0, .slice A1 l1.length c1, .int .u8 a2] w fun e w' => e = .returned (.bool r) ∧ Below w.heap.size w w' := by
 have HR1 := Aside0.mk hr1
 have HC1 := Aside0.mk hc1
 clear hr1 hc1
 have HB := Aside0.mk (Below.refl w.heap.size w)
 have HLD := Aside0.mk hL
 clear hL
 have H : (if (a0.size : Int) > 100 then (nl_BendUndone.j0 k a0 l1 a2 true) else (nl_BendUndone.j0 k a0 l1 a2 (decide ((l1.length : Int) > 100)))) = some r := h
 clear h
 have HC4 := Aside0.mk H
 clear H
 go_enter Tryz.func14, Tryz.ntmps14
 go_upto_region 1 with (fail)
 go_cut [27] (fun v27 wc => ∃ (kq : Nat) (x27_3 : Bool), v27 = .bool x27_3 ∧ Aside0 (nl_BendUndone.j0 kq a0 l1 a2 x27_3 = some r) ∧ Aside0 (kq ≤ k) ∧ Aside0 (Below w.heap.size w wc))
 case first =>
  have H := HC4.out
  clear HC4
  by_cases c5 : (a0.size : Int) > 100
  rotate_left
  · rw [if_neg c5] at H
    have c5b0 : decide (100 < (a0.size : Int)) = false := decide_eq_false c5
    have c5b1 : decide (100 < a0.size) = false := decide_eq_false (by omega)
    clear c5
    (first | rw [c5b0] | (simp only [i64_w, i32_w]; rw [c5b0]) | skip)
    have H' := Aside0.mk H
    clear H
    go_wp2
    go_meet
    case rel => exact ⟨_, (decide ((l1.length : Int) > 100)), (by first | rfl | (simp; done) | (simp [*]; done)), H', ⟨by first | omega | exact Nat.le_refl _⟩, ⟨by repeat (first | (with_reducible first | exact HB.out | apply below_alloc | apply pw_below_drewN | apply below_drew1) | exact HB.out)⟩⟩
  rw [if_pos c5] at H
  have c5b0 : decide (100 < (a0.size : Int)) = true := decide_eq_true c5
  have c5b1 : decide (100 < a0.size) = true := decide_eq_true (by omega)
  clear c5
  (first | rw [c5b0] | (simp only [i64_w, i32_w]; rw [c5b0]) | skip)
  have H' := Aside0.mk H
  clear H
  go_wp2
  go_meet
  case rel => exact ⟨_, (true), (by first | rfl | (simp; done) | (simp [*]; done)), H', ⟨by first | omega | exact Nat.le_refl _⟩, ⟨by repeat (first | (with_reducible first | exact HB.out | apply below_alloc | apply pw_below_drewN | apply below_drew1) | exact HB.out)⟩⟩
 case rest =>
  clear HC4
  try clear c1
  try clear p2
  try clear c5
  try clear c5b0
  try clear c5b1
  obtain ⟨kq, x27_3, rfl, HA, HJ3, HB⟩ := hcut
  cases kq with
  | zero => exact absurd HA.out (by simp [nl_BendUndone.j0])
  | succ kj3 =>
   have H := HA.out
   clear HA
   simp only [nl_BendUndone.j0] at H
   by_cases c6 : x27_3 = true
   rotate_left
   · replace c6 := Bool.eq_false_iff.mpr c6
     subst c6
     have H1 : ((bend_Most.f a0).bind fun bt498 => ((bend_Orders.f a0).bind fun bt502 => (if bt498.2 = 0 then (nl_BendUndone.l0 kj3 a0 l1 a2 bt498.1 bt502.1 bt502.2 0 0) else (if bt498.2 = bt502.2 then (if (bt498.1.length : Int) = 0 then ((nl_alive.f kj3).bind fun t504 => (some t504)) else (some false)) else (some false))))) = some r := by rw [if_neg (show ¬ (false = true) by decide)] at H; exact H
     clear H
     have H := H1
     clear H1
     replace H := Option.bind_eq_some_iff.mp H
     obtain ⟨⟨t498, t499⟩, A90, H⟩ := H
     replace H : ((bend_Orders.f a0).bind fun bt502 => (if t499 = 0 then (nl_BendUndone.l0 kj3 a0 l1 a2 t498 bt502.1 bt502.2 0 0) else (if t499 = bt502.2 then (if (t498.length : Int) = 0 then ((nl_alive.f kj3).bind fun t504 => (some t504)) else (some false)) else (some false)))) = some r := H
     have A9 := Aside0.mk A90
     clear A90
     replace H := Option.bind_eq_some_iff.mp H
     obtain ⟨⟨t502, t503⟩, A100, H⟩ := H
     replace H : (if t499 = 0 then (nl_BendUndone.l0 kj3 a0 l1 a2 t498 t502 t503 0 0) else (if t499 = t503 then (if (t498.length : Int) = 0 then ((nl_alive.f kj3).bind fun t504 => (some t504)) else (some false)) else (some false))) = some r := H
     have A10 := Aside0.mk A100
     clear A100
     by_cases c11 : t499 = 0
     rotate_left
     · rw [if_neg c11] at H
       have c11b0 : (t499 == 0) = false := beq_eq_false_iff_ne.mpr c11
       have c11b1 : (t499 != 0) = true := bne_iff_ne.mpr c11
       by_cases c78 : t499 = t503
       rotate_left
       · rw [if_neg c78] at H
         have c78b0 : (t499 == t503) = false := beq_eq_false_iff_ne.mpr c78
         have c78b1 : (t499 != t503) = true := bne_iff_ne.mpr c78
         obtain rfl := Option.some.inj H
         go_wp2_with (first | ((with_reducible refine gate_callee (f := 36) rfl ?_); refine goesL_ (some 31) rfl rfl Tryz.func36 (by kernel_rfl) rfl #[.string a0] rfl (by (try simp only [List.map_toArray, List.map_cons, List.map_nil]); first | done | rfl | (simp only [List.length_drop, List.length_take]; rfl)) ?_; (with_reducible refine (bend_Most.calls a0 t498 t499 _ ?side1 A9.out).mono ?_); (case side1 => exact Laid.below HLD.out (by repeat (first | (with_reducible first | exact HB.out | apply below_alloc | apply pw_below_drewN | apply below_drew1) | exact HB.out))); rintro e w88 ⟨v500, rfl, ho0, hb⟩; refine ⟨_, rfl, ?_⟩; have n0_ := Aside0.mk (Kd.R_lower ho0 (below_size (by repeat (first | (with_reducible first | exact HB.out | apply below_alloc | apply pw_below_drewN | apply below_drew1) | exact HB.out)))); have n1_ := Aside0.mk (below_step (by repeat (first | (with_reducible first | exact HB.out | apply below_alloc | apply pw_below_drewN | apply below_drew1) | exact HB.out)) hb); clear HB; have HO501 := n0_; have HB := n1_; clear n0_ n1_; (try clear hb); (try clear hb2); (try clear hk); (try clear hi); (try clear ho0)) | ((with_reducible refine gate_callee (f := 19) rfl ?_); refine goesL_ (some 36) rfl rfl Tryz.func19 (by kernel_rfl) rfl #[.string a0] rfl (by (try simp only [List.map_toArray, List.map_cons, List.map_nil]); first | done | rfl | (simp only [List.length_drop, List.length_take]; rfl)) ?_; (with_reducible refine (bend_Orders.calls a0 t502 t503 _ ?side1 A10.out).mono ?_); (case side1 => exact Laid.below HLD.out (by repeat (first | (with_reducible first | exact HB.out | apply below_alloc | apply pw_below_drewN | apply below_drew1) | exact HB.out))); rintro e w89 ⟨rfl, hb⟩; refine ⟨_, rfl, ?_⟩; have n0_ := Aside0.mk (Kd.R_below (by (with_reducible repeat (first | apply Kd.R_alloc | apply Kd.R_drewN | apply Kd.R_drew)); exact HO501.out) hb); have n1_ := Aside0.mk (below_step (by repeat (first | (with_reducible first | exact HB.out | apply below_alloc | apply pw_below_drewN | apply below_drew1) | exact HB.out)) hb); clear HO501; clear HB; have HO501 := n0_; have HB := n1_; clear n0_ n1_; (try clear hb); (try clear hb2); (try clear hk); (try clear hi)))
         go_ret
         exact ⟨by first | rfl | (simp [errW_none, errW_some] <;> rfl) | (simp [*, errW_none, errW_some] <;> rfl), by repeat (first | (with_reducible first | exact HB.out | apply below_alloc | apply pw_below_drewN | apply below_drew1) | exact HB.out)⟩
       rw [if_pos c78] at H
       have c78b0 : (t499 == t503) = true := beq_iff_eq.mpr c78
       have c78b1 : (t499 != t503) = false := bne_eq_false_iff_eq.mpr c78
       clear c78
       by_cases c79 : (t498.length : Int) = 0
       rotate_left
       · rw [if_neg c79] at H
         have c79b0 : ((t498.length : Int) == 0) = false := beq_eq_false_iff_ne.mpr c79
         have c79b1 : ((t498.length : Int) != 0) = true := bne_iff_ne.mpr c79
         have c79b2 : ¬ (t498 = []) := fun h_ => c79 (by rw [h_]; rfl)
         obtain rfl := Option.some.inj H
         go_wp2_with (first | ((with_reducible refine gate_callee (f := 36) rfl ?_); refine goesL_ (some 31) rfl rfl Tryz.func36 (by kernel_rfl) rfl #[.string a0] rfl (by (try simp only [List.map_toArray, List.map_cons, List.map_nil]); first | done | rfl | (simp only [List.length_drop, List.length_take]; rfl)) ?_; (with_reducible refine (bend_Most.calls a0 t498 t499 _ ?side1 A9.out).mono ?_); (case side1 => exact Laid.below HLD.out (by repeat (first | (with_reducible first | exact HB.out | apply below_alloc | apply pw_below_drewN | apply below_drew1) | exact HB.out))); rintro e w85 ⟨v500, rfl, ho0, hb⟩; refine ⟨_, rfl, ?_⟩; have n0_ := Aside0.mk (Kd.R_lower ho0 (below_size (by repeat (first | (with_reducible first | exact HB.out | apply below_alloc | apply pw_below_drewN | apply below_drew1) | exact HB.out)))); have n1_ := Aside0.mk (below_step (by repeat (first | (with_reducible first | exact HB.out | apply below_alloc | apply pw_below_drewN | apply below_drew1) | exact HB.out)) hb); clear HB; have HO501 := n0_; have HB := n1_; clear n0_ n1_; (try clear hb); (try clear hb2); (try clear hk); (try clear hi); (try clear ho0)) | ((with_reducible refine gate_callee (f := 19) rfl ?_); refine goesL_ (some 36) rfl rfl Tryz.func19 (by kernel_rfl) rfl #[.string a0] rfl (by (try simp only [List.map_toArray, List.map_cons, List.map_nil]); first | done | rfl | (simp only [List.length_drop, List.length_take]; rfl)) ?_; (with_reducible refine (bend_Orders.calls a0 t502 t503 _ ?side1 A10.out).mono ?_); (case side1 => exact Laid.below HLD.out (by repeat (first | (with_reducible first | exact HB.out | apply below_alloc | apply pw_below_drewN | apply below_drew1) | exact HB.out))); rintro e w86 ⟨rfl, hb⟩; refine ⟨_, rfl, ?_⟩; have n0_ := Aside0.mk (Kd.R_below (by (with_reducible repeat (first | apply Kd.R_alloc | apply Kd.R_drewN | apply Kd.R_drew)); exact HO501.out) hb); have n1_ := Aside0.mk (below_step (by repeat (first | (with_reducible first | exact HB.out | apply below_alloc | apply pw_below_drewN | apply below_drew1) | exact HB.out)) hb); clear HO501; clear HB; have HO501 := n0_; have HB := n1_; clear n0_ n1_; (try clear hb); (try clear hb2); (try clear hk); (try clear hi); obtain ⟨Ao87, co87, eo87⟩ := Kd.R_slice HO501.out; subst eo87))
         go_ret
         exact ⟨by first | rfl | (simp [errW_none, errW_some] <;> rfl) | (simp [*, errW_none, errW_some] <;> rfl), by repeat (first | (with_reducible first | exact HB.out | apply below_alloc | apply pw_below_drewN | apply below_drew1) | exact HB.out)⟩
       rw [if_pos c79] at H
       have c79b0 : ((t498.length : Int) == 0) = true := beq_iff_eq.mpr c79
       have c79b1 : ((t498.length : Int) != 0) = false := bne_eq_false_iff_eq.mpr c79
       clear c79
       replace H := Option.bind_eq_some_iff.mp H
       obtain ⟨t504, A800, H⟩ := H
       replace H : (some t504) = some r := H
       have A80 := Aside0.mk A800
       clear A800
       obtain rfl := Option.some.inj H
       go_wp2_with (first | ((with_reducible refine gate_callee (f := 36) rfl ?_); refine goesL_ (some 31) rfl rfl Tryz.func36 (by kernel_rfl) rfl #[.string a0] rfl (by (try simp only [List.map_toArray, List.map_cons, List.map_nil]); first | done | rfl | (simp only [List.length_drop, List.length_take]; rfl)) ?_; (with_reducible refine (bend_Most.calls a0 t498 t499 _ ?side1 A9.out).mono ?_); (case side1 => exact Laid.below HLD.out (by repeat (first | (with_reducible first | exact HB.out | apply below_alloc | apply pw_below_drewN | apply below_drew1) | exact HB.out))); rintro e w81 ⟨v500, rfl, ho0, hb⟩; refine ⟨_, rfl, ?_⟩; have n0_ := Aside0.mk (Kd.R_lower ho0 (below_size (by repeat (first | (with_reducible first | exact HB.out | apply below_alloc | apply pw_below_drewN | apply below_drew1) | exact HB.out)))); have n1_ := Aside0.mk (below_step (by repeat (first | (with_reducible first | exact HB.out | apply below_alloc | apply pw_below_drewN | apply below_drew1) | exact HB.out)) hb); clear HB; have HO501 := n0_; have HB := n1_; clear n0_ n1_; (try clear hb); (try clear hb2); (try clear hk); (try clear hi); (try clear ho0)) | ((with_reducible refine gate_callee (f := 19) rfl ?_); refine goesL_ (some 36) rfl rfl Tryz.func19 (by kernel_rfl) rfl #[.string a0] rfl (by (try simp only [List.map_toArray, List.map_cons, List.map_nil]); first | done | rfl | (simp only [List.length_drop, List.length_take]; rfl)) ?_; (with_reducible refine (bend_Orders.calls a0 t502 t503 _ ?side1 A10.out).mono ?_); (case side1 => exact Laid.below HLD.out (by repeat (first | (with_reducible first | exact HB.out | apply below_alloc | apply pw_below_drewN | apply below_drew1) | exact HB.out))); rintro e w82 ⟨rfl, hb⟩; refine ⟨_, rfl, ?_⟩; have n0_ := Aside0.mk (Kd.R_below (by (with_reducible repeat (first | apply Kd.R_alloc | apply Kd.R_drewN | apply Kd.R_drew)); exact HO501.out) hb); have n1_ := Aside0.mk (below_step (by repeat (first | (with_reducible first | exact HB.out | apply below_alloc | apply pw_below_drewN | apply below_drew1) | exact HB.out)) hb); clear HO501; clear HB; have HO501 := n0_; have HB := n1_; clear n0_ n1_; (try clear hb); (try clear hb2); (try clear hk); (try clear hi); obtain ⟨Ao83, co83, eo83⟩ := Kd.R_slice HO501.out; subst eo83) | (go_at_call 15; (with_reducible refine (nl_alive.calls kj3  t504 _ ?side1 A80.out).mono ?_); (case side1 => exact Laid.below HLD.out (by repeat (first | (with_reducible first | exact HB.out | apply below_alloc | apply pw_below_drewN | apply below_drew1) | exact HB.out))); rintro e w84 ⟨rfl, hb⟩; have n0_ := Aside0.mk (Kd.R_below (by (with_reducible repeat (first | apply Kd.R_alloc | apply Kd.R_drewN | apply Kd.R_drew)); exact HO501.out) hb); have n1_ := Aside0.mk (below_step (by repeat (first | (with_reducible first | exact HB.out | apply below_alloc | apply pw_below_drewN | apply below_drew1) | exact HB.out)) hb); clear HO501; clear HB; have HO501 := n0_; have HB := n1_; clear n0_ n1_; (try clear hb); (try clear hb2); (try clear hk); (try clear hi)))
       go_ret
       exact ⟨by first | rfl | (simp [errW_none, errW_some] <;> rfl) | (simp [*, errW_none, errW_some] <;> rfl), by repeat (first | (with_reducible first | exact HB.out | apply below_alloc | apply pw_below_drewN | apply below_drew1) | exact HB.out)⟩
     rw [if_pos c11] at H
     have c11b0 : (t499 == 0) = true := beq_iff_eq.mpr c11
     have c11b1 : (t499 != 0) = false := bne_eq_false_iff_eq.mpr c11
     clear c11
     have H' := Aside0.mk H
     clear H
     go_wp2_with (first | ((with_reducible refine gate_callee (f := 36) rfl ?_); refine goesL_ (some 31) rfl rfl Tryz.func36 (by kernel_rfl) rfl #[.string a0] rfl (by (try simp only [List.map_toArray, List.map_cons, List.map_nil]); first | done | rfl | (simp only [List.length_drop, List.length_take]; rfl)) ?_; (with_reducible refine (bend_Most.calls a0 t498 t499 _ ?side1 A9.out).mono ?_); (case side1 => exact Laid.below HLD.out (by repeat (first | (with_reducible first | exact HB.out | apply below_alloc | apply pw_below_drewN | apply below_drew1) | exact HB.out))); rintro e w12 ⟨v500, rfl, ho0, hb⟩; refine ⟨_, rfl, ?_⟩; have n0_ := Aside0.mk (Kd.R_lower ho0 (below_size (by repeat (first | (with_reducible first | exact HB.out | apply below_alloc | apply pw_below_drewN | apply below_drew1) | exact HB.out)))); have n1_ := Aside0.mk (below_step (by repeat (first | (with_reducible first | exact HB.out | apply below_alloc | apply pw_below_drewN | apply below_drew1) | exact HB.out)) hb); clear HB; have HO501 := n0_; have HB := n1_; clear n0_ n1_; (try clear hb); (try clear hb2); (try clear hk); (try clear hi); (try clear ho0)) | ((with_reducible refine gate_callee (f := 19) rfl ?_); refine goesL_ (some 36) rfl rfl Tryz.func19 (by kernel_rfl) rfl #[.string a0] rfl (by (try simp only [List.map_toArray, List.map_cons, List.map_nil]); first | done | rfl | (simp only [List.length_drop, List.length_take]; rfl)) ?_; (with_reducible refine (bend_Orders.calls a0 t502 t503 _ ?side1 A10.out).mono ?_); (case side1 => exact Laid.below HLD.out (by repeat (first | (with_reducible first | exact HB.out | apply below_alloc | apply pw_below_drewN | apply below_drew1) | exact HB.out))); rintro e w13 ⟨rfl, hb⟩; refine ⟨_, rfl, ?_⟩; have n0_ := Aside0.mk (Kd.R_below (by (with_reducible repeat (first | apply Kd.R_alloc | apply Kd.R_drewN | apply Kd.R_drew)); exact HO501.out) hb); have n1_ := Aside0.mk (below_step (by repeat (first | (with_reducible first | exact HB.out | apply below_alloc | apply pw_below_drewN | apply below_drew1) | exact HB.out)) hb); clear HO501; clear HB; have HO501 := n0_; have HB := n1_; clear n0_ n1_; (try clear hb); (try clear hb2); (try clear hk); (try clear hi)))
     go_loopg [11, 12] kj3 (fun kq v11 v12 w' => ∃ (x11_2 : Int) (x12_2 : Int), v11 = .int .i64 x11_2 ∧ v12 = .int .i64 x12_2 ∧ Aside0 (nl_BendUndone.l0 kq a0 l1 a2 t498 t502 t503 x11_2 x12_2 = some r) ∧ Aside0 (kq ≤ kj3) ∧ Aside0 (Kd.R (Kd.int .i64) 3 w' w.heap.size (fun _ => True) v500 t498) ∧ Aside0 (Below w.heap.size w w'))
     case atStart => exact ⟨(0), (0), (by first | rfl | (simp; done) | (simp [*]; done)), (by first | rfl | (simp; done) | (simp [*]; done)), H', ⟨Nat.le_refl _⟩, ⟨by (with_reducible repeat (first | apply Kd.R_alloc | apply Kd.R_drewN | apply Kd.R_drew)); exact HO501.out⟩, ⟨by repeat (first | (with_reducible first | exact HB.out | apply below_alloc | apply pw_below_drewN | apply below_drew1) | exact HB.out)⟩⟩
     case round =>
      clear H'
      try clear c1
      try clear p2
      try clear c3
      try clear c5
      try clear c5b0
      try clear c5b1
      try clear c6
      try clear c11
      try clear c11b0
      try clear c11b1
      try clear p2
      obtain ⟨x11_2, x12_2, rfl, rfl, HA, HK2, HO_7, HB⟩ := hrel
      cases gk with
      | zero => exact absurd HA.out (by simp [nl_BendUndone.l0])
      | succ k2 =>
       have H := HA.out
       clear HA
       simp only [nl_BendUndone.l0] at H
       by_cases c14 : x12_2 < (a0.size : Int)
       rotate_left
       · rw [if_neg c14] at H
         have c14b0 : decide (x12_2 < (a0.size : Int)) = false := decide_eq_false c14
         clear c14
         have HC18 := Aside0.mk H
         clear H
         go_upto_region 13 with (fail)
         go_cut [86] (fun v86 wc => ∃ (kq : Nat) (x86_17 : Bool), v86 = .bool x86_17 ∧ Aside0 (nl_BendUndone.j2 kq a0 l1 a2 x86_17 = some r) ∧ Aside0 (kq ≤ k2) ∧ Aside0 (Below w.heap.size w wc))
         case first =>
          have H := HC18.out
          clear HC18
          by_cases c19 : t503 = 0
          rotate_left
          · rw [if_neg c19] at H
            have c19b0 : (t503 == 0) = false := beq_eq_false_iff_ne.mpr c19
            have c19b1 : (t503 != 0) = true := bne_iff_ne.mpr c19
            (first | rw [c19b0] | (simp only [i64_w, i32_w]; rw [c19b0]) | skip)
            have H' := Aside0.mk H
            clear H
            go_wp2
            go_meet
            case rel => exact ⟨_, (true), (by first | rfl | (simp; done) | (simp [*]; done)), H', ⟨by have := HJ3.out; have := HK2.out; first | omega | exact Nat.le_refl _⟩, ⟨by repeat (first | (with_reducible first | exact HB.out | apply below_alloc | apply pw_below_drewN | apply below_drew1) | exact HB.out)⟩⟩
          rw [if_pos c19] at H
          have c19b0 : (t503 == 0) = true := beq_iff_eq.mpr c19
          have c19b1 : (t503 != 0) = false := bne_eq_false_iff_eq.mpr c19
          clear c19
          (first | rw [c19b0] | (simp only [i64_w, i32_w]; rw [c19b0]) | skip)
          by_cases c20 : (t498.length : Int) > x11_2
          rotate_left
          · rw [if_neg c20] at H
            have c20b0 : decide (x11_2 < (t498.length : Int)) = false := decide_eq_false c20
            clear c20
            by_cases c22 : (((t498.length : Int) == x11_2) != (decide (t502 > 0))) = true
            rotate_left
            · rw [if_neg c22] at H
              have c22b0 : (((t498.length : Int) == x11_2) != (decide (t502 > 0))) = false := by simpa using c22
              (try (have c22b1 : decide (((t498.length : Int) == x11_2) = (decide (t502 > 0))) = true := by simpa using c22))
              (try (have c22b2 : (((t498.length : Int) == x11_2) == (decide (t502 > 0))) = true := by simpa using c22))
              clear c22
              replace H := Option.bind_eq_some_iff.mp H
              obtain ⟨t505, A240, H⟩ := H
              replace H : (nl_BendUndone.j2 k2 a0 l1 a2 (!t505)) = some r := H
              have A24 := Aside0.mk A240
              clear A240
              have H' := Aside0.mk H
              clear H
              obtain ⟨Ao25, co25, eo25⟩ := Kd.R_slice HO_7.out
              subst eo25
              go_wp2_with (first | (go_at_call 38; (with_reducible refine (nl_bends.calls k2 a0 _ _ t498 t505 _ ?side1 ?side2 A24.out).mono ?_); (case side1 => repeat (first | exact (Kd.R_reads' HO_7.out).2.2 | (with_reducible refine Kd.C_alloc ?_ _) | (with_reducible refine Kd.C_drewN ?_ _) | (with_reducible refine Kd.C_drew ?_))); (case side2 => exact (Kd.R_reads' HO_7.out).2.1); rintro e w26 ⟨rfl, hb⟩; have n0_ := Aside0.mk (Kd.R_below (by (with_reducible repeat (first | apply Kd.R_alloc | apply Kd.R_drewN | apply Kd.R_drew)); exact HO_7.out) hb); have n1_ := Aside0.mk (below_step (by repeat (first | (with_reducible first | exact HB.out | apply below_alloc | apply pw_below_drewN | apply below_drew1) | exact HB.out)) hb); clear HO_7; clear HB; have HO_7 := n0_; have HB := n1_; clear n0_ n1_; (try clear hb); (try clear hb2); (try clear hk); (try clear hi)))
              go_meet
              case rel => exact ⟨_, (!t505), (by first | rfl | (simp; done) | (simp [*]; done)), H', ⟨by have := HJ3.out; have := HK2.out; first | omega | exact Nat.le_refl _⟩, ⟨by repeat (first | (with_reducible first | exact HB.out | apply below_alloc | apply pw_below_drewN | apply below_drew1) | exact HB.out)⟩⟩
            rw [if_pos c22] at H
            have c22b0 : (((t498.length : Int) == x11_2) != (decide (t502 > 0))) = true := c22
            (try (have c22b1 : decide (((t498.length : Int) == x11_2) = (decide (t502 > 0))) = false := by simpa using c22))
            (try (have c22b2 : (((t498.length : Int) == x11_2) == (decide (t502 > 0))) = false := by simpa using c22))
            (try (have c22b3 : ¬ (((t498.length : Int) == x11_2) = (decide (t502 > 0))) := by simpa using c22))
            clear c22
            have H' := Aside0.mk H
            clear H
            obtain ⟨Ao23, co23, eo23⟩ := Kd.R_slice HO_7.out
            subst eo23
            go_wp2
            go_meet
            case rel => exact ⟨_, (true), (by first | rfl | (simp; done) | (simp [*]; done)), H', ⟨by have := HJ3.out; have := HK2.out; first | omega | exact Nat.le_refl _⟩, ⟨by repeat (first | (with_reducible first | exact HB.out | apply below_alloc | apply pw_below_drewN | apply below_drew1) | exact HB.out)⟩⟩
          rw [if_pos c20] at H
          have c20b0 : decide (x11_2 < (t498.length : Int)) = true := decide_eq_true c20
          clear c20
          have H' := Aside0.mk H
          clear H
          obtain ⟨Ao21, co21, eo21⟩ := Kd.R_slice HO_7.out
          subst eo21
          go_wp2
          go_meet
          case rel => exact ⟨_, (true), (by first | rfl | (simp; done) | (simp [*]; done)), H', ⟨by have := HJ3.out; have := HK2.out; first | omega | exact Nat.le_refl _⟩, ⟨by repeat (first | (with_reducible first | exact HB.out | apply below_alloc | apply pw_below_drewN | apply below_drew1) | exact HB.out)⟩⟩
         case rest =>
          clear HC18
          try clear c1
          try clear p1
          try clear q1
          try clear hx1
          try clear c2
          try clear p2
          try clear c3
          try clear c5
          try clear c5b0
          try clear c5b1
          try clear c6
          try clear p6
          try clear c11
          try clear c11b0
          try clear c11b1
          try clear c14
          try clear c14b0
          try clear c15
          try clear c15b0
          try clear p16
          try clear q16
          try clear hx16
          try clear c17
          try clear c17b0
          try clear c17b1
          try clear c19
          try clear c19b0
          try clear c19b1
          try clear c20
          try clear c20b0
          try clear c22
          try clear c22b0
          try clear c22b1
          try clear c22b2
          try clear p16
          try clear p2
          try clear q16
          obtain ⟨kq, x86_17, rfl, HA, HJ17, HB⟩ := hcut
          cases kq with
          | zero => exact absurd HA.out (by simp [nl_BendUndone.j2])
          | succ kj17 =>
           have H := HA.out
           clear HA
           simp only [nl_BendUndone.j2] at H
           by_cases c27 : x86_17 = true
           rotate_left
           · replace c27 := Bool.eq_false_iff.mpr c27
             subst c27
             have H1 : ((bend_Good.f kj17 a0 l1).bind fun bt506 => (if bt506.2 = 0 then (nl_BendUndone.j3 kj17 a0 l1 a2 bt506.2 (!bt506.1)) else (nl_BendUndone.j3 kj17 a0 l1 a2 bt506.2 true))) = some r := by rw [if_neg (show ¬ (false = true) by decide)] at H; exact H
             clear H
             have H := H1
             clear H1
             replace H := Option.bind_eq_some_iff.mp H
             obtain ⟨⟨t506, t507⟩, A280, H⟩ := H
             replace H : (if t507 = 0 then (nl_BendUndone.j3 kj17 a0 l1 a2 t507 (!t506)) else (nl_BendUndone.j3 kj17 a0 l1 a2 t507 true)) = some r := H
             have A28 := Aside0.mk A280
             clear A280
             have HC29 := Aside0.mk H
             clear H
             go_upto_region 16 with (first | ((with_reducible refine gate_callee (f := 23) rfl ?_); refine goesL_ (some 90) rfl rfl Tryz.func23 (by kernel_rfl) rfl #[.string a0, .slice A1 l1.length c1] rfl (by (try simp only [List.map_toArray, List.map_cons, List.map_nil]); first | done | rfl | (simp only [List.length_drop, List.length_take]; rfl)) ?_; (with_reducible refine (bend_Good.calls kj17 a0 _ _ l1 t506 t507 _ ?side3 ?side1 ?side2 A28.out).mono ?_); (case side1 => repeat (first | exact (Kd.C_below HR1.out HB.out) | (with_reducible refine Kd.C_alloc ?_ _) | (with_reducible refine Kd.C_drewN ?_ _) | (with_reducible refine Kd.C_drew ?_))); (case side2 => exact HC1.out); (case side3 => exact Laid.below HLD.out (by repeat (first | (with_reducible first | exact HB.out | apply below_alloc | apply pw_below_drewN | apply below_drew1) | exact HB.out))); rintro e w30 ⟨rfl, hb⟩; refine ⟨_, rfl, ?_⟩; have n0_ := Aside0.mk (below_step (by repeat (first | (with_reducible first | exact HB.out | apply below_alloc | apply pw_below_drewN | apply below_drew1) | exact HB.out)) hb); clear HB; have HB := n0_; clear n0_; (try clear hb); (try clear hb2); (try clear hk); (try clear hi)))
             (try simp only [Act.put, qA, qB, qC])
             go_cut [98] (fun v98 wc => ∃ (kq : Nat) (x98_28 : Bool), v98 = .bool x98_28 ∧ Aside0 (nl_BendUndone.j3 kq a0 l1 a2 t507 x98_28 = some r) ∧ Aside0 (kq ≤ kj17) ∧ Aside0 (Below w.heap.size w wc))
             case first =>
              have H := HC29.out
              clear HC29
              by_cases c31 : t507 = 0
              rotate_left
              · rw [if_neg c31] at H
                have c31b0 : (t507 == 0) = false := beq_eq_false_iff_ne.mpr c31
                have c31b1 : (t507 != 0) = true := bne_iff_ne.mpr c31
                (first | rw [c31b0] | (simp only [i64_w, i32_w]; rw [c31b0]) | skip)
                have H' := Aside0.mk H
                clear H
                go_wp2
                go_meet
                case rel => exact ⟨_, (true), (by first | rfl | (simp; done) | (simp [*]; done)), H', ⟨by have := HJ3.out; have := HK2.out; have := HJ17.out; first | omega | exact Nat.le_refl _⟩, ⟨by repeat (first | (with_reducible first | exact HB.out | apply below_alloc | apply pw_below_drewN | apply below_drew1) | exact HB.out)⟩⟩
              rw [if_pos c31] at H
              have c31b0 : (t507 == 0) = true := beq_iff_eq.mpr c31
              have c31b1 : (t507 != 0) = false := bne_eq_false_iff_eq.mpr c31
              clear c31
              (first | rw [c31b0] | (simp only [i64_w, i32_w]; rw [c31b0]) | skip)
              have H' := Aside0.mk H
              clear H
              go_wp2
              go_meet
              case rel => exact ⟨_, (!t506), (by first | rfl | (simp; done) | (simp [*]; done)), H', ⟨by have := HJ3.out; have := HK2.out; have := HJ17.out; first | omega | exact Nat.le_refl _⟩, ⟨by repeat (first | (with_reducible first | exact HB.out | apply below_alloc | apply pw_below_drewN | apply below_drew1) | exact HB.out)⟩⟩
             case rest =>
              clear HC29
              try clear c1
              try clear p1
              try clear q1
              try clear hx1
              try clear c2
              try clear p2
              try clear c3
              try clear c5
              try clear c5b0
              try clear c5b1
              try clear c6
              try clear p6
              try clear c11
              try clear c11b0
              try clear c11b1
              try clear c14
              try clear c14b0
              try clear c15
              try clear c15b0
              try clear p16
              try clear q16
              try clear hx16
              try clear c17
              try clear c17b0
              try clear c17b1
              try clear c19
              try clear c19b0
              try clear c19b1
              try clear c20
              try clear c20b0
              try clear c22
              try clear c22b0
              try clear c22b1
              try clear c22b2
              try clear c23
              try clear c27
              try clear c31
              try clear c31b0
              try clear c31b1
              try clear p1
              try clear p16
              try clear p2
              try clear p6
              try clear q1
              try clear q16
              obtain ⟨kq, x98_28, rfl, HA, HJ28, HB⟩ := hcut
              cases kq with
              | zero => exact absurd HA.out (by simp [nl_BendUndone.j3])
              | succ kj28 =>
               have H := HA.out
               clear HA
               simp only [nl_BendUndone.j3] at H
               by_cases c32 : x98_28 = true
               rotate_left
               · replace c32 := Bool.eq_false_iff.mpr c32
                 subst c32
                 have H1 : (if (wrap64 ((l1.length : Int) + 1)) = 0 then (none) else (if 0 ≤ (a0.size : Int) then (if ((a0.size : Int) : Int).toNat ≤ 281474976710656 then (nl_BendUndone.l1 kj28 a0 l1 (Int.tmod (wrap64 (a2)) (wrap64 ((l1.length : Int) + 1))) (List.replicate ((a0.size : Int) : Int).toNat 0) 0) else (none)) else (none))) = some r := by rw [if_neg (show ¬ (false = true) by decide)] at H; exact H
                 clear H
                 have H := H1
                 clear H1
                 by_cases c36 : (wrap64 ((l1.length : Int) + 1)) = 0
                 rotate_left
                 · rw [if_neg c36] at H
                   have c36b0 : ((wrap64 ((l1.length : Int) + 1)) == 0) = false := beq_eq_false_iff_ne.mpr c36
                   have c36b1 : ((wrap64 ((l1.length : Int) + 1)) != 0) = true := bne_iff_ne.mpr c36
                   by_cases c37 : 0 ≤ (a0.size : Int)
                   rotate_left
                   · rw [if_neg c37] at H
                     exact absurd H (by simp)
                   rw [if_pos c37] at H
                   have c37b0 := eq_true c37
                   have c37b1 : decide (0 ≤ (a0.size : Int)) = true := decide_eq_true c37
                   clear c37
                   by_cases c38 : ((a0.size : Int) : Int).toNat ≤ 281474976710656
                   rotate_left
                   · rw [if_neg c38] at H
                     exact absurd H (by simp)
                   rw [if_pos c38] at H
                   have c38b0 := eq_true c38
                   have c38b1 : decide (((a0.size : Int) : Int).toNat ≤ 281474976710656) = true := decide_eq_true c38
                   clear c38
                   obtain ⟨y509, hy509⟩ : ∃ y_ : List Int, y_ = (List.replicate ((a0.size : Int) : Int).toNat 0) := ⟨_, rfl⟩
                   replace H : (nl_BendUndone.l1 kj28 a0 l1 (Int.tmod (wrap64 (a2)) (wrap64 ((l1.length : Int) + 1))) y509 0) = some r := by first | (rw [hy509]; with_reducible exact H) | (have H2_ := (Option.bind_some _ _).symm.trans H; rw [hy509]; with_reducible exact H2_) | (have H2_ := (Option.bind_some _ _).symm.trans H; with_reducible exact H2_) | with_reducible exact H | (rw [hy509]; exact H) | exact H
                   have Ny509 := Aside0.mk hy509
                   clear hy509
                   have H' := Aside0.mk H
                   clear H
                   go_wp2_with (first | ((with_reducible refine gate_dst (N := 112) rfl ?_); (try (refine gate_guard (by rfl) ?_; dsimp only)); refine Kd.R_make (Kd.int .u8) _ 5 rfl (N := 112) rfl 50 _ _ rfl (a0.size : Int) rfl rfl Tryz.underlying50 (.int .u8 0) 1 info5 rfl (by decide) (by omega) 0 (ok := fun _ => True) (okp := fun _ => True) rfl (fun _ hk => hk) trivial (of_decide_eq_true (by first | (with_reducible assumption) | assumption)) (Nat.le_trans (Nat.mul_le_mul_right _ (of_decide_eq_true (by first | (with_reducible assumption) | assumption) : (a0.size : Int).toNat ≤ 281474976710656)) (by omega)) (Below.refl _ _) (Nat.le_refl _) ?_; intro v510 w39 ho40 hb hg_ hnew_; clear hg_ hnew_; (first | rw [← Ny509.out] at ho40 | (simp only [Int.reduceToNat] at ho40; rw [← Ny509.out] at ho40)); have n0_ := Aside0.mk (Kd.R_lower ho40 (below_size (by repeat (first | (with_reducible first | exact HB.out | apply below_alloc | apply pw_below_drewN | apply below_drew1) | exact HB.out)))); have n1_ := Aside0.mk (below_step (by repeat (first | (with_reducible first | exact HB.out | apply below_alloc | apply pw_below_drewN | apply below_drew1) | exact HB.out)) hb); clear HB; have HO511 := n0_; have HB := n1_; clear n0_ n1_; clear hb ho40))
                   go_loopg [17] kj28 (fun kq v17 w' => ∃ (x16_5 : List Int) (x17_5 : Int), v17 = .int .i64 x17_5 ∧ Aside0 (nl_BendUndone.l1 kq a0 l1 (Int.tmod (wrap64 (a2)) (wrap64 ((l1.length : Int) + 1))) x16_5 x17_5 = some r) ∧ Aside0 (kq ≤ kj28) ∧ Aside0 (Kd.R (Kd.int .u8) 5 w' w.heap.size (fun _ => True) v510 x16_5) ∧ Aside0 (Below w.heap.size w w'))
                   case atStart => exact ⟨(y509), (0), (by first | rfl | (simp; done) | (simp [*]; done)), H', ⟨Nat.le_refl _⟩, ⟨by (with_reducible repeat (first | apply Kd.R_alloc | apply Kd.R_drewN | apply Kd.R_drew)); exact HO511.out⟩, ⟨by repeat (first | (with_reducible first | exact HB.out | apply below_alloc | apply pw_below_drewN | apply below_drew1) | exact HB.out)⟩⟩
                   case round =>
                    clear H'
                    try clear c1
                    try clear p1
                    try clear q1
                    try clear hx1
                    try clear c2
                    try clear p2
                    try clear c3
                    try clear c5
                    try clear c5b0
                    try clear c5b1
                    try clear c6
                    try clear p6
                    try clear c11
                    try clear c11b0
                    try clear c11b1
                    try clear c14
                    try clear c14b0
                    try clear c15
                    try clear c15b0
                    try clear p16
                    try clear q16
                    try clear hx16
                    try clear c17
                    try clear c17b0
                    try clear c17b1
                    try clear c19
                    try clear c19b0
                    try clear c19b1
                    try clear c20
                    try clear c20b0
                    try clear c22
                    try clear c22b0
                    try clear c22b1
                    try clear c22b2
                    try clear c23
                    try clear c27
                    try clear c31
                    try clear c31b0
                    try clear c31b1
                    try clear c32
                    try clear c33
                    try clear c33b0
                    try clear c33b1
                    try clear c36
                    try clear c36b0
                    try clear c36b1
                    try clear c37
                    try clear c37b0
                    try clear c37b1
                    try clear c38
                    try clear c38b0
                    try clear c38b1
                    try clear p1
                    try clear p16
                    try clear p2
                    try clear p6
                    try clear q1
                    try clear q16
                    obtain ⟨x16_5, x17_5, rfl, HA, HK5, HO_16, HB⟩ := hrel
                    cases gk with
                    | zero => exact absurd HA.out (by simp [nl_BendUndone.l1])
                    | succ k5 =>
                     have H := HA.out
                     clear HA
                     simp only [nl_BendUndone.l1] at H
                     by_cases c41 : x17_5 < (x16_5.length : Int)
                     rotate_left
                     · rw [if_neg c41] at H
                       have c41b0 : decide (x17_5 < (x16_5.length : Int)) = false := decide_eq_false c41
                       clear c41
                       have H' := Aside0.mk H
                       clear H
                       obtain ⟨Ao47, co47, eo47⟩ := Kd.R_slice HO_16.out
                       subst eo47
                       go_wp2
                       go_loopg [18] k5 (fun kq v18 w' => ∃ (x16_6 : List Int) (x18_6 : Int), v18 = .int .i64 x18_6 ∧ Aside0 (nl_BendUndone.l2 kq a0 l1 (Int.tmod (wrap64 (a2)) (wrap64 ((l1.length : Int) + 1))) x16_6 x18_6 = some r) ∧ Aside0 (kq ≤ k5) ∧ Aside0 (Kd.R (Kd.int .u8) 5 w' w.heap.size (fun _ => True) (.slice Ao47 x16_5.length co47) x16_6) ∧ Aside0 (Below w.heap.size w w'))
                       case atStart => exact ⟨(x16_5), (0), (by first | rfl | (simp; done) | (simp [*]; done)), H', ⟨Nat.le_refl _⟩, ⟨by (with_reducible repeat (first | apply Kd.R_alloc | apply Kd.R_drewN | apply Kd.R_drew)); exact HO_16.out⟩, ⟨by repeat (first | (with_reducible first | exact HB.out | apply below_alloc | apply pw_below_drewN | apply below_drew1) | exact HB.out)⟩⟩
                       case round =>
                        clear H'
                        try clear c1
                        try clear p1
                        try clear q1
                        try clear hx1
                        try clear c2
                        try clear p2
                        try clear c3
                        try clear c4
                        try clear p4
                        try clear q4
                        try clear hx4
                        try clear hf4
                        try clear c5
                        try clear c5b0
                        try clear c5b1
                        try clear c6
                        try clear p6
                        try clear c11
                        try clear c11b0
                        try clear c11b1
                        try clear c14
                        try clear c14b0
                        try clear c15
                        try clear c15b0
                        try clear p16
                        try clear q16
                        try clear hx16
                        try clear c17
                        try clear c17b0
                        try clear c17b1
                        try clear c19
                        try clear c19b0
                        try clear c19b1
                        try clear c20
                        try clear c20b0
                        try clear c22
                        try clear c22b0
                        try clear c22b1
                        try clear c22b2
                        try clear c23
                        try clear c27
                        try clear c31
                        try clear c31b0
                        try clear c31b1
                        try clear c32
                        try clear c33
                        try clear c33b0
                        try clear c33b1
                        try clear c36
                        try clear c36b0
                        try clear c36b1
                        try clear c37
                        try clear c37b0
                        try clear c37b1
                        try clear c38
                        try clear c38b0
                        try clear c38b1
                        try clear c41
                        try clear c41b0
                        try clear c42
                        try clear c42b0
                        try clear p43
                        try clear q43
                        try clear hx43
                        try clear hf43
                        try clear hx43_0
                        try clear p1
                        try clear p16
                        try clear p2
                        try clear p43
                        try clear p6
                        try clear q1
                        try clear q16
                        try clear q43
                        obtain ⟨x16_6, x18_6, rfl, HA, HK6, HO_16, HB⟩ := hrel
                        have hl16_6 := (Kd.R_reads' HO_16.out).1
                        rw [hl16_6] at HO_16
                        (try simp only [hl16_6])
                        cases gk with
                        | zero => exact absurd HA.out (by simp [nl_BendUndone.l2])
                        | succ k6 =>
                         have H := HA.out
                         clear HA
                         simp only [nl_BendUndone.l2] at H
                         by_cases c48 : x18_6 < (Int.tmod (wrap64 (a2)) (wrap64 ((l1.length : Int) + 1)))
                         rotate_left
                         · rw [if_neg c48] at H
                           have c48b0 : decide (x18_6 < (Int.tmod (wrap64 (a2)) (wrap64 ((l1.length : Int) + 1)))) = false := decide_eq_false c48
                           clear c48
                           obtain ⟨ji58, hji58⟩ : ∃ j_ : Int, (Int.tmod (wrap64 (a2)) (wrap64 ((l1.length : Int) + 1))) = j_ := ⟨_, rfl⟩
                           replace H : (if 0 ≤ (ji58) then (if (ji58) ≤ (l1.length : Int) then ((bend_Good.f k6 (strOfNums x16_6) (l1.take ((ji58) : Int).toNat)).bind fun bt517 => (if bt517.2 = 0 then (if bt517.1 = true then ((nl_alive.f k6).bind fun t519 => (some t519)) else (some false)) else (some false))) else (none)) else (none)) = some r := by first | (rw [hji58] at H; exact H) | (simp only [hji58] at H ⊢; exact H)
                           (try rw [hji58] at c48b0)
                           by_cases c59 : 0 ≤ (ji58)
                           rotate_left
                           · rw [if_neg c59] at H
                             exact absurd H (by simp)
                           rw [if_pos c59] at H
                           have c59b0 := eq_true c59
                           have c59b1 : decide (0 ≤ (ji58)) = true := decide_eq_true c59
                           clear c59
                           by_cases c60 : (ji58) ≤ (l1.length : Int)
                           rotate_left
                           · rw [if_neg c60] at H
                             exact absurd H (by simp)
                           rw [if_pos c60] at H
                           have c60b0 := eq_true c60
                           have c60b1 : decide ((ji58) ≤ (l1.length : Int)) = true := decide_eq_true c60
                           clear c60
                           replace H := Option.bind_eq_some_iff.mp H
                           obtain ⟨⟨t517, t518⟩, A610, H⟩ := H
                           replace H : (if t518 = 0 then (if t517 = true then ((nl_alive.f k6).bind fun t519 => (some t519)) else (some false)) else (some false)) = some r := H
                           have A61 := Aside0.mk A610
                           clear A610
                           by_cases c62 : t518 = 0
                           rotate_left
                           · rw [if_neg c62] at H
                             have c62b0 : (t518 == 0) = false := beq_eq_false_iff_ne.mpr c62
                             have c62b1 : (t518 != 0) = true := bne_iff_ne.mpr c62
                             obtain rfl := Option.some.inj H
                             try go_wp2
                             have n0_ := Aside0.mk (Kd.R_drew HO_16.out)
                             have n1_ := Aside0.mk (below_drew1 HB.out)
                             clear HO_16
                             clear HB
                             have HO_16 := n0_
                             have HB := n1_
                             clear n0_ n1_
                             obtain ⟨i075, hi075, _, hsz75, _⟩ := info_parts info3
                             obtain ⟨hcut75, hA75, hC75⟩ := print_take_of (P := Tryz.prog) (Value.int .i64) 0 23 3 .i64 Tryz.underlying23 hi075 hsz75 A1 c1 l1 (ji58) (of_decide_eq_true (by first | (with_reducible assumption) | assumption)) (of_decide_eq_true (by first | (with_reducible assumption) | assumption)) HC1.out
                             have HR516 := Aside0.mk (Kd.C_of_reads (h1 := fun _ => rfl) (hA75 _ (Kd.reads_of_C HR1.out)))
                             have HC516 := Aside0.mk hC75
                             clear hA75 hC75 hi075 hsz75
                             have hcv76 := own_string (P := Tryz.prog) Tryz.underlying50 Tryz.underlying5 Tryz.underlying9 (Kd.own_of_R HO_16.out)
                             refine start_ (n := 11) (S := fun w' => (convert 50 9 (Value.slice Ao47 x16_6.length co47)).run Tryz.prog w' = .ok (.string (strOfNums x16_6)) w') (ds := []) (Array.replicate 11 false) (by kernel_rfl) rfl rfl hcv76 (fun hHeld => ?_); refine with_tabW nl_BendUndone.tab28 nl_BendUndone.bits28 (fun HT_ HW_ => ?_)
                             generalize wr.drew = w74 at HO_16 HB HR516 hHeld ⊢
                             refine pure_ (i := 0) (N := some 140) (v := ?_) (a' := ?_) (bA 11 1) rfl rfl (any_of HT_.out (by kernel_rfl)) (fun _ _ _ h => h) (Or.inl ⟨by rfl, ?_⟩) ?_ ?_
                             rotate_left
                             · intro w'
                               go_simp
                               with_reducible rfl
                             rotate_left
                             · simp only [Act.put, qA, qB, qC, i64_w, i32_w]
                               rfl
                             refine take_ (i := 1) (N := some 141) (v := ?_) (a' := ?_) (bA 11 3) rfl rfl (take_ofW HT_.out HW_.out (by kernel_rfl)) (fun _ _ _ h => h) (Or.inl ⟨by rfl, ?_⟩) hHeld ?_ ?_
                             rotate_left
                             · intro w' s0
                               go_simp
                               with_reducible rfl
                             rotate_left
                             · simp only [Act.put, qA, qB, qC, i64_w, i32_w]
                               rfl
                             refine pure_ (i := 2) (N := some 142) (v := ?_) (a' := ?_) (bA 11 7) rfl rfl (any_of HT_.out (by kernel_rfl)) (fun _ _ _ h => h) (Or.inl ⟨by rfl, ?_⟩) ?_ ?_
                             rotate_left
                             · intro w'
                               go_simp
                               with_reducible rfl
                             rotate_left
                             · simp only [Act.put, qA, qB, qC, i64_w, i32_w]
                               rfl
                             refine pure_ (i := 3) (N := some 143) (v := ?_) (a' := ?_) (bA 11 15) rfl rfl (any_of HT_.out (by kernel_rfl)) (fun _ _ _ h => h) (Or.inl ⟨by rfl, ?_⟩) ?_ ?_
                             rotate_left
                             · intro w'
                               go_simp
                               with_reducible rfl
                             rotate_left
                             · simp only [Act.put, qA, qB, qC, i64_w, i32_w]
                               rfl
                             refine pure_ (i := 4) (N := some 144) (v := ?_) (a' := ?_) (bA 11 31) rfl rfl (any_of HT_.out (by kernel_rfl)) (fun _ _ _ h => h) (Or.inl ⟨by rfl, ?_⟩) ?_ ?_
                             rotate_left
                             · intro w'
                               go_simp
                               with_reducible rfl
                             rotate_left
                             · simp only [Act.put, qA, qB, qC, i64_w, i32_w]
                               rfl
                             refine one_ (i := 5) (N := some 145) (bA 11 63) rfl rfl (one_of HT_.out (by kernel_rfl)) (by decide) (fun K hK => ?_)
                             refine goes_ Tryz.func23 (by kernel_rfl) rfl #[.string (strOfNums x16_6), .slice A1 (l1.take ((ji58) : Int).toNat).length c1] (by rfl) rfl rfl (by (try simp only [List.map_toArray, List.map_cons, List.map_nil]); first | done | (rw [show (l1.take ((ji58) : Int).toNat).length = (ji58).toNat from (by rw [List.length_take]; have h_ : ((ji58) : Int) ≤ (l1.length : Int) := of_decide_eq_true (by first | (with_reducible assumption) | assumption); omega)] <;> rfl) | (simp only [hji58]; rfl) | rfl | (simp only [List.length_drop, List.length_take]; rfl)) ?_
                             with_reducible refine (bend_Good.calls k6 (strOfNums x16_6) _ _ (l1.take ((ji58) : Int).toNat) t517 t518 _ ?side3 ?side1 ?side2 A61.out).mono ?_
                             (case side1 => repeat (first | exact (Kd.C_below HR516.out HB.out) | (with_reducible refine Kd.C_alloc ?_ _) | (with_reducible refine Kd.C_drewN ?_ _) | (with_reducible refine Kd.C_drew ?_)))
                             (case side2 => exact HC516.out)
                             (case side3 => exact Laid.below HLD.out (by repeat (first | (with_reducible first | exact HB.out | apply below_alloc | apply pw_below_drewN | apply below_drew1) | exact HB.out)))
                             rintro e w77 ⟨rfl, hb⟩
                             refine ⟨_, rfl, ?_⟩
                             have n0_ := Aside0.mk (Kd.R_below (by (with_reducible repeat (first | apply Kd.R_alloc | apply Kd.R_drewN | apply Kd.R_drew)); exact HO_16.out) hb)
                             have n1_ := Aside0.mk (below_step (by repeat (first | (with_reducible first | exact HB.out | apply below_alloc | apply pw_below_drewN | apply below_drew1) | exact HB.out)) hb)
                             clear HO_16
                             clear HB
                             have HO_16 := n0_
                             have HB := n1_
                             clear n0_ n1_
                             (try clear hb)
                             (try clear hb2)
                             (try clear hk)
                             (try clear hi)
                             refine hK.out _ _ (own_string (P := Tryz.prog) Tryz.underlying50 Tryz.underlying5 Tryz.underlying9 (Kd.own_of_R HO_16.out)) (fun hHeld => ?_)
                             clear hK K
                             refine norm_ (a' := ?_) ?_ ?_
                             rotate_left
                             · show Act.put _ (some 145) _ = _
                               simp only [Act.put, qA, qB, qC, i64_w, i32_w]
                               rfl
                             refine pure_ (i := 6) (N := some 139) (v := ?_) (a' := ?_) (bA 11 127) rfl rfl (any_of HT_.out (by kernel_rfl)) (fun _ _ _ h => h) (Or.inl ⟨by rfl, ?_⟩) ?_ ?_
                             rotate_left
                             · intro w'
                               go_simp
                               with_reducible rfl
                             rotate_left
                             · simp only [Act.put, qA, qB, qC, i64_w, i32_w]
                               rfl
                             refine pure_ (i := 7) (N := some 146) (v := ?_) (a' := ?_) (bA 11 255) rfl rfl (any_of HT_.out (by kernel_rfl)) (fun _ _ _ h => h) (Or.inl ⟨by rfl, ?_⟩) ?_ ?_
                             rotate_left
                             · intro w'
                               go_simp
                               with_reducible rfl
                             rotate_left
                             · simp only [Act.put, qA, qB, qC, i64_w, i32_w]
                               rfl
                             refine pure_ (i := 8) (N := some 147) (v := ?_) (a' := ?_) (bA 11 511) rfl rfl (any_of HT_.out (by kernel_rfl)) (fun _ _ _ h => h) (Or.inl ⟨by rfl, ?_⟩) ?_ ?_
                             rotate_left
                             · intro w'
                               go_simp
                               with_reducible rfl
                             rotate_left
                             · simp only [Act.put, qA, qB, qC, i64_w, i32_w]
                               rfl
                             refine pure_ (i := 9) (N := some 19) (v := ?_) (a' := ?_) (bA 11 1023) rfl rfl (any_of HT_.out (by kernel_rfl)) (fun _ _ _ h => h) (Or.inl ⟨by rfl, ?_⟩) ?_ ?_
                             rotate_left
                             · intro w'
                               go_simp
                               with_reducible rfl
                             rotate_left
                             · simp only [Act.put, qA, qB, qC, i64_w, i32_w]
                               rfl
                             refine pure_ (i := 10) (N := some 14) (v := ?_) (a' := ?_) (bA 11 2047) rfl rfl (any_of HT_.out (by kernel_rfl)) (fun _ _ _ h => h) (Or.inl ⟨by rfl, ?_⟩) ?_ ?_
                             rotate_left
                             · intro w'
                               go_simp
                               with_reducible rfl
                             rotate_left
                             · simp only [Act.put, qA, qB, qC, i64_w, i32_w]
                               rfl
                             refine done_ (done_of HT_.out (by kernel_rfl)) ?_
                             try go_wp2
                             go_ret
                             exact ⟨by first | rfl | (simp [errW_none, errW_some] <;> rfl) | (simp only [← hji58]; first | rfl | (simp [errW_none, errW_some] <;> rfl)) | (simp [*, errW_none, errW_some] <;> rfl), by repeat (first | (with_reducible first | exact HB.out | apply below_alloc | apply pw_below_drewN | apply below_drew1) | exact HB.out)⟩
                           rw [if_pos c62] at H
                           have c62b0 : (t518 == 0) = true := beq_iff_eq.mpr c62
                           have c62b1 : (t518 != 0) = false := bne_eq_false_iff_eq.mpr c62
                           clear c62
                           by_cases c63 : t517 = true
                           rotate_left
                           · replace c63 := Bool.eq_false_iff.mpr c63
                             subst c63
                             have H1 : (some false) = some r := by rw [if_neg (show ¬ (false = true) by decide)] at H; exact H
                             clear H
                             have H := H1
                             clear H1
                             obtain rfl := Option.some.inj H
                             try go_wp2
                             have n0_ := Aside0.mk (Kd.R_drew HO_16.out)
                             have n1_ := Aside0.mk (below_drew1 HB.out)
                             clear HO_16
                             clear HB
                             have HO_16 := n0_
                             have HB := n1_
                             clear n0_ n1_
                             obtain ⟨i071, hi071, _, hsz71, _⟩ := info_parts info3
                             obtain ⟨hcut71, hA71, hC71⟩ := print_take_of (P := Tryz.prog) (Value.int .i64) 0 23 3 .i64 Tryz.underlying23 hi071 hsz71 A1 c1 l1 (ji58) (of_decide_eq_true (by first | (with_reducible assumption) | assumption)) (of_decide_eq_true (by first | (with_reducible assumption) | assumption)) HC1.out
                             have HR516 := Aside0.mk (Kd.C_of_reads (h1 := fun _ => rfl) (hA71 _ (Kd.reads_of_C HR1.out)))
                             have HC516 := Aside0.mk hC71
                             clear hA71 hC71 hi071 hsz71
                             have hcv72 := own_string (P := Tryz.prog) Tryz.underlying50 Tryz.underlying5 Tryz.underlying9 (Kd.own_of_R HO_16.out)
                             refine start_ (n := 11) (S := fun w' => (convert 50 9 (Value.slice Ao47 x16_6.length co47)).run Tryz.prog w' = .ok (.string (strOfNums x16_6)) w') (ds := []) (Array.replicate 11 false) (by kernel_rfl) rfl rfl hcv72 (fun hHeld => ?_); refine with_tabW nl_BendUndone.tab28 nl_BendUndone.bits28 (fun HT_ HW_ => ?_)
                             generalize wr.drew = w70 at HO_16 HB HR516 hHeld ⊢
                             refine pure_ (i := 0) (N := some 140) (v := ?_) (a' := ?_) (bA 11 1) rfl rfl (any_of HT_.out (by kernel_rfl)) (fun _ _ _ h => h) (Or.inl ⟨by rfl, ?_⟩) ?_ ?_
                             rotate_left
                             · intro w'
                               go_simp
                               with_reducible rfl
                             rotate_left
                             · simp only [Act.put, qA, qB, qC, i64_w, i32_w]
                               rfl
                             refine take_ (i := 1) (N := some 141) (v := ?_) (a' := ?_) (bA 11 3) rfl rfl (take_ofW HT_.out HW_.out (by kernel_rfl)) (fun _ _ _ h => h) (Or.inl ⟨by rfl, ?_⟩) hHeld ?_ ?_
                             rotate_left
                             · intro w' s0
                               go_simp
                               with_reducible rfl
                             rotate_left
                             · simp only [Act.put, qA, qB, qC, i64_w, i32_w]
                               rfl
                             refine pure_ (i := 2) (N := some 142) (v := ?_) (a' := ?_) (bA 11 7) rfl rfl (any_of HT_.out (by kernel_rfl)) (fun _ _ _ h => h) (Or.inl ⟨by rfl, ?_⟩) ?_ ?_
                             rotate_left
                             · intro w'
                               go_simp
                               with_reducible rfl
                             rotate_left
                             · simp only [Act.put, qA, qB, qC, i64_w, i32_w]
                               rfl
                             refine pure_ (i := 3) (N := some 143) (v := ?_) (a' := ?_) (bA 11 15) rfl rfl (any_of HT_.out (by kernel_rfl)) (fun _ _ _ h => h) (Or.inl ⟨by rfl, ?_⟩) ?_ ?_
                             rotate_left
                             · intro w'
                               go_simp
                               with_reducible rfl
                             rotate_left
                             · simp only [Act.put, qA, qB, qC, i64_w, i32_w]
                               rfl
                             refine pure_ (i := 4) (N := some 144) (v := ?_) (a' := ?_) (bA 11 31) rfl rfl (any_of HT_.out (by kernel_rfl)) (fun _ _ _ h => h) (Or.inl ⟨by rfl, ?_⟩) ?_ ?_
                             rotate_left
                             · intro w'
                               go_simp
                               with_reducible rfl
                             rotate_left
                             · simp only [Act.put, qA, qB, qC, i64_w, i32_w]
                               rfl
                             refine one_ (i := 5) (N := some 145) (bA 11 63) rfl rfl (one_of HT_.out (by kernel_rfl)) (by decide) (fun K hK => ?_)
                             refine goes_ Tryz.func23 (by kernel_rfl) rfl #[.string (strOfNums x16_6), .slice A1 (l1.take ((ji58) : Int).toNat).length c1] (by rfl) rfl rfl (by (try simp only [List.map_toArray, List.map_cons, List.map_nil]); first | done | (rw [show (l1.take ((ji58) : Int).toNat).length = (ji58).toNat from (by rw [List.length_take]; have h_ : ((ji58) : Int) ≤ (l1.length : Int) := of_decide_eq_true (by first | (with_reducible assumption) | assumption); omega)] <;> rfl) | (simp only [hji58]; rfl) | rfl | (simp only [List.length_drop, List.length_take]; rfl)) ?_
                             with_reducible refine (bend_Good.calls k6 (strOfNums x16_6) _ _ (l1.take ((ji58) : Int).toNat) false t518 _ ?side3 ?side1 ?side2 A61.out).mono ?_
                             (case side1 => repeat (first | exact (Kd.C_below HR516.out HB.out) | (with_reducible refine Kd.C_alloc ?_ _) | (with_reducible refine Kd.C_drewN ?_ _) | (with_reducible refine Kd.C_drew ?_)))
                             (case side2 => exact HC516.out)
                             (case side3 => exact Laid.below HLD.out (by repeat (first | (with_reducible first | exact HB.out | apply below_alloc | apply pw_below_drewN | apply below_drew1) | exact HB.out)))
                             rintro e w73 ⟨rfl, hb⟩
                             refine ⟨_, rfl, ?_⟩
                             have n0_ := Aside0.mk (Kd.R_below (by (with_reducible repeat (first | apply Kd.R_alloc | apply Kd.R_drewN | apply Kd.R_drew)); exact HO_16.out) hb)
                             have n1_ := Aside0.mk (below_step (by repeat (first | (with_reducible first | exact HB.out | apply below_alloc | apply pw_below_drewN | apply below_drew1) | exact HB.out)) hb)
                             clear HO_16
                             clear HB
                             have HO_16 := n0_
                             have HB := n1_
                             clear n0_ n1_
                             (try clear hb)
                             (try clear hb2)
                             (try clear hk)
                             (try clear hi)
                             refine hK.out _ _ (own_string (P := Tryz.prog) Tryz.underlying50 Tryz.underlying5 Tryz.underlying9 (Kd.own_of_R HO_16.out)) (fun hHeld => ?_)
                             clear hK K
                             refine norm_ (a' := ?_) ?_ ?_
                             rotate_left
                             · show Act.put _ (some 145) _ = _
                               simp only [Act.put, qA, qB, qC, i64_w, i32_w]
                               rfl
                             refine pure_ (i := 6) (N := some 139) (v := ?_) (a' := ?_) (bA 11 127) rfl rfl (any_of HT_.out (by kernel_rfl)) (fun _ _ _ h => h) (Or.inl ⟨by rfl, ?_⟩) ?_ ?_
                             rotate_left
                             · intro w'
                               go_simp
                               with_reducible rfl
                             rotate_left
                             · simp only [Act.put, qA, qB, qC, i64_w, i32_w]
                               rfl
                             refine pure_ (i := 7) (N := some 146) (v := ?_) (a' := ?_) (bA 11 255) rfl rfl (any_of HT_.out (by kernel_rfl)) (fun _ _ _ h => h) (Or.inl ⟨by rfl, ?_⟩) ?_ ?_
                             rotate_left
                             · intro w'
                               go_simp
                               with_reducible rfl
                             rotate_left
                             · simp only [Act.put, qA, qB, qC, i64_w, i32_w]
                               rfl
                             refine pure_ (i := 8) (N := some 147) (v := ?_) (a' := ?_) (bA 11 511) rfl rfl (any_of HT_.out (by kernel_rfl)) (fun _ _ _ h => h) (Or.inl ⟨by rfl, ?_⟩) ?_ ?_
                             rotate_left
                             · intro w'
                               go_simp
                               with_reducible rfl
                             rotate_left
                             · simp only [Act.put, qA, qB, qC, i64_w, i32_w]
                               rfl
                             refine pure_ (i := 9) (N := some 19) (v := ?_) (a' := ?_) (bA 11 1023) rfl rfl (any_of HT_.out (by kernel_rfl)) (fun _ _ _ h => h) (Or.inl ⟨by rfl, ?_⟩) ?_ ?_
                             rotate_left
                             · intro w'
                               go_simp
                               with_reducible rfl
                             rotate_left
                             · simp only [Act.put, qA, qB, qC, i64_w, i32_w]
                               rfl
                             refine pure_ (i := 10) (N := some 14) (v := ?_) (a' := ?_) (bA 11 2047) rfl rfl (any_of HT_.out (by kernel_rfl)) (fun _ _ _ h => h) (Or.inl ⟨by rfl, ?_⟩) ?_ ?_
                             rotate_left
                             · intro w'
                               go_simp
                               with_reducible rfl
                             rotate_left
                             · simp only [Act.put, qA, qB, qC, i64_w, i32_w]
                               rfl
                             refine done_ (done_of HT_.out (by kernel_rfl)) ?_
                             try go_wp2
                             go_ret
                             exact ⟨by first | rfl | (simp [errW_none, errW_some] <;> rfl) | (simp only [← hji58]; first | rfl | (simp [errW_none, errW_some] <;> rfl)) | (simp [*, errW_none, errW_some] <;> rfl), by repeat (first | (with_reducible first | exact HB.out | apply below_alloc | apply pw_below_drewN | apply below_drew1) | exact HB.out)⟩
                           subst c63
                           have H1 : ((nl_alive.f k6).bind fun t519 => (some t519)) = some r := by rw [if_pos rfl] at H; exact H
                           clear H
                           have H := H1
                           clear H1
                           replace H := Option.bind_eq_some_iff.mp H
                           obtain ⟨t519, A640, H⟩ := H
                           replace H : (some t519) = some r := H
                           have A64 := Aside0.mk A640
                           clear A640
                           obtain rfl := Option.some.inj H
                           try go_wp2
                           have n0_ := Aside0.mk (Kd.R_drew HO_16.out)
                           have n1_ := Aside0.mk (below_drew1 HB.out)
                           clear HO_16
                           clear HB
                           have HO_16 := n0_
                           have HB := n1_
                           clear n0_ n1_
                           obtain ⟨i066, hi066, _, hsz66, _⟩ := info_parts info3
                           obtain ⟨hcut66, hA66, hC66⟩ := print_take_of (P := Tryz.prog) (Value.int .i64) 0 23 3 .i64 Tryz.underlying23 hi066 hsz66 A1 c1 l1 (ji58) (of_decide_eq_true (by first | (with_reducible assumption) | assumption)) (of_decide_eq_true (by first | (with_reducible assumption) | assumption)) HC1.out
                           have HR516 := Aside0.mk (Kd.C_of_reads (h1 := fun _ => rfl) (hA66 _ (Kd.reads_of_C HR1.out)))
                           have HC516 := Aside0.mk hC66
                           clear hA66 hC66 hi066 hsz66
                           have hcv67 := own_string (P := Tryz.prog) Tryz.underlying50 Tryz.underlying5 Tryz.underlying9 (Kd.own_of_R HO_16.out)
                           refine start_ (n := 11) (S := fun w' => (convert 50 9 (Value.slice Ao47 x16_6.length co47)).run Tryz.prog w' = .ok (.string (strOfNums x16_6)) w') (ds := []) (Array.replicate 11 false) (by kernel_rfl) rfl rfl hcv67 (fun hHeld => ?_); refine with_tabW nl_BendUndone.tab28 nl_BendUndone.bits28 (fun HT_ HW_ => ?_)
                           generalize wr.drew = w65 at HO_16 HB HR516 hHeld ⊢
                           refine pure_ (i := 0) (N := some 140) (v := ?_) (a' := ?_) (bA 11 1) rfl rfl (any_of HT_.out (by kernel_rfl)) (fun _ _ _ h => h) (Or.inl ⟨by rfl, ?_⟩) ?_ ?_
                           rotate_left
                           · intro w'
                             go_simp
                             with_reducible rfl
                           rotate_left
                           · simp only [Act.put, qA, qB, qC, i64_w, i32_w]
                             rfl
                           refine take_ (i := 1) (N := some 141) (v := ?_) (a' := ?_) (bA 11 3) rfl rfl (take_ofW HT_.out HW_.out (by kernel_rfl)) (fun _ _ _ h => h) (Or.inl ⟨by rfl, ?_⟩) hHeld ?_ ?_
                           rotate_left
                           · intro w' s0
                             go_simp
                             with_reducible rfl
                           rotate_left
                           · simp only [Act.put, qA, qB, qC, i64_w, i32_w]
                             rfl
                           refine pure_ (i := 2) (N := some 142) (v := ?_) (a' := ?_) (bA 11 7) rfl rfl (any_of HT_.out (by kernel_rfl)) (fun _ _ _ h => h) (Or.inl ⟨by rfl, ?_⟩) ?_ ?_
                           rotate_left
                           · intro w'
                             go_simp
                             with_reducible rfl
                           rotate_left
                           · simp only [Act.put, qA, qB, qC, i64_w, i32_w]
                             rfl
                           refine pure_ (i := 3) (N := some 143) (v := ?_) (a' := ?_) (bA 11 15) rfl rfl (any_of HT_.out (by kernel_rfl)) (fun _ _ _ h => h) (Or.inl ⟨by rfl, ?_⟩) ?_ ?_
                           rotate_left
                           · intro w'
                             go_simp
                             with_reducible rfl
                           rotate_left
                           · simp only [Act.put, qA, qB, qC, i64_w, i32_w]
                             rfl
                           refine pure_ (i := 4) (N := some 144) (v := ?_) (a' := ?_) (bA 11 31) rfl rfl (any_of HT_.out (by kernel_rfl)) (fun _ _ _ h => h) (Or.inl ⟨by rfl, ?_⟩) ?_ ?_
                           rotate_left
                           · intro w'
                             go_simp
                             with_reducible rfl
                           rotate_left
                           · simp only [Act.put, qA, qB, qC, i64_w, i32_w]
                             rfl
                           refine one_ (i := 5) (N := some 145) (bA 11 63) rfl rfl (one_of HT_.out (by kernel_rfl)) (by decide) (fun K hK => ?_)
                           refine goes_ Tryz.func23 (by kernel_rfl) rfl #[.string (strOfNums x16_6), .slice A1 (l1.take ((ji58) : Int).toNat).length c1] (by rfl) rfl rfl (by (try simp only [List.map_toArray, List.map_cons, List.map_nil]); first | done | (rw [show (l1.take ((ji58) : Int).toNat).length = (ji58).toNat from (by rw [List.length_take]; have h_ : ((ji58) : Int) ≤ (l1.length : Int) := of_decide_eq_true (by first | (with_reducible assumption) | assumption); omega)] <;> rfl) | (simp only [hji58]; rfl) | rfl | (simp only [List.length_drop, List.length_take]; rfl)) ?_
                           with_reducible refine (bend_Good.calls k6 (strOfNums x16_6) _ _ (l1.take ((ji58) : Int).toNat) true t518 _ ?side3 ?side1 ?side2 A61.out).mono ?_
                           (case side1 => repeat (first | exact (Kd.C_below HR516.out HB.out) | (with_reducible refine Kd.C_alloc ?_ _) | (with_reducible refine Kd.C_drewN ?_ _) | (with_reducible refine Kd.C_drew ?_)))
                           (case side2 => exact HC516.out)
                           (case side3 => exact Laid.below HLD.out (by repeat (first | (with_reducible first | exact HB.out | apply below_alloc | apply pw_below_drewN | apply below_drew1) | exact HB.out)))
                           rintro e w68 ⟨rfl, hb⟩
                           refine ⟨_, rfl, ?_⟩
                           have n0_ := Aside0.mk (Kd.R_below (by (with_reducible repeat (first | apply Kd.R_alloc | apply Kd.R_drewN | apply Kd.R_drew)); exact HO_16.out) hb)
                           have n1_ := Aside0.mk (below_step (by repeat (first | (with_reducible first | exact HB.out | apply below_alloc | apply pw_below_drewN | apply below_drew1) | exact HB.out)) hb)
                           clear HO_16
                           clear HB
                           have HO_16 := n0_
                           have HB := n1_
                           clear n0_ n1_
                           (try clear hb)
                           (try clear hb2)
                           (try clear hk)
                           (try clear hi)
                           refine hK.out _ _ (own_string (P := Tryz.prog) Tryz.underlying50 Tryz.underlying5 Tryz.underlying9 (Kd.own_of_R HO_16.out)) (fun hHeld => ?_)
                           clear hK K
                           refine norm_ (a' := ?_) ?_ ?_
                           rotate_left
                           · show Act.put _ (some 145) _ = _
                             simp only [Act.put, qA, qB, qC, i64_w, i32_w]
                             rfl
                           refine pure_ (i := 6) (N := some 139) (v := ?_) (a' := ?_) (bA 11 127) rfl rfl (any_of HT_.out (by kernel_rfl)) (fun _ _ _ h => h) (Or.inl ⟨by rfl, ?_⟩) ?_ ?_
                           rotate_left
                           · intro w'
                             go_simp
                             with_reducible rfl
                           rotate_left
                           · simp only [Act.put, qA, qB, qC, i64_w, i32_w]
                             rfl
                           refine pure_ (i := 7) (N := some 146) (v := ?_) (a' := ?_) (bA 11 255) rfl rfl (any_of HT_.out (by kernel_rfl)) (fun _ _ _ h => h) (Or.inl ⟨by rfl, ?_⟩) ?_ ?_
                           rotate_left
                           · intro w'
                             go_simp
                             with_reducible rfl
                           rotate_left
                           · simp only [Act.put, qA, qB, qC, i64_w, i32_w]
                             rfl
                           refine pure_ (i := 8) (N := some 147) (v := ?_) (a' := ?_) (bA 11 511) rfl rfl (any_of HT_.out (by kernel_rfl)) (fun _ _ _ h => h) (Or.inl ⟨by rfl, ?_⟩) ?_ ?_
                           rotate_left
                           · intro w'
                             go_simp
                             with_reducible rfl
                           rotate_left
                           · simp only [Act.put, qA, qB, qC, i64_w, i32_w]
                             rfl
                           refine pure_ (i := 9) (N := some 19) (v := ?_) (a' := ?_) (bA 11 1023) rfl rfl (any_of HT_.out (by kernel_rfl)) (fun _ _ _ h => h) (Or.inl ⟨by rfl, ?_⟩) ?_ ?_
                           rotate_left
                           · intro w'
                             go_simp
                             with_reducible rfl
                           rotate_left
                           · simp only [Act.put, qA, qB, qC, i64_w, i32_w]
                             rfl
                           refine pure_ (i := 10) (N := some 14) (v := ?_) (a' := ?_) (bA 11 2047) rfl rfl (any_of HT_.out (by kernel_rfl)) (fun _ _ _ h => h) (Or.inl ⟨by rfl, ?_⟩) ?_ ?_
                           rotate_left
                           · intro w'
                             go_simp
                             with_reducible rfl
                           rotate_left
                           · simp only [Act.put, qA, qB, qC, i64_w, i32_w]
                             rfl
                           refine done_ (done_of HT_.out (by kernel_rfl)) ?_
                           try go_wp2_with (first | (go_at_call 15; (with_reducible refine (nl_alive.calls k6  t519 _ ?side1 A64.out).mono ?_); (case side1 => exact Laid.below HLD.out (by repeat (first | (with_reducible first | exact HB.out | apply below_alloc | apply pw_below_drewN | apply below_drew1) | exact HB.out))); rintro e w69 ⟨rfl, hb⟩; have n0_ := Aside0.mk (Kd.R_below (by (with_reducible repeat (first | apply Kd.R_alloc | apply Kd.R_drewN | apply Kd.R_drew)); exact HO_16.out) hb); have n1_ := Aside0.mk (below_step (by repeat (first | (with_reducible first | exact HB.out | apply below_alloc | apply pw_below_drewN | apply below_drew1) | exact HB.out)) hb); clear HO_16; clear HB; have HO_16 := n0_; have HB := n1_; clear n0_ n1_; (try clear hb); (try clear hb2); (try clear hk); (try clear hi)))
                           go_ret
                           exact ⟨by first | rfl | (simp [errW_none, errW_some] <;> rfl) | (simp only [← hji58]; first | rfl | (simp [errW_none, errW_some] <;> rfl)) | (simp [*, errW_none, errW_some] <;> rfl), by repeat (first | (with_reducible first | exact HB.out | apply below_alloc | apply pw_below_drewN | apply below_drew1) | exact HB.out)⟩
                         rw [if_pos c48] at H
                         have c48b0 : decide (x18_6 < (Int.tmod (wrap64 (a2)) (wrap64 ((l1.length : Int) + 1)))) = true := decide_eq_true c48
                         clear c48
                         by_cases c49 : 0 ≤ x18_6
                         rotate_left
                         · rw [if_neg c49] at H
                           exact absurd H (by simp)
                         rw [if_pos c49] at H
                         have c49b0 : decide (0 ≤ x18_6) = true := decide_eq_true c49
                         clear c49
                         by_cases c50 : x18_6 < (l1.length : Int)
                         rotate_left
                         · rw [if_neg c50] at H
                           exact absurd H (by simp)
                         rw [if_pos c50] at H
                         have c50b0 : decide (x18_6 < (l1.length : Int)) = true := decide_eq_true c50
                         clear c50
                         by_cases c51 : 0 ≤ (rd l1 x18_6)
                         rotate_left
                         · rw [if_neg c51] at H
                           exact absurd H (by simp)
                         rw [if_pos c51] at H
                         have c51b0 : decide (0 ≤ (rd l1 x18_6)) = true := decide_eq_true c51
                         clear c51
                         by_cases c52 : (rd l1 x18_6) < (a0.size : Int)
                         rotate_left
                         · rw [if_neg c52] at H
                           exact absurd H (by simp)
                         rw [if_pos c52] at H
                         have c52b0 : decide ((rd l1 x18_6) < (a0.size : Int)) = true := decide_eq_true c52
                         clear c52
                         by_cases c54 : (rd l1 x18_6) < (x16_6.length : Int)
                         rotate_left
                         · rw [if_neg c54] at H
                           exact absurd H (by simp)
                         rw [if_pos c54] at H
                         have c54b0 : decide ((rd l1 x18_6) < (x16_6.length : Int)) = true := decide_eq_true c54
                         clear c54
                         obtain ⟨y515, hy515⟩ : ∃ y_ : List Int, y_ = (x16_6.set ((rd l1 x18_6) : Int).toNat (bt a0 (rd l1 x18_6))) := ⟨_, rfl⟩
                         replace H : (nl_BendUndone.l2 k6 a0 l1 (Int.tmod (wrap64 (a2)) (wrap64 ((l1.length : Int) + 1))) y515 (wrap64 (x18_6 + 1))) = some r := by first | (rw [hy515]; with_reducible exact H) | (have H2_ := (Option.bind_some _ _).symm.trans H; rw [hy515]; with_reducible exact H2_) | (have H2_ := (Option.bind_some _ _).symm.trans H; with_reducible exact H2_) | with_reducible exact H | (rw [hy515]; exact H) | exact H
                         have Ny515 := Aside0.mk hy515
                         clear hy515
                         have H' := Aside0.mk H
                         clear H
                         try go_wp2
                         have n0_ := Aside0.mk (Kd.R_drew HO_16.out)
                         have n1_ := Aside0.mk (below_drew1 HB.out)
                         clear HO_16
                         clear HB
                         have HO_16 := n0_
                         have HB := n1_
                         clear n0_ n1_
                         have p513 : 0 ≤ (x18_6 : Int) := of_decide_eq_true (by first | (with_reducible assumption) | assumption)
                         have q513 : x18_6 < (l1.length : Int) := of_decide_eq_true (by first | (with_reducible assumption) | assumption)
                         obtain ⟨ad513, e513, hx513_0⟩ := Kd.at_int HR1.out x18_6 p513 q513
                         have hw513_0 := hx513_0
                         cases e513
                         replace hx513_0 := (HB.out.cell (World.block_lt_of_cell? w _ hx513_0)).trans hx513_0
                         replace p513 := eq_true p513
                         replace q513 := eq_true q513
                         have p514 : 0 ≤ (x18_6 : Int) := of_decide_eq_true (by first | (with_reducible assumption) | assumption)
                         have q514 : x18_6 < (l1.length : Int) := of_decide_eq_true (by first | (with_reducible assumption) | assumption)
                         obtain ⟨ad514, e514, hx514_0⟩ := Kd.at_int HR1.out x18_6 p514 q514
                         have hw514_0 := hx514_0
                         obtain rfl : ad513 = ad514 := (by injection e514)
                         replace hx514_0 := (HB.out.cell (World.block_lt_of_cell? w _ hx514_0)).trans hx514_0
                         replace p514 := eq_true p514
                         replace q514 := eq_true q514
                         have p53 : 0 ≤ ((rd l1 x18_6) : Int) := of_decide_eq_true (by first | (with_reducible assumption) | assumption)
                         have q53 : (rd l1 x18_6) < (a0.size : Int) := of_decide_eq_true (by first | (with_reducible assumption) | assumption)
                         have hx53 := bt_at a0 (rd l1 x18_6)
                         replace p53 := eq_true p53
                         replace q53 := eq_true q53
                         have p55 : 0 ≤ ((rd l1 x18_6) : Int) := of_decide_eq_true (by first | (with_reducible assumption) | assumption)
                         have q55 : ((rd l1 x18_6) : Int) < ((x16_6.length : Int) : Int) := of_decide_eq_true (by first | (with_reducible assumption) | assumption)
                         obtain ⟨go55, co55, eo55, gb55, gl55, cl55, HG55⟩ := Kd.R_form HO_16.out (by omega)
                         (first | cases eo55 | (injection eo55 with ea_ en_ ec_; (first | subst ea_ | (injection ea_ with ea_; subst ea_)); subst ec_; clear en_))
                         have GB55 := Aside0.mk gb55
                         have GG55 := Aside0.mk HG55
                         clear gb55 gl55 HG55
                         obtain ⟨hx55_0, hf55_0⟩ := Kd.R_celln 0 HO_16.out ((rd l1 x18_6) : Int) p55 q55
                         replace p55 := eq_true p55
                         replace q55 := eq_true q55
                         have HP57 := Kd.R_putn HO_16.out ((rd l1 x18_6) : Int) (bt a0 (rd l1 x18_6))
                         rw [← Ny515.out] at HP57
                         have HQ57 := Aside0.mk HP57
                         clear HP57
                         refine start_ (n := 13) (S := fun w' => w'.cell? (ad513.add (x18_6).toNat) = some (.int .i64 (rd l1 x18_6)) ∧ w'.cell? (ad513.add (x18_6).toNat) = some (.int .i64 (rd l1 x18_6))) (ds := [12]) (Array.replicate 13 false) (by kernel_rfl) rfl rfl ⟨((HB.out.cell (World.block_lt_of_cell? w _ hw513_0)).trans hw513_0), ((HB.out.cell (World.block_lt_of_cell? w _ hw514_0)).trans hw514_0)⟩ (fun hHeld => ?_); refine with_tabW nl_BendUndone.tab27 nl_BendUndone.bits27 (fun HT_ HW_ => ?_)
                         generalize wr.drew = w56 at HO_16 HB GG55 HQ57 hf55_0 hx513_0 hx514_0 hx55_0 hHeld ⊢
                         refine pure_ (i := 0) (N := some 127) (v := ?_) (a' := ?_) (bA 13 1) rfl rfl (any_of HT_.out (by kernel_rfl)) (fun _ _ _ h => h) (Or.inl ⟨by rfl, ?_⟩) ?_ ?_
                         rotate_left
                         · intro w'
                           go_simp
                           with_reducible rfl
                         rotate_left
                         · simp only [Act.put, qA, qB, qC, i64_w, i32_w]
                           rfl
                         refine pure_ (i := 1) (N := some 128) (v := ?_) (a' := ?_) (bA 13 3) rfl rfl (any_of HT_.out (by kernel_rfl)) (fun _ _ _ h => h) (Or.inl ⟨by rfl, ?_⟩) ?_ ?_
                         rotate_left
                         · intro w'
                           go_simp
                           with_reducible rfl
                         rotate_left
                         · simp only [Act.put, qA, qB, qC, i64_w, i32_w]
                           rfl
                         refine pure_ (i := 2) (N := some 129) (v := ?_) (a' := ?_) (bA 13 7) rfl rfl (any_of HT_.out (by kernel_rfl)) (fun _ _ _ h => h) (Or.inl ⟨by rfl, ?_⟩) ?_ ?_
                         rotate_left
                         · intro w'
                           go_simp
                           with_reducible rfl
                         rotate_left
                         · simp only [Act.put, qA, qB, qC, i64_w, i32_w]
                           rfl
                         refine pure_ (i := 3) (N := some 130) (v := ?_) (a' := ?_) (bA 13 15) rfl rfl (any_of HT_.out (by kernel_rfl)) (fun _ _ _ h => h) (Or.inl ⟨by rfl, ?_⟩) ?_ ?_
                         rotate_left
                         · intro w'
                           go_simp
                           with_reducible rfl
                         rotate_left
                         · simp only [Act.put, qA, qB, qC, i64_w, i32_w]
                           rfl
                         refine pure_ (i := 5) (N := some 132) (v := ?_) (a' := ?_) (bA 13 47) rfl rfl (any_of HT_.out (by kernel_rfl)) (fun _ _ _ h => h) (Or.inl ⟨by rfl, ?_⟩) ?_ ?_
                         rotate_left
                         · intro w'
                           go_simp
                           with_reducible rfl
                         rotate_left
                         · simp only [Act.put, qA, qB, qC, i64_w, i32_w]
                           rfl
                         refine pure_ (i := 6) (N := some 133) (v := ?_) (a' := ?_) (bA 13 111) rfl rfl (any_of HT_.out (by kernel_rfl)) (fun _ _ _ h => h) (Or.inl ⟨by rfl, ?_⟩) ?_ ?_
                         rotate_left
                         · intro w'
                           go_simp
                           with_reducible rfl
                         rotate_left
                         · simp only [Act.put, qA, qB, qC, i64_w, i32_w]
                           rfl
                         refine pure_ (i := 7) (N := some 134) (v := ?_) (a' := ?_) (bA 13 239) rfl rfl (any_of HT_.out (by kernel_rfl)) (fun _ _ _ h => h) (Or.inl ⟨by rfl, ?_⟩) ?_ ?_
                         rotate_left
                         · intro w'
                           go_simp
                           with_reducible rfl
                         rotate_left
                         · simp only [Act.put, qA, qB, qC, i64_w, i32_w]
                           rfl
                         refine pure_ (i := 8) (N := some 135) (v := ?_) (a' := ?_) (bA 13 495) rfl rfl (any_of HT_.out (by kernel_rfl)) (fun _ _ _ h => h) (Or.inl ⟨by rfl, ?_⟩) ?_ ?_
                         rotate_left
                         · intro w'
                           go_simp
                           with_reducible rfl
                         rotate_left
                         · simp only [Act.put, qA, qB, qC, i64_w, i32_w]
                           rfl
                         refine take_ (i := 4) (N := some 131) (v := ?_) (a' := ?_) (bA 13 511) rfl rfl (take_ofW HT_.out HW_.out (by kernel_rfl)) (fun _ _ _ h => h) (Or.inl ⟨by rfl, ?_⟩) hHeld ?_ ?_
                         rotate_left
                         · rintro w' ⟨s0, s1⟩
                           go_simp
                           with_reducible rfl
                         rotate_left
                         · simp only [Act.put, qA, qB, qC, i64_w, i32_w]
                           rfl
                         refine take_ (i := 9) (N := some 136) (v := ?_) (a' := ?_) (bA 13 1023) rfl rfl (take_ofW HT_.out HW_.out (by kernel_rfl)) (fun _ _ _ h => h) (Or.inl ⟨by rfl, ?_⟩) hHeld ?_ ?_
                         rotate_left
                         · rintro w' ⟨s0, s1⟩
                           go_simp
                           with_reducible rfl
                         rotate_left
                         · simp only [Act.put, qA, qB, qC, i64_w, i32_w]
                           rfl
                         refine take_ (i := 10) (N := some 137) (v := ?_) (a' := ?_) (bA 13 2047) rfl rfl (take_ofW HT_.out HW_.out (by kernel_rfl)) (fun _ _ _ h => h) (Or.inl ⟨by rfl, ?_⟩) hHeld ?_ ?_
                         rotate_left
                         · rintro w' ⟨s0, s1⟩
                           go_simp
                           with_reducible rfl
                         rotate_left
                         · simp only [Act.put, qA, qB, qC, i64_w, i32_w]
                           rfl
                         refine pure_ (i := 11) (N := some 138) (v := ?_) (a' := ?_) (bA 13 4095) rfl rfl (any_of HT_.out (by kernel_rfl)) (fun _ _ _ h => h) (Or.inl ⟨by rfl, ?_⟩) ?_ ?_
                         rotate_left
                         · intro w'
                           go_simp
                           with_reducible rfl
                         rotate_left
                         · simp only [Act.put, qA, qB, qC, i64_w, i32_w]
                           rfl
                         refine last_ (i := 12) (N := none) (bA 13 8191) rfl rfl (one_of HT_.out (by kernel_rfl)) (by decide) (fun K hK => ?_)
                         refine skip_ (w1 := ?_) (by rfl) rfl ?_ ?_
                         rotate_left
                         · go_simp
                           rfl
                         refine hK.out _ _ ?_
                         clear hK K
                         refine done_ (done_of HT_.out (by kernel_rfl)) ?_
                         try go_wp2
                         (try simp only [← hl16_6])
                         go_roundg k6
                         case measure => have := HJ3.out; have := HK2.out; have := HJ17.out; have := HJ28.out; have := HK5.out; have := HK6.out; omega
                         case rel => exact ⟨(y515), (wrap64 (x18_6 + 1)), (by first | rfl | (simp; done) | (simp [*]; done)), H', ⟨by have := HJ3.out; have := HK2.out; have := HJ17.out; have := HJ28.out; have := HK5.out; have := HK6.out; omega⟩, ⟨by (try simp only [hl16_6]); (with_reducible repeat (first | apply Kd.R_alloc | apply Kd.R_drewN | apply Kd.R_drew)); exact HQ57.out⟩, ⟨by repeat (first | (with_reducible first | exact HB.out | apply below_alloc | apply pw_below_drewN | apply below_drew1 | refine below_set ?_ GB55.out) | exact HB.out)⟩⟩
                     rw [if_pos c41] at H
                     have c41b0 : decide (x17_5 < (x16_5.length : Int)) = true := decide_eq_true c41
                     clear c41
                     by_cases c42 : 0 ≤ x17_5
                     rotate_left
                     · rw [if_neg c42] at H
                       exact absurd H (by simp)
                     rw [if_pos c42] at H
                     have c42b0 : decide (0 ≤ x17_5) = true := decide_eq_true c42
                     clear c42
                     obtain ⟨y512, hy512⟩ : ∃ y_ : List Int, y_ = (x16_5.set (x17_5 : Int).toNat 83) := ⟨_, rfl⟩
                     replace H : (nl_BendUndone.l1 k5 a0 l1 (Int.tmod (wrap64 (a2)) (wrap64 ((l1.length : Int) + 1))) y512 (wrap64 (x17_5 + 1))) = some r := by first | (rw [hy512]; with_reducible exact H) | (have H2_ := (Option.bind_some _ _).symm.trans H; rw [hy512]; with_reducible exact H2_) | (have H2_ := (Option.bind_some _ _).symm.trans H; with_reducible exact H2_) | with_reducible exact H | (rw [hy512]; exact H) | exact H
                     have Ny512 := Aside0.mk hy512
                     clear hy512
                     have H' := Aside0.mk H
                     clear H
                     obtain ⟨Ao44, co44, eo44⟩ := Kd.R_slice HO_16.out
                     subst eo44
                     have p43 : 0 ≤ (x17_5 : Int) := of_decide_eq_true (by first | (with_reducible assumption) | assumption)
                     have q43 : (x17_5 : Int) < ((x16_5.length : Int) : Int) := of_decide_eq_true (by first | (with_reducible assumption) | assumption)
                     obtain ⟨go43, co43, eo43, gb43, gl43, cl43, HG43⟩ := Kd.R_form HO_16.out (by omega)
                     (first | cases eo43 | (injection eo43 with ea_ en_ ec_; (first | subst ea_ | (injection ea_ with ea_; subst ea_)); subst ec_; clear en_))
                     have GB43 := Aside0.mk gb43
                     have GG43 := Aside0.mk HG43
                     clear gb43 gl43 HG43
                     obtain ⟨hx43_0, hf43_0⟩ := Kd.R_celln 0 HO_16.out (x17_5 : Int) p43 q43
                     replace p43 := eq_true p43
                     replace q43 := eq_true q43
                     have HP45 := Kd.R_putg HO_16.out (x17_5 : Int) 83
                     go_wp2_with (first | ((with_reducible refine gate_store (t := 5) (p := 121) rfl ?_); refine store_event (t := 5) (p := 121) (v := ?vo_w46) (w1 := (wr.setCell ⟨go43, (x17_5 : Int).toNat, none⟩ (.int .u8 83))) ?hg ?ho ?hn ?hr ?_; (case ho => rfl); (case hg => rfl); (case hn => rfl); (case hr => first | (go_simp; done) | (go_simp; rfl)); intro w46 hw; have hg : wr.grownBy w46 (some go43) := (by rw [hw]; exact HP45.2); have hp_ : Kd.R (Kd.int .u8) 5 w46 w.heap.size (fun _ => True) (.slice (some ⟨go43, 0, none⟩) x16_5.length co44) y512 := (by rw [hw, Ny512.out]; exact HP45.1); clear HP45; have n0_ := Aside0.mk (hp_); have n1_ := Aside0.mk ((by rw [hw]; exact below_set (HB.out) GB43.out : Below w.heap.size w w46)); clear HO_16; clear HB; have HO_16 := n0_; have HB := n1_; clear n0_ n1_; clear hg hw hp_))
                     go_roundg k5
                     case measure => have := HJ3.out; have := HK2.out; have := HJ17.out; have := HJ28.out; have := HK5.out; omega
                     case rel => exact ⟨(y512), (wrap64 (x17_5 + 1)), (by first | rfl | (simp; done) | (simp [*]; done)), H', ⟨by have := HJ3.out; have := HK2.out; have := HJ17.out; have := HJ28.out; have := HK5.out; omega⟩, ⟨by (with_reducible repeat (first | apply Kd.R_alloc | apply Kd.R_drewN | apply Kd.R_drew)); exact HO_16.out⟩, ⟨by repeat (first | (with_reducible first | exact HB.out | apply below_alloc | apply pw_below_drewN | apply below_drew1) | exact HB.out)⟩⟩
                 rw [if_pos c36] at H
                 exact absurd H (by simp)
               subst c32
               have H1 : (if t507 = 0 then ((nl_alive.f kj28).bind fun t508 => (some t508)) else (some false)) = some r := by rw [if_pos rfl] at H; exact H
               clear H
               have H := H1
               clear H1
               by_cases c33 : t507 = 0
               rotate_left
               · rw [if_neg c33] at H
                 have c33b0 : (t507 == 0) = false := beq_eq_false_iff_ne.mpr c33
                 have c33b1 : (t507 != 0) = true := bne_iff_ne.mpr c33
                 obtain rfl := Option.some.inj H
                 go_wp2
                 go_ret
                 exact ⟨by first | rfl | (simp [errW_none, errW_some] <;> rfl) | (simp [*, errW_none, errW_some] <;> rfl), by repeat (first | (with_reducible first | exact HB.out | apply below_alloc | apply pw_below_drewN | apply below_drew1) | exact HB.out)⟩
               rw [if_pos c33] at H
               have c33b0 : (t507 == 0) = true := beq_iff_eq.mpr c33
               have c33b1 : (t507 != 0) = false := bne_eq_false_iff_eq.mpr c33
               clear c33
               replace H := Option.bind_eq_some_iff.mp H
               obtain ⟨t508, A340, H⟩ := H
               replace H : (some t508) = some r := H
               have A34 := Aside0.mk A340
               clear A340
               obtain rfl := Option.some.inj H
               go_wp2_with (first | (go_at_call 15; (with_reducible refine (nl_alive.calls kj28  t508 _ ?side1 A34.out).mono ?_); (case side1 => exact Laid.below HLD.out (by repeat (first | (with_reducible first | exact HB.out | apply below_alloc | apply pw_below_drewN | apply below_drew1) | exact HB.out))); rintro e w35 ⟨rfl, hb⟩; have n0_ := Aside0.mk (below_step (by repeat (first | (with_reducible first | exact HB.out | apply below_alloc | apply pw_below_drewN | apply below_drew1) | exact HB.out)) hb); clear HB; have HB := n0_; clear n0_; (try clear hb); (try clear hb2); (try clear hk); (try clear hi)))
               go_ret
               exact ⟨by first | rfl | (simp [errW_none, errW_some] <;> rfl) | (simp [*, errW_none, errW_some] <;> rfl), by repeat (first | (with_reducible first | exact HB.out | apply below_alloc | apply pw_below_drewN | apply below_drew1) | exact HB.out)⟩
           subst c27
           have H1 : (some false) = some r := by rw [if_pos rfl] at H; exact H
           clear H
           have H := H1
           clear H1
           obtain rfl := Option.some.inj H
           go_wp2
           go_ret
           exact ⟨by first | rfl | (simp [errW_none, errW_some] <;> rfl) | (simp [*, errW_none, errW_some] <;> rfl), by repeat (first | (with_reducible first | exact HB.out | apply below_alloc | apply pw_below_drewN | apply below_drew1) | exact HB.out)⟩
       rw [if_pos c14] at H
       have c14b0 : decide (x12_2 < (a0.size : Int)) = true := decide_eq_true c14
       clear c14
       by_cases c15 : 0 ≤ x12_2
       rotate_left
       · rw [if_neg c15] at H
         exact absurd H (by simp)
       rw [if_pos c15] at H
       have c15b0 : decide (0 ≤ x12_2) = true := decide_eq_true c15
       clear c15
       by_cases c17 : (bt a0 x12_2) = 83
       rotate_left
       · rw [if_neg c17] at H
         have c17b0 : ((bt a0 x12_2) == 83) = false := beq_eq_false_iff_ne.mpr c17
         have c17b1 : ((bt a0 x12_2) != 83) = true := bne_iff_ne.mpr c17
         have H' := Aside0.mk H
         clear H
         have p16 : 0 ≤ (x12_2 : Int) := of_decide_eq_true (by first | (with_reducible assumption) | assumption)
         have q16 : x12_2 < (a0.size : Int) := of_decide_eq_true (by first | (with_reducible assumption) | assumption)
         have hx16 := bt_at a0 x12_2
         replace p16 := eq_true p16
         replace q16 := eq_true q16
         go_wp2
         go_roundg k2
         case measure => have := HJ3.out; have := HK2.out; omega
         case rel => exact ⟨(wrap64 (x11_2 + 1)), (wrap64 (x12_2 + 1)), (by first | rfl | (simp; done) | (simp [*]; done)), (by first | rfl | (simp; done) | (simp [*]; done)), H', ⟨by have := HJ3.out; have := HK2.out; omega⟩, ⟨by (with_reducible repeat (first | apply Kd.R_alloc | apply Kd.R_drewN | apply Kd.R_drew)); exact HO_7.out⟩, ⟨by repeat (first | (with_reducible first | exact HB.out | apply below_alloc | apply pw_below_drewN | apply below_drew1) | exact HB.out)⟩⟩
       rw [if_pos c17] at H
       have c17b0 : ((bt a0 x12_2) == 83) = true := beq_iff_eq.mpr c17
       have c17b1 : ((bt a0 x12_2) != 83) = false := bne_eq_false_iff_eq.mpr c17
       clear c17
       have H' := Aside0.mk H
       clear H
       have p16 : 0 ≤ (x12_2 : Int) := of_decide_eq_true (by first | (with_reducible assumption) | assumption)
       have q16 : x12_2 < (a0.size : Int) := of_decide_eq_true (by first | (with_reducible assumption) | assumption)
       have hx16 := bt_at a0 x12_2
       replace p16 := eq_true p16
       replace q16 := eq_true q16
       go_wp2
       go_roundg k2
       case measure => have := HJ3.out; have := HK2.out; omega
       case rel => exact ⟨(x11_2), (wrap64 (x12_2 + 1)), (by first | rfl | (simp; done) | (simp [*]; done)), (by first | rfl | (simp; done) | (simp [*]; done)), H', ⟨by have := HJ3.out; have := HK2.out; omega⟩, ⟨by (with_reducible repeat (first | apply Kd.R_alloc | apply Kd.R_drewN | apply Kd.R_drew)); exact HO_7.out⟩, ⟨by repeat (first | (with_reducible first | exact HB.out | apply below_alloc | apply pw_below_drewN | apply below_drew1) | exact HB.out)⟩⟩
   subst c6
   have H1 : ((nl_alive.f kj3).bind fun t497 => (some t497)) = some r := by rw [if_pos rfl] at H; exact H
   clear H
   have H := H1
   clear H1
   replace H := Option.bind_eq_some_iff.mp H
   obtain ⟨t497, A70, H⟩ := H
   replace H : (some t497) = some r := H
   have A7 := Aside0.mk A70
   clear A70
   obtain rfl := Option.some.inj H
   go_wp2_with (first | ((with_reducible refine gate_callee (f := 15) rfl ?_); refine goesL_ (some 28) rfl rfl Tryz.func15 (by kernel_rfl) rfl #[] rfl (by (try simp only [List.map_toArray, List.map_cons, List.map_nil]); first | done | rfl | (simp only [List.length_drop, List.length_take]; rfl)) ?_; (with_reducible refine (nl_alive.calls kj3  t497 _ ?side1 A7.out).mono ?_); (case side1 => exact Laid.below HLD.out (by repeat (first | (with_reducible first | exact HB.out | apply below_alloc | apply pw_below_drewN | apply below_drew1) | exact HB.out))); rintro e w8 ⟨rfl, hb⟩; refine ⟨_, rfl, ?_⟩; have n0_ := Aside0.mk (below_step (by repeat (first | (with_reducible first | exact HB.out | apply below_alloc | apply pw_below_drewN | apply below_drew1) | exact HB.out)) hb); clear HB; have HB := n0_; clear n0_; (try clear hb); (try clear hb2); (try clear hk); (try clear hi)))
   go_ret
   exact ⟨by first | rfl | (simp [errW_none, errW_some] <;> rfl) | (simp [*, errW_none, errW_some] <;> rfl), by repeat (first | (with_reducible first | exact HB.out | apply below_alloc | apply pw_below_drewN | apply below_drew1) | exact HB.out)⟩
def nl_BendUndone.Pure : Prop := ∀ (a0 : ByteArray) (l1 : List Int) (a2 : Int), a0.size ≤ 140737488351232 → l1.length ≤ maxLen → l1.length * 8 ≤ 140737488351232 → (∀ x ∈ l1, (Lit.int .i64 x).wf = true) → (Lit.int .u8 a2).wf = true → ∃ k, nl_BendUndone.f k a0 l1 a2 = some true
theorem nl_BendUndone.walk (P : nl_BendUndone.Pure) (a0 : ByteArray) (a1 : Option Addr) (len1 cap1 : Nat) (z1 : List Int) (a2 : Int) (w : World) (hL : Laid w) (w0 : a0.size ≤ 140737488351232) (w1 : (a1 = none ∧ len1 = 0 ∧ cap1 = 0 ∧ z1 = []) ∨ ∃ x, a1 = some x ∧ len1 ≤ cap1 ∧ cap1 ≤ maxLen ∧ z1.length = cap1 ∧ (∀ i, i < z1.length → w.cell? (x.add i) = some (.int .i64 (z1.getD i 0))) ∧ ∀ n ∈ z1, (Lit.int .i64 n).wf = true) (y1 : len1 * 8 ≤ 140737488351232) (w2 : (Lit.int .u8 a2).wf = true) :
 Calls Tryz.prog 14 #[.string a0, .slice a1 len1 cap1, .int .u8 a2] w fun e w' => e = .returned (.bool true) ∧ Below w.heap.size w w' := by
 obtain ⟨l1, rfl, hr1, hm1, hw1, hc1⟩ := ReadsInt.ofRowC w1
 obtain ⟨k, h⟩ := P a0 l1 a2 w0 hm1 y1 hw1 w2
 refine (nl_BendUndone.calls k a0 _ _ l1 a2 true w hL (Kd.C_of_reads (d := (0 : Int)) (h1 := fun _ => rfl) hr1) hc1 h).mono ?_
 rintro e w' ⟨rfl, hd⟩
 exact ⟨rfl, hd⟩
theorem filter_le (p q : Nat → Bool) (h : ∀ x, p x = true → q x = true) (l : List Nat) : (l.filter p).length ≤ (l.filter q).length ∧ ((l.filter p).length = (l.filter q).length → ∀ x ∈ l, q x = true → p x = true) := by
  induction l with
  | nil => exact ⟨Nat.le_refl _, fun _ x hx => by cases hx⟩
  | cons a l ih =>
    obtain ⟨h1, h2⟩ := ih
    rw [List.filter_cons, List.filter_cons]
    cases hp : p a with
    | true =>
      rw [h a hp]
      simp only [if_true, List.length_cons]
      refine ⟨by omega, fun e x hx hq => ?_⟩
      rcases List.mem_cons.1 hx with rfl | hx
      · exact hp
      · exact h2 (by omega) x hx hq
    | false =>
      cases hq : q a with
      | true =>
        simp only [Bool.false_eq_true, if_false, if_true, List.length_cons]
        exact ⟨by omega, fun e => absurd e (by omega)⟩
      | false =>
        simp only [Bool.false_eq_true, if_false]
        refine ⟨h1, fun e x hx hqx => ?_⟩
        rcases List.mem_cons.1 hx with rfl | hx
        · rw [hq] at hqx; cases hqx
        · exact h2 e x hx hqx
theorem mem_sub {s : List UInt8} (hs : s.length ≤ 12) {c : Nat} (h : Sp.Sub c (Sp.J s)) : (Sp.mem c).length ≤ (Sp.mem (Sp.J s)).length ∧ ((Sp.mem c).length = (Sp.mem (Sp.J s)).length → c = Sp.J s) := by
  obtain ⟨h1, h2⟩ := filter_le (fun i => c.testBit i) (fun i => (Sp.J s).testBit i) h (List.range 12)
  refine ⟨h1, fun e => Nat.eq_of_testBit_eq fun i => ?_⟩
  cases hj : (Sp.J s).testBit i with
  | true =>
    have hi : i < 12 := by
      have hj' := hj
      rw [Sp.J_bit, Bool.and_eq_true, decide_eq_true_iff] at hj'
      omega
    exact h2 e i (List.mem_range.2 hi) hj
  | false =>
    cases hc : c.testBit i with
    | false => rfl
    | true => rw [h i hc] at hj; cases hj
theorem memI_len (c : Nat) : (memI c).length = (Sp.mem c).length := by unfold memI; rw [List.length_map]
theorem most_undone (s : List UInt8) (hs : s.length ≤ 12) : ∃ c, Reach s c ∧ mostOf s = memI c ∧ (memI c).length ≤ (Sp.mem (Sp.J s)).length ∧ ((memI c).length = (Sp.mem (Sp.J s)).length ↔ 0 < Sp.ways s 0) := by
  obtain ⟨c, h1, h2, h3⟩ := mostOf_spec s
  have h4 := mem_sub hs h1.1
  rw [← memI_len c] at h4
  refine ⟨c, h1, h2, h4.1, fun e => ?_, fun h => ?_⟩
  · have := h4.2 e
    rw [← Sp.up_J, ← this]; exact h1.2
  · have h5 := h3 (Sp.J s) ⟨Sp.Sub.refl _, by rw [Sp.up_J]; exact h⟩
    rw [h2] at h5
    unfold better at h5
    rw [Bool.or_eq_false_iff, decide_eq_false_iff_not, memI_len (Sp.J s)] at h5
    have := h5.1
    omega
def cntT (s : List UInt8) (i : Nat) : Nat := ((List.range i).filter fun j => (Sp.J s).testBit j).length
theorem cntT_succ (s : List UInt8) (i : Nat) (h : i < s.length) : cntT s (i + 1) = cntT s i + (if s[i] = 83 then 0 else 1) := by
  unfold cntT
  rw [List.range_succ, List.filter_append, List.length_append, List.filter_cons]
  have := Sp.J_bit' s i h
  by_cases e : s[i] = 83
  · simp [e, this]
  · simp [e, this]
theorem cntT_ge (s : List UInt8) (d : Nat) : cntT s (s.length + d) = cntT s s.length := by
  induction d with
  | zero => rfl
  | succ d ih =>
    rw [← ih]
    unfold cntT
    rw [← Nat.add_assoc, List.range_succ, List.filter_append, List.length_append, List.filter_cons]
    have : (Sp.J s).testBit (s.length + d) = false := by rw [Sp.J_bit, decide_eq_false (by omega)]; rfl
    simp [this]
theorem cntT_all (s : List UInt8) (hs : s.length ≤ 12) : cntT s s.length = (Sp.mem (Sp.J s)).length := by
  rw [← cntT_ge s (12 - s.length), show s.length + (12 - s.length) = 12 by omega]; rfl
theorem cntT_le (s : List UInt8) (i : Nat) : cntT s i ≤ i := Nat.le_trans (List.length_filter_le _ _) (by simp)
def nats (s : List UInt8) : List Int := s.map fun c => (c.toNat : Int)
theorem nats_length (s : List UInt8) : (nats s).length = s.length := by unfold nats; rw [List.length_map]
theorem sel_set (s : List UInt8) (b j : Nat) (h : j < s.length) : (Sp.sel s b).set j s[j] = Sp.sel s (b ||| 2 ^ j) := by
  apply List.ext_getElem
  · simp [Sp.sel_length]
  intro i h1 h2
  have h3 : i < s.length := by simpa [Sp.sel_length] using h2
  rw [List.getElem_set, Sp.sel_get s b i h3, Sp.sel_get s _ i h3, Nat.testBit_or, Nat.testBit_two_pow]
  by_cases e : j = i
  · subst e; simp
  · simp [e]
theorem nats_set (s : List UInt8) (b j : Nat) (h : j < s.length) : (nats (Sp.sel s b)).set j (s[j].toNat : Int) = nats (Sp.sel s (b ||| 2 ^ j)) := by
  unfold nats
  rw [← sel_set s b j h, List.map_set]
theorem nats_zero (s : List UInt8) : nats (Sp.sel s 0) = List.replicate s.length (83 : Int) := by
  unfold nats
  rw [sel_zero, List.map_replicate]; rfl
theorem fill_set (n i : Nat) (h : i < n) : (List.replicate i (83 : Int) ++ List.replicate (n - i) 0).set i 83 = List.replicate (i + 1) 83 ++ List.replicate (n - (i + 1)) 0 := by
  rw [show n - i = (n - (i + 1)) + 1 by omega, List.replicate_succ, List.set_append_right _ _ (by simp), List.replicate_succ', List.length_replicate, Nat.sub_self]
  simp
theorem setOf_take (l : List Int) (i : Nat) (h : i < l.length) : setOf 0 (l.take (i + 1)) = setOf 0 (l.take i) ||| 2 ^ (l[i]).toNat := by
  unfold setOf
  rw [List.take_succ_eq_append_getElem h, List.foldl_append]; rfl
theorem setOf_memI (c : Nat) (h : c < 4096) : setOf 0 (memI c) = c := by
  apply Nat.eq_of_testBit_eq
  intro i
  rw [setOf_bit, Nat.zero_testBit, Bool.false_or, Bool.eq_iff_iff, List.any_eq_true]
  unfold memI Sp.mem
  constructor
  · rintro ⟨x, hx, he⟩
    obtain ⟨j, hj, rfl⟩ := List.mem_map.1 hx
    have : j = i := by simpa using he
    subst this; exact (List.mem_filter.1 hj).2
  · intro hb
    have hi : i < 12 := by
      rcases Nat.lt_or_ge i 12 with h1 | h1
      · exact h1
      · rw [Nat.testBit_lt_two_pow (Nat.lt_of_lt_of_le h (show 2 ^ 12 ≤ 2 ^ i from Nat.pow_le_pow_right (by omega) h1))] at hb
        cases hb
    exact ⟨(i : Int), List.mem_map.2 ⟨i, List.mem_filter.2 ⟨List.mem_range.2 hi, hb⟩, rfl⟩, by simp⟩
theorem memI_asc (c i j : Nat) (hij : i < j) (h : j < (memI c).length) : (memI c)[i]'(by omega) < (memI c)[j] := by
  have hp : (memI c).Pairwise (· < ·) := by
    unfold memI Sp.mem
    rw [List.pairwise_map]
    exact (List.pairwise_lt_range.filter _).imp (by intro a b h; omega)
  exact List.pairwise_iff_getElem.1 hp i j (by omega) h hij
theorem memI_at {s : List UInt8} {c : Nat} (h : Sp.Sub c (Sp.J s)) (i : Nat) (hi : i < (memI c).length) : ∃ j : Nat, (memI c)[i] = (j : Int) ∧ ∃ hj : j < s.length, s[j] ≠ 83 := by
  have hm : (memI c)[i] ∈ memI c := List.getElem_mem _
  obtain ⟨j, hj, he⟩ := List.mem_map.1 hm
  have hb := h j (List.mem_filter.1 hj).2
  have hb' := hb
  rw [Sp.J_bit, Bool.and_eq_true, decide_eq_true_iff] at hb'
  refine ⟨j, he.symm, hb'.1, ?_⟩
  rw [Sp.J_bit' s j hb'.1, decide_eq_true_iff] at hb
  exact hb
theorem good_in (s : List UInt8) (hs : s.length ≤ 12) : ∀ (l : List Int) (b : Nat), goodF s b l = true → ∀ x ∈ l, ∃ j : Nat, x = (j : Int) ∧ j < s.length := by
  intro l
  induction l with
  | nil => intro b _ x hx; cases hx
  | cons y l ih =>
    intro b h x hx
    obtain ⟨j, rfl, hj, h1, h2⟩ := (good_cons hs).1 h
    rcases List.mem_cons.1 hx with rfl | hx
    · exact ⟨j, rfl, ((mem_rest' hs).1 hj).1⟩
    · exact ih _ h2 x hx
end Go.Proofs.YtbdikmcmehbbpaaGreatDoor.Bend
namespace Go.Proofs.YtbdikmcmehbbpaaGreatDoor.Bend
open Go.RowKit Go.Proofs.YtbdikmcmehbbpaaGreatDoorW.PrintWords Go.Proofs.YtbdikmcmehbbpaaGreatDoorW.PrintLast
set_option linter.unusedVariables false
set_option linter.unusedSimpArgs false
theorem strOf_nats (s : List UInt8) : strOfNums (nats s) = strB s := by
  have h : (nats s).map (fun n => UInt8.ofNat n.toNat) = s := by
    unfold nats
    rw [List.map_map]
    induction s with
    | nil => rfl
    | cons c s ih => rw [List.map_cons, ih]; simp
  unfold strOfNums strB
  rw [h]
theorem rd_get (l : List Int) (i : Nat) (h : i < l.length) : rd l (i : Int) = l[i] := by
  unfold rd
  rw [Int.toNat_natCast, List.getD_eq_getElem?_getD, List.getElem?_eq_getElem h]; rfl
theorem shape_sel {s : List UInt8} (h : Sp.shape s = true) (c : Nat) : Sp.shape (Sp.sel s c) = true := by
  obtain ⟨h1, h2, h3⟩ := shape_of h
  unfold Sp.shape
  rw [Sp.sel_length, decide_eq_true h1, decide_eq_true h2, Sp.sel_letters s c h3]; rfl
theorem bends_fill (S : ByteArray) (hS : S.size ≤ 12) (l : List Int) (q d : Nat) : ∀ i, i + d = S.size →
    nl_bends.l0 (q + d + 1) S l (List.replicate i 83 ++ List.replicate (S.size - i) 0) (i : Int) = nl_bends.l1 (q + 0) S l (List.replicate S.size 83) 0 := by
  induction d with
  | zero =>
    intro i hi
    have e : i = S.size := by omega
    subst e
    unfold nl_bends.l0
    rw [if_neg (by simp), Nat.sub_self]
    simp
  | succ d ih =>
    intro i hi
    have hi4 : i ≤ 4096 := by omega
    unfold nl_bends.l0
    rw [if_pos (by simp; omega), if_pos (by omega), Int.toNat_natCast, wrapI i hi4, fill_set S.size i (by omega)]
    exact ih (i + 1) (by omega)
theorem bends_loop (S : ByteArray) (hs : Sp.shape (L S) = true) (c : Nat) (hc : Reach (L S) c) (d : Nat) : ∀ (k i : Nat), i + d = (memI c).length → d + 133501 < k →
    nl_bends.l1 k S (memI c) (nats (Sp.sel (L S) (setOf 0 ((memI c).take i)))) (i : Int) = some true := by
  obtain ⟨h1, h2, h3⟩ := shape_of hs
  have hL := L_length S
  have hl := memI_length c
  induction d with
  | zero =>
    intro k i hi hk
    obtain ⟨k, rfl⟩ : ∃ m, k = m + 1 := ⟨k - 1, by omega⟩
    unfold nl_bends.l1
    have hw := ways_sel (L S) c hc.1
    have hp := hc.2
    rw [if_neg (by omega), List.take_of_length_le (by omega), setOf_memI c (reach_lt h2 hc), strOf_nats, refOrder_eq _ k (by omega)]
    unfold bend_Order.f
    rw [L_strB, shape_sel hs c, if_pos rfl, if_neg (by rw [hw]; omega)]; rfl
  | succ d ih =>
    intro k i hi hk
    obtain ⟨k, rfl⟩ : ∃ m, k = m + 1 := ⟨k - 1, by omega⟩
    have hi4 : i ≤ 4096 := by omega
    have him : i < (memI c).length := by omega
    obtain ⟨j, hj, hjl, hj83⟩ := memI_at hc.1 i him
    have hrd : rd (memI c) (i : Int) = (j : Int) := by rw [rd_get _ i him, hj]
    have hjS : j < S.size := by omega
    have hbt := bt_L S j hjS
    have hn83 : ¬ bt S (j : Int) = 83 := fun e => hj83 ((bt_is S j hjS 83 83 rfl).1 e)
    have hnext : nl_bends.l1 k S (memI c) ((nats (Sp.sel (L S) (setOf 0 ((memI c).take i)))).set j (bt S (j : Int))) ((i + 1 : Nat) : Int) = some true := by
      have := ih k (i + 1) (by omega) (by omega)
      rw [setOf_take _ i him, hj, Int.toNat_natCast, ← nats_set (L S) _ j hjl] at this
      rw [hbt]; exact this
    have hpl : (j : Int) < ((nats (Sp.sel (L S) (setOf 0 ((memI c).take i)))).length : Int) := by rw [nats_length, Sp.sel_length]; omega
    unfold nl_bends.l1
    rw [hrd, wrapI i hi4, if_pos (by omega), if_pos (by omega), if_neg (by omega), if_neg (by omega), if_pos (by omega), if_pos (by omega), if_neg hn83, Int.toNat_natCast]
    by_cases h0 : (i : Int) > 0
    · rw [if_pos h0, wrapD i hi4]
      have e : (i : Int) - 1 = ((i - 1 : Nat) : Int) := by omega
      have hasc := memI_asc c (i - 1) i (by omega) him
      rw [e, rd_get _ (i - 1) (by omega), if_pos (by omega), if_pos (by omega), if_neg (by rw [hj] at hasc; omega), if_pos hpl]
      exact hnext
    · rw [if_neg h0, if_pos hpl]
      exact hnext
theorem bends_eq (S : ByteArray) (hs : Sp.shape (L S) = true) (c : Nat) (hc : Reach (L S) c) (k : Nat) (hk : 133600 < k) : nl_bends.f k S (memI c) = some true := by
  obtain ⟨h1, h2, h3⟩ := shape_of hs
  rw [L_length] at h2
  obtain ⟨q, rfl⟩ : ∃ q, k = q + S.size + 1 := ⟨k - S.size - 1, by omega⟩
  have hf := bends_fill S h2 (memI c) q S.size 0 (by omega)
  have hl := memI_length c
  have hb := bends_loop S hs c hc (memI c).length (q + 0) 0 (by omega) (by omega)
  have hz : setOf 0 ((memI c).take 0) = 0 := rfl
  rw [hz, nats_zero, L_length] at hb
  unfold nl_bends.f
  rw [if_pos (Int.natCast_nonneg _), Int.toNat_natCast, if_pos (by omega)]
  rw [List.replicate_zero, List.nil_append, Nat.sub_zero] at hf
  exact hf.trans hb
theorem turns_loop (S : ByteArray) (hS : S.size ≤ 12) (x1 : List Int) (x2 : Int) (x7 : List Int) (x9 x10 : Int) (q d : Nat) : ∀ i, i + d = S.size →
    nl_BendUndone.l0 (q + d + 1) S x1 x2 x7 x9 x10 (cntT (L S) i : Int) (i : Int) = nl_BendUndone.l0 (q + 0 + 1) S x1 x2 x7 x9 x10 (cntT (L S) S.size : Int) (S.size : Int) := by
  induction d with
  | zero =>
    intro i hi
    have e : i = S.size := by omega
    subst e; rfl
  | succ d ih =>
    intro i hi
    have hi4 : i ≤ 4096 := by omega
    have hiS : i < S.size := by omega
    have hil : i < (L S).length := by rw [L_length]; exact hiS
    have hc := cntT_succ (L S) i hil
    have hcl := cntT_le (L S) i
    have ihn := ih (i + 1) (by omega)
    have hc4 : cntT (L S) i ≤ 4096 := by omega
    rw [nl_BendUndone.l0, if_pos (by omega), if_pos (by omega), wrapI i hi4]
    by_cases e : (L S)[i] = 83
    · rw [if_pos ((bt_is S i hiS 83 83 rfl).2 e)]
      rw [if_pos e, Nat.add_zero] at hc
      rw [hc] at ihn
      exact ihn
    · rw [if_neg (fun h => e ((bt_is S i hiS 83 83 rfl).1 h)), wrapI _ hc4]
      rw [if_neg e] at hc
      rw [hc] at ihn
      exact ihn
theorem part_fill (S : ByteArray) (hS : S.size ≤ 12) (l : List Int) (z : Int) (q d : Nat) : ∀ i, i + d = S.size →
    nl_BendUndone.l1 (q + d + 1) S l z (List.replicate i 83 ++ List.replicate (S.size - i) 0) (i : Int) = nl_BendUndone.l2 (q + 0) S l z (List.replicate S.size 83) 0 := by
  induction d with
  | zero =>
    intro i hi
    have e : i = S.size := by omega
    subst e
    rw [nl_BendUndone.l1, if_neg (by simp), Nat.sub_self]
    simp
  | succ d ih =>
    intro i hi
    have hi4 : i ≤ 4096 := by omega
    rw [nl_BendUndone.l1, if_pos (by simp; omega), if_pos (by omega), Int.toNat_natCast, wrapI i hi4, fill_set S.size i (by omega)]
    exact ih (i + 1) (by omega)
theorem part_loop (S : ByteArray) (hs : Sp.shape (L S) = true) (l : List Int) (hl : l.length ≤ 100) (hg : goodOf (L S) l = true) (z : Nat) (hz : z ≤ l.length) (d : Nat) : ∀ (k i : Nat), i + d = z → d + 9000 < k →
    nl_BendUndone.l2 k S l (z : Int) (nats (Sp.sel (L S) (setOf 0 (l.take i)))) (i : Int) = some true := by
  obtain ⟨h1, h2, h3⟩ := shape_of hs
  have hL := L_length S
  induction d with
  | zero =>
    intro k i hi hk
    obtain ⟨k, rfl⟩ : ∃ m, k = m + 1 := ⟨k - 1, by omega⟩
    have hu := undone (L S) h2 l i hg
    have e : i = z := by omega
    subst e
    rw [nl_BendUndone.l2, if_neg (by omega), if_pos (by omega), if_pos (by omega), Int.toNat_natCast, strOf_nats, good_eq _ _ (by rw [List.length_take]; omega) k (by omega), L_strB, shape_sel hs, if_pos rfl, hu]
    simp only [Option.bind_some, if_true]
    rw [alive_at k (by omega)]; rfl
  | succ d ih =>
    intro k i hi hk
    obtain ⟨k, rfl⟩ : ∃ m, k = m + 1 := ⟨k - 1, by omega⟩
    have hi4 : i ≤ 4096 := by omega
    have hil : i < l.length := by omega
    obtain ⟨j, hj, hjl⟩ := good_in (L S) h2 l 0 hg l[i] (List.getElem_mem _)
    have hrd : rd l (i : Int) = (j : Int) := by rw [rd_get _ i hil, hj]
    have hjS : j < S.size := by omega
    have hbt := bt_L S j hjS
    have hnext : nl_BendUndone.l2 k S l (z : Int) ((nats (Sp.sel (L S) (setOf 0 (l.take i)))).set j (bt S (j : Int))) ((i + 1 : Nat) : Int) = some true := by
      have := ih k (i + 1) (by omega) (by omega)
      rw [setOf_take _ i hil, hj, Int.toNat_natCast, ← nats_set (L S) _ j hjl] at this
      rw [hbt]; exact this
    have hpl : (j : Int) < ((nats (Sp.sel (L S) (setOf 0 (l.take i)))).length : Int) := by rw [nats_length, Sp.sel_length]; omega
    rw [nl_BendUndone.l2, hrd, wrapI i hi4, if_pos (by omega), if_pos (by omega), if_pos (by omega), if_pos (by omega), if_pos (by omega), if_pos hpl, Int.toNat_natCast]
    exact hnext
theorem und_j3 (S : ByteArray) (hs : Sp.shape (L S) = true) (l : List Int) (hl : l.length ≤ 100) (a2 : Int) (ha : 0 ≤ a2 ∧ a2 ≤ 255) (k : Nat) (hk : 10000 < k) :
    nl_BendUndone.j3 k S l a2 0 (!goodOf (L S) l) = some true := by
  obtain ⟨h1, h2, h3⟩ := shape_of hs
  rw [L_length] at h2
  obtain ⟨k, rfl⟩ : ∃ m, k = m + S.size + 2 := ⟨k - S.size - 2, by omega⟩
  rw [nl_BendUndone.j3]
  cases hg : goodOf (L S) l with
  | false =>
    rw [if_pos (show (!false) = true from rfl), if_pos rfl, alive_at _ (by omega)]; rfl
  | true =>
    obtain ⟨u, hu⟩ : ∃ u : Nat, a2 = (u : Int) := ⟨a2.toNat, by omega⟩
    have w1 : wrap64 a2 = (u : Int) := by rw [hu]; exact wrap_small _ (by omega) (by omega)
    have w2 : wrap64 ((l.length : Int) + 1) = ((l.length + 1 : Nat) : Int) := wrapI l.length (by omega)
    have hlt := Nat.mod_lt u (show 0 < l.length + 1 by omega)
    have hf := part_fill S h2 l ((u % (l.length + 1) : Nat) : Int) k S.size 0 (by omega)
    have hb := part_loop S hs l hl hg (u % (l.length + 1)) (by omega) (u % (l.length + 1)) (k + 0) 0 (by omega) (by omega)
    have hz : setOf 0 (l.take 0) = 0 := rfl
    rw [hz, nats_zero, L_length] at hb
    rw [List.replicate_zero, List.nil_append, Nat.sub_zero] at hf
    rw [if_neg (by decide), w1, w2, if_neg (by omega), if_pos (Int.natCast_nonneg _), Int.toNat_natCast, if_pos (by omega), ← Int.ofNat_tmod]
    exact hf.trans hb
theorem und_j0 (S : ByteArray) (l : List Int) (a2 : Int) (ha : 0 ≤ a2 ∧ a2 ≤ 255) (k : Nat) (hk : 150000 < k) (x : Bool) (hx : x = true ∨ l.length ≤ 100) : nl_BendUndone.j0 k S l a2 x = some true := by
  obtain ⟨k, rfl⟩ : ∃ m, k = m + 1 := ⟨k - 1, by omega⟩
  rw [nl_BendUndone.j0]
  cases x with
  | true => rw [if_pos rfl, alive_at _ (by omega)]; rfl
  | false =>
    have hl : l.length ≤ 100 := hx.resolve_left (by simp)
    rw [if_neg (by decide)]
    unfold bend_Most.f bend_Orders.f
    cases hs : Sp.shape (L S) with
    | false =>
      simp only [Bool.false_eq_true, if_false, Option.bind_some, if_true]
      rw [if_neg (by decide), if_pos (by rfl), alive_at _ (by omega)]; rfl
    | true =>
      obtain ⟨h1, h2, h3⟩ := shape_of hs
      obtain ⟨c, c1, c2, c3, c4⟩ := most_undone (L S) h2
      have hall := cntT_all (L S) h2
      rw [L_length] at h2 hall
      simp only [if_true, Option.bind_some]
      rw [c2]
      obtain ⟨k, rfl⟩ : ∃ m, k = m + S.size + 1 := ⟨k - S.size - 1, by omega⟩
      have ht := turns_loop S h2 l a2 (memI c) (Sp.ways (L S) 0 : Int) 0 k S.size 0 (by omega)
      have hc0 : ((cntT (L S) 0 : Nat) : Int) = 0 := rfl
      rw [hc0] at ht
      refine ht.trans ?_
      obtain ⟨k, rfl⟩ : ∃ m, k = m + 1 := ⟨k - 1, by omega⟩
      have hbool : ((((memI c).length : Int) == ((Sp.mem (Sp.J (L S))).length : Int)) != decide ((Sp.ways (L S) 0 : Int) > 0)) = false := by
        have e1 : (((memI c).length : Int) == ((Sp.mem (Sp.J (L S))).length : Int)) = decide ((Sp.ways (L S) 0 : Int) > 0) := by
          rw [Bool.eq_iff_iff, beq_iff_eq, decide_eq_true_iff]
          constructor
          · intro h; have := c4.1 (by omega); omega
          · intro h; have := c4.2 (by omega); omega
        rw [e1, bne_self_eq_false]
      rw [nl_BendUndone.l0, if_neg (by omega), if_pos rfl, hall, if_neg (by omega), hbool, if_neg (by decide), bends_eq S hs c c1 _ (by omega)]
      simp only [Option.bind_some]
      rw [Nat.add_zero, nl_BendUndone.j2, if_neg (by decide), good_eq S l (by omega) k (by omega), hs, if_pos rfl]
      simp only [Option.bind_some, if_true]
      exact und_j3 S hs l hl a2 ha k (by omega)
end Go.Proofs.YtbdikmcmehbbpaaGreatDoor.Bend
namespace Go.Proofs.YtbdikmcmehbbpaaGreatDoor.Pure
open Go.RowKit Go.Proofs.YtbdikmcmehbbpaaGreatDoor.Bend Go.Proofs.YtbdikmcmehbbpaaGreatDoorW.PrintWords
theorem BendUndone : Bend.nl_BendUndone.Pure := by
  intro a0 l1 a2 _ _ _ _ h2
  refine ⟨200000, ?_⟩
  have h8 : 0 ≤ a2 ∧ a2 ≤ 255 := Go.bounds_u8 h2
  unfold nl_BendUndone.f
  by_cases h : (a0.size : Int) > 100
  · rw [if_pos h]
    exact und_j0 a0 l1 a2 h8 200000 (by omega) true (.inl rfl)
  · rw [if_neg h]
    by_cases h1 : l1.length ≤ 100
    · exact und_j0 a0 l1 a2 h8 200000 (by omega) _ (.inr h1)
    · exact und_j0 a0 l1 a2 h8 200000 (by omega) _ (.inl (decide_eq_true (by omega)))
end Go.Proofs.YtbdikmcmehbbpaaGreatDoor.Pure
namespace Go.Proofs.YtbdikmcmehbbpaaGreatDoor.bendUndone
open Go.ChangeShapes Go.WideShapes Go.ChangeAt Go.RowKit
open Go.ChangeMaps (open_string shut_string)
set_option linter.unusedVariables false
theorem laidOut : laidOutB Tryz.prog = true := by kernel_rfl
def IsRow (k : IntKind) (w : World) (a : Option Addr) (len cap : Nat) (zs : List Int) : Prop :=
  (a = none ∧ len = 0 ∧ cap = 0 ∧ zs = []) ∨
  ∃ x, a = some x ∧ len ≤ cap ∧ cap ≤ maxLen ∧ zs.length = cap ∧ (∀ i, i < zs.length → w.cell? (x.add i) = some (.int k (zs.getD i 0))) ∧ ∀ n ∈ zs, (Lit.int k n).wf = true
set_option maxRecDepth 100000 in
theorem lifted (os : Os) (started : os.Started) (H : Type) (enc : TypeId × Value → H) :
    ReturnsInHanded {} Tryz.checked os 14 .any (fun w args => (Rows.bendUndoneSpec.pre enc Tryz.prog Tryz.f14 Rows.bendUndoneRow.domain false w args ∧ laidMetH Tryz.prog Bend.laid3 w) ∧ sizedMet enc Tryz.prog Tryz.f14 (OpenSpec.ofChange Rows.bendUndoneSpec) false w args)
      (Rows.bendUndoneSpec.post enc Tryz.prog Tryz.f14 false true false false) := by
  refine returnsInHanded_of_change_and (C := Tryz.checked) (X := fun w _ => laidMetH Tryz.prog Bend.laid3 w) (fun _ _ _ hh h => h.of_heap hh) Bend.own started (by kernel_rfl) Tryz.func14
    (ChangeSpec.witness_shaped (enc := enc) (C := Tryz.checked) (os := os) (X := fun w _ => laidMetH Tryz.prog Bend.laid3 w) false (Bend.startW os) #[.string ByteArray.empty, .slice none 0 0, .int .u8 0] 8 (Bend.startW_os os) (World.shaped_of_RefB (by kernel_rfl) (by kernel_rfl)) (by kernel_rfl) (by kernel_rfl) (by kernel_rfl) (Bend.door_met os _)) ?_
  intro W base args ds gs before hval0 hW hcnd hsz0 hL _
  have HL := Bend.of_laid hL
  have hsz : (DataW.weightsEach Tryz.prog (Tryz.f14.params.toList ++ Rows.bendUndoneSpec.plain.varTypes Tryz.prog) (ds ++ gs)).all (· ≤ reachBytes) = true := hsz0
  have hval : ∀ (j : Nat) t v, Tryz.f14.params[j]? = some t → args[j]? = some v → Value.okWide Tryz.prog W .any base t v := hval0
  have hW' := hW
  obtain ⟨p, q, hA0, hV, rfl, hfz, hnd⟩ := hW
  have hA : DataW.TrodAll enc Tryz.prog W 0 (fun _ => true) true Tryz.f14.params.toList args.toList ds p := hA0
  rw [Tryz.params14] at hA hval hsz
  obtain ⟨v0, vs0, d0, ds0, p0, q0, hargs, rfl, rfl, h0, r0⟩ := trodAll_cons hA
  obtain ⟨v1, vs1, d1, ds1, p1, q1, rfl, rfl, rfl, h1, r1⟩ := trodAll_cons r0
  obtain ⟨v2, vs2, d2, ds2, p2, q2, rfl, rfl, rfl, h2, r2⟩ := trodAll_cons r1
  obtain ⟨rfl, rfl, rfl⟩ := trodAll_nil r2
  obtain rfl : args = #[v0, v1, v2] := by cases args; simp_all
  obtain ⟨rfl, rfl⟩ := trodVars_none hV
  obtain ⟨a0, rfl, rfl, rfl, y0⟩ := open_string Tryz.underlying9 (hval 0 9 v0 rfl rfl) h0
  have w0 : a0.size ≤ 140737488351232 := by
    have z := sized_string hsz (j := 0) (t := 9) rfl rfl
    rw [Array.length_toList] at z
    exact z
  obtain ⟨a1, len1, cap1, rfl⟩ := okWide_slice Tryz.underlying23 (hval 1 23 v1 rfl rfl)
  have k1 := h1
  have lt1 : ∀ x ∈ p1, x.block < W.heap.size := by obtain ⟨m, hm⟩ := k1; exact DataW.trod_lt m _ _ _ hm
  obtain ⟨z1, w1⟩ : ∃ zs, IsRow .i64 W a1 len1 cap1 zs := by
    obtain ⟨fuel, hf⟩ := h1
    rcases open_ints Tryz.underlying23 Tryz.underlying3 (by kernel_rfl) hf with ⟨hcs, _⟩ | ⟨x, l, c, zs, hcs, _, hl, hm, hz, _, hcell, hwz⟩
    · simp [Value.cells] at hcs
      obtain ⟨rfl, rfl, rfl⟩ := hcs
      exact ⟨[], .inl ⟨rfl, rfl, rfl, rfl⟩⟩
    · simp [Value.cells] at hcs
      obtain ⟨rfl, rfl, rfl⟩ := hcs
      exact ⟨zs, .inr ⟨_, rfl, hl, hm, by simpa using hz, hcell, hwz⟩⟩
  have y1 : len1 * 8 ≤ 140737488351232 := Go.Proofs.YtbdikmcmehbbpaaGreatDoorW.PrintWords.sized_ints hsz (j := 1) (t := 23) rfl rfl Tryz.underlying23 Tryz.underlying3 (by kernel_rfl) (by kernel_rfl) h1
  obtain ⟨a2, rfl, rfl, rfl, w2⟩ := open_int Tryz.underlying5 (hval 2 5 v2 rfl rfl) h2
  clear hA0 hval0 hsz0 hsz
  refine (Bend.nl_BendUndone.walk Pure.BendUndone a0 a1 len1 cap1 z1 a2 W HL w0 w1 y1 w2).mono fun e W' ⟨he, bel⟩ => ?_
  subst he
  exact ⟨_, rfl, _, _, _, [], _, [], hW', trodAll_mk1 (shut_bool Tryz.underlying4 _), (trodAll_cons_mk (shut_string Tryz.underlying9 y0) (trodAll_cons_mk (Below.trod laidOut (by kernel_rfl) (of_decide_eq_true (by kernel_rfl)) k1 bel lt1) (trodAll_cons_mk (shut_int Tryz.underlying5 w2) trodAll_mk0))), rfl, bel.frame _, fun h => by cases h⟩
theorem said : Rows.BendUndoneSaid :=
  OpenClaim.holds_of_wide 14 Tryz.f14 rfl rfl rfl rfl rfl rfl rfl ⟨rfl, rfl, rfl, rfl, rfl⟩ rfl rfl rfl rfl rfl (by kernel_rfl) Tryz.func14 (by kernel_rfl)
    (of_decide_eq_true (by kernel_rfl)) (by unfold Func.isWrapper; first | (rw [if_pos (by decide +kernel)]; kernel_rfl) | (rw [if_neg (by decide +kernel)]; exact ⟨rfl, rfl⟩))
    (fun os started H enc _ => lifted os started H enc)
theorem plain (f : FuncId) (fn : Func) (hf : Tryz.pinned.checked.prog.funcNamed "neonwright/neonwrightlaw02.BendUndone" = some f) (hfn : Tryz.pinned.checked.prog.funcs[f]? = some fn) :
    true = Tryz.pinned.checked.prog.looks [] ∧ ∀ (j : Nat) t, fn.params[j]? = some t → Tryz.pinned.checked.prog.wantsStandIn t = false := by
  obtain rfl : f = 14 := Option.some.inj ((show Tryz.prog.funcNamed "neonwright/neonwrightlaw02.BendUndone" = some 14 by kernel_rfl).symm.trans hf) |>.symm
  obtain rfl : fn = Tryz.f14 := (Option.some.inj (Tryz.func14.symm.trans hfn)).symm
  refine ⟨by kernel_rfl, fun j t ht => ?_⟩
  rw [Tryz.params14] at ht
  have hm := Array.mem_of_getElem? ht
  simp only [List.mem_toArray, List.mem_cons, List.not_mem_nil, or_false] at hm
  rcases hm with rfl | rfl | rfl
  · exact (show Tryz.prog.wantsStandIn 9 = false by kernel_rfl)
  · exact (show Tryz.prog.wantsStandIn 23 = false by kernel_rfl)
  · exact (show Tryz.prog.wantsStandIn 5 = false by kernel_rfl)
theorem card : Rows.BendUndoneCardSaid :=
  Claim7.holds_tied_plain_at .later [] _ _ _ _ said (fun _ h => by cases h) (by kernel_rfl) (fun _ h => by cases h) bendUndone_row_tie rfl ⟨rfl, rfl⟩ (by kernel_rfl) rfl plain (by kernel_rfl)
#print axioms card
end Go.Proofs.YtbdikmcmehbbpaaGreatDoor.bendUndone
